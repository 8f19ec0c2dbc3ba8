/-
  It is proved that TopThimbleStores returns true for all inputs. Conditions: those of the given row alone (the listed package variables hold what the program's text lays).
-/
import Derived.Test.YtcnioemfifogeaaGreatDoorQGenTs
import Derived.Test.YtcnioemfifogeaaGreatDoorOtPa
import Derived.Test.YtcnioemfifogeaaGreatDoorAvPt
import Derived.Test.YtcnioemfifogeaaGreatDoorAvAwkT3
import Derived.Test.YtcnioemfifogeaaGreatDoorCards
import Derived.Test.YtcnioemfifogeaaGreatDoorTie
import Derived.Lay
import Derived.LaidMore
import Derived.LaidSub
import Derived.SevenTiedAt
import Derived.Stop.Joined
import Derived.Lib.LaidTab
import Derived.Lib.ItoaNum
noncomputable section
namespace Go.Av
open Go.Proofs Go.Proofs.YtcnioemfifogeaaGreatDoor
open Go.ChangeShapes Go.WideShapes Go.ChangeAt Go.RowKit
set_option linter.unusedSectionVars false
set_option maxRecDepth 100000
theorem ud22:Tryz.prog.underlying 22=some (.slice 56):=by kernel_rfl
theorem ud9:Tryz.prog.underlying 9=some (.string):=by kernel_rfl
theorem rd9:qkO Tryz.prog 9 encS:=qkO.str ud9
theorem ud3:Tryz.prog.underlying 3=some (.int .i64):=by kernel_rfl
theorem rd3:qkO Tryz.prog 3 encI:=qkO.i64 ud3
theorem ud56:Tryz.prog.underlying 56=some (.struct #[{name:= "Kind",type:=9,offset:=0,embedded:=false,tag:= "",pkgPath:= "",byteOffset:=0},{name:= "Day",type:=3,offset:=1,embedded:=false,tag:= "",pkgPath:= "",byteOffset:=16},{name:= "Lot",type:=9,offset:=2,embedded:=false,tag:= "",pkgPath:= "",byteOffset:=24},{name:= "Amount",type:=3,offset:=3,embedded:=false,tag:= "",pkgPath:= "",byteOffset:=40},{name:= "Yarn",type:=9,offset:=4,embedded:=false,tag:= "",pkgPath:= "",byteOffset:=48},{name:= "Dye",type:=9,offset:=5,embedded:=false,tag:= "",pkgPath:= "",byteOffset:=64},{name:= "Order",type:=9,offset:=6,embedded:=false,tag:= "",pkgPath:= "",byteOffset:=80}]):=by kernel_rfl
theorem rd56:qkO Tryz.prog 56 jT:=qqo.struct (fl:=[{name:= "Kind",type:=9,offset:=0,embedded:=false,tag:= "",pkgPath:= "",byteOffset:=0},{name:= "Day",type:=3,offset:=1,embedded:=false,tag:= "",pkgPath:= "",byteOffset:=16},{name:= "Lot",type:=9,offset:=2,embedded:=false,tag:= "",pkgPath:= "",byteOffset:=24},{name:= "Amount",type:=3,offset:=3,embedded:=false,tag:= "",pkgPath:= "",byteOffset:=40},{name:= "Yarn",type:=9,offset:=4,embedded:=false,tag:= "",pkgPath:= "",byteOffset:=48},{name:= "Dye",type:=9,offset:=5,embedded:=false,tag:= "",pkgPath:= "",byteOffset:=64},{name:= "Order",type:=9,offset:=6,embedded:=false,tag:= "",pkgPath:= "",byteOffset:=80}]) ud56 rfl (by kernel_rfl) (fun(x0,x1,x2,x3,x4,x5,x6)=>(⟨x0,x1,x2,x3,x4,x5,x6⟩:zi)) (fun _=>rfl) (qqo.cons rfl (by kernel_rfl) rd9 (qqo.cons rfl (by kernel_rfl) rd3 (qqo.cons rfl (by kernel_rfl) rd9 (qqo.cons rfl (by kernel_rfl) rd3 (qqo.cons rfl (by kernel_rfl) rd9 (qqo.cons rfl (by kernel_rfl) rd9 (qqo.last rfl (by kernel_rfl) rd9)))))))
theorem tyB:Tryz.prog.underlying 4=some .bool:=by kernel_rfl
theorem laidOut:laidOutB Tryz.prog=true:=by kernel_rfl
theorem contract (H:Type) (enc:TypeId×Value->H) (W:World) (base:Nat) (args:Array Value) (ds gs:List (DataW H)) (before:List MemPlace)
 (hval: ∀(j:Nat) t v,Tryz.f7.params[j]? =some t->args[j]? =some v->Value.okWide Tryz.prog W .any base t v)
 (hW:DataW.Whole enc Tryz.prog Tryz.f7.params.toList Rows.topThimbleStoresSpec.vars false W args.toList ds gs before)
 (hw:(DataW.weightsEach Tryz.prog (Tryz.f7.params.toList++Rows.topThimbleStoresSpec.plain.varTypes Tryz.prog) (ds++gs)).all (· <=reachBytes)=true) (hG:Glob.G (AllOf W) W):
 Calls Tryz.prog 7 args W fun e W'=> ∃v,e= .returned v/\Rows.topThimbleStoresSpec.post enc Tryz.prog Tryz.f7 false true false false W args v W':=by
 have hW':=hW
 obtain⟨p,q,hA0,hV,rfl,hfz,hnd⟩:=hW
 have r0:DataW.TrodAll enc Tryz.prog W 0 (fun _=>true) true Tryz.f7.params.toList args.toList ds p:=hA0
 rw[Tryz.params7]at r0 hval hw
 obtain⟨v0,vs0,d0,ds0,p0,q0,hargs,rfl,rfl,h0,r1⟩:=trodAll_cons r0
 obtain⟨rfl,rfl,rfl⟩:=trodAll_nil r1
 obtain⟨hw0,hw⟩:=qAT (t:=22) (d:=d0) hw
 obtain rfl:args=#[v0]:=by cases args;simp_all
 obtain⟨a0,hu0,hb0⟩:=In.listW ud22 (by kernel_rfl) rd56 (hval 0 22 v0 rfl rfl) h0 hw0
 have hb0:a0.length*96<=140737488355328:=by
  rw[show Tryz.prog.bytesOf 56=96 by kernel_rfl]at hb0
  exact Nat.le_trans hb0 (by decide)
 refine qF8 laidOut (fun t ht=>?_) rfl (show Tryz.f7.resultTypes=#[4]from rfl) tyB (fun ds hds=>?_) hW' (enters_of (by kernel_rfl)) (qsb 700000 a0 (qvu (N:=700000) a0 (by omega) hb0)) hG (al:=[vl jT a0]) ⟨rfl,fun i a v ha hv=>?_⟩
 ·rw[Tryz.params7]at ht
  have ht:t=22:=by simpa using ht
  rcases ht with rfl
  exact⟨by kernel_rfl,of_decide_eq_true (by kernel_rfl)⟩
 ·rw[Tryz.params7]at hds
  match ds,hds with
  |[d1],_=>exact⟨rfl,rfl,rfl⟩
 match i with
 |0=>simp at ha hv;subst ha hv;exact hu0
 |i+1=>simp at ha
theorem qHb {W:World} (h:laidMetH Tryz.prog Rows.topThimbleStoresRow.laid W):Glob.G (AllOf W) W:=by
 have h1:=h.filter fun x=>x.1==qvn
 have e:(Rows.topThimbleStoresRow.laid.filter fun x=>x.1==qvn)=[(qvn,Lib.tabData .u64 Lib.pow10Tab)]:=by kernel_rfl
 rw[e]at h1
 have h2:laidMet Tryz.prog [(qvn,Lib.tabData .u64 Lib.pow10Tab)] W:=by
  rw[MakeChecks.laidMetH_plain _ _ _ (by kernel_rfl)]at h1
  exact h1
 have ht:Lib.TabIs Tryz.prog W qvn .u64 Lib.pow10Tab:=
  Lib.tabIs_of_head (rest:=[]) (t:=325) (e:=246) (n:=20) qzm (by kernel_rfl) (by kernel_rfl) (by kernel_rfl) (by kernel_rfl) (by kernel_rfl) h2
 refine⟨?_,ht⟩
 unfold Lib.TabIs World.var? at ht
 rw[qzm]at ht
 simp only[ZB]at ht
 show 5<W.heap.size
 rcases Nat.lt_or_ge 5 W.heap.size with h5|h5
 ·exact h5
 rw[Array.getElem?_eq_none h5]at ht
 cases ht
theorem own:ownKnob Tryz.prog.godebug=none:=by kernel_rfl
theorem lifted (os:Os) (started:os.Started) (H:Type) (enc:TypeId×Value->H):
 ReturnsInHanded {} Tryz.checked os 7 .any (fun w args=>(Rows.topThimbleStoresSpec.pre enc Tryz.prog Tryz.f7 Rows.topThimbleStoresRow.domain false w args/\laidMetH Tryz.prog Rows.topThimbleStoresRow.laid w)/\sizedMet enc Tryz.prog Tryz.f7 (OpenSpec.ofChange Rows.topThimbleStoresSpec) false w args)
  (Rows.topThimbleStoresSpec.post enc Tryz.prog Tryz.f7 false true false false):=by
 refine returnsInHanded_of_change_and (C:=Tryz.checked) (X:=fun w _=>laidMetH Tryz.prog Rows.topThimbleStoresRow.laid w) (fun _ _ _ hh h=>h.of_heap hh) own started (by kernel_rfl) Tryz.func7
  (ChangeSpec.witness_shaped (enc:=enc) (C:=Tryz.checked) (os:=os) (X:=fun w _=>laidMetH Tryz.prog Rows.topThimbleStoresRow.laid w) false (World.laidAll Tryz.prog os Rows.topThimbleStoresRow.laid) #[.slice none 0 0] 8 (World.laidAll_os _ _ _)
   (World.shaped_of_ZipB (by kernel_rfl) (by kernel_rfl)) (by kernel_rfl) (by kernel_rfl) (by kernel_rfl)
   (by rw[MakeChecks.laidMetH_plain _ _ _ (by kernel_rfl)];exact laidMet_laidAll _ (by kernel_rfl) (by kernel_rfl))) ?_
 intro W base args ds gs before hval hW _ hw hL _
 exact contract H enc W base args ds gs before hval hW hw (qHb hL)
theorem factA:Tryz.pinned.checked.prog.funcNamed Rows.topThimbleStoresRow.func=some 7:=by kernel_rfl
theorem fact0:(Rows.topThimbleStoresRow.wf (OpenSpec.ofChange Rows.topThimbleStoresSpec))=true:=by kernel_rfl
theorem fact1:(laidOutB Tryz.pinned.checked.prog)=true:=by kernel_rfl
theorem fact2:(mapsRowed Tryz.pinned.checked.prog)=true:=by kernel_rfl
theorem fact3:(Tryz.f7.params.all (Tryz.pinned.checked.prog.readableRec ·))=true:=by kernel_rfl
theorem fact4:(namedTie Tryz.pinned.checked.prog Rows.topThimbleStoresRow.named Rows.topThimbleStoresSpec.vars)=true:=by kernel_rfl
theorem fact5:((Rows.topThimbleStoresRow.stops==[]))=true:=by kernel_rfl
theorem fact6:((Tryz.pinned.checked.prog.stops==[]))=true:=by kernel_rfl
theorem fact7:((Rows.topThimbleStoresRow.knobs==[]))=true:=by kernel_rfl
theorem fact8:((Tryz.pinned.checked.prog.stopKnobs==[]))=true:=by kernel_rfl
theorem fact9:((Rows.topThimbleStoresRow.inPlace==Tryz.pinned.checked.prog.inPlace 7))=true:=by kernel_rfl
theorem qJJ:((Rows.topThimbleStoresRow.unfollowed==Tryz.pinned.checked.prog.unfollowed 7))=true:=by kernel_rfl
theorem qJq:((Rows.topThimbleStoresRow.recurses==Tryz.pinned.checked.prog.recurses 7))=true:=by kernel_rfl
theorem qI6:((Rows.topThimbleStoresRow.named==Tryz.pinned.checked.prog.varsNamed 7))=true:=by kernel_rfl
theorem qJI:((Rows.topThimbleStoresRow.maps==(Tryz.f7.params.toList++Rows.topThimbleStoresSpec.plain.varTypes Tryz.pinned.checked.prog).any (Tryz.pinned.checked.prog.mapsRec ·)))=true:=by kernel_rfl
theorem qI7:((Rows.topThimbleStoresRow.ifaces==(Tryz.f7.params.toList++Rows.topThimbleStoresSpec.plain.varTypes Tryz.pinned.checked.prog).any (Tryz.pinned.checked.prog.ifacesRec ·)))=true:=by kernel_rfl
theorem qJB:((Rows.topThimbleStoresRow.mapsOut==Tryz.pinned.checked.prog.mapsAmong Tryz.f7.resultTypes.toList))=true:=by kernel_rfl
theorem qJG:((Rows.topThimbleStoresRow.loops==(Tryz.f7.params.toList++Rows.topThimbleStoresSpec.plain.varTypes Tryz.pinned.checked.prog).any (Tryz.pinned.checked.prog.loopsFrom ·)))=true:=by kernel_rfl
theorem qJh:((Rows.topThimbleStoresRow.wideKeys==(Tryz.f7.params.toList++Rows.topThimbleStoresSpec.plain.varTypes Tryz.pinned.checked.prog++Tryz.f7.resultTypes.toList).any (Tryz.pinned.checked.prog.wideKeysFrom ·)))=true:=by kernel_rfl
theorem qJr:(Rows.topThimbleStoresSpec.vars.all (Tryz.pinned.checked.prog.varReadable ·))=true:=by kernel_rfl
theorem qJf:(Tryz.f7.resultTypes.all (fun t=>Tryz.pinned.checked.prog.readableRec t&&decide (t<Tryz.pinned.checked.prog.types.size)))=true:=by kernel_rfl
theorem qI5:((Rows.topThimbleStoresRow.ifacesOut==Tryz.f7.resultTypes.toList.any (Tryz.pinned.checked.prog.ifacesRec ·)))=true:=by kernel_rfl
theorem qJK:((Rows.topThimbleStoresRow.loopsOut==Tryz.f7.resultTypes.toList.any (Tryz.pinned.checked.prog.loopsFrom ·)))=true:=by kernel_rfl
theorem qJL:((Rows.topThimbleStoresRow.plainKeys==Tryz.pinned.checked.prog.plainKeys))=true:=by kernel_rfl
theorem qJC:(Rows.topThimbleStoresRow.shortTexts.isNone)=true:=by kernel_rfl
theorem qJi:(Tryz.pinned.checked.prog.stopsHeard)=true:=by kernel_rfl
theorem qJN:(Tryz.pinned.checked.prog.mayEnter)=true:=by kernel_rfl
theorem qJw:((Rows.topThimbleStoresRow.lifted==Tryz.pinned.checked.prog.liftsFinal))=true:=by kernel_rfl
theorem qJv:((Tryz.pinned.checked.prog.make==some Rows.topThimbleStoresRow.make))=true:=by kernel_rfl
theorem qJg:((Rows.topThimbleStoresRow.kinds==(if Rows.topThimbleStoresRow.domain.isEmpty then[]else Tryz.f7.params.toList.map fun t=>match Tryz.pinned.checked.prog.underlying t with|some (.int k)=>some k|_=>none)))=true:=by kernel_rfl
theorem qJA:((Rows.topThimbleStoresRow.pinned==Rows.topThimbleStoresRow.pinnedBy))=true:=by kernel_rfl
theorem qJF:((Rows.topThimbleStoresRow.veiled==(Tryz.f7.params.toList++Rows.topThimbleStoresSpec.plain.varTypes Tryz.pinned.checked.prog++Tryz.f7.resultTypes.toList).any (Tryz.pinned.checked.prog.veiledRec ·)))=true:=by kernel_rfl
theorem qJa:(Rows.topThimbleStoresRow.veiledFits Tryz.pinned.checked.prog Tryz.f7.params.toList (Tryz.f7.params.toList++Rows.topThimbleStoresSpec.plain.varTypes Tryz.pinned.checked.prog++Tryz.f7.resultTypes.toList))=true:=by kernel_rfl
theorem factB:joinedFacts Tryz.pinned.checked.prog 7 Tryz.f7 Rows.topThimbleStoresSpec Rows.topThimbleStoresRow=true:=by
 unfold joinedFacts
 exact(qqi (qqi (qqi (qqi (qqi (qqi (qqi (qqi (qqi (qqi (qqi (qqi (qqi (qqi (qqi (qqi (qqi (qqi (qqi (qqi (qqi (qqi (qqi (qqi (qqi (qqi (qqi (qqi (qqi (qqi (qqi fact0 fact1) fact2) fact3) fact4) fact5) fact6) fact7) fact8) fact9) qJJ) qJq) qI6) qJI) qI7) qJB) qJG) qJh) qJr) qJf) qI5) qJK) qJL) qJC) qJi) qJN) qJw) qJv) qJg) qJA) qJF) qJa)
theorem factC:Tryz.f7.isInstance Tryz.pinned.checked.prog Rows.topThimbleStoresRow.origin Rows.topThimbleStoresRow.targs:=of_decide_eq_true (by kernel_rfl)
theorem factD:Tryz.f7.isWrapper Tryz.pinned.checked.prog Rows.topThimbleStoresRow.wrapper Rows.topThimbleStoresRow.mainSum:=by unfold Func.isWrapper;first|(rw[if_pos (by decide+kernel)];kernel_rfl)|(rw[if_neg (by decide+kernel)];exact⟨rfl,rfl⟩)
theorem said:Rows.TopThimbleStoresSaid:=
 OpenClaim.holds_of_wide 7 Tryz.f7 rfl rfl rfl rfl rfl rfl rfl ⟨rfl,rfl,rfl,rfl,rfl⟩ rfl rfl rfl rfl rfl factA Tryz.func7 factB factC factD
  (fun os started H enc _=>lifted os started H enc)
theorem qIe:Tryz.pinned.checked.prog.wantsStandIn 22=false:=by kernel_rfl
theorem qJt:true=Tryz.pinned.checked.prog.looks []:=by kernel_rfl
theorem plain (f:FuncId) (fn:Func) (hf:Tryz.pinned.checked.prog.funcNamed "becket/beckettop.TopThimbleStores" =some f) (hfn:Tryz.pinned.checked.prog.funcs[f]? =some fn):
 true=Tryz.pinned.checked.prog.looks []/\ ∀(j:Nat) t,fn.params[j]? =some t->Tryz.pinned.checked.prog.wantsStandIn t=false:=by
 obtain rfl:f=7:=Ye ((show Tryz.prog.funcNamed "becket/beckettop.TopThimbleStores" =some 7 by kernel_rfl).symm.trans hf)|>.symm
 obtain rfl:fn=Tryz.f7:=(Ye (Tryz.func7.symm.trans hfn)).symm
 refine⟨qJt,fun j t ht=>?_⟩
 rw[Tryz.params7]at ht
 have ht:t=22:=by have:=Array.mem_of_getElem? ht;simpa using this
 rcases ht with rfl
 exact qIe
theorem card:Rows.TopThimbleStoresCardSaid:=
 Claim7.holds_tied_plain_at .later [] _ _ _ _ said (fun _ h=>by cases h) (by kernel_rfl) (fun _ h=>by cases h) topThimbleStores_row_tie rfl ⟨rfl,rfl⟩ (by kernel_rfl) rfl plain (by kernel_rfl)
end Go.Av
namespace Go.Proofs.YtcnioemfifogeaaGreatDoor
theorem topThimbleStores_holds:Rows.TopThimbleStoresCardSaid:=Go.Av.card
end Go.Proofs.YtcnioemfifogeaaGreatDoor
