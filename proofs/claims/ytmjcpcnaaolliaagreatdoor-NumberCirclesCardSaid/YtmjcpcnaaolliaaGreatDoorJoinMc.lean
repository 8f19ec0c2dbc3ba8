/-
  It is proved that NumberCircles returns true for all inputs. Conditions: those of the given row alone (the listed package variables hold what the program's text lays).
-/
import Derived.Test.YtmjcpcnaaolliaaGreatDoorQGenM
import Derived.Test.YtmjcpcnaaolliaaGreatDoorMmPb
import Derived.Test.YtmjcpcnaaolliaaGreatDoorAvPt
import Derived.Test.YtmjcpcnaaolliaaGreatDoorAvAwkM
import Derived.Test.YtmjcpcnaaolliaaGreatDoorCards
import Derived.Test.YtmjcpcnaaolliaaGreatDoorTie
import Derived.Lay
import Derived.LaidMore
import Derived.LaidSub
import Derived.SevenTiedAt
import Derived.Stop.Joined
import Derived.Lib.LaidTab
import Derived.Lib.ItoaNum
noncomputable section
namespace Go.Av
open Go.Proofs Go.Proofs.YtmjcpcnaaolliaaGreatDoor
open Go.ChangeShapes Go.WideShapes Go.ChangeAt Go.RowKit
set_option linter.unusedSectionVars false
set_option maxRecDepth 100000
theorem ud3:Tryz.prog.underlying 3=some (.int .i64):=by kernel_rfl
theorem ud22:Tryz.prog.underlying 22=some (.string):=by kernel_rfl
theorem rd22:y8 Tryz.prog 22 encS:=y8.str ud22
theorem ud24:Tryz.prog.underlying 24=some (.struct #[{name:= "Low",type:=22,offset:=0,embedded:=false,tag:= "",pkgPath:= "",byteOffset:=0},{name:= "High",type:=22,offset:=1,embedded:=false,tag:= "",pkgPath:= "",byteOffset:=16}]):=by kernel_rfl
theorem rd24:y8 Tryz.prog 24 qk4:=qc9.struct (fl:=[{name:= "Low",type:=22,offset:=0,embedded:=false,tag:= "",pkgPath:= "",byteOffset:=0},{name:= "High",type:=22,offset:=1,embedded:=false,tag:= "",pkgPath:= "",byteOffset:=16}]) ud24 rfl (by kernel_rfl) (fun(x0,x1)=>(⟨x0,x1⟩:qC)) (fun _=>rfl) (qc9.cons rfl (by kernel_rfl) rd22 (qc9.last rfl (by kernel_rfl) rd22))
theorem tyB:Tryz.prog.underlying 4=some .bool:=by kernel_rfl
theorem laidOut:laidOutB Tryz.prog=true:=by kernel_rfl
theorem contract (H:Type) (enc:TypeId×Value->H) (W:World) (base:Nat) (args:Array Value) (ds gs:List (DataW H)) (before:List MemPlace)
 (hval: ∀(j:Nat) t v,Tryz.f3.params[j]? =some t->args[j]? =some v->Value.okWide Tryz.prog W .any base t v)
 (hW:DataW.Whole enc Tryz.prog Tryz.f3.params.toList Rows.numberCirclesSpec.vars false W args.toList ds gs before) (hG:Glob.G (AllOf W) W):
 Calls Tryz.prog 3 args W fun e W'=> ∃v,e= .returned v/\Rows.numberCirclesSpec.post enc Tryz.prog Tryz.f3 false true false false W args v W':=by
 have hW':=hW
 obtain⟨p,q,hA0,hV,rfl,hfz,hnd⟩:=hW
 have r0:DataW.TrodAll enc Tryz.prog W 0 (fun _=>true) true Tryz.f3.params.toList args.toList ds p:=hA0
 rw[Tryz.params3]at r0 hval
 obtain⟨v0,vs0,d0,ds0,p0,q0,hargs,rfl,rfl,h0,r1⟩:=trodAll_cons r0
 obtain⟨v1,vs1,d1,ds1,p1,q1,rfl,rfl,rfl,h1,r2⟩:=trodAll_cons r1
 obtain⟨rfl,rfl,rfl⟩:=trodAll_nil r2
 obtain rfl:args=#[v0,v1]:=by cases args;simp_all
 obtain⟨a0,hu0⟩:=In.i64 ud3 (hval 0 3 v0 rfl rfl)
 obtain⟨a1,hu1⟩:=In.struct ud24 rd24 (hval 1 24 v1 rfl rfl) h1
 refine qnf laidOut (fun t ht=>?_) rfl (show Tryz.f3.resultTypes=#[4]from rfl) tyB (fun ds hds=>?_) hW' (enters_of (by kernel_rfl)) (qdP 700000 a0 a1 (qe7 (N:=700000) (by decide) a0 a1)) hG (al:=[.int .i64 a0,.agg [.str a1.Low,.str a1.High]]) ⟨rfl,fun i a v ha hv=>?_⟩
 ·rw[Tryz.params3]at ht
  have ht:t=3\/t=24:=by simpa using ht
  rcases ht with rfl|rfl
  ·exact⟨by kernel_rfl,of_decide_eq_true (by kernel_rfl)⟩
  exact⟨by kernel_rfl,of_decide_eq_true (by kernel_rfl)⟩
 ·rw[Tryz.params3]at hds
  match ds,hds with
  |[d1,d2],_=>exact⟨rfl,rfl,rfl⟩
 match i with
 |0=>simp at ha hv;subst ha hv;exact hu0
 |1=>simp at ha hv;subst ha hv;exact hu1
 |i+2=>simp at ha
theorem qoM {W:World} (h:laidMetH Tryz.prog Rows.numberCirclesRow.laid W):Glob.G (AllOf W) W:=by
 have h1:=h.filter fun x=>x.1==qdG
 have e:(Rows.numberCirclesRow.laid.filter fun x=>x.1==qdG)=[(qdG,Lib.tabData .u64 Lib.pow10Tab)]:=by kernel_rfl
 rw[e]at h1
 have h2:laidMet Tryz.prog [(qdG,Lib.tabData .u64 Lib.pow10Tab)] W:=by
  rw[MakeChecks.laidMetH_plain _ _ _ (by kernel_rfl)]at h1
  exact h1
 have ht:Lib.TabIs Tryz.prog W qdG .u64 Lib.pow10Tab:=
  Lib.tabIs_of_head (rest:=[]) (t:=368) (e:=245) (n:=20) qgk (by kernel_rfl) (by kernel_rfl) (by kernel_rfl) (by kernel_rfl) (by kernel_rfl) h2
 refine⟨?_,ht⟩
 unfold Lib.TabIs World.var? at ht
 rw[qgk]at ht
 simp only[ZB]at ht
 show 5<W.heap.size
 rcases Nat.lt_or_ge 5 W.heap.size with h5|h5
 ·exact h5
 rw[Array.getElem?_eq_none h5]at ht
 cases ht
theorem own:ownKnob Tryz.prog.godebug=none:=by kernel_rfl
theorem lifted (os:Os) (started:os.Started) (H:Type) (enc:TypeId×Value->H):
 ReturnsInHanded {} Tryz.checked os 3 .any (fun w args=>(Rows.numberCirclesSpec.pre enc Tryz.prog Tryz.f3 Rows.numberCirclesRow.domain false w args/\laidMetH Tryz.prog Rows.numberCirclesRow.laid w)/\sizedMet enc Tryz.prog Tryz.f3 (OpenSpec.ofChange Rows.numberCirclesSpec) false w args)
  (Rows.numberCirclesSpec.post enc Tryz.prog Tryz.f3 false true false false):=by
 refine returnsInHanded_of_change_and (C:=Tryz.checked) (X:=fun w _=>laidMetH Tryz.prog Rows.numberCirclesRow.laid w) (fun _ _ _ hh h=>h.of_heap hh) own started (by kernel_rfl) Tryz.func3
  (ChangeSpec.witness_shaped (enc:=enc) (C:=Tryz.checked) (os:=os) (X:=fun w _=>laidMetH Tryz.prog Rows.numberCirclesRow.laid w) false (World.laidAll Tryz.prog os Rows.numberCirclesRow.laid) #[.int .i64 0,.agg #[.string ⟨#[]⟩,.string ⟨#[]⟩]] 8 (World.laidAll_os _ _ _)
   (World.shaped_of_ZipB (by kernel_rfl) (by kernel_rfl)) (by kernel_rfl) (by kernel_rfl) (by kernel_rfl)
   (by rw[MakeChecks.laidMetH_plain _ _ _ (by kernel_rfl)];exact laidMet_laidAll _ (by kernel_rfl) (by kernel_rfl))) ?_
 intro W base args ds gs before hval hW _ _ hL _
 exact contract H enc W base args ds gs before hval hW (qoM hL)
theorem factA:Tryz.pinned.checked.prog.funcNamed Rows.numberCirclesRow.func=some 3:=by kernel_rfl
theorem fact0:(Rows.numberCirclesRow.wf (OpenSpec.ofChange Rows.numberCirclesSpec))=true:=by kernel_rfl
theorem fact1:(laidOutB Tryz.pinned.checked.prog)=true:=by kernel_rfl
theorem fact2:(mapsRowed Tryz.pinned.checked.prog)=true:=by kernel_rfl
theorem fact3:(Tryz.f3.params.all (Tryz.pinned.checked.prog.readableRec ·))=true:=by kernel_rfl
theorem fact4:(namedTie Tryz.pinned.checked.prog Rows.numberCirclesRow.named Rows.numberCirclesSpec.vars)=true:=by kernel_rfl
theorem fact5:((Rows.numberCirclesRow.stops==[]))=true:=by kernel_rfl
theorem fact6:((Tryz.pinned.checked.prog.stops==[]))=true:=by kernel_rfl
theorem fact7:((Rows.numberCirclesRow.knobs==[]))=true:=by kernel_rfl
theorem fact8:((Tryz.pinned.checked.prog.stopKnobs==[]))=true:=by kernel_rfl
theorem fact9:((Rows.numberCirclesRow.inPlace==Tryz.pinned.checked.prog.inPlace 3))=true:=by kernel_rfl
theorem qqW:((Rows.numberCirclesRow.unfollowed==Tryz.pinned.checked.prog.unfollowed 3))=true:=by kernel_rfl
theorem qq6:((Rows.numberCirclesRow.recurses==Tryz.pinned.checked.prog.recurses 3))=true:=by kernel_rfl
theorem qq1:((Rows.numberCirclesRow.named==Tryz.pinned.checked.prog.varsNamed 3))=true:=by kernel_rfl
theorem qq3:((Rows.numberCirclesRow.maps==(Tryz.f3.params.toList++Rows.numberCirclesSpec.plain.varTypes Tryz.pinned.checked.prog).any (Tryz.pinned.checked.prog.mapsRec ·)))=true:=by kernel_rfl
theorem qrf:((Rows.numberCirclesRow.ifaces==(Tryz.f3.params.toList++Rows.numberCirclesSpec.plain.varTypes Tryz.pinned.checked.prog).any (Tryz.pinned.checked.prog.ifacesRec ·)))=true:=by kernel_rfl
theorem qrm:((Rows.numberCirclesRow.mapsOut==Tryz.pinned.checked.prog.mapsAmong Tryz.f3.resultTypes.toList))=true:=by kernel_rfl
theorem qq2:((Rows.numberCirclesRow.loops==(Tryz.f3.params.toList++Rows.numberCirclesSpec.plain.varTypes Tryz.pinned.checked.prog).any (Tryz.pinned.checked.prog.loopsFrom ·)))=true:=by kernel_rfl
theorem qqY:((Rows.numberCirclesRow.wideKeys==(Tryz.f3.params.toList++Rows.numberCirclesSpec.plain.varTypes Tryz.pinned.checked.prog++Tryz.f3.resultTypes.toList).any (Tryz.pinned.checked.prog.wideKeysFrom ·)))=true:=by kernel_rfl
theorem qrg:(Rows.numberCirclesSpec.vars.all (Tryz.pinned.checked.prog.varReadable ·))=true:=by kernel_rfl
theorem qq9:(Tryz.f3.resultTypes.all (fun t=>Tryz.pinned.checked.prog.readableRec t&&decide (t<Tryz.pinned.checked.prog.types.size)))=true:=by kernel_rfl
theorem qq4:((Rows.numberCirclesRow.ifacesOut==Tryz.f3.resultTypes.toList.any (Tryz.pinned.checked.prog.ifacesRec ·)))=true:=by kernel_rfl
theorem qrc:((Rows.numberCirclesRow.loopsOut==Tryz.f3.resultTypes.toList.any (Tryz.pinned.checked.prog.loopsFrom ·)))=true:=by kernel_rfl
theorem qrl:((Rows.numberCirclesRow.plainKeys==Tryz.pinned.checked.prog.plainKeys))=true:=by kernel_rfl
theorem qrj:(Rows.numberCirclesRow.shortTexts.isNone)=true:=by kernel_rfl
theorem qra:(Tryz.pinned.checked.prog.stopsHeard)=true:=by kernel_rfl
theorem qrr:(Tryz.pinned.checked.prog.mayEnter)=true:=by kernel_rfl
theorem qqT:((Rows.numberCirclesRow.lifted==Tryz.pinned.checked.prog.liftsFinal))=true:=by kernel_rfl
theorem qro:((Tryz.pinned.checked.prog.make==some Rows.numberCirclesRow.make))=true:=by kernel_rfl
theorem qrk:((Rows.numberCirclesRow.kinds==(if Rows.numberCirclesRow.domain.isEmpty then[]else Tryz.f3.params.toList.map fun t=>match Tryz.pinned.checked.prog.underlying t with|some (.int k)=>some k|_=>none)))=true:=by kernel_rfl
theorem qrq:((Rows.numberCirclesRow.pinned==Rows.numberCirclesRow.pinnedBy))=true:=by kernel_rfl
theorem qqQ:((Rows.numberCirclesRow.veiled==(Tryz.f3.params.toList++Rows.numberCirclesSpec.plain.varTypes Tryz.pinned.checked.prog++Tryz.f3.resultTypes.toList).any (Tryz.pinned.checked.prog.veiledRec ·)))=true:=by kernel_rfl
theorem qqL:(Rows.numberCirclesRow.veiledFits Tryz.pinned.checked.prog Tryz.f3.params.toList (Tryz.f3.params.toList++Rows.numberCirclesSpec.plain.varTypes Tryz.pinned.checked.prog++Tryz.f3.resultTypes.toList))=true:=by kernel_rfl
theorem factB:joinedFacts Tryz.pinned.checked.prog 3 Tryz.f3 Rows.numberCirclesSpec Rows.numberCirclesRow=true:=by
 unfold joinedFacts
 exact(qaX (qaX (qaX (qaX (qaX (qaX (qaX (qaX (qaX (qaX (qaX (qaX (qaX (qaX (qaX (qaX (qaX (qaX (qaX (qaX (qaX (qaX (qaX (qaX (qaX (qaX (qaX (qaX (qaX (qaX (qaX fact0 fact1) fact2) fact3) fact4) fact5) fact6) fact7) fact8) fact9) qqW) qq6) qq1) qq3) qrf) qrm) qq2) qqY) qrg) qq9) qq4) qrc) qrl) qrj) qra) qrr) qqT) qro) qrk) qrq) qqQ) qqL)
theorem factC:Tryz.f3.isInstance Tryz.pinned.checked.prog Rows.numberCirclesRow.origin Rows.numberCirclesRow.targs:=of_decide_eq_true (by kernel_rfl)
theorem factD:Tryz.f3.isWrapper Tryz.pinned.checked.prog Rows.numberCirclesRow.wrapper Rows.numberCirclesRow.mainSum:=by unfold Func.isWrapper;first|(rw[if_pos (by decide+kernel)];kernel_rfl)|(rw[if_neg (by decide+kernel)];exact⟨rfl,rfl⟩)
theorem said:Rows.NumberCirclesSaid:=
 OpenClaim.holds_of_wide 3 Tryz.f3 rfl rfl rfl rfl rfl rfl rfl ⟨rfl,rfl,rfl,rfl,rfl⟩ rfl rfl rfl rfl rfl factA Tryz.func3 factB factC factD
  (fun os started H enc _=>lifted os started H enc)
theorem qri:Tryz.pinned.checked.prog.wantsStandIn 3=false:=by kernel_rfl
theorem qqp:Tryz.pinned.checked.prog.wantsStandIn 24=false:=by kernel_rfl
theorem qrp:true=Tryz.pinned.checked.prog.looks []:=by kernel_rfl
theorem plain (f:FuncId) (fn:Func) (hf:Tryz.pinned.checked.prog.funcNamed "becket/becketlaw01.NumberCircles" =some f) (hfn:Tryz.pinned.checked.prog.funcs[f]? =some fn):
 true=Tryz.pinned.checked.prog.looks []/\ ∀(j:Nat) t,fn.params[j]? =some t->Tryz.pinned.checked.prog.wantsStandIn t=false:=by
 obtain rfl:f=3:=Ye ((show Tryz.prog.funcNamed "becket/becketlaw01.NumberCircles" =some 3 by kernel_rfl).symm.trans hf)|>.symm
 obtain rfl:fn=Tryz.f3:=(Ye (Tryz.func3.symm.trans hfn)).symm
 refine⟨qrp,fun j t ht=>?_⟩
 rw[Tryz.params3]at ht
 have ht:t=3\/t=24:=by have:=Array.mem_of_getElem? ht;simpa using this
 rcases ht with rfl|rfl
 ·exact qri
 exact qqp
theorem card:Rows.NumberCirclesCardSaid:=
 Claim7.holds_tied_plain_at .later [] _ _ _ _ said (fun _ h=>by cases h) (by kernel_rfl) (fun _ h=>by cases h) numberCircles_row_tie rfl ⟨rfl,rfl⟩ (by kernel_rfl) rfl plain (by kernel_rfl)
end Go.Av
namespace Go.Proofs.YtmjcpcnaaolliaaGreatDoor
theorem numberCircles_holds:Rows.NumberCirclesCardSaid:=Go.Av.card
end Go.Proofs.YtmjcpcnaaolliaaGreatDoor
