/-
  It is proved that TopThimbleArrivals returns true for all inputs. Conditions: those of the given row alone (the listed package variables hold what the program's text lays).
-/
import Derived.Test.YtphbhegcojmijaaGreatDoorQGenYb
import Derived.Test.YtphbhegcojmijaaGreatDoorPxYc
import Derived.Test.YtphbhegcojmijaaGreatDoorAvInIW
import Derived.Test.YtphbhegcojmijaaGreatDoorAvAwkC
import Derived.Test.YtphbhegcojmijaaGreatDoorCards
import Derived.Test.YtphbhegcojmijaaGreatDoorTie
import Derived.Lay
import Derived.LaidMore
import Derived.LaidSub
import Derived.SevenTiedAt
import Derived.Stop.Joined
import Derived.Lib.LaidTab
import Derived.Lib.ItoaNum
noncomputable section
namespace Go.Av
open Go.Proofs Go.Proofs.YtphbhegcojmijaaGreatDoor
open Go.ChangeShapes Go.WideShapes Go.ChangeAt Go.RowKit
set_option linter.unusedSectionVars false
set_option maxRecDepth 100000
theorem ud54:Tryz.prog.underlying 54=some (.slice 112):=by kernel_rfl
theorem ud9:Tryz.prog.underlying 9=some (.string):=by kernel_rfl
theorem rd9:qb7 Tryz.prog 9 encS:=qb7.str ud9
theorem ud3:Tryz.prog.underlying 3=some (.int .i64):=by kernel_rfl
theorem rd3:qb7 Tryz.prog 3 encI:=qb7.i64 ud3
theorem ud112:Tryz.prog.underlying 112=some (.struct #[{name:= "Desk",type:=9,offset:=0,embedded:=false,tag:= "",pkgPath:= "",byteOffset:=0},{name:= "Number",type:=3,offset:=1,embedded:=false,tag:= "",pkgPath:= "",byteOffset:=16},{name:= "Clock",type:=3,offset:=2,embedded:=false,tag:= "",pkgPath:= "",byteOffset:=24},{name:= "Line",type:=9,offset:=3,embedded:=false,tag:= "",pkgPath:= "",byteOffset:=32}]):=by kernel_rfl
theorem rd112:qb7 Tryz.prog 112 qa:=qgg.struct (fl:=[{name:= "Desk",type:=9,offset:=0,embedded:=false,tag:= "",pkgPath:= "",byteOffset:=0},{name:= "Number",type:=3,offset:=1,embedded:=false,tag:= "",pkgPath:= "",byteOffset:=16},{name:= "Clock",type:=3,offset:=2,embedded:=false,tag:= "",pkgPath:= "",byteOffset:=24},{name:= "Line",type:=9,offset:=3,embedded:=false,tag:= "",pkgPath:= "",byteOffset:=32}]) ud112 rfl (by kernel_rfl) (fun(x0,x1,x2,x3)=>(⟨x0,x1,x2,x3⟩:qf)) (fun _=>rfl) (qgg.cons rfl (by kernel_rfl) rd9 (qgg.cons rfl (by kernel_rfl) rd3 (qgg.cons rfl (by kernel_rfl) rd3 (qgg.last rfl (by kernel_rfl) rd9))))
theorem ud23:Tryz.prog.underlying 23=some (.int .u16):=by kernel_rfl
theorem tyB:Tryz.prog.underlying 4=some .bool:=by kernel_rfl
theorem laidOut:laidOutB Tryz.prog=true:=by kernel_rfl
theorem contract (H:Type) (enc:TypeId×Value→H) (W:World) (base:Nat) (args:Array Value) (ds gs:List (DataW H)) (before:List MemPlace)
 (hval: ∀(j:Nat) t v,Tryz.f4.params[j]? =some t→args[j]? =some v→Value.okWide Tryz.prog W .any base t v)
 (hW:DataW.Whole enc Tryz.prog Tryz.f4.params.toList Rows.topThimbleArrivalsSpec.vars false W args.toList ds gs before)
 (hw:(DataW.weightsEach Tryz.prog (Tryz.f4.params.toList++Rows.topThimbleArrivalsSpec.plain.varTypes Tryz.prog) (ds++gs)).all (· ≤reachBytes)=true) (hG:Glob.G (AllOf W) W):
 Calls Tryz.prog 4 args W fun e W'=> ∃v,e= .returned v∧Rows.topThimbleArrivalsSpec.post enc Tryz.prog Tryz.f4 false true false false W args v W':=by
 have hW':=hW
 obtain⟨p,q,hA0,hV,rfl,hfz,hnd⟩:=hW
 have r0:DataW.TrodAll enc Tryz.prog W 0 (fun _=>true) true Tryz.f4.params.toList args.toList ds p:=hA0
 rw[Tryz.params4]at r0 hval hw
 obtain⟨v0,vs0,d0,ds0,p0,q0,hargs,rfl,rfl,h0,r1⟩:=trodAll_cons r0
 obtain⟨v1,vs1,d1,ds1,p1,q1,rfl,rfl,rfl,h1,r2⟩:=trodAll_cons r1
 obtain⟨rfl,rfl,rfl⟩:=trodAll_nil r2
 obtain⟨hw0,hw⟩:=qrZ (t:=54) (d:=d0) hw
 obtain⟨hw1,hw⟩:=qrZ (t:=23) (d:=d1) hw
 obtain rfl:args=#[v0,v1]:=by cases args;simp_all
 obtain⟨a0,hu0,hb0⟩:=In.listW ud54 (by kernel_rfl) rd112 (hval 0 54 v0 rfl rfl) h0 hw0
 rw[show Tryz.prog.bytesOf 112=48 by kernel_rfl]at hb0
 obtain⟨a1,hu1⟩:=In.rng ud23 (hval 1 23 v1 rfl rfl) h1
 obtain⟨hr1,hu1⟩:=hu1
 refine qt9 laidOut (fun t ht=>?_) rfl (show Tryz.f4.resultTypes=#[4]from rfl) tyB (fun ds hds=>?_) hW' (enters_of (by kernel_rfl)) (qfb (5000+a0.length) a0 a1 (qhz a0 a1 hb0 hr1)) hG (al:=[vl qa a0,.int .u16 a1]) ⟨rfl,fun i a v ha hv=>?_⟩
 ·rw[Tryz.params4]at ht
  have ht:t=54∨t=23:=by simpa using ht
  rcases ht with rfl|rfl
  ·exact⟨by kernel_rfl,of_decide_eq_true (by kernel_rfl)⟩
  ·exact⟨by kernel_rfl,of_decide_eq_true (by kernel_rfl)⟩
 ·rw[Tryz.params4]at hds
  match ds,hds with
  |[d1,d2],_=>exact⟨rfl,rfl,rfl⟩
 ·match i with
  |0=>simp at ha hv;subst ha hv;exact hu0
  |1=>simp at ha hv;subst ha hv;exact hu1
  |i+2=>simp at ha
theorem qvc {W:World} (h:laidMetH Tryz.prog Rows.topThimbleArrivalsRow.laid W):Glob.G (AllOf W) W:=by
 have h1:=h.filter fun x=>x.1==qiu
 have e:(Rows.topThimbleArrivalsRow.laid.filter fun x=>x.1==qiu)=[(qiu,Lib.tabData .u64 Lib.pow10Tab)]:=by kernel_rfl
 rw[e]at h1
 have h2:laidMet Tryz.prog [(qiu,Lib.tabData .u64 Lib.pow10Tab)] W:=by
  rw[MakeChecks.laidMetH_plain _ _ _ (by kernel_rfl)]at h1
  exact h1
 have ht:Lib.TabIs Tryz.prog W qiu .u64 Lib.pow10Tab:=
  Lib.tabIs_of_head (rest:=[]) (t:=323) (e:=216) (n:=20) qmw (by kernel_rfl) (by kernel_rfl) (by kernel_rfl) (by kernel_rfl) (by kernel_rfl) h2
 refine⟨?_,ht⟩
 unfold Lib.TabIs World.var? at ht
 rw[qmw]at ht
 simp only[Option.bind_some]at ht
 show 5<W.heap.size
 rcases Nat.lt_or_ge 5 W.heap.size with h5|h5
 ·exact h5
 ·rw[Array.getElem?_eq_none h5]at ht
  cases ht
theorem own:ownKnob Tryz.prog.godebug=none:=by kernel_rfl
theorem lifted (os:Os) (started:os.Started) (H:Type) (enc:TypeId×Value→H):
 ReturnsInHanded {} Tryz.checked os 4 .any (fun w args=>(Rows.topThimbleArrivalsSpec.pre enc Tryz.prog Tryz.f4 Rows.topThimbleArrivalsRow.domain false w args∧laidMetH Tryz.prog Rows.topThimbleArrivalsRow.laid w)∧sizedMet enc Tryz.prog Tryz.f4 (OpenSpec.ofChange Rows.topThimbleArrivalsSpec) false w args)
  (Rows.topThimbleArrivalsSpec.post enc Tryz.prog Tryz.f4 false true false false):=by
 refine returnsInHanded_of_change_and (C:=Tryz.checked) (X:=fun w _=>laidMetH Tryz.prog Rows.topThimbleArrivalsRow.laid w) (fun _ _ _ hh h=>h.of_heap hh) own started (by kernel_rfl) Tryz.func4
  (ChangeSpec.witness_shaped (enc:=enc) (C:=Tryz.checked) (os:=os) (X:=fun w _=>laidMetH Tryz.prog Rows.topThimbleArrivalsRow.laid w) false (World.laidAll Tryz.prog os Rows.topThimbleArrivalsRow.laid) #[.slice none 0 0,.int .u16 0] 8 (World.laidAll_os _ _ _)
   (World.shaped_of_ZipB (by kernel_rfl) (by kernel_rfl)) (by kernel_rfl) (by kernel_rfl) (by kernel_rfl)
   (by rw[MakeChecks.laidMetH_plain _ _ _ (by kernel_rfl)];exact laidMet_laidAll _ (by kernel_rfl) (by kernel_rfl))) ?_
 intro W base args ds gs before hval hW _ hw hL _
 exact contract H enc W base args ds gs before hval hW hw (qvc hL)
theorem factA:Tryz.pinned.checked.prog.funcNamed Rows.topThimbleArrivalsRow.func=some 4:=by kernel_rfl
theorem fact0:(Rows.topThimbleArrivalsRow.wf (OpenSpec.ofChange Rows.topThimbleArrivalsSpec))=true:=by kernel_rfl
theorem fact1:(laidOutB Tryz.pinned.checked.prog)=true:=by kernel_rfl
theorem fact2:(mapsRowed Tryz.pinned.checked.prog)=true:=by kernel_rfl
theorem fact3:(Tryz.f4.params.all (Tryz.pinned.checked.prog.readableRec ·))=true:=by kernel_rfl
theorem fact4:(namedTie Tryz.pinned.checked.prog Rows.topThimbleArrivalsRow.named Rows.topThimbleArrivalsSpec.vars)=true:=by kernel_rfl
theorem fact5:((Rows.topThimbleArrivalsRow.stops==[]))=true:=by kernel_rfl
theorem fact6:((Tryz.pinned.checked.prog.stops==[]))=true:=by kernel_rfl
theorem fact7:((Rows.topThimbleArrivalsRow.knobs==[]))=true:=by kernel_rfl
theorem fact8:((Tryz.pinned.checked.prog.stopKnobs==[]))=true:=by kernel_rfl
theorem fact9:((Rows.topThimbleArrivalsRow.inPlace==Tryz.pinned.checked.prog.inPlace 4))=true:=by kernel_rfl
theorem qxk:((Rows.topThimbleArrivalsRow.unfollowed==Tryz.pinned.checked.prog.unfollowed 4))=true:=by kernel_rfl
theorem qxO:((Rows.topThimbleArrivalsRow.recurses==Tryz.pinned.checked.prog.recurses 4))=true:=by kernel_rfl
theorem qxL:((Rows.topThimbleArrivalsRow.named==Tryz.pinned.checked.prog.varsNamed 4))=true:=by kernel_rfl
theorem qxy:((Rows.topThimbleArrivalsRow.maps==(Tryz.f4.params.toList++Rows.topThimbleArrivalsSpec.plain.varTypes Tryz.pinned.checked.prog).any (Tryz.pinned.checked.prog.mapsRec ·)))=true:=by kernel_rfl
theorem qxx:((Rows.topThimbleArrivalsRow.ifaces==(Tryz.f4.params.toList++Rows.topThimbleArrivalsSpec.plain.varTypes Tryz.pinned.checked.prog).any (Tryz.pinned.checked.prog.ifacesRec ·)))=true:=by kernel_rfl
theorem qxn:((Rows.topThimbleArrivalsRow.mapsOut==Tryz.pinned.checked.prog.mapsAmong Tryz.f4.resultTypes.toList))=true:=by kernel_rfl
theorem qxP:((Rows.topThimbleArrivalsRow.loops==(Tryz.f4.params.toList++Rows.topThimbleArrivalsSpec.plain.varTypes Tryz.pinned.checked.prog).any (Tryz.pinned.checked.prog.loopsFrom ·)))=true:=by kernel_rfl
theorem qxW:((Rows.topThimbleArrivalsRow.wideKeys==(Tryz.f4.params.toList++Rows.topThimbleArrivalsSpec.plain.varTypes Tryz.pinned.checked.prog++Tryz.f4.resultTypes.toList).any (Tryz.pinned.checked.prog.wideKeysFrom ·)))=true:=by kernel_rfl
theorem qw8:(Rows.topThimbleArrivalsSpec.vars.all (Tryz.pinned.checked.prog.varReadable ·))=true:=by kernel_rfl
theorem qxj:(Tryz.f4.resultTypes.all (fun t=>Tryz.pinned.checked.prog.readableRec t&&decide (t<Tryz.pinned.checked.prog.types.size)))=true:=by kernel_rfl
theorem qxR:((Rows.topThimbleArrivalsRow.ifacesOut==Tryz.f4.resultTypes.toList.any (Tryz.pinned.checked.prog.ifacesRec ·)))=true:=by kernel_rfl
theorem qxE:((Rows.topThimbleArrivalsRow.loopsOut==Tryz.f4.resultTypes.toList.any (Tryz.pinned.checked.prog.loopsFrom ·)))=true:=by kernel_rfl
theorem qxT:((Rows.topThimbleArrivalsRow.plainKeys==Tryz.pinned.checked.prog.plainKeys))=true:=by kernel_rfl
theorem qxK:(Rows.topThimbleArrivalsRow.shortTexts.isNone)=true:=by kernel_rfl
theorem qxi:(Tryz.pinned.checked.prog.stopsHeard)=true:=by kernel_rfl
theorem qxG:(Tryz.pinned.checked.prog.mayEnter)=true:=by kernel_rfl
theorem qxQ:((Rows.topThimbleArrivalsRow.lifted==Tryz.pinned.checked.prog.liftsFinal))=true:=by kernel_rfl
theorem qxs:((Tryz.pinned.checked.prog.make==some Rows.topThimbleArrivalsRow.make))=true:=by kernel_rfl
theorem qxu:((Rows.topThimbleArrivalsRow.kinds==(if Rows.topThimbleArrivalsRow.domain.isEmpty then[]else Tryz.f4.params.toList.map fun t=>match Tryz.pinned.checked.prog.underlying t with|some (.int k)=>some k|_=>none)))=true:=by kernel_rfl
theorem qxq:((Rows.topThimbleArrivalsRow.pinned==Rows.topThimbleArrivalsRow.pinnedBy))=true:=by kernel_rfl
theorem qxD:((Rows.topThimbleArrivalsRow.veiled==(Tryz.f4.params.toList++Rows.topThimbleArrivalsSpec.plain.varTypes Tryz.pinned.checked.prog++Tryz.f4.resultTypes.toList).any (Tryz.pinned.checked.prog.veiledRec ·)))=true:=by kernel_rfl
theorem qxp:(Rows.topThimbleArrivalsRow.veiledFits Tryz.pinned.checked.prog Tryz.f4.params.toList (Tryz.f4.params.toList++Rows.topThimbleArrivalsSpec.plain.varTypes Tryz.pinned.checked.prog++Tryz.f4.resultTypes.toList))=true:=by kernel_rfl
theorem factB:joinedFacts Tryz.pinned.checked.prog 4 Tryz.f4 Rows.topThimbleArrivalsSpec Rows.topThimbleArrivalsRow=true:=by
 unfold joinedFacts
 exact(qez (qez (qez (qez (qez (qez (qez (qez (qez (qez (qez (qez (qez (qez (qez (qez (qez (qez (qez (qez (qez (qez (qez (qez (qez (qez (qez (qez (qez (qez (qez fact0 fact1) fact2) fact3) fact4) fact5) fact6) fact7) fact8) fact9) qxk) qxO) qxL) qxy) qxx) qxn) qxP) qxW) qw8) qxj) qxR) qxE) qxT) qxK) qxi) qxG) qxQ) qxs) qxu) qxq) qxD) qxp)
theorem factC:Tryz.f4.isInstance Tryz.pinned.checked.prog Rows.topThimbleArrivalsRow.origin Rows.topThimbleArrivalsRow.targs:=of_decide_eq_true (by kernel_rfl)
theorem factD:Tryz.f4.isWrapper Tryz.pinned.checked.prog Rows.topThimbleArrivalsRow.wrapper Rows.topThimbleArrivalsRow.mainSum:=by unfold Func.isWrapper;first|(rw[if_pos (by decide+kernel)];kernel_rfl)|(rw[if_neg (by decide+kernel)];exact⟨rfl,rfl⟩)
theorem said:Rows.TopThimbleArrivalsSaid:=
 OpenClaim.holds_of_wide 4 Tryz.f4 rfl rfl rfl rfl rfl rfl rfl ⟨rfl,rfl,rfl,rfl,rfl⟩ rfl rfl rfl rfl rfl factA Tryz.func4 factB factC factD
  (fun os started H enc _=>lifted os started H enc)
theorem qwo:Tryz.pinned.checked.prog.wantsStandIn 23=false:=by kernel_rfl
theorem qwl:Tryz.pinned.checked.prog.wantsStandIn 54=false:=by kernel_rfl
theorem qxt:true=Tryz.pinned.checked.prog.looks []:=by kernel_rfl
theorem plain (f:FuncId) (fn:Func) (hf:Tryz.pinned.checked.prog.funcNamed "becket/beckettop.TopThimbleArrivals" =some f) (hfn:Tryz.pinned.checked.prog.funcs[f]? =some fn):
 true=Tryz.pinned.checked.prog.looks []∧ ∀(j:Nat) t,fn.params[j]? =some t→Tryz.pinned.checked.prog.wantsStandIn t=false:=by
 obtain rfl:f=4:=Option.some.inj ((show Tryz.prog.funcNamed "becket/beckettop.TopThimbleArrivals" =some 4 by kernel_rfl).symm.trans hf)|>.symm
 obtain rfl:fn=Tryz.f4:=(Option.some.inj (Tryz.func4.symm.trans hfn)).symm
 refine⟨qxt,fun j t ht=>?_⟩
 rw[Tryz.params4]at ht
 have ht:t=54∨t=23:=by have:=Array.mem_of_getElem? ht;simpa using this
 rcases ht with rfl|rfl
 ·exact qwl
 ·exact qwo
theorem card:Rows.TopThimbleArrivalsCardSaid:=
 Claim7.holds_tied_plain_at .later [] _ _ _ _ said (fun _ h=>by cases h) (by kernel_rfl) (fun _ h=>by cases h) topThimbleArrivals_row_tie rfl ⟨rfl,rfl⟩ (by kernel_rfl) rfl plain (by kernel_rfl)
end Go.Av
namespace Go.Proofs.YtphbhegcojmijaaGreatDoor
theorem topThimbleArrivals_holds:Rows.TopThimbleArrivalsCardSaid:=Go.Av.card
end Go.Proofs.YtphbhegcojmijaaGreatDoor
