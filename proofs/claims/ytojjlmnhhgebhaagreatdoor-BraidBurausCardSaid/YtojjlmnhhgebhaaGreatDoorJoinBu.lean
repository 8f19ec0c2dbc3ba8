/-
  It is proved that BraidBuraus returns true for all inputs. Conditions: those of the given row alone (the listed package variables hold what the program's text lays).
-/
import Derived.Test.YtojjlmnhhgebhaaGreatDoorQGenBu
import Derived.Test.YtojjlmnhhgebhaaGreatDoorMbPb
import Derived.Test.YtojjlmnhhgebhaaGreatDoorAvPt
import Derived.Test.YtojjlmnhhgebhaaGreatDoorAvAwkB8
import Derived.Test.YtojjlmnhhgebhaaGreatDoorCards
import Derived.Test.YtojjlmnhhgebhaaGreatDoorTie
import Derived.Lay
import Derived.LaidMore
import Derived.LaidSub
import Derived.SevenTiedAt
import Derived.Stop.Joined
import Derived.Lib.LaidTab
import Derived.Lib.ItoaNum
noncomputable section
namespace Go.Av
open Go.Proofs Go.Proofs.YtojjlmnhhgebhaaGreatDoor
open Go.ChangeShapes Go.WideShapes Go.ChangeAt Go.RowKit
set_option linter.unusedSectionVars false
set_option maxRecDepth 100000
theorem ud3:Tryz.prog.underlying 3=some (.int .i64):=by kernel_rfl
theorem ud22:Tryz.prog.underlying 22=some (.slice 3):=by kernel_rfl
theorem rd3:qdE Tryz.prog 3 encI:=qdE.i64 ud3
theorem ud23:Tryz.prog.underlying 23=some (.string):=by kernel_rfl
theorem tyB:Tryz.prog.underlying 4=some .bool:=by kernel_rfl
theorem laidOut:laidOutB Tryz.prog=true:=by kernel_rfl
theorem contract (H:Type) (enc:TypeId×Value->H) (W:World) (base:Nat) (args:Array Value) (ds gs:List (DataW H)) (before:List MemPlace)
 (hval: ∀(j:Nat) t v,Tryz.f3.params[j]? =some t->args[j]? =some v->Value.okWide Tryz.prog W .any base t v)
 (hW:DataW.Whole enc Tryz.prog Tryz.f3.params.toList Rows.braidBurausSpec.vars false W args.toList ds gs before) (hG:Glob.G (AllOf W) W):
 Calls Tryz.prog 3 args W fun e W'=> ∃v,e= .returned v/\Rows.braidBurausSpec.post enc Tryz.prog Tryz.f3 false true false false W args v W':=by
 have hW':=hW;obtain⟨p,q,hA0,hV,rfl,hfz,hnd⟩:=hW;have r0:DataW.TrodAll enc Tryz.prog W 0 (fun _=>true) true Tryz.f3.params.toList args.toList ds p:=hA0;rw[Tryz.params3]at r0 hval;obtain⟨v0,vs0,d0,ds0,p0,q0,hargs,rfl,rfl,h0,r1⟩:=trodAll_cons r0;obtain⟨v1,vs1,d1,ds1,p1,q1,rfl,rfl,rfl,h1,r2⟩:=trodAll_cons r1;obtain⟨v2,vs2,d2,ds2,p2,q2,rfl,rfl,rfl,h2,r3⟩:=trodAll_cons r2;obtain⟨rfl,rfl,rfl⟩:=trodAll_nil r3
 obtain rfl:args=#[v0,v1,v2]:=by cases args;simp_all
 obtain⟨a0,hu0⟩:=In.i64 ud3 (hval 0 3 v0 rfl rfl);obtain⟨a1,hu1⟩:=In.list ud22 (by kernel_rfl) rd3 (hval 1 22 v1 rfl rfl) h1;obtain⟨a2,hu2⟩:=In.str ud23 (hval 2 23 v2 rfl rfl);refine qmW laidOut (fun t ht=>?_) rfl (show Tryz.f3.resultTypes=#[4]from rfl) tyB (fun ds hds=>?_) hW' (enters_of (by kernel_rfl)) (qeM 700000 a0 a1 a2 (qf5 (N:=700000) (by decide) a0 a1 a2)) hG (al:=[.int .i64 a0,vl encI a1,.str a2]) ⟨rfl,fun i a v ha hv=>?_⟩
 ·rw[Tryz.params3]at ht
  have ht:t=3\/t=22\/t=23:=by simpa using ht
  rcases ht with rfl|rfl|rfl
  ·exact⟨by kernel_rfl,of_decide_eq_true (by kernel_rfl)⟩
  ·exact⟨by kernel_rfl,of_decide_eq_true (by kernel_rfl)⟩
  exact⟨by kernel_rfl,of_decide_eq_true (by kernel_rfl)⟩
 ·rw[Tryz.params3]at hds
  match ds,hds with
  |[d1,d2,d3],_=>exact⟨rfl,rfl,rfl⟩
 match i with
 |0=>simp at ha hv;subst ha hv;exact hu0
 |1=>simp at ha hv;subst ha hv;exact hu1
 |2=>simp at ha hv;subst ha hv;exact hu2
 |i+3=>simp at ha
theorem qpw {W:World} (h:laidMetH Tryz.prog Rows.braidBurausRow.laid W):Glob.G (AllOf W) W:=by
 have h1:=h.filter fun x=>x.1==qdH
 have e:(Rows.braidBurausRow.laid.filter fun x=>x.1==qdH)=[(qdH,Lib.tabData .u64 Lib.pow10Tab)]:=by kernel_rfl
 rw[e]at h1
 have h2:laidMet Tryz.prog [(qdH,Lib.tabData .u64 Lib.pow10Tab)] W:=by
  rw[MakeChecks.laidMetH_plain _ _ _ (by kernel_rfl)]at h1;exact h1
 have ht:Lib.TabIs Tryz.prog W qdH .u64 Lib.pow10Tab:=
  Lib.tabIs_of_head (rest:=[]) (t:=303) (e:=214) (n:=20) qgs (by kernel_rfl) (by kernel_rfl) (by kernel_rfl) (by kernel_rfl) (by kernel_rfl) h2
 refine⟨?_,ht⟩;unfold Lib.TabIs World.var? at ht;rw[qgs]at ht;simp only[ZB]at ht;show 7<W.heap.size;rcases Nat.lt_or_ge 7 W.heap.size with h5|h5
 ·exact h5
 rw[Array.getElem?_eq_none h5]at ht;cases ht
theorem own:ownKnob Tryz.prog.godebug=none:=by kernel_rfl
theorem lifted (os:Os) (started:os.Started) (H:Type) (enc:TypeId×Value->H):
 ReturnsInHanded {} Tryz.checked os 3 .any (fun w args=>(Rows.braidBurausSpec.pre enc Tryz.prog Tryz.f3 Rows.braidBurausRow.domain false w args/\laidMetH Tryz.prog Rows.braidBurausRow.laid w)/\sizedMet enc Tryz.prog Tryz.f3 (OpenSpec.ofChange Rows.braidBurausSpec) false w args)
  (Rows.braidBurausSpec.post enc Tryz.prog Tryz.f3 false true false false):=by
 refine returnsInHanded_of_change_and (C:=Tryz.checked) (X:=fun w _=>laidMetH Tryz.prog Rows.braidBurausRow.laid w) (fun _ _ _ hh h=>h.of_heap hh) own started (by kernel_rfl) Tryz.func3
  (ChangeSpec.witness_shaped (enc:=enc) (C:=Tryz.checked) (os:=os) (X:=fun w _=>laidMetH Tryz.prog Rows.braidBurausRow.laid w) false (World.laidAll Tryz.prog os Rows.braidBurausRow.laid) #[.int .i64 0,.slice none 0 0,.string ⟨#[]⟩] 8 (World.laidAll_os _ _ _)
   (World.shaped_of_ZipB (by kernel_rfl) (by kernel_rfl)) (by kernel_rfl) (by kernel_rfl) (by kernel_rfl)
   (by rw[MakeChecks.laidMetH_plain _ _ _ (by kernel_rfl)];exact laidMet_laidAll _ (by kernel_rfl) (by kernel_rfl))) ?_
 intro W base args ds gs before hval hW _ _ hL _;exact contract H enc W base args ds gs before hval hW (qpw hL)
theorem factA:Tryz.pinned.checked.prog.funcNamed Rows.braidBurausRow.func=some 3:=by kernel_rfl
theorem fact0:(Rows.braidBurausRow.wf (OpenSpec.ofChange Rows.braidBurausSpec))=true:=by kernel_rfl
theorem fact1:(laidOutB Tryz.pinned.checked.prog)=true:=by kernel_rfl
theorem fact2:(mapsRowed Tryz.pinned.checked.prog)=true:=by kernel_rfl
theorem fact3:(Tryz.f3.params.all (Tryz.pinned.checked.prog.readableRec ·))=true:=by kernel_rfl
theorem fact4:(namedTie Tryz.pinned.checked.prog Rows.braidBurausRow.named Rows.braidBurausSpec.vars)=true:=by kernel_rfl
theorem fact5:((Rows.braidBurausRow.stops==[]))=true:=by kernel_rfl
theorem fact6:((Tryz.pinned.checked.prog.stops==[]))=true:=by kernel_rfl
theorem fact7:((Rows.braidBurausRow.knobs==[]))=true:=by kernel_rfl
theorem fact8:((Tryz.pinned.checked.prog.stopKnobs==[]))=true:=by kernel_rfl
theorem fact9:((Rows.braidBurausRow.inPlace==Tryz.pinned.checked.prog.inPlace 3))=true:=by kernel_rfl
theorem qrI:((Rows.braidBurausRow.unfollowed==Tryz.pinned.checked.prog.unfollowed 3))=true:=by kernel_rfl
theorem qq9:((Rows.braidBurausRow.recurses==Tryz.pinned.checked.prog.recurses 3))=true:=by kernel_rfl
theorem qrt:((Rows.braidBurausRow.named==Tryz.pinned.checked.prog.varsNamed 3))=true:=by kernel_rfl
theorem qrT:((Rows.braidBurausRow.maps==(Tryz.f3.params.toList++Rows.braidBurausSpec.plain.varTypes Tryz.pinned.checked.prog).any (Tryz.pinned.checked.prog.mapsRec ·)))=true:=by kernel_rfl
theorem qrR:((Rows.braidBurausRow.ifaces==(Tryz.f3.params.toList++Rows.braidBurausSpec.plain.varTypes Tryz.pinned.checked.prog).any (Tryz.pinned.checked.prog.ifacesRec ·)))=true:=by kernel_rfl
theorem qrs:((Rows.braidBurausRow.mapsOut==Tryz.pinned.checked.prog.mapsAmong Tryz.f3.resultTypes.toList))=true:=by kernel_rfl
theorem qro:((Rows.braidBurausRow.loops==(Tryz.f3.params.toList++Rows.braidBurausSpec.plain.varTypes Tryz.pinned.checked.prog).any (Tryz.pinned.checked.prog.loopsFrom ·)))=true:=by kernel_rfl
theorem qrk:((Rows.braidBurausRow.wideKeys==(Tryz.f3.params.toList++Rows.braidBurausSpec.plain.varTypes Tryz.pinned.checked.prog++Tryz.f3.resultTypes.toList).any (Tryz.pinned.checked.prog.wideKeysFrom ·)))=true:=by kernel_rfl
theorem qrd:(Rows.braidBurausSpec.vars.all (Tryz.pinned.checked.prog.varReadable ·))=true:=by kernel_rfl
theorem qrx:(Tryz.f3.resultTypes.all (fun t=>Tryz.pinned.checked.prog.readableRec t&&decide (t<Tryz.pinned.checked.prog.types.size)))=true:=by kernel_rfl
theorem qrp:((Rows.braidBurausRow.ifacesOut==Tryz.f3.resultTypes.toList.any (Tryz.pinned.checked.prog.ifacesRec ·)))=true:=by kernel_rfl
theorem qre:((Rows.braidBurausRow.loopsOut==Tryz.f3.resultTypes.toList.any (Tryz.pinned.checked.prog.loopsFrom ·)))=true:=by kernel_rfl
theorem qrN:((Rows.braidBurausRow.plainKeys==Tryz.pinned.checked.prog.plainKeys))=true:=by kernel_rfl
theorem qrj:(Rows.braidBurausRow.shortTexts.isNone)=true:=by kernel_rfl
theorem qrB:(Tryz.pinned.checked.prog.stopsHeard)=true:=by kernel_rfl
theorem qru:(Tryz.pinned.checked.prog.mayEnter)=true:=by kernel_rfl
theorem qrU:((Rows.braidBurausRow.lifted==Tryz.pinned.checked.prog.liftsFinal))=true:=by kernel_rfl
theorem qra:((Tryz.pinned.checked.prog.make==some Rows.braidBurausRow.make))=true:=by kernel_rfl
theorem qrq:((Rows.braidBurausRow.kinds==(if Rows.braidBurausRow.domain.isEmpty then[]else Tryz.f3.params.toList.map fun t=>match Tryz.pinned.checked.prog.underlying t with|some (.int k)=>some k|_=>none)))=true:=by kernel_rfl
theorem qrz:((Rows.braidBurausRow.pinned==Rows.braidBurausRow.pinnedBy))=true:=by kernel_rfl
theorem qrC:((Rows.braidBurausRow.veiled==(Tryz.f3.params.toList++Rows.braidBurausSpec.plain.varTypes Tryz.pinned.checked.prog++Tryz.f3.resultTypes.toList).any (Tryz.pinned.checked.prog.veiledRec ·)))=true:=by kernel_rfl
theorem qrn:(Rows.braidBurausRow.veiledFits Tryz.pinned.checked.prog Tryz.f3.params.toList (Tryz.f3.params.toList++Rows.braidBurausSpec.plain.varTypes Tryz.pinned.checked.prog++Tryz.f3.resultTypes.toList))=true:=by kernel_rfl
theorem factB:joinedFacts Tryz.pinned.checked.prog 3 Tryz.f3 Rows.braidBurausSpec Rows.braidBurausRow=true:=by
 unfold joinedFacts;exact(qaT (qaT (qaT (qaT (qaT (qaT (qaT (qaT (qaT (qaT (qaT (qaT (qaT (qaT (qaT (qaT (qaT (qaT (qaT (qaT (qaT (qaT (qaT (qaT (qaT (qaT (qaT (qaT (qaT (qaT (qaT fact0 fact1) fact2) fact3) fact4) fact5) fact6) fact7) fact8) fact9) qrI) qq9) qrt) qrT) qrR) qrs) qro) qrk) qrd) qrx) qrp) qre) qrN) qrj) qrB) qru) qrU) qra) qrq) qrz) qrC) qrn)
theorem factC:Tryz.f3.isInstance Tryz.pinned.checked.prog Rows.braidBurausRow.origin Rows.braidBurausRow.targs:=of_decide_eq_true (by kernel_rfl)
theorem factD:Tryz.f3.isWrapper Tryz.pinned.checked.prog Rows.braidBurausRow.wrapper Rows.braidBurausRow.mainSum:=by unfold Func.isWrapper;first|(rw[if_pos (by decide+kernel)];kernel_rfl)|(rw[if_neg (by decide+kernel)];exact⟨rfl,rfl⟩)
theorem said:Rows.BraidBurausSaid:=
 OpenClaim.holds_of_wide 3 Tryz.f3 rfl rfl rfl rfl rfl rfl rfl ⟨rfl,rfl,rfl,rfl,rfl⟩ rfl rfl rfl rfl rfl factA Tryz.func3 factB factC factD
  (fun os started H enc _=>lifted os started H enc)
theorem qri:Tryz.pinned.checked.prog.wantsStandIn 3=false:=by kernel_rfl
theorem qqO:Tryz.pinned.checked.prog.wantsStandIn 22=false:=by kernel_rfl
theorem qqk:Tryz.pinned.checked.prog.wantsStandIn 23=false:=by kernel_rfl
theorem qrL:true=Tryz.pinned.checked.prog.looks []:=by kernel_rfl
theorem plain (f:FuncId) (fn:Func) (hf:Tryz.pinned.checked.prog.funcNamed "becket/becketlaw05.BraidBuraus" =some f) (hfn:Tryz.pinned.checked.prog.funcs[f]? =some fn):
 true=Tryz.pinned.checked.prog.looks []/\ ∀(j:Nat) t,fn.params[j]? =some t->Tryz.pinned.checked.prog.wantsStandIn t=false:=by
 obtain rfl:f=3:=Ye ((show Tryz.prog.funcNamed "becket/becketlaw05.BraidBuraus" =some 3 by kernel_rfl).symm.trans hf)|>.symm;obtain rfl:fn=Tryz.f3:=(Ye (Tryz.func3.symm.trans hfn)).symm;refine⟨qrL,fun j t ht=>?_⟩;rw[Tryz.params3]at ht
 have ht:t=3\/t=22\/t=23:=by have:=Array.mem_of_getElem? ht;simpa using this
 rcases ht with rfl|rfl|rfl
 ·exact qri
 ·exact qqO
 exact qqk
theorem card:Rows.BraidBurausCardSaid:=
 Claim7.holds_tied_plain_at .later [] _ _ _ _ said (fun _ h=>by cases h) (by kernel_rfl) (fun _ h=>by cases h) braidBuraus_row_tie rfl ⟨rfl,rfl⟩ (by kernel_rfl) rfl plain (by kernel_rfl)
end Go.Av
namespace Go.Proofs.YtojjlmnhhgebhaaGreatDoor
theorem braidBuraus_holds:Rows.BraidBurausCardSaid:=Go.Av.card
end Go.Proofs.YtojjlmnhhgebhaaGreatDoor
