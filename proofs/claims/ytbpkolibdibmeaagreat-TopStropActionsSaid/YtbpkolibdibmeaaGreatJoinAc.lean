/-
  It is proved that TopStropActions returns true for all inputs. Conditions: those of the given row alone.
-/
import Derived.Test.YtbpkolibdibmeaaGreatQGenAc
import Derived.Test.YtbpkolibdibmeaaGreatMgPc
import Derived.Test.YtbpkolibdibmeaaGreatAvPt
import Derived.Test.YtbpkolibdibmeaaGreatAvAwkA1
import Derived.Test.YtbpkolibdibmeaaGreatRows
import Derived.Lay
import Derived.LaidMore
import Derived.LaidSub
import Derived.SevenTiedAt
import Derived.Stop.Joined
import Derived.Lib.LaidTab
import Derived.Lib.ItoaNum
noncomputable section
namespace Go.Av
open Go.Proofs Go.Proofs.YtbpkolibdibmeaaGreat
open Go.ChangeShapes Go.WideShapes Go.ChangeAt Go.RowKit
set_option linter.unusedSectionVars false
set_option maxRecDepth 100000
theorem ud3:Tryz.prog.underlying 3=some (.int .i64):=by kernel_rfl
theorem ud22:Tryz.prog.underlying 22=some (.slice 3):=by kernel_rfl
theorem rd3:qeC Tryz.prog 3 encI:=qeC.i64 ud3
theorem tyB:Tryz.prog.underlying 4=some .bool:=by kernel_rfl
theorem laidOut:laidOutB Tryz.prog=true:=by kernel_rfl
theorem contract (H:Type) (enc:TypeId×Value->H) (W:World) (base:Nat) (args:Array Value) (ds gs:List (DataW H)) (before:List MemPlace)
 (hval: ∀(j:Nat) t v,Tryz.f3.params[j]? =some t->args[j]? =some v->Value.okWide Tryz.prog W .any base t v)
 (hW:DataW.Whole enc Tryz.prog Tryz.f3.params.toList Rows.topStropActionsSpec.vars false W args.toList ds gs before) (hG:Glob.G (AllOf W) W):
 Calls Tryz.prog 3 args W fun e W'=> ∃v,e= .returned v/\Rows.topStropActionsSpec.post enc Tryz.prog Tryz.f3 false true false false W args v W':=by
 have hW':=hW;obtain⟨p,q,hA0,hV,rfl,hfz,hnd⟩:=hW;have r0:DataW.TrodAll enc Tryz.prog W 0 (fun _=>true) true Tryz.f3.params.toList args.toList ds p:=hA0;rw[Tryz.params3]at r0 hval;obtain⟨v0,vs0,d0,ds0,p0,q0,hargs,rfl,rfl,h0,r1⟩:=trodAll_cons r0;obtain⟨v1,vs1,d1,ds1,p1,q1,rfl,rfl,rfl,h1,r2⟩:=trodAll_cons r1;obtain⟨v2,vs2,d2,ds2,p2,q2,rfl,rfl,rfl,h2,r3⟩:=trodAll_cons r2;obtain⟨rfl,rfl,rfl⟩:=trodAll_nil r3
 obtain rfl:args=#[v0,v1,v2]:=by cases args;simp_all
 obtain⟨a0,hu0⟩:=In.i64 ud3 (hval 0 3 v0 rfl rfl);obtain⟨a1,hu1⟩:=In.list ud22 (by kernel_rfl) rd3 (hval 1 22 v1 rfl rfl) h1;obtain⟨a2,hu2⟩:=In.list ud22 (by kernel_rfl) rd3 (hval 2 22 v2 rfl rfl) h2;refine qpO laidOut (fun t ht=>?_) rfl (show Tryz.f3.resultTypes=#[4]from rfl) tyB (fun ds hds=>?_) hW' (enters_of (by kernel_rfl)) (qcD 2000000200 a0 a1 a2 (qeR (N:=2000000200) (by decide) a0 a1 a2)) hG (al:=[.int .i64 a0,vl encI a1,vl encI a2]) ⟨rfl,fun i a v ha hv=>?_⟩
 ·rw[Tryz.params3]at ht
  have ht:t=3\/t=22\/t=22:=by simpa using ht
  rcases ht with rfl|rfl|rfl
  ·exact⟨by kernel_rfl,of_decide_eq_true (by kernel_rfl)⟩
  ·exact⟨by kernel_rfl,of_decide_eq_true (by kernel_rfl)⟩
  exact⟨by kernel_rfl,of_decide_eq_true (by kernel_rfl)⟩
 ·rw[Tryz.params3]at hds
  match ds,hds with
  |[d1,d2,d3],_=>exact⟨rfl,rfl,rfl⟩
 match i with
 |0=>simp at ha hv;subst ha hv;exact hu0
 |1=>simp at ha hv;subst ha hv;exact hu1
 |2=>simp at ha hv;subst ha hv;exact hu2
 |i+3=>simp at ha
theorem qth {W:World} (_:True):Glob.G (AllOf W) W:=trivial
theorem own:ownKnob Tryz.prog.godebug=none:=by kernel_rfl
theorem lifted (os:Os) (started:os.Started) (H:Type) (enc:TypeId×Value->H):
 ReturnsInHanded {} Tryz.checked os 3 .any (fun w args=>(Rows.topStropActionsSpec.pre enc Tryz.prog Tryz.f3 Rows.topStropActionsRow.domain false w args/\True)/\sizedMet enc Tryz.prog Tryz.f3 (OpenSpec.ofChange Rows.topStropActionsSpec) false w args)
  (Rows.topStropActionsSpec.post enc Tryz.prog Tryz.f3 false true false false):=by
 refine returnsInHanded_of_change_and (C:=Tryz.checked) (X:=fun _ _=>True) (fun _ _ _ _ h=>h) own started (by kernel_rfl) Tryz.func3
  (ChangeSpec.witness_shaped (enc:=enc) (C:=Tryz.checked) (os:=os) (X:=fun _ _=>True) false (World.laidAll Tryz.prog os Rows.topStropActionsRow.laid) #[.int .i64 0,.slice none 0 0,.slice none 0 0] 8 (World.laidAll_os _ _ _)
   (World.shaped_of_ZipB (by kernel_rfl) (by kernel_rfl)) (by kernel_rfl) (by kernel_rfl) (by kernel_rfl)
   trivial) ?_
 intro W base args ds gs before hval hW _ _ hL _;exact contract H enc W base args ds gs before hval hW (qth hL)
theorem factA:Tryz.pinned.checked.prog.funcNamed Rows.topStropActionsRow.func=some 3:=by kernel_rfl
theorem fact0:(Rows.topStropActionsRow.wf (OpenSpec.ofChange Rows.topStropActionsSpec))=true:=by kernel_rfl
theorem fact1:(laidOutB Tryz.pinned.checked.prog)=true:=by kernel_rfl
theorem fact2:(mapsRowed Tryz.pinned.checked.prog)=true:=by kernel_rfl
theorem fact3:(Tryz.f3.params.all (Tryz.pinned.checked.prog.readableRec ·))=true:=by kernel_rfl
theorem fact4:(namedTie Tryz.pinned.checked.prog Rows.topStropActionsRow.named Rows.topStropActionsSpec.vars)=true:=by kernel_rfl
theorem fact5:((Rows.topStropActionsRow.stops==[]))=true:=by kernel_rfl
theorem fact6:((Tryz.pinned.checked.prog.stops==[]))=true:=by kernel_rfl
theorem fact7:((Rows.topStropActionsRow.knobs==[]))=true:=by kernel_rfl
theorem fact8:((Tryz.pinned.checked.prog.stopKnobs==[]))=true:=by kernel_rfl
theorem fact9:((Rows.topStropActionsRow.inPlace==Tryz.pinned.checked.prog.inPlace 3))=true:=by kernel_rfl
theorem qvG:((Rows.topStropActionsRow.unfollowed==Tryz.pinned.checked.prog.unfollowed 3))=true:=by kernel_rfl
theorem qu8:((Rows.topStropActionsRow.recurses==Tryz.pinned.checked.prog.recurses 3))=true:=by kernel_rfl
theorem qu3:((Rows.topStropActionsRow.named==Tryz.pinned.checked.prog.varsNamed 3))=true:=by kernel_rfl
theorem qvi:((Rows.topStropActionsRow.maps==(Tryz.f3.params.toList++Rows.topStropActionsSpec.plain.varTypes Tryz.pinned.checked.prog).any (Tryz.pinned.checked.prog.mapsRec ·)))=true:=by kernel_rfl
theorem qvt:((Rows.topStropActionsRow.ifaces==(Tryz.f3.params.toList++Rows.topStropActionsSpec.plain.varTypes Tryz.pinned.checked.prog).any (Tryz.pinned.checked.prog.ifacesRec ·)))=true:=by kernel_rfl
theorem qv5:((Rows.topStropActionsRow.mapsOut==Tryz.pinned.checked.prog.mapsAmong Tryz.f3.resultTypes.toList))=true:=by kernel_rfl
theorem qv8:((Rows.topStropActionsRow.loops==(Tryz.f3.params.toList++Rows.topStropActionsSpec.plain.varTypes Tryz.pinned.checked.prog).any (Tryz.pinned.checked.prog.loopsFrom ·)))=true:=by kernel_rfl
theorem qvL:((Rows.topStropActionsRow.wideKeys==(Tryz.f3.params.toList++Rows.topStropActionsSpec.plain.varTypes Tryz.pinned.checked.prog++Tryz.f3.resultTypes.toList).any (Tryz.pinned.checked.prog.wideKeysFrom ·)))=true:=by kernel_rfl
theorem qu9:(Rows.topStropActionsSpec.vars.all (Tryz.pinned.checked.prog.varReadable ·))=true:=by kernel_rfl
theorem qvT:(Tryz.f3.resultTypes.all (fun t=>Tryz.pinned.checked.prog.readableRec t&&decide (t<Tryz.pinned.checked.prog.types.size)))=true:=by kernel_rfl
theorem qu1:((Rows.topStropActionsRow.ifacesOut==Tryz.f3.resultTypes.toList.any (Tryz.pinned.checked.prog.ifacesRec ·)))=true:=by kernel_rfl
theorem qvY:((Rows.topStropActionsRow.loopsOut==Tryz.f3.resultTypes.toList.any (Tryz.pinned.checked.prog.loopsFrom ·)))=true:=by kernel_rfl
theorem qvg:((Rows.topStropActionsRow.plainKeys==Tryz.pinned.checked.prog.plainKeys))=true:=by kernel_rfl
theorem qvj:(Rows.topStropActionsRow.shortTexts.isNone)=true:=by kernel_rfl
theorem qv9:(Tryz.pinned.checked.prog.stopsHeard)=true:=by kernel_rfl
theorem qwd:(Tryz.pinned.checked.prog.mayEnter)=true:=by kernel_rfl
theorem qwh:((Rows.topStropActionsRow.lifted==Tryz.pinned.checked.prog.liftsFinal))=true:=by kernel_rfl
theorem qwb:((Tryz.pinned.checked.prog.make==some Rows.topStropActionsRow.make))=true:=by kernel_rfl
theorem qu4:((Rows.topStropActionsRow.kinds==(if Rows.topStropActionsRow.domain.isEmpty then[]else Tryz.f3.params.toList.map fun t=>match Tryz.pinned.checked.prog.underlying t with|some (.int k)=>some k|_=>none)))=true:=by kernel_rfl
theorem qvW:((Rows.topStropActionsRow.pinned==Rows.topStropActionsRow.pinnedBy))=true:=by kernel_rfl
theorem qvr:((Rows.topStropActionsRow.veiled==(Tryz.f3.params.toList++Rows.topStropActionsSpec.plain.varTypes Tryz.pinned.checked.prog++Tryz.f3.resultTypes.toList).any (Tryz.pinned.checked.prog.veiledRec ·)))=true:=by kernel_rfl
theorem quZ:(Rows.topStropActionsRow.veiledFits Tryz.pinned.checked.prog Tryz.f3.params.toList (Tryz.f3.params.toList++Rows.topStropActionsSpec.plain.varTypes Tryz.pinned.checked.prog++Tryz.f3.resultTypes.toList))=true:=by kernel_rfl
theorem factB:joinedFacts Tryz.pinned.checked.prog 3 Tryz.f3 Rows.topStropActionsSpec Rows.topStropActionsRow=true:=by
 unfold joinedFacts;exact(qbG (qbG (qbG (qbG (qbG (qbG (qbG (qbG (qbG (qbG (qbG (qbG (qbG (qbG (qbG (qbG (qbG (qbG (qbG (qbG (qbG (qbG (qbG (qbG (qbG (qbG (qbG (qbG (qbG (qbG (qbG fact0 fact1) fact2) fact3) fact4) fact5) fact6) fact7) fact8) fact9) qvG) qu8) qu3) qvi) qvt) qv5) qv8) qvL) qu9) qvT) qu1) qvY) qvg) qvj) qv9) qwd) qwh) qwb) qu4) qvW) qvr) quZ)
theorem factC:Tryz.f3.isInstance Tryz.pinned.checked.prog Rows.topStropActionsRow.origin Rows.topStropActionsRow.targs:=of_decide_eq_true (by kernel_rfl)
theorem factD:Tryz.f3.isWrapper Tryz.pinned.checked.prog Rows.topStropActionsRow.wrapper Rows.topStropActionsRow.mainSum:=by unfold Func.isWrapper;first|(rw[if_pos (by decide+kernel)];kernel_rfl)|(rw[if_neg (by decide+kernel)];exact⟨rfl,rfl⟩)
theorem said:Rows.TopStropActionsSaid:=
 OpenClaim.holds_of_wide 3 Tryz.f3 rfl rfl rfl rfl rfl rfl rfl ⟨rfl,rfl,rfl,rfl,rfl⟩ rfl rfl rfl rfl rfl factA Tryz.func3 factB factC factD
  (fun os started H enc _=>by
   have h:=lifted os started H enc;simp only[and_true]at h
   exact h)
end Go.Av
namespace Go.Proofs.YtbpkolibdibmeaaGreat
theorem topStropActions_holds:Rows.TopStropActionsSaid:=Go.Av.said
end Go.Proofs.YtbpkolibdibmeaaGreat
