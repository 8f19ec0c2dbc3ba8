/-
  It is proved that RecordSessions returns true for all inputs. Conditions: those of the given row alone (the listed package variables hold what the program's text lays).
-/
import Derived.Test.YtjflombnfhlkaaaGreatDoorQGenS
import Derived.Test.YtjflombnfhlkaaaGreatDoorPsC
import Derived.Test.YtjflombnfhlkaaaGreatDoorAvIn
import Derived.Test.YtjflombnfhlkaaaGreatDoorAvAwk10
import Derived.Test.YtjflombnfhlkaaaGreatDoorCards
import Derived.Test.YtjflombnfhlkaaaGreatDoorTie
import Derived.Lay
import Derived.LaidMore
import Derived.LaidSub
import Derived.SevenTiedAt
import Derived.Stop.Joined
import Derived.Lib.LaidTab
import Derived.Lib.ItoaNum
noncomputable section
namespace Go.Av
open Go.Proofs Go.Proofs.YtjflombnfhlkaaaGreatDoor
open Go.ChangeShapes Go.WideShapes Go.ChangeAt Go.RowKit
set_option linter.unusedSectionVars false
set_option maxRecDepth 100000
theorem ud9:Tryz.prog.underlying 9=some (.string):=by kernel_rfl
theorem ud23:Tryz.prog.underlying 23=some (.slice 9):=by kernel_rfl
theorem rd9:xU Tryz.prog 9 encS:=xU.str ud9
theorem tyB:Tryz.prog.underlying 4=some .bool:=by kernel_rfl
theorem laidOut:laidOutB Tryz.prog=true:=by kernel_rfl
theorem contract (H:Type) (enc:TypeId×Value→H) (W:World) (base:Nat) (args:Array Value) (ds gs:List (DataW H)) (before:List MemPlace)
 (hval: ∀(j:Nat) t v,Tryz.f9.params[j]? =some t→args[j]? =some v→Value.okWide Tryz.prog W .any base t v)
 (hW:DataW.Whole enc Tryz.prog Tryz.f9.params.toList Rows.recordSessionsSpec.vars false W args.toList ds gs before) (hG:Glob.G (AllOf W) W):
 Calls Tryz.prog 9 args W fun e W'=> ∃v,e= .returned v∧Rows.recordSessionsSpec.post enc Tryz.prog Tryz.f9 false true false false W args v W':=by
 have hW':=hW
 obtain⟨p,q,hA0,hV,rfl,hfz,hnd⟩:=hW
 have r0:DataW.TrodAll enc Tryz.prog W 0 (fun _=>true) true Tryz.f9.params.toList args.toList ds p:=hA0
 rw[Tryz.params9]at r0 hval
 obtain⟨v0,vs0,d0,ds0,p0,q0,hargs,rfl,rfl,h0,r1⟩:=trodAll_cons r0
 obtain⟨v1,vs1,d1,ds1,p1,q1,rfl,rfl,rfl,h1,r2⟩:=trodAll_cons r1
 obtain⟨rfl,rfl,rfl⟩:=trodAll_nil r2
 obtain rfl:args=#[v0,v1]:=by cases args;simp_all
 obtain⟨a0,hu0⟩:=In.str ud9 (hval 0 9 v0 rfl rfl)
 obtain⟨a1,hu1⟩:=In.list ud23 (by kernel_rfl) rd9 (hval 1 23 v1 rfl rfl) h1
 refine qmz laidOut (fun t ht=>?_) rfl (show Tryz.f9.resultTypes=#[4]from rfl) tyB (fun ds hds=>?_) hW' (enters_of (by kernel_rfl)) (qdm 3000 a0 a1 (qeH a0 a1)) hG (al:=[.str a0,vl encS a1]) ⟨rfl,fun i a v ha hv=>?_⟩
 ·rw[Tryz.params9]at ht
  have ht:t=9∨t=23:=by simpa using ht
  rcases ht with rfl|rfl
  ·exact⟨by kernel_rfl,of_decide_eq_true (by kernel_rfl)⟩
  ·exact⟨by kernel_rfl,of_decide_eq_true (by kernel_rfl)⟩
 ·rw[Tryz.params9]at hds
  match ds,hds with
  |[d1,d2],_=>exact⟨rfl,rfl,rfl⟩
 ·match i with
  |0=>simp at ha hv;subst ha hv;exact hu0
  |1=>simp at ha hv;subst ha hv;exact hu1
  |i+2=>simp at ha
theorem qoC {W:World} (h:laidMetH Tryz.prog Rows.recordSessionsRow.laid W):Glob.G (AllOf W) W:=by
 have h1:=h.filter fun x=>x.1==qdI
 have e:(Rows.recordSessionsRow.laid.filter fun x=>x.1==qdI)=[(qdI,Lib.tabData .u64 Lib.pow10Tab)]:=by kernel_rfl
 rw[e]at h1
 have h2:laidMet Tryz.prog [(qdI,Lib.tabData .u64 Lib.pow10Tab)] W:=by
  rw[MakeChecks.laidMetH_plain _ _ _ (by kernel_rfl)]at h1
  exact h1
 have ht:Lib.TabIs Tryz.prog W qdI .u64 Lib.pow10Tab:=
  Lib.tabIs_of_head (rest:=[]) (t:=329) (e:=274) (n:=20) qgu (by kernel_rfl) (by kernel_rfl) (by kernel_rfl) (by kernel_rfl) (by kernel_rfl) h2
 refine⟨?_,ht⟩
 unfold Lib.TabIs World.var? at ht
 rw[qgu]at ht
 simp only[Option.bind_some]at ht
 show 3<W.heap.size
 rcases Nat.lt_or_ge 3 W.heap.size with h5|h5
 ·exact h5
 ·rw[Array.getElem?_eq_none h5]at ht
  cases ht
theorem own:ownKnob Tryz.prog.godebug=none:=by kernel_rfl
theorem lifted (os:Os) (started:os.Started) (H:Type) (enc:TypeId×Value→H):
 ReturnsInHanded {} Tryz.checked os 9 .any (fun w args=>(Rows.recordSessionsSpec.pre enc Tryz.prog Tryz.f9 Rows.recordSessionsRow.domain false w args∧laidMetH Tryz.prog Rows.recordSessionsRow.laid w)∧sizedMet enc Tryz.prog Tryz.f9 (OpenSpec.ofChange Rows.recordSessionsSpec) false w args)
  (Rows.recordSessionsSpec.post enc Tryz.prog Tryz.f9 false true false false):=by
 refine returnsInHanded_of_change_and (C:=Tryz.checked) (X:=fun w _=>laidMetH Tryz.prog Rows.recordSessionsRow.laid w) (fun _ _ _ hh h=>h.of_heap hh) own started (by kernel_rfl) Tryz.func9
  (ChangeSpec.witness_shaped (enc:=enc) (C:=Tryz.checked) (os:=os) (X:=fun w _=>laidMetH Tryz.prog Rows.recordSessionsRow.laid w) false (World.laidAll Tryz.prog os Rows.recordSessionsRow.laid) #[.string ⟨#[]⟩,.slice none 0 0] 8 (World.laidAll_os _ _ _)
   (World.shaped_of_ZipB (by kernel_rfl) (by kernel_rfl)) (by kernel_rfl) (by kernel_rfl) (by kernel_rfl)
   (by rw[MakeChecks.laidMetH_plain _ _ _ (by kernel_rfl)];exact laidMet_laidAll _ (by kernel_rfl) (by kernel_rfl))) ?_
 intro W base args ds gs before hval hW _ _ hL _
 exact contract H enc W base args ds gs before hval hW (qoC hL)
theorem factA:Tryz.pinned.checked.prog.funcNamed Rows.recordSessionsRow.func=some 9:=by kernel_rfl
theorem fact0:(Rows.recordSessionsRow.wf (OpenSpec.ofChange Rows.recordSessionsSpec))=true:=by kernel_rfl
theorem fact1:(laidOutB Tryz.pinned.checked.prog)=true:=by kernel_rfl
theorem fact2:(mapsRowed Tryz.pinned.checked.prog)=true:=by kernel_rfl
theorem fact3:(Tryz.f9.params.all (Tryz.pinned.checked.prog.readableRec ·))=true:=by kernel_rfl
theorem fact4:(namedTie Tryz.pinned.checked.prog Rows.recordSessionsRow.named Rows.recordSessionsSpec.vars)=true:=by kernel_rfl
theorem fact5:((Rows.recordSessionsRow.stops==[]))=true:=by kernel_rfl
theorem fact6:((Tryz.pinned.checked.prog.stops==[]))=true:=by kernel_rfl
theorem fact7:((Rows.recordSessionsRow.knobs==[]))=true:=by kernel_rfl
theorem fact8:((Tryz.pinned.checked.prog.stopKnobs==[]))=true:=by kernel_rfl
theorem fact9:((Rows.recordSessionsRow.inPlace==Tryz.pinned.checked.prog.inPlace 9))=true:=by kernel_rfl
theorem qpM:((Rows.recordSessionsRow.unfollowed==Tryz.pinned.checked.prog.unfollowed 9))=true:=by kernel_rfl
theorem qpX:((Rows.recordSessionsRow.recurses==Tryz.pinned.checked.prog.recurses 9))=true:=by kernel_rfl
theorem qpK:((Rows.recordSessionsRow.named==Tryz.pinned.checked.prog.varsNamed 9))=true:=by kernel_rfl
theorem qpG:((Rows.recordSessionsRow.maps==(Tryz.f9.params.toList++Rows.recordSessionsSpec.plain.varTypes Tryz.pinned.checked.prog).any (Tryz.pinned.checked.prog.mapsRec ·)))=true:=by kernel_rfl
theorem qpR:((Rows.recordSessionsRow.ifaces==(Tryz.f9.params.toList++Rows.recordSessionsSpec.plain.varTypes Tryz.pinned.checked.prog).any (Tryz.pinned.checked.prog.ifacesRec ·)))=true:=by kernel_rfl
theorem qqm:((Rows.recordSessionsRow.mapsOut==Tryz.pinned.checked.prog.mapsAmong Tryz.f9.resultTypes.toList))=true:=by kernel_rfl
theorem qpF:((Rows.recordSessionsRow.loops==(Tryz.f9.params.toList++Rows.recordSessionsSpec.plain.varTypes Tryz.pinned.checked.prog).any (Tryz.pinned.checked.prog.loopsFrom ·)))=true:=by kernel_rfl
theorem qpL:((Rows.recordSessionsRow.wideKeys==(Tryz.f9.params.toList++Rows.recordSessionsSpec.plain.varTypes Tryz.pinned.checked.prog++Tryz.f9.resultTypes.toList).any (Tryz.pinned.checked.prog.wideKeysFrom ·)))=true:=by kernel_rfl
theorem qpN:(Rows.recordSessionsSpec.vars.all (Tryz.pinned.checked.prog.varReadable ·))=true:=by kernel_rfl
theorem qpS:(Tryz.f9.resultTypes.all (fun t=>Tryz.pinned.checked.prog.readableRec t&&decide (t<Tryz.pinned.checked.prog.types.size)))=true:=by kernel_rfl
theorem qqb:((Rows.recordSessionsRow.ifacesOut==Tryz.f9.resultTypes.toList.any (Tryz.pinned.checked.prog.ifacesRec ·)))=true:=by kernel_rfl
theorem qqa:((Rows.recordSessionsRow.loopsOut==Tryz.f9.resultTypes.toList.any (Tryz.pinned.checked.prog.loopsFrom ·)))=true:=by kernel_rfl
theorem qp1:((Rows.recordSessionsRow.plainKeys==Tryz.pinned.checked.prog.plainKeys))=true:=by kernel_rfl
theorem qpQ:(Rows.recordSessionsRow.shortTexts.isNone)=true:=by kernel_rfl
theorem qpP:(Tryz.pinned.checked.prog.stopsHeard)=true:=by kernel_rfl
theorem qqj:(Tryz.pinned.checked.prog.mayEnter)=true:=by kernel_rfl
theorem qp7:((Rows.recordSessionsRow.lifted==Tryz.pinned.checked.prog.liftsFinal))=true:=by kernel_rfl
theorem qp9:((Tryz.pinned.checked.prog.make==some Rows.recordSessionsRow.make))=true:=by kernel_rfl
theorem qp5:((Rows.recordSessionsRow.kinds==(if Rows.recordSessionsRow.domain.isEmpty then[]else Tryz.f9.params.toList.map fun t=>match Tryz.pinned.checked.prog.underlying t with|some (.int k)=>some k|_=>none)))=true:=by kernel_rfl
theorem qqi:((Rows.recordSessionsRow.pinned==Rows.recordSessionsRow.pinnedBy))=true:=by kernel_rfl
theorem qpO:((Rows.recordSessionsRow.veiled==(Tryz.f9.params.toList++Rows.recordSessionsSpec.plain.varTypes Tryz.pinned.checked.prog++Tryz.f9.resultTypes.toList).any (Tryz.pinned.checked.prog.veiledRec ·)))=true:=by kernel_rfl
theorem qqe:(Rows.recordSessionsRow.veiledFits Tryz.pinned.checked.prog Tryz.f9.params.toList (Tryz.f9.params.toList++Rows.recordSessionsSpec.plain.varTypes Tryz.pinned.checked.prog++Tryz.f9.resultTypes.toList))=true:=by kernel_rfl
theorem factB:joinedFacts Tryz.pinned.checked.prog 9 Tryz.f9 Rows.recordSessionsSpec Rows.recordSessionsRow=true:=by
 unfold joinedFacts
 exact(qa2 (qa2 (qa2 (qa2 (qa2 (qa2 (qa2 (qa2 (qa2 (qa2 (qa2 (qa2 (qa2 (qa2 (qa2 (qa2 (qa2 (qa2 (qa2 (qa2 (qa2 (qa2 (qa2 (qa2 (qa2 (qa2 (qa2 (qa2 (qa2 (qa2 (qa2 fact0 fact1) fact2) fact3) fact4) fact5) fact6) fact7) fact8) fact9) qpM) qpX) qpK) qpG) qpR) qqm) qpF) qpL) qpN) qpS) qqb) qqa) qp1) qpQ) qpP) qqj) qp7) qp9) qp5) qqi) qpO) qqe)
theorem factC:Tryz.f9.isInstance Tryz.pinned.checked.prog Rows.recordSessionsRow.origin Rows.recordSessionsRow.targs:=of_decide_eq_true (by kernel_rfl)
theorem factD:Tryz.f9.isWrapper Tryz.pinned.checked.prog Rows.recordSessionsRow.wrapper Rows.recordSessionsRow.mainSum:=by unfold Func.isWrapper;first|(rw[if_pos (by decide+kernel)];kernel_rfl)|(rw[if_neg (by decide+kernel)];exact⟨rfl,rfl⟩)
theorem said:Rows.RecordSessionsSaid:=
 OpenClaim.holds_of_wide 9 Tryz.f9 rfl rfl rfl rfl rfl rfl rfl ⟨rfl,rfl,rfl,rfl,rfl⟩ rfl rfl rfl rfl rfl factA Tryz.func9 factB factC factD
  (fun os started H enc _=>lifted os started H enc)
theorem qpU:Tryz.pinned.checked.prog.wantsStandIn 9=false:=by kernel_rfl
theorem qoP:Tryz.pinned.checked.prog.wantsStandIn 23=false:=by kernel_rfl
theorem qp0:true=Tryz.pinned.checked.prog.looks []:=by kernel_rfl
theorem plain (f:FuncId) (fn:Func) (hf:Tryz.pinned.checked.prog.funcNamed "becket/becketlaw10.RecordSessions" =some f) (hfn:Tryz.pinned.checked.prog.funcs[f]? =some fn):
 true=Tryz.pinned.checked.prog.looks []∧ ∀(j:Nat) t,fn.params[j]? =some t→Tryz.pinned.checked.prog.wantsStandIn t=false:=by
 obtain rfl:f=9:=Option.some.inj ((show Tryz.prog.funcNamed "becket/becketlaw10.RecordSessions" =some 9 by kernel_rfl).symm.trans hf)|>.symm
 obtain rfl:fn=Tryz.f9:=(Option.some.inj (Tryz.func9.symm.trans hfn)).symm
 refine⟨qp0,fun j t ht=>?_⟩
 rw[Tryz.params9]at ht
 have ht:t=9∨t=23:=by have:=Array.mem_of_getElem? ht;simpa using this
 rcases ht with rfl|rfl
 ·exact qpU
 ·exact qoP
theorem card:Rows.RecordSessionsCardSaid:=
 Claim7.holds_tied_plain_at .later [] _ _ _ _ said (fun _ h=>by cases h) (by kernel_rfl) (fun _ h=>by cases h) recordSessions_row_tie rfl ⟨rfl,rfl⟩ (by kernel_rfl) rfl plain (by kernel_rfl)
end Go.Av
namespace Go.Proofs.YtjflombnfhlkaaaGreatDoor
theorem recordSessions_holds:Rows.RecordSessionsCardSaid:=Go.Av.card
end Go.Proofs.YtjflombnfhlkaaaGreatDoor
