/-
  It is proved that NumberNears returns true for all inputs. Conditions: those of the given row alone (the listed package variables hold what the program's text lays).
-/
import Derived.Test.YtbjpmhdicbgjkaaGreatDoorQGenE
import Derived.Test.YtbjpmhdicbgjkaaGreatDoorNuPc
import Derived.Test.YtbjpmhdicbgjkaaGreatDoorAvPt
import Derived.Test.YtbjpmhdicbgjkaaGreatDoorAvAwkE
import Derived.Test.YtbjpmhdicbgjkaaGreatDoorCards
import Derived.Test.YtbjpmhdicbgjkaaGreatDoorTie
import Derived.Lay
import Derived.LaidMore
import Derived.LaidSub
import Derived.SevenTiedAt
import Derived.Stop.Joined
import Derived.Lib.LaidTab
import Derived.Lib.ItoaNum
noncomputable section
namespace Go.Av
open Go.Proofs Go.Proofs.YtbjpmhdicbgjkaaGreatDoor
open Go.ChangeShapes Go.WideShapes Go.ChangeAt Go.RowKit
set_option linter.unusedSectionVars false
set_option maxRecDepth 100000
theorem ud23:Tryz.prog.underlying 23=some (.string):=by kernel_rfl
theorem ud3:Tryz.prog.underlying 3=some (.int .i64):=by kernel_rfl
theorem tyB:Tryz.prog.underlying 4=some .bool:=by kernel_rfl
theorem laidOut:laidOutB Tryz.prog=true:=by kernel_rfl
theorem contract (H:Type) (enc:TypeId×Value->H) (W:World) (base:Nat) (args:Array Value) (ds gs:List (DataW H)) (before:List MemPlace)
 (hval: ∀(j:Nat) t v,Tryz.f5.params[j]? =some t->args[j]? =some v->Value.okWide Tryz.prog W .any base t v)
 (hW:DataW.Whole enc Tryz.prog Tryz.f5.params.toList Rows.numberNearsSpec.vars false W args.toList ds gs before) (hG:Glob.G (AllOf W) W):
 Calls Tryz.prog 5 args W fun e W'=> ∃v,e= .returned v/\Rows.numberNearsSpec.post enc Tryz.prog Tryz.f5 false true false false W args v W':=by
 have hW':=hW
 obtain⟨p,q,hA0,hV,rfl,hfz,hnd⟩:=hW
 have r0:DataW.TrodAll enc Tryz.prog W 0 (fun _=>true) true Tryz.f5.params.toList args.toList ds p:=hA0
 rw[Tryz.params5]at r0 hval
 obtain⟨v0,vs0,d0,ds0,p0,q0,hargs,rfl,rfl,h0,r1⟩:=trodAll_cons r0
 obtain⟨v1,vs1,d1,ds1,p1,q1,rfl,rfl,rfl,h1,r2⟩:=trodAll_cons r1
 obtain⟨rfl,rfl,rfl⟩:=trodAll_nil r2
 obtain rfl:args=#[v0,v1]:=by cases args;simp_all
 obtain⟨a0,hu0⟩:=In.str ud23 (hval 0 23 v0 rfl rfl)
 obtain⟨a1,hu1⟩:=In.i64 ud3 (hval 1 3 v1 rfl rfl)
 refine qmm laidOut (fun t ht=>?_) rfl (show Tryz.f5.resultTypes=#[4]from rfl) tyB (fun ds hds=>?_) hW' (enters_of (by kernel_rfl)) (qdQ 700000 a0 a1 (qe5 (N:=700000) (by decide) a0 a1)) hG (al:=[.str a0,.int .i64 a1]) ⟨rfl,fun i a v ha hv=>?_⟩
 ·rw[Tryz.params5]at ht
  have ht:t=23\/t=3:=by simpa using ht
  rcases ht with rfl|rfl
  ·exact⟨by kernel_rfl,of_decide_eq_true (by kernel_rfl)⟩
  exact⟨by kernel_rfl,of_decide_eq_true (by kernel_rfl)⟩
 ·rw[Tryz.params5]at hds
  match ds,hds with
  |[d1,d2],_=>exact⟨rfl,rfl,rfl⟩
 match i with
 |0=>simp at ha hv;subst ha hv;exact hu0
 |1=>simp at ha hv;subst ha hv;exact hu1
 |i+2=>simp at ha
theorem qnQ {W:World} (h:laidMetH Tryz.prog Rows.numberNearsRow.laid W):Glob.G (AllOf W) W:=by
 have h1:=h.filter fun x=>x.1==qdb
 have e:(Rows.numberNearsRow.laid.filter fun x=>x.1==qdb)=[(qdb,Lib.tabData .u64 Lib.pow10Tab)]:=by kernel_rfl
 rw[e]at h1
 have h2:laidMet Tryz.prog [(qdb,Lib.tabData .u64 Lib.pow10Tab)] W:=by
  rw[MakeChecks.laidMetH_plain _ _ _ (by kernel_rfl)]at h1
  exact h1
 have ht:Lib.TabIs Tryz.prog W qdb .u64 Lib.pow10Tab:=
  Lib.tabIs_of_head (rest:=[]) (t:=286) (e:=212) (n:=20) qfG (by kernel_rfl) (by kernel_rfl) (by kernel_rfl) (by kernel_rfl) (by kernel_rfl) h2
 refine⟨?_,ht⟩
 unfold Lib.TabIs World.var? at ht
 rw[qfG]at ht
 simp only[ZB]at ht
 show 7<W.heap.size
 rcases Nat.lt_or_ge 7 W.heap.size with h5|h5
 ·exact h5
 rw[Array.getElem?_eq_none h5]at ht
 cases ht
theorem own:ownKnob Tryz.prog.godebug=none:=by kernel_rfl
theorem lifted (os:Os) (started:os.Started) (H:Type) (enc:TypeId×Value->H):
 ReturnsInHanded {} Tryz.checked os 5 .any (fun w args=>(Rows.numberNearsSpec.pre enc Tryz.prog Tryz.f5 Rows.numberNearsRow.domain false w args/\laidMetH Tryz.prog Rows.numberNearsRow.laid w)/\sizedMet enc Tryz.prog Tryz.f5 (OpenSpec.ofChange Rows.numberNearsSpec) false w args)
  (Rows.numberNearsSpec.post enc Tryz.prog Tryz.f5 false true false false):=by
 refine returnsInHanded_of_change_and (C:=Tryz.checked) (X:=fun w _=>laidMetH Tryz.prog Rows.numberNearsRow.laid w) (fun _ _ _ hh h=>h.of_heap hh) own started (by kernel_rfl) Tryz.func5
  (ChangeSpec.witness_shaped (enc:=enc) (C:=Tryz.checked) (os:=os) (X:=fun w _=>laidMetH Tryz.prog Rows.numberNearsRow.laid w) false (World.laidAll Tryz.prog os Rows.numberNearsRow.laid) #[.string ⟨#[]⟩,.int .i64 0] 8 (World.laidAll_os _ _ _)
   (World.shaped_of_ZipB (by kernel_rfl) (by kernel_rfl)) (by kernel_rfl) (by kernel_rfl) (by kernel_rfl)
   (by rw[MakeChecks.laidMetH_plain _ _ _ (by kernel_rfl)];exact laidMet_laidAll _ (by kernel_rfl) (by kernel_rfl))) ?_
 intro W base args ds gs before hval hW _ _ hL _
 exact contract H enc W base args ds gs before hval hW (qnQ hL)
theorem factA:Tryz.pinned.checked.prog.funcNamed Rows.numberNearsRow.func=some 5:=by kernel_rfl
theorem fact0:(Rows.numberNearsRow.wf (OpenSpec.ofChange Rows.numberNearsSpec))=true:=by kernel_rfl
theorem fact1:(laidOutB Tryz.pinned.checked.prog)=true:=by kernel_rfl
theorem fact2:(mapsRowed Tryz.pinned.checked.prog)=true:=by kernel_rfl
theorem fact3:(Tryz.f5.params.all (Tryz.pinned.checked.prog.readableRec ·))=true:=by kernel_rfl
theorem fact4:(namedTie Tryz.pinned.checked.prog Rows.numberNearsRow.named Rows.numberNearsSpec.vars)=true:=by kernel_rfl
theorem fact5:((Rows.numberNearsRow.stops==[]))=true:=by kernel_rfl
theorem fact6:((Tryz.pinned.checked.prog.stops==[]))=true:=by kernel_rfl
theorem fact7:((Rows.numberNearsRow.knobs==[]))=true:=by kernel_rfl
theorem fact8:((Tryz.pinned.checked.prog.stopKnobs==[]))=true:=by kernel_rfl
theorem fact9:((Rows.numberNearsRow.inPlace==Tryz.pinned.checked.prog.inPlace 5))=true:=by kernel_rfl
theorem qp7:((Rows.numberNearsRow.unfollowed==Tryz.pinned.checked.prog.unfollowed 5))=true:=by kernel_rfl
theorem qpV:((Rows.numberNearsRow.recurses==Tryz.pinned.checked.prog.recurses 5))=true:=by kernel_rfl
theorem qqg:((Rows.numberNearsRow.named==Tryz.pinned.checked.prog.varsNamed 5))=true:=by kernel_rfl
theorem qp1:((Rows.numberNearsRow.maps==(Tryz.f5.params.toList++Rows.numberNearsSpec.plain.varTypes Tryz.pinned.checked.prog).any (Tryz.pinned.checked.prog.mapsRec ·)))=true:=by kernel_rfl
theorem qqc:((Rows.numberNearsRow.ifaces==(Tryz.f5.params.toList++Rows.numberNearsSpec.plain.varTypes Tryz.pinned.checked.prog).any (Tryz.pinned.checked.prog.ifacesRec ·)))=true:=by kernel_rfl
theorem qqe:((Rows.numberNearsRow.mapsOut==Tryz.pinned.checked.prog.mapsAmong Tryz.f5.resultTypes.toList))=true:=by kernel_rfl
theorem qqh:((Rows.numberNearsRow.loops==(Tryz.f5.params.toList++Rows.numberNearsSpec.plain.varTypes Tryz.pinned.checked.prog).any (Tryz.pinned.checked.prog.loopsFrom ·)))=true:=by kernel_rfl
theorem qp2:((Rows.numberNearsRow.wideKeys==(Tryz.f5.params.toList++Rows.numberNearsSpec.plain.varTypes Tryz.pinned.checked.prog++Tryz.f5.resultTypes.toList).any (Tryz.pinned.checked.prog.wideKeysFrom ·)))=true:=by kernel_rfl
theorem qqd:(Rows.numberNearsSpec.vars.all (Tryz.pinned.checked.prog.varReadable ·))=true:=by kernel_rfl
theorem qqb:(Tryz.f5.resultTypes.all (fun t=>Tryz.pinned.checked.prog.readableRec t&&decide (t<Tryz.pinned.checked.prog.types.size)))=true:=by kernel_rfl
theorem qqs:((Rows.numberNearsRow.ifacesOut==Tryz.f5.resultTypes.toList.any (Tryz.pinned.checked.prog.ifacesRec ·)))=true:=by kernel_rfl
theorem qp6:((Rows.numberNearsRow.loopsOut==Tryz.f5.resultTypes.toList.any (Tryz.pinned.checked.prog.loopsFrom ·)))=true:=by kernel_rfl
theorem qpY:((Rows.numberNearsRow.plainKeys==Tryz.pinned.checked.prog.plainKeys))=true:=by kernel_rfl
theorem qpZ:(Rows.numberNearsRow.shortTexts.isNone)=true:=by kernel_rfl
theorem qp5:(Tryz.pinned.checked.prog.stopsHeard)=true:=by kernel_rfl
theorem qqf:(Tryz.pinned.checked.prog.mayEnter)=true:=by kernel_rfl
theorem qqa:((Rows.numberNearsRow.lifted==Tryz.pinned.checked.prog.liftsFinal))=true:=by kernel_rfl
theorem qp9:((Tryz.pinned.checked.prog.make==some Rows.numberNearsRow.make))=true:=by kernel_rfl
theorem qqm:((Rows.numberNearsRow.kinds==(if Rows.numberNearsRow.domain.isEmpty then[]else Tryz.f5.params.toList.map fun t=>match Tryz.pinned.checked.prog.underlying t with|some (.int k)=>some k|_=>none)))=true:=by kernel_rfl
theorem qpS:((Rows.numberNearsRow.pinned==Rows.numberNearsRow.pinnedBy))=true:=by kernel_rfl
theorem qpU:((Rows.numberNearsRow.veiled==(Tryz.f5.params.toList++Rows.numberNearsSpec.plain.varTypes Tryz.pinned.checked.prog++Tryz.f5.resultTypes.toList).any (Tryz.pinned.checked.prog.veiledRec ·)))=true:=by kernel_rfl
theorem qpT:(Rows.numberNearsRow.veiledFits Tryz.pinned.checked.prog Tryz.f5.params.toList (Tryz.f5.params.toList++Rows.numberNearsSpec.plain.varTypes Tryz.pinned.checked.prog++Tryz.f5.resultTypes.toList))=true:=by kernel_rfl
theorem factB:joinedFacts Tryz.pinned.checked.prog 5 Tryz.f5 Rows.numberNearsSpec Rows.numberNearsRow=true:=by
 unfold joinedFacts
 exact(qaC (qaC (qaC (qaC (qaC (qaC (qaC (qaC (qaC (qaC (qaC (qaC (qaC (qaC (qaC (qaC (qaC (qaC (qaC (qaC (qaC (qaC (qaC (qaC (qaC (qaC (qaC (qaC (qaC (qaC (qaC fact0 fact1) fact2) fact3) fact4) fact5) fact6) fact7) fact8) fact9) qp7) qpV) qqg) qp1) qqc) qqe) qqh) qp2) qqd) qqb) qqs) qp6) qpY) qpZ) qp5) qqf) qqa) qp9) qqm) qpS) qpU) qpT)
theorem factC:Tryz.f5.isInstance Tryz.pinned.checked.prog Rows.numberNearsRow.origin Rows.numberNearsRow.targs:=of_decide_eq_true (by kernel_rfl)
theorem factD:Tryz.f5.isWrapper Tryz.pinned.checked.prog Rows.numberNearsRow.wrapper Rows.numberNearsRow.mainSum:=by unfold Func.isWrapper;first|(rw[if_pos (by decide+kernel)];kernel_rfl)|(rw[if_neg (by decide+kernel)];exact⟨rfl,rfl⟩)
theorem said:Rows.NumberNearsSaid:=
 OpenClaim.holds_of_wide 5 Tryz.f5 rfl rfl rfl rfl rfl rfl rfl ⟨rfl,rfl,rfl,rfl,rfl⟩ rfl rfl rfl rfl rfl factA Tryz.func5 factB factC factD
  (fun os started H enc _=>lifted os started H enc)
theorem qqv:Tryz.pinned.checked.prog.wantsStandIn 3=false:=by kernel_rfl
theorem qoX:Tryz.pinned.checked.prog.wantsStandIn 23=false:=by kernel_rfl
theorem qqx:true=Tryz.pinned.checked.prog.looks []:=by kernel_rfl
theorem plain (f:FuncId) (fn:Func) (hf:Tryz.pinned.checked.prog.funcNamed "becket/becketlaw01.NumberNears" =some f) (hfn:Tryz.pinned.checked.prog.funcs[f]? =some fn):
 true=Tryz.pinned.checked.prog.looks []/\ ∀(j:Nat) t,fn.params[j]? =some t->Tryz.pinned.checked.prog.wantsStandIn t=false:=by
 obtain rfl:f=5:=Ye ((show Tryz.prog.funcNamed "becket/becketlaw01.NumberNears" =some 5 by kernel_rfl).symm.trans hf)|>.symm
 obtain rfl:fn=Tryz.f5:=(Ye (Tryz.func5.symm.trans hfn)).symm
 refine⟨qqx,fun j t ht=>?_⟩
 rw[Tryz.params5]at ht
 have ht:t=23\/t=3:=by have:=Array.mem_of_getElem? ht;simpa using this
 rcases ht with rfl|rfl
 ·exact qoX
 exact qqv
theorem card:Rows.NumberNearsCardSaid:=
 Claim7.holds_tied_plain_at .later [] _ _ _ _ said (fun _ h=>by cases h) (by kernel_rfl) (fun _ h=>by cases h) numberNears_row_tie rfl ⟨rfl,rfl⟩ (by kernel_rfl) rfl plain (by kernel_rfl)
end Go.Av
namespace Go.Proofs.YtbjpmhdicbgjkaaGreatDoor
theorem numberNears_holds:Rows.NumberNearsCardSaid:=Go.Av.card
end Go.Proofs.YtbjpmhdicbgjkaaGreatDoor
