/-
  It is proved that NumberForms returns true for all inputs. Conditions: those of the given row alone (the listed package variables hold what the program's text lays).
-/
import Derived.Test.YtbjpmhdicbgjkaaGreatDoorQGenE
import Derived.Test.YtbjpmhdicbgjkaaGreatDoorNuPc
import Derived.Test.YtbjpmhdicbgjkaaGreatDoorAvPt
import Derived.Test.YtbjpmhdicbgjkaaGreatDoorAvAwkE
import Derived.Test.YtbjpmhdicbgjkaaGreatDoorCards
import Derived.Test.YtbjpmhdicbgjkaaGreatDoorTie
import Derived.Lay
import Derived.LaidMore
import Derived.LaidSub
import Derived.SevenTiedAt
import Derived.Stop.Joined
import Derived.Lib.LaidTab
import Derived.Lib.ItoaNum
noncomputable section
namespace Go.Av
open Go.Proofs Go.Proofs.YtbjpmhdicbgjkaaGreatDoor
open Go.ChangeShapes Go.WideShapes Go.ChangeAt Go.RowKit
set_option linter.unusedSectionVars false
set_option maxRecDepth 100000
theorem ud9:Tryz.prog.underlying 9=some (.string):=by kernel_rfl
theorem ud70:Tryz.prog.underlying 70=some (.array 2 3):=by kernel_rfl
theorem ud3:Tryz.prog.underlying 3=some (.int .i64):=by kernel_rfl
theorem ud23:Tryz.prog.underlying 23=some (.string):=by kernel_rfl
theorem tyB:Tryz.prog.underlying 4=some .bool:=by kernel_rfl
theorem laidOut:laidOutB Tryz.prog=true:=by kernel_rfl
theorem contract (H:Type) (enc:TypeId×Value->H) (W:World) (base:Nat) (args:Array Value) (ds gs:List (DataW H)) (before:List MemPlace)
 (hval: ∀(j:Nat) t v,Tryz.f8.params[j]? =some t->args[j]? =some v->Value.okWide Tryz.prog W .any base t v)
 (hW:DataW.Whole enc Tryz.prog Tryz.f8.params.toList Rows.numberFormsSpec.vars false W args.toList ds gs before) (hG:Glob.G (AllOf W) W):
 Calls Tryz.prog 8 args W fun e W'=> ∃v,e= .returned v/\Rows.numberFormsSpec.post enc Tryz.prog Tryz.f8 false true false false W args v W':=by
 have hW':=hW
 obtain⟨p,q,hA0,hV,rfl,hfz,hnd⟩:=hW
 have r0:DataW.TrodAll enc Tryz.prog W 0 (fun _=>true) true Tryz.f8.params.toList args.toList ds p:=hA0
 rw[Tryz.params8]at r0 hval
 obtain⟨v0,vs0,d0,ds0,p0,q0,hargs,rfl,rfl,h0,r1⟩:=trodAll_cons r0
 obtain⟨v1,vs1,d1,ds1,p1,q1,rfl,rfl,rfl,h1,r2⟩:=trodAll_cons r1
 obtain⟨v2,vs2,d2,ds2,p2,q2,rfl,rfl,rfl,h2,r3⟩:=trodAll_cons r2
 obtain⟨rfl,rfl,rfl⟩:=trodAll_nil r3
 obtain rfl:args=#[v0,v1,v2]:=by cases args;simp_all
 obtain⟨a0,hu0⟩:=In.str ud9 (hval 0 9 v0 rfl rfl)
 obtain⟨a1,hu1⟩:=In.arr2 ud70 ud3 (by kernel_rfl) (by kernel_rfl) (hval 1 70 v1 rfl rfl) h1
 obtain⟨a2,hu2⟩:=In.str ud23 (hval 2 23 v2 rfl rfl)
 refine qkK laidOut (fun t ht=>?_) rfl (show Tryz.f8.resultTypes=#[4]from rfl) tyB (fun ds hds=>?_) hW' (enters_of (by kernel_rfl)) (qcd 700000 a0 a1 a2 (qdJ (N:=700000) (by decide) a0 a1 a2)) hG (al:=[.str a0,.agg [.int .i64 a1.1,.int .i64 a1.2],.str a2]) ⟨rfl,fun i a v ha hv=>?_⟩
 ·rw[Tryz.params8]at ht
  have ht:t=9\/t=70\/t=23:=by simpa using ht
  rcases ht with rfl|rfl|rfl
  ·exact⟨by kernel_rfl,of_decide_eq_true (by kernel_rfl)⟩
  ·exact⟨by kernel_rfl,of_decide_eq_true (by kernel_rfl)⟩
  exact⟨by kernel_rfl,of_decide_eq_true (by kernel_rfl)⟩
 ·rw[Tryz.params8]at hds
  match ds,hds with
  |[d1,d2,d3],_=>exact⟨rfl,rfl,rfl⟩
 match i with
 |0=>simp at ha hv;subst ha hv;exact hu0
 |1=>simp at ha hv;subst ha hv;exact hu1
 |2=>simp at ha hv;subst ha hv;exact hu2
 |i+3=>simp at ha
theorem qln {W:World} (h:laidMetH Tryz.prog Rows.numberFormsRow.laid W):Glob.G (AllOf W) W:=by
 have h1:=h.filter fun x=>x.1==qbZ
 have e:(Rows.numberFormsRow.laid.filter fun x=>x.1==qbZ)=[(qbZ,Lib.tabData .u64 Lib.pow10Tab)]:=by kernel_rfl
 rw[e]at h1
 have h2:laidMet Tryz.prog [(qbZ,Lib.tabData .u64 Lib.pow10Tab)] W:=by
  rw[MakeChecks.laidMetH_plain _ _ _ (by kernel_rfl)]at h1
  exact h1
 have ht:Lib.TabIs Tryz.prog W qbZ .u64 Lib.pow10Tab:=
  Lib.tabIs_of_head (rest:=[]) (t:=286) (e:=212) (n:=20) qd9 (by kernel_rfl) (by kernel_rfl) (by kernel_rfl) (by kernel_rfl) (by kernel_rfl) h2
 refine⟨?_,ht⟩
 unfold Lib.TabIs World.var? at ht
 rw[qd9]at ht
 simp only[ZB]at ht
 show 7<W.heap.size
 rcases Nat.lt_or_ge 7 W.heap.size with h5|h5
 ·exact h5
 rw[Array.getElem?_eq_none h5]at ht
 cases ht
theorem own:ownKnob Tryz.prog.godebug=none:=by kernel_rfl
theorem lifted (os:Os) (started:os.Started) (H:Type) (enc:TypeId×Value->H):
 ReturnsInHanded {} Tryz.checked os 8 .any (fun w args=>(Rows.numberFormsSpec.pre enc Tryz.prog Tryz.f8 Rows.numberFormsRow.domain false w args/\laidMetH Tryz.prog Rows.numberFormsRow.laid w)/\sizedMet enc Tryz.prog Tryz.f8 (OpenSpec.ofChange Rows.numberFormsSpec) false w args)
  (Rows.numberFormsSpec.post enc Tryz.prog Tryz.f8 false true false false):=by
 refine returnsInHanded_of_change_and (C:=Tryz.checked) (X:=fun w _=>laidMetH Tryz.prog Rows.numberFormsRow.laid w) (fun _ _ _ hh h=>h.of_heap hh) own started (by kernel_rfl) Tryz.func8
  (ChangeSpec.witness_shaped (enc:=enc) (C:=Tryz.checked) (os:=os) (X:=fun w _=>laidMetH Tryz.prog Rows.numberFormsRow.laid w) false (World.laidAll Tryz.prog os Rows.numberFormsRow.laid) #[.string ⟨#[]⟩,.agg #[.int .i64 0,.int .i64 0],.string ⟨#[]⟩] 8 (World.laidAll_os _ _ _)
   (World.shaped_of_ZipB (by kernel_rfl) (by kernel_rfl)) (by kernel_rfl) (by kernel_rfl) (by kernel_rfl)
   (by rw[MakeChecks.laidMetH_plain _ _ _ (by kernel_rfl)];exact laidMet_laidAll _ (by kernel_rfl) (by kernel_rfl))) ?_
 intro W base args ds gs before hval hW _ _ hL _
 exact contract H enc W base args ds gs before hval hW (qln hL)
theorem factA:Tryz.pinned.checked.prog.funcNamed Rows.numberFormsRow.func=some 8:=by kernel_rfl
theorem fact0:(Rows.numberFormsRow.wf (OpenSpec.ofChange Rows.numberFormsSpec))=true:=by kernel_rfl
theorem fact1:(laidOutB Tryz.pinned.checked.prog)=true:=by kernel_rfl
theorem fact2:(mapsRowed Tryz.pinned.checked.prog)=true:=by kernel_rfl
theorem fact3:(Tryz.f8.params.all (Tryz.pinned.checked.prog.readableRec ·))=true:=by kernel_rfl
theorem fact4:(namedTie Tryz.pinned.checked.prog Rows.numberFormsRow.named Rows.numberFormsSpec.vars)=true:=by kernel_rfl
theorem fact5:((Rows.numberFormsRow.stops==[]))=true:=by kernel_rfl
theorem fact6:((Tryz.pinned.checked.prog.stops==[]))=true:=by kernel_rfl
theorem fact7:((Rows.numberFormsRow.knobs==[]))=true:=by kernel_rfl
theorem fact8:((Tryz.pinned.checked.prog.stopKnobs==[]))=true:=by kernel_rfl
theorem fact9:((Rows.numberFormsRow.inPlace==Tryz.pinned.checked.prog.inPlace 8))=true:=by kernel_rfl
theorem qod:((Rows.numberFormsRow.unfollowed==Tryz.pinned.checked.prog.unfollowed 8))=true:=by kernel_rfl
theorem qnN:((Rows.numberFormsRow.recurses==Tryz.pinned.checked.prog.recurses 8))=true:=by kernel_rfl
theorem qnW:((Rows.numberFormsRow.named==Tryz.pinned.checked.prog.varsNamed 8))=true:=by kernel_rfl
theorem qn1:((Rows.numberFormsRow.maps==(Tryz.f8.params.toList++Rows.numberFormsSpec.plain.varTypes Tryz.pinned.checked.prog).any (Tryz.pinned.checked.prog.mapsRec ·)))=true:=by kernel_rfl
theorem qnV:((Rows.numberFormsRow.ifaces==(Tryz.f8.params.toList++Rows.numberFormsSpec.plain.varTypes Tryz.pinned.checked.prog).any (Tryz.pinned.checked.prog.ifacesRec ·)))=true:=by kernel_rfl
theorem qn9:((Rows.numberFormsRow.mapsOut==Tryz.pinned.checked.prog.mapsAmong Tryz.f8.resultTypes.toList))=true:=by kernel_rfl
theorem qnR:((Rows.numberFormsRow.loops==(Tryz.f8.params.toList++Rows.numberFormsSpec.plain.varTypes Tryz.pinned.checked.prog).any (Tryz.pinned.checked.prog.loopsFrom ·)))=true:=by kernel_rfl
theorem qnP:((Rows.numberFormsRow.wideKeys==(Tryz.f8.params.toList++Rows.numberFormsSpec.plain.varTypes Tryz.pinned.checked.prog++Tryz.f8.resultTypes.toList).any (Tryz.pinned.checked.prog.wideKeysFrom ·)))=true:=by kernel_rfl
theorem qn0:(Rows.numberFormsSpec.vars.all (Tryz.pinned.checked.prog.varReadable ·))=true:=by kernel_rfl
theorem qom:(Tryz.f8.resultTypes.all (fun t=>Tryz.pinned.checked.prog.readableRec t&&decide (t<Tryz.pinned.checked.prog.types.size)))=true:=by kernel_rfl
theorem qof:((Rows.numberFormsRow.ifacesOut==Tryz.f8.resultTypes.toList.any (Tryz.pinned.checked.prog.ifacesRec ·)))=true:=by kernel_rfl
theorem qoh:((Rows.numberFormsRow.loopsOut==Tryz.f8.resultTypes.toList.any (Tryz.pinned.checked.prog.loopsFrom ·)))=true:=by kernel_rfl
theorem qnE:((Rows.numberFormsRow.plainKeys==Tryz.pinned.checked.prog.plainKeys))=true:=by kernel_rfl
theorem qoi:(Rows.numberFormsRow.shortTexts.isNone)=true:=by kernel_rfl
theorem qnQ:(Tryz.pinned.checked.prog.stopsHeard)=true:=by kernel_rfl
theorem qnY:(Tryz.pinned.checked.prog.mayEnter)=true:=by kernel_rfl
theorem qoc:((Rows.numberFormsRow.lifted==Tryz.pinned.checked.prog.liftsFinal))=true:=by kernel_rfl
theorem qn3:((Tryz.pinned.checked.prog.make==some Rows.numberFormsRow.make))=true:=by kernel_rfl
theorem qoo:((Rows.numberFormsRow.kinds==(if Rows.numberFormsRow.domain.isEmpty then[]else Tryz.f8.params.toList.map fun t=>match Tryz.pinned.checked.prog.underlying t with|some (.int k)=>some k|_=>none)))=true:=by kernel_rfl
theorem qoa:((Rows.numberFormsRow.pinned==Rows.numberFormsRow.pinnedBy))=true:=by kernel_rfl
theorem qob:((Rows.numberFormsRow.veiled==(Tryz.f8.params.toList++Rows.numberFormsSpec.plain.varTypes Tryz.pinned.checked.prog++Tryz.f8.resultTypes.toList).any (Tryz.pinned.checked.prog.veiledRec ·)))=true:=by kernel_rfl
theorem qnX:(Rows.numberFormsRow.veiledFits Tryz.pinned.checked.prog Tryz.f8.params.toList (Tryz.f8.params.toList++Rows.numberFormsSpec.plain.varTypes Tryz.pinned.checked.prog++Tryz.f8.resultTypes.toList))=true:=by kernel_rfl
theorem factB:joinedFacts Tryz.pinned.checked.prog 8 Tryz.f8 Rows.numberFormsSpec Rows.numberFormsRow=true:=by
 unfold joinedFacts
 exact(xq (xq (xq (xq (xq (xq (xq (xq (xq (xq (xq (xq (xq (xq (xq (xq (xq (xq (xq (xq (xq (xq (xq (xq (xq (xq (xq (xq (xq (xq (xq fact0 fact1) fact2) fact3) fact4) fact5) fact6) fact7) fact8) fact9) qod) qnN) qnW) qn1) qnV) qn9) qnR) qnP) qn0) qom) qof) qoh) qnE) qoi) qnQ) qnY) qoc) qn3) qoo) qoa) qob) qnX)
theorem factC:Tryz.f8.isInstance Tryz.pinned.checked.prog Rows.numberFormsRow.origin Rows.numberFormsRow.targs:=of_decide_eq_true (by kernel_rfl)
theorem factD:Tryz.f8.isWrapper Tryz.pinned.checked.prog Rows.numberFormsRow.wrapper Rows.numberFormsRow.mainSum:=by unfold Func.isWrapper;first|(rw[if_pos (by decide+kernel)];kernel_rfl)|(rw[if_neg (by decide+kernel)];exact⟨rfl,rfl⟩)
theorem said:Rows.NumberFormsSaid:=
 OpenClaim.holds_of_wide 8 Tryz.f8 rfl rfl rfl rfl rfl rfl rfl ⟨rfl,rfl,rfl,rfl,rfl⟩ rfl rfl rfl rfl rfl factA Tryz.func8 factB factC factD
  (fun os started H enc _=>lifted os started H enc)
theorem qnS:Tryz.pinned.checked.prog.wantsStandIn 9=false:=by kernel_rfl
theorem qm5:Tryz.pinned.checked.prog.wantsStandIn 23=false:=by kernel_rfl
theorem qnu:Tryz.pinned.checked.prog.wantsStandIn 70=false:=by kernel_rfl
theorem qoe:true=Tryz.pinned.checked.prog.looks []:=by kernel_rfl
theorem plain (f:FuncId) (fn:Func) (hf:Tryz.pinned.checked.prog.funcNamed "becket/becketlaw01.NumberForms" =some f) (hfn:Tryz.pinned.checked.prog.funcs[f]? =some fn):
 true=Tryz.pinned.checked.prog.looks []/\ ∀(j:Nat) t,fn.params[j]? =some t->Tryz.pinned.checked.prog.wantsStandIn t=false:=by
 obtain rfl:f=8:=Option.some.inj ((show Tryz.prog.funcNamed "becket/becketlaw01.NumberForms" =some 8 by kernel_rfl).symm.trans hf)|>.symm
 obtain rfl:fn=Tryz.f8:=(Option.some.inj (Tryz.func8.symm.trans hfn)).symm
 refine⟨qoe,fun j t ht=>?_⟩
 rw[Tryz.params8]at ht
 have ht:t=9\/t=70\/t=23:=by have:=Array.mem_of_getElem? ht;simpa using this
 rcases ht with rfl|rfl|rfl
 ·exact qnS
 ·exact qnu
 exact qm5
theorem card:Rows.NumberFormsCardSaid:=
 Claim7.holds_tied_plain_at .later [] _ _ _ _ said (fun _ h=>by cases h) (by kernel_rfl) (fun _ h=>by cases h) numberForms_row_tie rfl ⟨rfl,rfl⟩ (by kernel_rfl) rfl plain (by kernel_rfl)
end Go.Av
namespace Go.Proofs.YtbjpmhdicbgjkaaGreatDoor
theorem numberForms_holds:Rows.NumberFormsCardSaid:=Go.Av.card
end Go.Proofs.YtbjpmhdicbgjkaaGreatDoor
