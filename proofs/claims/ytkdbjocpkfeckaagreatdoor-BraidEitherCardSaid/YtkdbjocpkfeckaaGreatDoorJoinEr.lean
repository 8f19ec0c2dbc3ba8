/-
  It is proved that BraidEither returns true for all inputs. Conditions: those of the given row alone (the listed package variables hold what the program's text lays).
-/
import Derived.Test.YtkdbjocpkfeckaaGreatDoorQGenEr
import Derived.Test.YtkdbjocpkfeckaaGreatDoorMfPc
import Derived.Test.YtkdbjocpkfeckaaGreatDoorAvPt
import Derived.Test.YtkdbjocpkfeckaaGreatDoorAvAwkB9
import Derived.Test.YtkdbjocpkfeckaaGreatDoorCards
import Derived.Test.YtkdbjocpkfeckaaGreatDoorTie
import Derived.Lay
import Derived.LaidMore
import Derived.LaidSub
import Derived.SevenTiedAt
import Derived.Stop.Joined
import Derived.Lib.LaidTab
import Derived.Lib.ItoaNum
noncomputable section
namespace Go.Av
open Go.Proofs Go.Proofs.YtkdbjocpkfeckaaGreatDoor
open Go.ChangeShapes Go.WideShapes Go.ChangeAt Go.RowKit
set_option linter.unusedSectionVars false
set_option maxRecDepth 100000
theorem ud3:Tryz.prog.underlying 3=some (.int .i64):=by kernel_rfl
theorem ud22:Tryz.prog.underlying 22=some (.slice 3):=by kernel_rfl
theorem rd3:qac Tryz.prog 3 encI:=qac.i64 ud3
theorem tyB:Tryz.prog.underlying 4=some .bool:=by kernel_rfl
theorem laidOut:laidOutB Tryz.prog=true:=by kernel_rfl
theorem contract (H:Type) (enc:TypeId×Value->H) (W:World) (base:Nat) (args:Array Value) (ds gs:List (DataW H)) (before:List MemPlace)
 (hval: ∀(j:Nat) t v,Tryz.f4.params[j]? =some t->args[j]? =some v->Value.okWide Tryz.prog W .any base t v)
 (hW:DataW.Whole enc Tryz.prog Tryz.f4.params.toList Rows.braidEitherSpec.vars false W args.toList ds gs before) (hG:Glob.G (AllOf W) W):
 Calls Tryz.prog 4 args W fun e W'=> ∃v,e= .returned v/\Rows.braidEitherSpec.post enc Tryz.prog Tryz.f4 false true false false W args v W':=by
 have hW':=hW;obtain⟨p,q,hA0,hV,rfl,hfz,hnd⟩:=hW;have r0:DataW.TrodAll enc Tryz.prog W 0 (fun _=>true) true Tryz.f4.params.toList args.toList ds p:=hA0;rw[Tryz.params4]at r0 hval;obtain⟨v0,vs0,d0,ds0,p0,q0,hargs,rfl,rfl,h0,r1⟩:=trodAll_cons r0;obtain⟨v1,vs1,d1,ds1,p1,q1,rfl,rfl,rfl,h1,r2⟩:=trodAll_cons r1;obtain⟨v2,vs2,d2,ds2,p2,q2,rfl,rfl,rfl,h2,r3⟩:=trodAll_cons r2;obtain⟨rfl,rfl,rfl⟩:=trodAll_nil r3
 obtain rfl:args=#[v0,v1,v2]:=by cases args;simp_all
 obtain⟨a0,hu0⟩:=In.i64 ud3 (hval 0 3 v0 rfl rfl);obtain⟨a1,hu1⟩:=In.list ud22 (by kernel_rfl) rd3 (hval 1 22 v1 rfl rfl) h1;obtain⟨a2,hu2⟩:=In.list ud22 (by kernel_rfl) rd3 (hval 2 22 v2 rfl rfl) h2;refine qoX laidOut (fun t ht=>?_) rfl (show Tryz.f4.resultTypes=#[4]from rfl) tyB (fun ds hds=>?_) hW' (enters_of (by kernel_rfl)) (qey 2100000 a0 a1 a2 (qfK (N:=2100000) (by decide) a0 a1 a2)) hG (al:=[.int .i64 a0,vl encI a1,vl encI a2]) ⟨rfl,fun i a v ha hv=>?_⟩
 ·rw[Tryz.params4]at ht
  have ht:t=3\/t=22\/t=22:=by simpa using ht
  rcases ht with rfl|rfl|rfl
  ·exact⟨by kernel_rfl,of_decide_eq_true (by kernel_rfl)⟩
  ·exact⟨by kernel_rfl,of_decide_eq_true (by kernel_rfl)⟩
  exact⟨by kernel_rfl,of_decide_eq_true (by kernel_rfl)⟩
 ·rw[Tryz.params4]at hds
  match ds,hds with
  |[d1,d2,d3],_=>exact⟨rfl,rfl,rfl⟩
 match i with
 |0=>simp at ha hv;subst ha hv;exact hu0
 |1=>simp at ha hv;subst ha hv;exact hu1
 |2=>simp at ha hv;subst ha hv;exact hu2
 |i+3=>simp at ha
theorem qqi {W:World} (h:laidMetH Tryz.prog Rows.braidEitherRow.laid W):Glob.G (AllOf W) W:=by
 have h1:=h.filter fun x=>x.1==qdK
 have e:(Rows.braidEitherRow.laid.filter fun x=>x.1==qdK)=[(qdK,Lib.tabData .u64 Lib.pow10Tab)]:=by kernel_rfl
 rw[e]at h1
 have h2:laidMet Tryz.prog [(qdK,Lib.tabData .u64 Lib.pow10Tab)] W:=by
  rw[MakeChecks.laidMetH_plain _ _ _ (by kernel_rfl)]at h1;exact h1
 have ht:Lib.TabIs Tryz.prog W qdK .u64 Lib.pow10Tab:=
  Lib.tabIs_of_head (rest:=[]) (t:=324) (e:=241) (n:=20) qgw (by kernel_rfl) (by kernel_rfl) (by kernel_rfl) (by kernel_rfl) (by kernel_rfl) h2
 refine⟨?_,ht⟩;unfold Lib.TabIs World.var? at ht;rw[qgw]at ht;simp only[ZB]at ht;show 7<W.heap.size;rcases Nat.lt_or_ge 7 W.heap.size with h5|h5
 ·exact h5
 rw[Array.getElem?_eq_none h5]at ht;cases ht
theorem own:ownKnob Tryz.prog.godebug=none:=by kernel_rfl
theorem lifted (os:Os) (started:os.Started) (H:Type) (enc:TypeId×Value->H):
 ReturnsInHanded {} Tryz.checked os 4 .any (fun w args=>(Rows.braidEitherSpec.pre enc Tryz.prog Tryz.f4 Rows.braidEitherRow.domain false w args/\laidMetH Tryz.prog Rows.braidEitherRow.laid w)/\sizedMet enc Tryz.prog Tryz.f4 (OpenSpec.ofChange Rows.braidEitherSpec) false w args)
  (Rows.braidEitherSpec.post enc Tryz.prog Tryz.f4 false true false false):=by
 refine returnsInHanded_of_change_and (C:=Tryz.checked) (X:=fun w _=>laidMetH Tryz.prog Rows.braidEitherRow.laid w) (fun _ _ _ hh h=>h.of_heap hh) own started (by kernel_rfl) Tryz.func4
  (ChangeSpec.witness_shaped (enc:=enc) (C:=Tryz.checked) (os:=os) (X:=fun w _=>laidMetH Tryz.prog Rows.braidEitherRow.laid w) false (World.laidAll Tryz.prog os Rows.braidEitherRow.laid) #[.int .i64 0,.slice none 0 0,.slice none 0 0] 8 (World.laidAll_os _ _ _)
   (World.shaped_of_ZipB (by kernel_rfl) (by kernel_rfl)) (by kernel_rfl) (by kernel_rfl) (by kernel_rfl)
   (by rw[MakeChecks.laidMetH_plain _ _ _ (by kernel_rfl)];exact laidMet_laidAll _ (by kernel_rfl) (by kernel_rfl))) ?_
 intro W base args ds gs before hval hW _ _ hL _;exact contract H enc W base args ds gs before hval hW (qqi hL)
theorem factA:Tryz.pinned.checked.prog.funcNamed Rows.braidEitherRow.func=some 4:=by kernel_rfl
theorem fact0:(Rows.braidEitherRow.wf (OpenSpec.ofChange Rows.braidEitherSpec))=true:=by kernel_rfl
theorem fact1:(laidOutB Tryz.pinned.checked.prog)=true:=by kernel_rfl
theorem fact2:(mapsRowed Tryz.pinned.checked.prog)=true:=by kernel_rfl
theorem fact3:(Tryz.f4.params.all (Tryz.pinned.checked.prog.readableRec ·))=true:=by kernel_rfl
theorem fact4:(namedTie Tryz.pinned.checked.prog Rows.braidEitherRow.named Rows.braidEitherSpec.vars)=true:=by kernel_rfl
theorem fact5:((Rows.braidEitherRow.stops==[]))=true:=by kernel_rfl
theorem fact6:((Tryz.pinned.checked.prog.stops==[]))=true:=by kernel_rfl
theorem fact7:((Rows.braidEitherRow.knobs==[]))=true:=by kernel_rfl
theorem fact8:((Tryz.pinned.checked.prog.stopKnobs==[]))=true:=by kernel_rfl
theorem fact9:((Rows.braidEitherRow.inPlace==Tryz.pinned.checked.prog.inPlace 4))=true:=by kernel_rfl
theorem qui:((Rows.braidEitherRow.unfollowed==Tryz.pinned.checked.prog.unfollowed 4))=true:=by kernel_rfl
theorem quf:((Rows.braidEitherRow.recurses==Tryz.pinned.checked.prog.recurses 4))=true:=by kernel_rfl
theorem quG:((Rows.braidEitherRow.named==Tryz.pinned.checked.prog.varsNamed 4))=true:=by kernel_rfl
theorem quc:((Rows.braidEitherRow.maps==(Tryz.f4.params.toList++Rows.braidEitherSpec.plain.varTypes Tryz.pinned.checked.prog).any (Tryz.pinned.checked.prog.mapsRec ·)))=true:=by kernel_rfl
theorem quL:((Rows.braidEitherRow.ifaces==(Tryz.f4.params.toList++Rows.braidEitherSpec.plain.varTypes Tryz.pinned.checked.prog).any (Tryz.pinned.checked.prog.ifacesRec ·)))=true:=by kernel_rfl
theorem quB:((Rows.braidEitherRow.mapsOut==Tryz.pinned.checked.prog.mapsAmong Tryz.f4.resultTypes.toList))=true:=by kernel_rfl
theorem qvs:((Rows.braidEitherRow.loops==(Tryz.f4.params.toList++Rows.braidEitherSpec.plain.varTypes Tryz.pinned.checked.prog).any (Tryz.pinned.checked.prog.loopsFrom ·)))=true:=by kernel_rfl
theorem quN:((Rows.braidEitherRow.wideKeys==(Tryz.f4.params.toList++Rows.braidEitherSpec.plain.varTypes Tryz.pinned.checked.prog++Tryz.f4.resultTypes.toList).any (Tryz.pinned.checked.prog.wideKeysFrom ·)))=true:=by kernel_rfl
theorem qux:(Rows.braidEitherSpec.vars.all (Tryz.pinned.checked.prog.varReadable ·))=true:=by kernel_rfl
theorem qu1:(Tryz.f4.resultTypes.all (fun t=>Tryz.pinned.checked.prog.readableRec t&&decide (t<Tryz.pinned.checked.prog.types.size)))=true:=by kernel_rfl
theorem qul:((Rows.braidEitherRow.ifacesOut==Tryz.f4.resultTypes.toList.any (Tryz.pinned.checked.prog.ifacesRec ·)))=true:=by kernel_rfl
theorem quO:((Rows.braidEitherRow.loopsOut==Tryz.f4.resultTypes.toList.any (Tryz.pinned.checked.prog.loopsFrom ·)))=true:=by kernel_rfl
theorem qu5:((Rows.braidEitherRow.plainKeys==Tryz.pinned.checked.prog.plainKeys))=true:=by kernel_rfl
theorem quI:(Rows.braidEitherRow.shortTexts.isNone)=true:=by kernel_rfl
theorem qvn:(Tryz.pinned.checked.prog.stopsHeard)=true:=by kernel_rfl
theorem qup:(Tryz.pinned.checked.prog.mayEnter)=true:=by kernel_rfl
theorem qvj:((Rows.braidEitherRow.lifted==Tryz.pinned.checked.prog.liftsFinal))=true:=by kernel_rfl
theorem quk:((Tryz.pinned.checked.prog.make==some Rows.braidEitherRow.make))=true:=by kernel_rfl
theorem qvd:((Rows.braidEitherRow.kinds==(if Rows.braidEitherRow.domain.isEmpty then[]else Tryz.f4.params.toList.map fun t=>match Tryz.pinned.checked.prog.underlying t with|some (.int k)=>some k|_=>none)))=true:=by kernel_rfl
theorem qvb:((Rows.braidEitherRow.pinned==Rows.braidEitherRow.pinnedBy))=true:=by kernel_rfl
theorem qu8:((Rows.braidEitherRow.veiled==(Tryz.f4.params.toList++Rows.braidEitherSpec.plain.varTypes Tryz.pinned.checked.prog++Tryz.f4.resultTypes.toList).any (Tryz.pinned.checked.prog.veiledRec ·)))=true:=by kernel_rfl
theorem quu:(Rows.braidEitherRow.veiledFits Tryz.pinned.checked.prog Tryz.f4.params.toList (Tryz.f4.params.toList++Rows.braidEitherSpec.plain.varTypes Tryz.pinned.checked.prog++Tryz.f4.resultTypes.toList))=true:=by kernel_rfl
theorem factB:joinedFacts Tryz.pinned.checked.prog 4 Tryz.f4 Rows.braidEitherSpec Rows.braidEitherRow=true:=by
 unfold joinedFacts;exact(qa0 (qa0 (qa0 (qa0 (qa0 (qa0 (qa0 (qa0 (qa0 (qa0 (qa0 (qa0 (qa0 (qa0 (qa0 (qa0 (qa0 (qa0 (qa0 (qa0 (qa0 (qa0 (qa0 (qa0 (qa0 (qa0 (qa0 (qa0 (qa0 (qa0 (qa0 fact0 fact1) fact2) fact3) fact4) fact5) fact6) fact7) fact8) fact9) qui) quf) quG) quc) quL) quB) qvs) quN) qux) qu1) qul) quO) qu5) quI) qvn) qup) qvj) quk) qvd) qvb) qu8) quu)
theorem factC:Tryz.f4.isInstance Tryz.pinned.checked.prog Rows.braidEitherRow.origin Rows.braidEitherRow.targs:=of_decide_eq_true (by kernel_rfl)
theorem factD:Tryz.f4.isWrapper Tryz.pinned.checked.prog Rows.braidEitherRow.wrapper Rows.braidEitherRow.mainSum:=by unfold Func.isWrapper;first|(rw[if_pos (by decide+kernel)];kernel_rfl)|(rw[if_neg (by decide+kernel)];exact⟨rfl,rfl⟩)
theorem said:Rows.BraidEitherSaid:=
 OpenClaim.holds_of_wide 4 Tryz.f4 rfl rfl rfl rfl rfl rfl rfl ⟨rfl,rfl,rfl,rfl,rfl⟩ rfl rfl rfl rfl rfl factA Tryz.func4 factB factC factD
  (fun os started H enc _=>lifted os started H enc)
theorem qua:Tryz.pinned.checked.prog.wantsStandIn 3=false:=by kernel_rfl
theorem qoK:Tryz.pinned.checked.prog.wantsStandIn 22=false:=by kernel_rfl
theorem quX:true=Tryz.pinned.checked.prog.looks []:=by kernel_rfl
theorem plain (f:FuncId) (fn:Func) (hf:Tryz.pinned.checked.prog.funcNamed "becket/becketlaw05.BraidEither" =some f) (hfn:Tryz.pinned.checked.prog.funcs[f]? =some fn):
 true=Tryz.pinned.checked.prog.looks []/\ ∀(j:Nat) t,fn.params[j]? =some t->Tryz.pinned.checked.prog.wantsStandIn t=false:=by
 obtain rfl:f=4:=Ye ((show Tryz.prog.funcNamed "becket/becketlaw05.BraidEither" =some 4 by kernel_rfl).symm.trans hf)|>.symm;obtain rfl:fn=Tryz.f4:=(Ye (Tryz.func4.symm.trans hfn)).symm;refine⟨quX,fun j t ht=>?_⟩;rw[Tryz.params4]at ht
 have ht:t=3\/t=22\/t=22:=by have:=Array.mem_of_getElem? ht;simpa using this
 rcases ht with rfl|rfl|rfl
 ·exact qua
 ·exact qoK
 exact qoK
theorem card:Rows.BraidEitherCardSaid:=
 Claim7.holds_tied_plain_at .later [] _ _ _ _ said (fun _ h=>by cases h) (by kernel_rfl) (fun _ h=>by cases h) braidEither_row_tie rfl ⟨rfl,rfl⟩ (by kernel_rfl) rfl plain (by kernel_rfl)
end Go.Av
namespace Go.Proofs.YtkdbjocpkfeckaaGreatDoor
theorem braidEither_holds:Rows.BraidEitherCardSaid:=Go.Av.card
end Go.Proofs.YtkdbjocpkfeckaaGreatDoor
