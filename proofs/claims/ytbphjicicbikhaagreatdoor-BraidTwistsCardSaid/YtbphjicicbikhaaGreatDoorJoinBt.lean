/-
  It is proved that BraidTwists returns true for all inputs. Conditions: those of the given row alone (the listed package variables hold what the program's text lays).
-/
import Derived.Test.YtbphjicicbikhaaGreatDoorQGenTw
import Derived.Test.YtbphjicicbikhaaGreatDoorQpPa
import Derived.Test.YtbphjicicbikhaaGreatDoorAvPt
import Derived.Test.YtbphjicicbikhaaGreatDoorAvAwkB7
import Derived.Test.YtbphjicicbikhaaGreatDoorCards
import Derived.Test.YtbphjicicbikhaaGreatDoorTie
import Derived.Lay
import Derived.LaidMore
import Derived.LaidSub
import Derived.SevenTiedAt
import Derived.Stop.Joined
import Derived.Lib.LaidTab
import Derived.Lib.ItoaNum
noncomputable section
namespace Go.Av
open Go.Proofs Go.Proofs.YtbphjicicbikhaaGreatDoor
open Go.ChangeShapes Go.WideShapes Go.ChangeAt Go.RowKit
set_option linter.unusedSectionVars false
set_option maxRecDepth 100000
theorem ud3:Tryz.prog.underlying 3=some (.int .i64):=by kernel_rfl
theorem ud22:Tryz.prog.underlying 22=some (.slice 3):=by kernel_rfl
theorem rd3:qa0 Tryz.prog 3 encI:=qa0.i64 ud3
theorem tyB:Tryz.prog.underlying 4=some .bool:=by kernel_rfl
theorem laidOut:laidOutB Tryz.prog=true:=by kernel_rfl
theorem contract (H:Type) (enc:TypeId×Value->H) (W:World) (base:Nat) (args:Array Value) (ds gs:List (DataW H)) (before:List MemPlace)
 (hval: ∀(j:Nat) t v,Tryz.f8.params[j]? =some t->args[j]? =some v->Value.okWide Tryz.prog W .any base t v)
 (hW:DataW.Whole enc Tryz.prog Tryz.f8.params.toList Rows.braidTwistsSpec.vars false W args.toList ds gs before) (hG:Glob.G (AllOf W) W):
 Calls Tryz.prog 8 args W fun e W'=> ∃v,e= .returned v/\Rows.braidTwistsSpec.post enc Tryz.prog Tryz.f8 false true false false W args v W':=by
 have hW':=hW
 obtain⟨p,q,hA0,hV,rfl,hfz,hnd⟩:=hW
 have r0:DataW.TrodAll enc Tryz.prog W 0 (fun _=>true) true Tryz.f8.params.toList args.toList ds p:=hA0
 rw[Tryz.params8]at r0 hval
 obtain⟨v0,vs0,d0,ds0,p0,q0,hargs,rfl,rfl,h0,r1⟩:=trodAll_cons r0
 obtain⟨v1,vs1,d1,ds1,p1,q1,rfl,rfl,rfl,h1,r2⟩:=trodAll_cons r1
 obtain⟨v2,vs2,d2,ds2,p2,q2,rfl,rfl,rfl,h2,r3⟩:=trodAll_cons r2
 obtain⟨rfl,rfl,rfl⟩:=trodAll_nil r3
 obtain rfl:args=#[v0,v1,v2]:=by cases args;simp_all
 obtain⟨a0,hu0⟩:=In.i64 ud3 (hval 0 3 v0 rfl rfl)
 obtain⟨a1,hu1⟩:=In.list ud22 (by kernel_rfl) rd3 (hval 1 22 v1 rfl rfl) h1
 obtain⟨a2,hu2⟩:=In.list ud22 (by kernel_rfl) rd3 (hval 2 22 v2 rfl rfl) h2
 refine qna laidOut (fun t ht=>?_) rfl (show Tryz.f8.resultTypes=#[4]from rfl) tyB (fun ds hds=>?_) hW' (enters_of (by kernel_rfl)) (qeY 2000000 a0 a1 a2 (qgj (N:=2000000) (by decide) a0 a1 a2)) hG (al:=[.int .i64 a0,vl encI a1,vl encI a2]) ⟨rfl,fun i a v ha hv=>?_⟩
 ·rw[Tryz.params8]at ht
  have ht:t=3\/t=22\/t=22:=by simpa using ht
  rcases ht with rfl|rfl|rfl
  ·exact⟨by kernel_rfl,of_decide_eq_true (by kernel_rfl)⟩
  ·exact⟨by kernel_rfl,of_decide_eq_true (by kernel_rfl)⟩
  exact⟨by kernel_rfl,of_decide_eq_true (by kernel_rfl)⟩
 ·rw[Tryz.params8]at hds
  match ds,hds with
  |[d1,d2,d3],_=>exact⟨rfl,rfl,rfl⟩
 match i with
 |0=>simp at ha hv;subst ha hv;exact hu0
 |1=>simp at ha hv;subst ha hv;exact hu1
 |2=>simp at ha hv;subst ha hv;exact hu2
 |i+3=>simp at ha
theorem qoW {W:World} (h:laidMetH Tryz.prog Rows.braidTwistsRow.laid W):Glob.G (AllOf W) W:=by
 have h1:=h.filter fun x=>x.1==qd2
 have e:(Rows.braidTwistsRow.laid.filter fun x=>x.1==qd2)=[(qd2,Lib.tabData .u64 Lib.pow10Tab)]:=by kernel_rfl
 rw[e]at h1
 have h2:laidMet Tryz.prog [(qd2,Lib.tabData .u64 Lib.pow10Tab)] W:=by
  rw[MakeChecks.laidMetH_plain _ _ _ (by kernel_rfl)]at h1
  exact h1
 have ht:Lib.TabIs Tryz.prog W qd2 .u64 Lib.pow10Tab:=
  Lib.tabIs_of_head (rest:=[]) (t:=338) (e:=263) (n:=20) qgq (by kernel_rfl) (by kernel_rfl) (by kernel_rfl) (by kernel_rfl) (by kernel_rfl) h2
 refine⟨?_,ht⟩
 unfold Lib.TabIs World.var? at ht
 rw[qgq]at ht
 simp only[ZB]at ht
 show 7<W.heap.size
 rcases Nat.lt_or_ge 7 W.heap.size with h5|h5
 ·exact h5
 rw[Array.getElem?_eq_none h5]at ht
 cases ht
theorem own:ownKnob Tryz.prog.godebug=none:=by kernel_rfl
theorem lifted (os:Os) (started:os.Started) (H:Type) (enc:TypeId×Value->H):
 ReturnsInHanded {} Tryz.checked os 8 .any (fun w args=>(Rows.braidTwistsSpec.pre enc Tryz.prog Tryz.f8 Rows.braidTwistsRow.domain false w args/\laidMetH Tryz.prog Rows.braidTwistsRow.laid w)/\sizedMet enc Tryz.prog Tryz.f8 (OpenSpec.ofChange Rows.braidTwistsSpec) false w args)
  (Rows.braidTwistsSpec.post enc Tryz.prog Tryz.f8 false true false false):=by
 refine returnsInHanded_of_change_and (C:=Tryz.checked) (X:=fun w _=>laidMetH Tryz.prog Rows.braidTwistsRow.laid w) (fun _ _ _ hh h=>h.of_heap hh) own started (by kernel_rfl) Tryz.func8
  (ChangeSpec.witness_shaped (enc:=enc) (C:=Tryz.checked) (os:=os) (X:=fun w _=>laidMetH Tryz.prog Rows.braidTwistsRow.laid w) false (World.laidAll Tryz.prog os Rows.braidTwistsRow.laid) #[.int .i64 0,.slice none 0 0,.slice none 0 0] 8 (World.laidAll_os _ _ _)
   (World.shaped_of_ZipB (by kernel_rfl) (by kernel_rfl)) (by kernel_rfl) (by kernel_rfl) (by kernel_rfl)
   (by rw[MakeChecks.laidMetH_plain _ _ _ (by kernel_rfl)];exact laidMet_laidAll _ (by kernel_rfl) (by kernel_rfl))) ?_
 intro W base args ds gs before hval hW _ _ hL _
 exact contract H enc W base args ds gs before hval hW (qoW hL)
theorem factA:Tryz.pinned.checked.prog.funcNamed Rows.braidTwistsRow.func=some 8:=by kernel_rfl
theorem fact0:(Rows.braidTwistsRow.wf (OpenSpec.ofChange Rows.braidTwistsSpec))=true:=by kernel_rfl
theorem fact1:(laidOutB Tryz.pinned.checked.prog)=true:=by kernel_rfl
theorem fact2:(mapsRowed Tryz.pinned.checked.prog)=true:=by kernel_rfl
theorem fact3:(Tryz.f8.params.all (Tryz.pinned.checked.prog.readableRec ·))=true:=by kernel_rfl
theorem fact4:(namedTie Tryz.pinned.checked.prog Rows.braidTwistsRow.named Rows.braidTwistsSpec.vars)=true:=by kernel_rfl
theorem fact5:((Rows.braidTwistsRow.stops==[]))=true:=by kernel_rfl
theorem fact6:((Tryz.pinned.checked.prog.stops==[]))=true:=by kernel_rfl
theorem fact7:((Rows.braidTwistsRow.knobs==[]))=true:=by kernel_rfl
theorem fact8:((Tryz.pinned.checked.prog.stopKnobs==[]))=true:=by kernel_rfl
theorem fact9:((Rows.braidTwistsRow.inPlace==Tryz.pinned.checked.prog.inPlace 8))=true:=by kernel_rfl
theorem qq9:((Rows.braidTwistsRow.unfollowed==Tryz.pinned.checked.prog.unfollowed 8))=true:=by kernel_rfl
theorem qrp:((Rows.braidTwistsRow.recurses==Tryz.pinned.checked.prog.recurses 8))=true:=by kernel_rfl
theorem qq7:((Rows.braidTwistsRow.named==Tryz.pinned.checked.prog.varsNamed 8))=true:=by kernel_rfl
theorem qri:((Rows.braidTwistsRow.maps==(Tryz.f8.params.toList++Rows.braidTwistsSpec.plain.varTypes Tryz.pinned.checked.prog).any (Tryz.pinned.checked.prog.mapsRec ·)))=true:=by kernel_rfl
theorem qq2:((Rows.braidTwistsRow.ifaces==(Tryz.f8.params.toList++Rows.braidTwistsSpec.plain.varTypes Tryz.pinned.checked.prog).any (Tryz.pinned.checked.prog.ifacesRec ·)))=true:=by kernel_rfl
theorem qrf:((Rows.braidTwistsRow.mapsOut==Tryz.pinned.checked.prog.mapsAmong Tryz.f8.resultTypes.toList))=true:=by kernel_rfl
theorem qrb:((Rows.braidTwistsRow.loops==(Tryz.f8.params.toList++Rows.braidTwistsSpec.plain.varTypes Tryz.pinned.checked.prog).any (Tryz.pinned.checked.prog.loopsFrom ·)))=true:=by kernel_rfl
theorem qrg:((Rows.braidTwistsRow.wideKeys==(Tryz.f8.params.toList++Rows.braidTwistsSpec.plain.varTypes Tryz.pinned.checked.prog++Tryz.f8.resultTypes.toList).any (Tryz.pinned.checked.prog.wideKeysFrom ·)))=true:=by kernel_rfl
theorem qrk:(Rows.braidTwistsSpec.vars.all (Tryz.pinned.checked.prog.varReadable ·))=true:=by kernel_rfl
theorem qqZ:(Tryz.f8.resultTypes.all (fun t=>Tryz.pinned.checked.prog.readableRec t&&decide (t<Tryz.pinned.checked.prog.types.size)))=true:=by kernel_rfl
theorem qq4:((Rows.braidTwistsRow.ifacesOut==Tryz.f8.resultTypes.toList.any (Tryz.pinned.checked.prog.ifacesRec ·)))=true:=by kernel_rfl
theorem qq3:((Rows.braidTwistsRow.loopsOut==Tryz.f8.resultTypes.toList.any (Tryz.pinned.checked.prog.loopsFrom ·)))=true:=by kernel_rfl
theorem qrm:((Rows.braidTwistsRow.plainKeys==Tryz.pinned.checked.prog.plainKeys))=true:=by kernel_rfl
theorem qqH:(Rows.braidTwistsRow.shortTexts.isNone)=true:=by kernel_rfl
theorem qqX:(Tryz.pinned.checked.prog.stopsHeard)=true:=by kernel_rfl
theorem qrl:(Tryz.pinned.checked.prog.mayEnter)=true:=by kernel_rfl
theorem qqS:((Rows.braidTwistsRow.lifted==Tryz.pinned.checked.prog.liftsFinal))=true:=by kernel_rfl
theorem qqW:((Tryz.pinned.checked.prog.make==some Rows.braidTwistsRow.make))=true:=by kernel_rfl
theorem qqJ:((Rows.braidTwistsRow.kinds==(if Rows.braidTwistsRow.domain.isEmpty then[]else Tryz.f8.params.toList.map fun t=>match Tryz.pinned.checked.prog.underlying t with|some (.int k)=>some k|_=>none)))=true:=by kernel_rfl
theorem qrd:((Rows.braidTwistsRow.pinned==Rows.braidTwistsRow.pinnedBy))=true:=by kernel_rfl
theorem qqG:((Rows.braidTwistsRow.veiled==(Tryz.f8.params.toList++Rows.braidTwistsSpec.plain.varTypes Tryz.pinned.checked.prog++Tryz.f8.resultTypes.toList).any (Tryz.pinned.checked.prog.veiledRec ·)))=true:=by kernel_rfl
theorem qqE:(Rows.braidTwistsRow.veiledFits Tryz.pinned.checked.prog Tryz.f8.params.toList (Tryz.f8.params.toList++Rows.braidTwistsSpec.plain.varTypes Tryz.pinned.checked.prog++Tryz.f8.resultTypes.toList))=true:=by kernel_rfl
theorem factB:joinedFacts Tryz.pinned.checked.prog 8 Tryz.f8 Rows.braidTwistsSpec Rows.braidTwistsRow=true:=by
 unfold joinedFacts
 exact(qbv (qbv (qbv (qbv (qbv (qbv (qbv (qbv (qbv (qbv (qbv (qbv (qbv (qbv (qbv (qbv (qbv (qbv (qbv (qbv (qbv (qbv (qbv (qbv (qbv (qbv (qbv (qbv (qbv (qbv (qbv fact0 fact1) fact2) fact3) fact4) fact5) fact6) fact7) fact8) fact9) qq9) qrp) qq7) qri) qq2) qrf) qrb) qrg) qrk) qqZ) qq4) qq3) qrm) qqH) qqX) qrl) qqS) qqW) qqJ) qrd) qqG) qqE)
theorem factC:Tryz.f8.isInstance Tryz.pinned.checked.prog Rows.braidTwistsRow.origin Rows.braidTwistsRow.targs:=of_decide_eq_true (by kernel_rfl)
theorem factD:Tryz.f8.isWrapper Tryz.pinned.checked.prog Rows.braidTwistsRow.wrapper Rows.braidTwistsRow.mainSum:=by unfold Func.isWrapper;first|(rw[if_pos (by decide+kernel)];kernel_rfl)|(rw[if_neg (by decide+kernel)];exact⟨rfl,rfl⟩)
theorem said:Rows.BraidTwistsSaid:=
 OpenClaim.holds_of_wide 8 Tryz.f8 rfl rfl rfl rfl rfl rfl rfl ⟨rfl,rfl,rfl,rfl,rfl⟩ rfl rfl rfl rfl rfl factA Tryz.func8 factB factC factD
  (fun os started H enc _=>lifted os started H enc)
theorem qqL:Tryz.pinned.checked.prog.wantsStandIn 3=false:=by kernel_rfl
theorem qmR:Tryz.pinned.checked.prog.wantsStandIn 22=false:=by kernel_rfl
theorem qqM:true=Tryz.pinned.checked.prog.looks []:=by kernel_rfl
theorem plain (f:FuncId) (fn:Func) (hf:Tryz.pinned.checked.prog.funcNamed "becket/becketlaw05.BraidTwists" =some f) (hfn:Tryz.pinned.checked.prog.funcs[f]? =some fn):
 true=Tryz.pinned.checked.prog.looks []/\ ∀(j:Nat) t,fn.params[j]? =some t->Tryz.pinned.checked.prog.wantsStandIn t=false:=by
 obtain rfl:f=8:=Ye ((show Tryz.prog.funcNamed "becket/becketlaw05.BraidTwists" =some 8 by kernel_rfl).symm.trans hf)|>.symm
 obtain rfl:fn=Tryz.f8:=(Ye (Tryz.func8.symm.trans hfn)).symm
 refine⟨qqM,fun j t ht=>?_⟩
 rw[Tryz.params8]at ht
 have ht:t=3\/t=22\/t=22:=by have:=Array.mem_of_getElem? ht;simpa using this
 rcases ht with rfl|rfl|rfl
 ·exact qqL
 ·exact qmR
 exact qmR
theorem card:Rows.BraidTwistsCardSaid:=
 Claim7.holds_tied_plain_at .later [] _ _ _ _ said (fun _ h=>by cases h) (by kernel_rfl) (fun _ h=>by cases h) braidTwists_row_tie rfl ⟨rfl,rfl⟩ (by kernel_rfl) rfl plain (by kernel_rfl)
end Go.Av
namespace Go.Proofs.YtbphjicicbikhaaGreatDoor
theorem braidTwists_holds:Rows.BraidTwistsCardSaid:=Go.Av.card
end Go.Proofs.YtbphjicicbikhaaGreatDoor
