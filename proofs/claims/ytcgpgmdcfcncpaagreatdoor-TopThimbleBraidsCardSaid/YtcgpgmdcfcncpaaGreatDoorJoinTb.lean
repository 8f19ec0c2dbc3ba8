/-
  It is proved that TopThimbleBraids returns true for all inputs. Conditions: those of the given row alone (the listed package variables hold what the program's text lays).
-/
import Derived.Test.YtcgpgmdcfcncpaaGreatDoorQGenJ
import Derived.Test.YtcgpgmdcfcncpaaGreatDoorQqPb
import Derived.Test.YtcgpgmdcfcncpaaGreatDoorAvPt
import Derived.Test.YtcgpgmdcfcncpaaGreatDoorAvAwkJ
import Derived.Test.YtcgpgmdcfcncpaaGreatDoorCards
import Derived.Test.YtcgpgmdcfcncpaaGreatDoorTie
import Derived.Lay
import Derived.LaidMore
import Derived.LaidSub
import Derived.SevenTiedAt
import Derived.Stop.Joined
import Derived.Lib.LaidTab
import Derived.Lib.ItoaNum
noncomputable section
namespace Go.Av
open Go.Proofs Go.Proofs.YtcgpgmdcfcncpaaGreatDoor
open Go.ChangeShapes Go.WideShapes Go.ChangeAt Go.RowKit
set_option linter.unusedSectionVars false
set_option maxRecDepth 100000
theorem ud3:Tryz.prog.underlying 3=some (.int .i64):=by kernel_rfl
theorem ud22:Tryz.prog.underlying 22=some (.slice 3):=by kernel_rfl
theorem rd3:qat Tryz.prog 3 encI:=qat.i64 ud3
theorem tyB:Tryz.prog.underlying 4=some .bool:=by kernel_rfl
theorem laidOut:laidOutB Tryz.prog=true:=by kernel_rfl
theorem contract (H:Type) (enc:TypeId×Value->H) (W:World) (base:Nat) (args:Array Value) (ds gs:List (DataW H)) (before:List MemPlace)
 (hval: ∀(j:Nat) t v,Tryz.f3.params[j]? =some t->args[j]? =some v->Value.okWide Tryz.prog W .any base t v)
 (hW:DataW.Whole enc Tryz.prog Tryz.f3.params.toList Rows.topThimbleBraidsSpec.vars false W args.toList ds gs before) (hG:Glob.G (AllOf W) W):
 Calls Tryz.prog 3 args W fun e W'=> ∃v,e= .returned v/\Rows.topThimbleBraidsSpec.post enc Tryz.prog Tryz.f3 false true false false W args v W':=by
 have hW':=hW
 obtain⟨p,q,hA0,hV,rfl,hfz,hnd⟩:=hW
 have r0:DataW.TrodAll enc Tryz.prog W 0 (fun _=>true) true Tryz.f3.params.toList args.toList ds p:=hA0
 rw[Tryz.params3]at r0 hval
 obtain⟨v0,vs0,d0,ds0,p0,q0,hargs,rfl,rfl,h0,r1⟩:=trodAll_cons r0
 obtain⟨v1,vs1,d1,ds1,p1,q1,rfl,rfl,rfl,h1,r2⟩:=trodAll_cons r1
 obtain⟨v2,vs2,d2,ds2,p2,q2,rfl,rfl,rfl,h2,r3⟩:=trodAll_cons r2
 obtain⟨rfl,rfl,rfl⟩:=trodAll_nil r3
 obtain rfl:args=#[v0,v1,v2]:=by cases args;simp_all
 obtain⟨a0,hu0⟩:=In.i64 ud3 (hval 0 3 v0 rfl rfl)
 obtain⟨a1,hu1⟩:=In.list ud22 (by kernel_rfl) rd3 (hval 1 22 v1 rfl rfl) h1
 obtain⟨a2,hu2⟩:=In.list ud22 (by kernel_rfl) rd3 (hval 2 22 v2 rfl rfl) h2
 refine qnU laidOut (fun t ht=>?_) rfl (show Tryz.f3.resultTypes=#[4]from rfl) tyB (fun ds hds=>?_) hW' (enters_of (by kernel_rfl)) (qcF 2000000 a0 a1 a2 (qeT a0 a1 a2)) hG (al:=[.int .i64 a0,vl encI a1,vl encI a2]) ⟨rfl,fun i a v ha hv=>?_⟩
 ·rw[Tryz.params3]at ht
  have ht:t=3\/t=22\/t=22:=by simpa using ht
  rcases ht with rfl|rfl|rfl
  ·exact⟨by kernel_rfl,of_decide_eq_true (by kernel_rfl)⟩
  ·exact⟨by kernel_rfl,of_decide_eq_true (by kernel_rfl)⟩
  exact⟨by kernel_rfl,of_decide_eq_true (by kernel_rfl)⟩
 ·rw[Tryz.params3]at hds
  match ds,hds with
  |[d1,d2,d3],_=>exact⟨rfl,rfl,rfl⟩
 match i with
 |0=>simp at ha hv;subst ha hv;exact hu0
 |1=>simp at ha hv;subst ha hv;exact hu1
 |2=>simp at ha hv;subst ha hv;exact hu2
 |i+3=>simp at ha
theorem qp3 {W:World} (h:laidMetH Tryz.prog Rows.topThimbleBraidsRow.laid W):Glob.G (AllOf W) W:=by
 have h1:=h.filter fun x=>x.1==qev
 have e:(Rows.topThimbleBraidsRow.laid.filter fun x=>x.1==qev)=[(qev,Lib.tabData .u64 Lib.pow10Tab)]:=by kernel_rfl
 rw[e]at h1
 have h2:laidMet Tryz.prog [(qev,Lib.tabData .u64 Lib.pow10Tab)] W:=by
  rw[MakeChecks.laidMetH_plain _ _ _ (by kernel_rfl)]at h1
  exact h1
 have ht:Lib.TabIs Tryz.prog W qev .u64 Lib.pow10Tab:=
  Lib.tabIs_of_head (rest:=[]) (t:=227) (e:=164) (n:=20) qhq (by kernel_rfl) (by kernel_rfl) (by kernel_rfl) (by kernel_rfl) (by kernel_rfl) h2
 refine⟨?_,ht⟩
 unfold Lib.TabIs World.var? at ht
 rw[qhq]at ht
 simp only[ZB]at ht
 show 2<W.heap.size
 rcases Nat.lt_or_ge 2 W.heap.size with h5|h5
 ·exact h5
 rw[Array.getElem?_eq_none h5]at ht
 cases ht
theorem own:ownKnob Tryz.prog.godebug=none:=by kernel_rfl
theorem lifted (os:Os) (started:os.Started) (H:Type) (enc:TypeId×Value->H):
 ReturnsInHanded {} Tryz.checked os 3 .any (fun w args=>(Rows.topThimbleBraidsSpec.pre enc Tryz.prog Tryz.f3 Rows.topThimbleBraidsRow.domain false w args/\laidMetH Tryz.prog Rows.topThimbleBraidsRow.laid w)/\sizedMet enc Tryz.prog Tryz.f3 (OpenSpec.ofChange Rows.topThimbleBraidsSpec) false w args)
  (Rows.topThimbleBraidsSpec.post enc Tryz.prog Tryz.f3 false true false false):=by
 refine returnsInHanded_of_change_and (C:=Tryz.checked) (X:=fun w _=>laidMetH Tryz.prog Rows.topThimbleBraidsRow.laid w) (fun _ _ _ hh h=>h.of_heap hh) own started (by kernel_rfl) Tryz.func3
  (ChangeSpec.witness_shaped (enc:=enc) (C:=Tryz.checked) (os:=os) (X:=fun w _=>laidMetH Tryz.prog Rows.topThimbleBraidsRow.laid w) false (World.laidAll Tryz.prog os Rows.topThimbleBraidsRow.laid) #[.int .i64 0,.slice none 0 0,.slice none 0 0] 8 (World.laidAll_os _ _ _)
   (World.shaped_of_ZipB (by kernel_rfl) (by kernel_rfl)) (by kernel_rfl) (by kernel_rfl) (by kernel_rfl)
   (by rw[MakeChecks.laidMetH_plain _ _ _ (by kernel_rfl)];exact laidMet_laidAll _ (by kernel_rfl) (by kernel_rfl))) ?_
 intro W base args ds gs before hval hW _ _ hL _
 exact contract H enc W base args ds gs before hval hW (qp3 hL)
theorem factA:Tryz.pinned.checked.prog.funcNamed Rows.topThimbleBraidsRow.func=some 3:=by kernel_rfl
theorem fact0:(Rows.topThimbleBraidsRow.wf (OpenSpec.ofChange Rows.topThimbleBraidsSpec))=true:=by kernel_rfl
theorem fact1:(laidOutB Tryz.pinned.checked.prog)=true:=by kernel_rfl
theorem fact2:(mapsRowed Tryz.pinned.checked.prog)=true:=by kernel_rfl
theorem fact3:(Tryz.f3.params.all (Tryz.pinned.checked.prog.readableRec ·))=true:=by kernel_rfl
theorem fact4:(namedTie Tryz.pinned.checked.prog Rows.topThimbleBraidsRow.named Rows.topThimbleBraidsSpec.vars)=true:=by kernel_rfl
theorem fact5:((Rows.topThimbleBraidsRow.stops==[]))=true:=by kernel_rfl
theorem fact6:((Tryz.pinned.checked.prog.stops==[]))=true:=by kernel_rfl
theorem fact7:((Rows.topThimbleBraidsRow.knobs==[]))=true:=by kernel_rfl
theorem fact8:((Tryz.pinned.checked.prog.stopKnobs==[]))=true:=by kernel_rfl
theorem fact9:((Rows.topThimbleBraidsRow.inPlace==Tryz.pinned.checked.prog.inPlace 3))=true:=by kernel_rfl
theorem qsc:((Rows.topThimbleBraidsRow.unfollowed==Tryz.pinned.checked.prog.unfollowed 3))=true:=by kernel_rfl
theorem qsd:((Rows.topThimbleBraidsRow.recurses==Tryz.pinned.checked.prog.recurses 3))=true:=by kernel_rfl
theorem qrO:((Rows.topThimbleBraidsRow.named==Tryz.pinned.checked.prog.varsNamed 3))=true:=by kernel_rfl
theorem qr9:((Rows.topThimbleBraidsRow.maps==(Tryz.f3.params.toList++Rows.topThimbleBraidsSpec.plain.varTypes Tryz.pinned.checked.prog).any (Tryz.pinned.checked.prog.mapsRec ·)))=true:=by kernel_rfl
theorem qrM:((Rows.topThimbleBraidsRow.ifaces==(Tryz.f3.params.toList++Rows.topThimbleBraidsSpec.plain.varTypes Tryz.pinned.checked.prog).any (Tryz.pinned.checked.prog.ifacesRec ·)))=true:=by kernel_rfl
theorem qsf:((Rows.topThimbleBraidsRow.mapsOut==Tryz.pinned.checked.prog.mapsAmong Tryz.f3.resultTypes.toList))=true:=by kernel_rfl
theorem qr7:((Rows.topThimbleBraidsRow.loops==(Tryz.f3.params.toList++Rows.topThimbleBraidsSpec.plain.varTypes Tryz.pinned.checked.prog).any (Tryz.pinned.checked.prog.loopsFrom ·)))=true:=by kernel_rfl
theorem qrR:((Rows.topThimbleBraidsRow.wideKeys==(Tryz.f3.params.toList++Rows.topThimbleBraidsSpec.plain.varTypes Tryz.pinned.checked.prog++Tryz.f3.resultTypes.toList).any (Tryz.pinned.checked.prog.wideKeysFrom ·)))=true:=by kernel_rfl
theorem qrP:(Rows.topThimbleBraidsSpec.vars.all (Tryz.pinned.checked.prog.varReadable ·))=true:=by kernel_rfl
theorem qsg:(Tryz.f3.resultTypes.all (fun t=>Tryz.pinned.checked.prog.readableRec t&&decide (t<Tryz.pinned.checked.prog.types.size)))=true:=by kernel_rfl
theorem qr0:((Rows.topThimbleBraidsRow.ifacesOut==Tryz.f3.resultTypes.toList.any (Tryz.pinned.checked.prog.ifacesRec ·)))=true:=by kernel_rfl
theorem qsq:((Rows.topThimbleBraidsRow.loopsOut==Tryz.f3.resultTypes.toList.any (Tryz.pinned.checked.prog.loopsFrom ·)))=true:=by kernel_rfl
theorem qsj:((Rows.topThimbleBraidsRow.plainKeys==Tryz.pinned.checked.prog.plainKeys))=true:=by kernel_rfl
theorem qr4:(Rows.topThimbleBraidsRow.shortTexts.isNone)=true:=by kernel_rfl
theorem qsi:(Tryz.pinned.checked.prog.stopsHeard)=true:=by kernel_rfl
theorem qrW:(Tryz.pinned.checked.prog.mayEnter)=true:=by kernel_rfl
theorem qr6:((Rows.topThimbleBraidsRow.lifted==Tryz.pinned.checked.prog.liftsFinal))=true:=by kernel_rfl
theorem qsb:((Tryz.pinned.checked.prog.make==some Rows.topThimbleBraidsRow.make))=true:=by kernel_rfl
theorem qrH:((Rows.topThimbleBraidsRow.kinds==(if Rows.topThimbleBraidsRow.domain.isEmpty then[]else Tryz.f3.params.toList.map fun t=>match Tryz.pinned.checked.prog.underlying t with|some (.int k)=>some k|_=>none)))=true:=by kernel_rfl
theorem qrQ:((Rows.topThimbleBraidsRow.pinned==Rows.topThimbleBraidsRow.pinnedBy))=true:=by kernel_rfl
theorem qso:((Rows.topThimbleBraidsRow.veiled==(Tryz.f3.params.toList++Rows.topThimbleBraidsSpec.plain.varTypes Tryz.pinned.checked.prog++Tryz.f3.resultTypes.toList).any (Tryz.pinned.checked.prog.veiledRec ·)))=true:=by kernel_rfl
theorem qr3:(Rows.topThimbleBraidsRow.veiledFits Tryz.pinned.checked.prog Tryz.f3.params.toList (Tryz.f3.params.toList++Rows.topThimbleBraidsSpec.plain.varTypes Tryz.pinned.checked.prog++Tryz.f3.resultTypes.toList))=true:=by kernel_rfl
theorem factB:joinedFacts Tryz.pinned.checked.prog 3 Tryz.f3 Rows.topThimbleBraidsSpec Rows.topThimbleBraidsRow=true:=by
 unfold joinedFacts
 exact(qbB (qbB (qbB (qbB (qbB (qbB (qbB (qbB (qbB (qbB (qbB (qbB (qbB (qbB (qbB (qbB (qbB (qbB (qbB (qbB (qbB (qbB (qbB (qbB (qbB (qbB (qbB (qbB (qbB (qbB (qbB fact0 fact1) fact2) fact3) fact4) fact5) fact6) fact7) fact8) fact9) qsc) qsd) qrO) qr9) qrM) qsf) qr7) qrR) qrP) qsg) qr0) qsq) qsj) qr4) qsi) qrW) qr6) qsb) qrH) qrQ) qso) qr3)
theorem factC:Tryz.f3.isInstance Tryz.pinned.checked.prog Rows.topThimbleBraidsRow.origin Rows.topThimbleBraidsRow.targs:=of_decide_eq_true (by kernel_rfl)
theorem factD:Tryz.f3.isWrapper Tryz.pinned.checked.prog Rows.topThimbleBraidsRow.wrapper Rows.topThimbleBraidsRow.mainSum:=by unfold Func.isWrapper;first|(rw[if_pos (by decide+kernel)];kernel_rfl)|(rw[if_neg (by decide+kernel)];exact⟨rfl,rfl⟩)
theorem said:Rows.TopThimbleBraidsSaid:=
 OpenClaim.holds_of_wide 3 Tryz.f3 rfl rfl rfl rfl rfl rfl rfl ⟨rfl,rfl,rfl,rfl,rfl⟩ rfl rfl rfl rfl rfl factA Tryz.func3 factB factC factD
  (fun os started H enc _=>lifted os started H enc)
theorem qrT:Tryz.pinned.checked.prog.wantsStandIn 3=false:=by kernel_rfl
theorem qm2:Tryz.pinned.checked.prog.wantsStandIn 22=false:=by kernel_rfl
theorem qsa:false=Tryz.pinned.checked.prog.looks []:=by kernel_rfl
theorem plain (f:FuncId) (fn:Func) (hf:Tryz.pinned.checked.prog.funcNamed "becket/beckettop.TopThimbleBraids" =some f) (hfn:Tryz.pinned.checked.prog.funcs[f]? =some fn):
 false=Tryz.pinned.checked.prog.looks []/\ ∀(j:Nat) t,fn.params[j]? =some t->Tryz.pinned.checked.prog.wantsStandIn t=false:=by
 obtain rfl:f=3:=Ye ((show Tryz.prog.funcNamed "becket/beckettop.TopThimbleBraids" =some 3 by kernel_rfl).symm.trans hf)|>.symm
 obtain rfl:fn=Tryz.f3:=(Ye (Tryz.func3.symm.trans hfn)).symm
 refine⟨qsa,fun j t ht=>?_⟩
 rw[Tryz.params3]at ht
 have ht:t=3\/t=22\/t=22:=by have:=Array.mem_of_getElem? ht;simpa using this
 rcases ht with rfl|rfl|rfl
 ·exact qrT
 ·exact qm2
 exact qm2
theorem card:Rows.TopThimbleBraidsCardSaid:=
 Claim7.holds_tied_plain_at .later [] _ _ _ _ said (fun _ h=>by cases h) (by kernel_rfl) (fun _ h=>by cases h) topThimbleBraids_row_tie rfl ⟨rfl,rfl⟩ (by kernel_rfl) rfl plain (by kernel_rfl)
end Go.Av
namespace Go.Proofs.YtcgpgmdcfcncpaaGreatDoor
theorem topThimbleBraids_holds:Rows.TopThimbleBraidsCardSaid:=Go.Av.card
end Go.Proofs.YtcgpgmdcfcncpaaGreatDoor
