/-
  It is proved that NumberDeals returns true for all inputs. Conditions: those of the given row alone (the listed package variables hold what the program's text lays).
-/
import Derived.Test.YtcioalhpchindaaGreatDoorGenD
import Derived.Test.YtcioalhpchindaaGreatDoorPlN7
import Derived.Test.YtcioalhpchindaaGreatDoorAvIn
import Derived.Test.YtcioalhpchindaaGreatDoorAvAwk01r
import Derived.Test.YtcioalhpchindaaGreatDoorCards
import Derived.Test.YtcioalhpchindaaGreatDoorTie
import Derived.Lay
import Derived.LaidMore
import Derived.LaidSub
import Derived.SevenTiedAt
import Derived.Stop.Joined
import Derived.Lib.LaidTab
import Derived.Lib.ItoaNum
noncomputable section
namespace Go.Av
open Go.Proofs Go.Proofs.YtcioalhpchindaaGreatDoor
open Go.ChangeShapes Go.WideShapes Go.ChangeAt Go.RowKit
set_option linter.unusedSectionVars false
set_option maxRecDepth 100000
theorem ud3:Tryz.prog.underlying 3=some (.int .i64):=by kernel_rfl
theorem ud22:Tryz.prog.underlying 22=some (.slice 3):=by kernel_rfl
theorem rd3:zJ Tryz.prog 3 encI:=zJ.i64 ud3
theorem tyB:Tryz.prog.underlying 4=some .bool:=by kernel_rfl
theorem laidOut:laidOutB Tryz.prog=true:=by kernel_rfl
theorem contract (H:Type) (enc:TypeId×Value→H) (W:World) (base:Nat) (args:Array Value) (ds gs:List (DataW H)) (before:List MemPlace)
 (hval: ∀(j:Nat) t v,Tryz.f5.params[j]? =some t→args[j]? =some v→Value.okWide Tryz.prog W .any base t v)
 (hW:DataW.Whole enc Tryz.prog Tryz.f5.params.toList Rows.numberDealsSpec.vars false W args.toList ds gs before) (hG:Glob.G (AllOf W) W):
 Calls Tryz.prog 5 args W fun e W'=> ∃v,e= .returned v∧Rows.numberDealsSpec.post enc Tryz.prog Tryz.f5 false true false false W args v W':=by
 have hW':=hW
 obtain⟨p,q,hA0,hV,rfl,hfz,hnd⟩:=hW
 have r0:DataW.TrodAll enc Tryz.prog W 0 (fun _=>true) true Tryz.f5.params.toList args.toList ds p:=hA0
 rw[Tryz.params5]at r0 hval
 obtain⟨v0,vs0,d0,ds0,p0,q0,hargs,rfl,rfl,h0,r1⟩:=trodAll_cons r0
 obtain⟨v1,vs1,d1,ds1,p1,q1,rfl,rfl,rfl,h1,r2⟩:=trodAll_cons r1
 obtain⟨v2,vs2,d2,ds2,p2,q2,rfl,rfl,rfl,h2,r3⟩:=trodAll_cons r2
 obtain⟨rfl,rfl,rfl⟩:=trodAll_nil r3
 obtain rfl:args=#[v0,v1,v2]:=by cases args;simp_all
 obtain⟨a0,hu0⟩:=In.i64 ud3 (hval 0 3 v0 rfl rfl)
 obtain⟨a1,hu1⟩:=In.list ud22 (by kernel_rfl) rd3 (hval 1 22 v1 rfl rfl) h1
 obtain⟨a2,hu2⟩:=In.i64 ud3 (hval 2 3 v2 rfl rfl)
 refine qdb laidOut (fun t ht=>?_) rfl (show Tryz.f5.resultTypes=#[4]from rfl) tyB (fun ds hds=>?_) hW' (enters_of (by kernel_rfl)) (vT 3000 a0 a1 a2 (xg (N:=3000) (by decide) a0 a1 a2)) hG (al:=[.int .i64 a0,vl encI a1,.int .i64 a2]) ⟨rfl,fun i a v ha hv=>?_⟩
 ·rw[Tryz.params5]at ht
  have ht:t=3∨t=22∨t=3:=by simpa using ht
  rcases ht with rfl|rfl|rfl
  ·exact⟨by kernel_rfl,of_decide_eq_true (by kernel_rfl)⟩
  ·exact⟨by kernel_rfl,of_decide_eq_true (by kernel_rfl)⟩
  ·exact⟨by kernel_rfl,of_decide_eq_true (by kernel_rfl)⟩
 ·rw[Tryz.params5]at hds
  match ds,hds with
  |[d1,d2,d3],_=>exact⟨rfl,rfl,rfl⟩
 ·match i with
  |0=>simp at ha hv;subst ha hv;exact hu0
  |1=>simp at ha hv;subst ha hv;exact hu1
  |2=>simp at ha hv;subst ha hv;exact hu2
  |i+3=>simp at ha
theorem qeK {W:World} (h:laidMetH Tryz.prog Rows.numberDealsRow.laid W):Glob.G (AllOf W) W:=by
 have h1:=h.filter fun x=>x.1==j6
 have e:(Rows.numberDealsRow.laid.filter fun x=>x.1==j6)=[(j6,Lib.tabData .u64 Lib.pow10Tab)]:=by kernel_rfl
 rw[e]at h1
 have h2:laidMet Tryz.prog [(j6,Lib.tabData .u64 Lib.pow10Tab)] W:=by
  rw[MakeChecks.laidMetH_plain _ _ _ (by kernel_rfl)]at h1
  exact h1
 have ht:Lib.TabIs Tryz.prog W j6 .u64 Lib.pow10Tab:=
  Lib.tabIs_of_head (rest:=[]) (t:=262) (e:=188) (n:=20) xx (by kernel_rfl) (by kernel_rfl) (by kernel_rfl) (by kernel_rfl) (by kernel_rfl) h2
 refine⟨?_,ht⟩
 unfold Lib.TabIs World.var? at ht
 rw[xx]at ht
 simp only[Option.bind_some]at ht
 show 5<W.heap.size
 rcases Nat.lt_or_ge 5 W.heap.size with h5|h5
 ·exact h5
 ·rw[Array.getElem?_eq_none h5]at ht
  cases ht
theorem own:ownKnob Tryz.prog.godebug=none:=by kernel_rfl
theorem lifted (os:Os) (started:os.Started) (H:Type) (enc:TypeId×Value→H):
 ReturnsInHanded {} Tryz.checked os 5 .any (fun w args=>(Rows.numberDealsSpec.pre enc Tryz.prog Tryz.f5 Rows.numberDealsRow.domain false w args∧laidMetH Tryz.prog Rows.numberDealsRow.laid w)∧sizedMet enc Tryz.prog Tryz.f5 (OpenSpec.ofChange Rows.numberDealsSpec) false w args)
  (Rows.numberDealsSpec.post enc Tryz.prog Tryz.f5 false true false false):=by
 refine returnsInHanded_of_change_and (C:=Tryz.checked) (X:=fun w _=>laidMetH Tryz.prog Rows.numberDealsRow.laid w) (fun _ _ _ hh h=>h.of_heap hh) own started (by kernel_rfl) Tryz.func5
  (ChangeSpec.witness_shaped (enc:=enc) (C:=Tryz.checked) (os:=os) (X:=fun w _=>laidMetH Tryz.prog Rows.numberDealsRow.laid w) false (World.laidAll Tryz.prog os Rows.numberDealsRow.laid) #[.int .i64 0,.slice none 0 0,.int .i64 0] 8 (World.laidAll_os _ _ _)
   (World.shaped_of_ZipB (by kernel_rfl) (by kernel_rfl)) (by kernel_rfl) (by kernel_rfl) (by kernel_rfl)
   (by rw[MakeChecks.laidMetH_plain _ _ _ (by kernel_rfl)];exact laidMet_laidAll _ (by kernel_rfl) (by kernel_rfl))) ?_
 intro W base args ds gs before hval hW _ _ hL _
 exact contract H enc W base args ds gs before hval hW (qeK hL)
theorem factA:Tryz.pinned.checked.prog.funcNamed Rows.numberDealsRow.func=some 5:=by kernel_rfl
theorem fact0:(Rows.numberDealsRow.wf (OpenSpec.ofChange Rows.numberDealsSpec))=true:=by kernel_rfl
theorem fact1:(laidOutB Tryz.pinned.checked.prog)=true:=by kernel_rfl
theorem fact2:(mapsRowed Tryz.pinned.checked.prog)=true:=by kernel_rfl
theorem fact3:(Tryz.f5.params.all (Tryz.pinned.checked.prog.readableRec ·))=true:=by kernel_rfl
theorem fact4:(namedTie Tryz.pinned.checked.prog Rows.numberDealsRow.named Rows.numberDealsSpec.vars)=true:=by kernel_rfl
theorem fact5:((Rows.numberDealsRow.stops==[]))=true:=by kernel_rfl
theorem fact6:((Tryz.pinned.checked.prog.stops==[]))=true:=by kernel_rfl
theorem fact7:((Rows.numberDealsRow.knobs==[]))=true:=by kernel_rfl
theorem fact8:((Tryz.pinned.checked.prog.stopKnobs==[]))=true:=by kernel_rfl
theorem fact9:((Rows.numberDealsRow.inPlace==Tryz.pinned.checked.prog.inPlace 5))=true:=by kernel_rfl
theorem qf9:((Rows.numberDealsRow.unfollowed==Tryz.pinned.checked.prog.unfollowed 5))=true:=by kernel_rfl
theorem qga:((Rows.numberDealsRow.recurses==Tryz.pinned.checked.prog.recurses 5))=true:=by kernel_rfl
theorem qfH:((Rows.numberDealsRow.named==Tryz.pinned.checked.prog.varsNamed 5))=true:=by kernel_rfl
theorem qfY:((Rows.numberDealsRow.maps==(Tryz.f5.params.toList++Rows.numberDealsSpec.plain.varTypes Tryz.pinned.checked.prog).any (Tryz.pinned.checked.prog.mapsRec ·)))=true:=by kernel_rfl
theorem qgg:((Rows.numberDealsRow.ifaces==(Tryz.f5.params.toList++Rows.numberDealsSpec.plain.varTypes Tryz.pinned.checked.prog).any (Tryz.pinned.checked.prog.ifacesRec ·)))=true:=by kernel_rfl
theorem qgf:((Rows.numberDealsRow.mapsOut==Tryz.pinned.checked.prog.mapsAmong Tryz.f5.resultTypes.toList))=true:=by kernel_rfl
theorem qgd:((Rows.numberDealsRow.loops==(Tryz.f5.params.toList++Rows.numberDealsSpec.plain.varTypes Tryz.pinned.checked.prog).any (Tryz.pinned.checked.prog.loopsFrom ·)))=true:=by kernel_rfl
theorem qfG:((Rows.numberDealsRow.wideKeys==(Tryz.f5.params.toList++Rows.numberDealsSpec.plain.varTypes Tryz.pinned.checked.prog++Tryz.f5.resultTypes.toList).any (Tryz.pinned.checked.prog.wideKeysFrom ·)))=true:=by kernel_rfl
theorem qf0:(Rows.numberDealsSpec.vars.all (Tryz.pinned.checked.prog.varReadable ·))=true:=by kernel_rfl
theorem qf7:(Tryz.f5.resultTypes.all (fun t=>Tryz.pinned.checked.prog.readableRec t&&decide (t<Tryz.pinned.checked.prog.types.size)))=true:=by kernel_rfl
theorem qf1:((Rows.numberDealsRow.ifacesOut==Tryz.f5.resultTypes.toList.any (Tryz.pinned.checked.prog.ifacesRec ·)))=true:=by kernel_rfl
theorem qfW:((Rows.numberDealsRow.loopsOut==Tryz.f5.resultTypes.toList.any (Tryz.pinned.checked.prog.loopsFrom ·)))=true:=by kernel_rfl
theorem qge:((Rows.numberDealsRow.plainKeys==Tryz.pinned.checked.prog.plainKeys))=true:=by kernel_rfl
theorem qf6:(Rows.numberDealsRow.shortTexts.isNone)=true:=by kernel_rfl
theorem qf4:(Tryz.pinned.checked.prog.stopsHeard)=true:=by kernel_rfl
theorem qfS:(Tryz.pinned.checked.prog.mayEnter)=true:=by kernel_rfl
theorem qfO:((Rows.numberDealsRow.lifted==Tryz.pinned.checked.prog.liftsFinal))=true:=by kernel_rfl
theorem qfQ:((Tryz.pinned.checked.prog.make==some Rows.numberDealsRow.make))=true:=by kernel_rfl
theorem qgb:((Rows.numberDealsRow.kinds==(if Rows.numberDealsRow.domain.isEmpty then[]else Tryz.f5.params.toList.map fun t=>match Tryz.pinned.checked.prog.underlying t with|some (.int k)=>some k|_=>none)))=true:=by kernel_rfl
theorem qfV:((Rows.numberDealsRow.pinned==Rows.numberDealsRow.pinnedBy))=true:=by kernel_rfl
theorem qf3:((Rows.numberDealsRow.veiled==(Tryz.f5.params.toList++Rows.numberDealsSpec.plain.varTypes Tryz.pinned.checked.prog++Tryz.f5.resultTypes.toList).any (Tryz.pinned.checked.prog.veiledRec ·)))=true:=by kernel_rfl
theorem qf8:(Rows.numberDealsRow.veiledFits Tryz.pinned.checked.prog Tryz.f5.params.toList (Tryz.f5.params.toList++Rows.numberDealsSpec.plain.varTypes Tryz.pinned.checked.prog++Tryz.f5.resultTypes.toList))=true:=by kernel_rfl
theorem factB:joinedFacts Tryz.pinned.checked.prog 5 Tryz.f5 Rows.numberDealsSpec Rows.numberDealsRow=true:=by
 unfold joinedFacts
 exact(zZ (zZ (zZ (zZ (zZ (zZ (zZ (zZ (zZ (zZ (zZ (zZ (zZ (zZ (zZ (zZ (zZ (zZ (zZ (zZ (zZ (zZ (zZ (zZ (zZ (zZ (zZ (zZ (zZ (zZ (zZ fact0 fact1) fact2) fact3) fact4) fact5) fact6) fact7) fact8) fact9) qf9) qga) qfH) qfY) qgg) qgf) qgd) qfG) qf0) qf7) qf1) qfW) qge) qf6) qf4) qfS) qfO) qfQ) qgb) qfV) qf3) qf8)
theorem factC:Tryz.f5.isInstance Tryz.pinned.checked.prog Rows.numberDealsRow.origin Rows.numberDealsRow.targs:=of_decide_eq_true (by kernel_rfl)
theorem factD:Tryz.f5.isWrapper Tryz.pinned.checked.prog Rows.numberDealsRow.wrapper Rows.numberDealsRow.mainSum:=by unfold Func.isWrapper;first|(rw[if_pos (by decide+kernel)];kernel_rfl)|(rw[if_neg (by decide+kernel)];exact⟨rfl,rfl⟩)
theorem said:Rows.NumberDealsSaid:=
 OpenClaim.holds_of_wide 5 Tryz.f5 rfl rfl rfl rfl rfl rfl rfl ⟨rfl,rfl,rfl,rfl,rfl⟩ rfl rfl rfl rfl rfl factA Tryz.func5 factB factC factD
  (fun os started H enc _=>lifted os started H enc)
theorem qd1:Tryz.pinned.checked.prog.wantsStandIn 3=false:=by kernel_rfl
theorem qff:Tryz.pinned.checked.prog.wantsStandIn 22=false:=by kernel_rfl
theorem qfK:true=Tryz.pinned.checked.prog.looks []:=by kernel_rfl
theorem plain (f:FuncId) (fn:Func) (hf:Tryz.pinned.checked.prog.funcNamed "becket/becketlaw01.NumberDeals" =some f) (hfn:Tryz.pinned.checked.prog.funcs[f]? =some fn):
 true=Tryz.pinned.checked.prog.looks []∧ ∀(j:Nat) t,fn.params[j]? =some t→Tryz.pinned.checked.prog.wantsStandIn t=false:=by
 obtain rfl:f=5:=Option.some.inj ((show Tryz.prog.funcNamed "becket/becketlaw01.NumberDeals" =some 5 by kernel_rfl).symm.trans hf)|>.symm
 obtain rfl:fn=Tryz.f5:=(Option.some.inj (Tryz.func5.symm.trans hfn)).symm
 refine⟨qfK,fun j t ht=>?_⟩
 rw[Tryz.params5]at ht
 have ht:t=3∨t=22∨t=3:=by have:=Array.mem_of_getElem? ht;simpa using this
 rcases ht with rfl|rfl|rfl
 ·exact qd1
 ·exact qff
 ·exact qd1
theorem card:Rows.NumberDealsCardSaid:=
 Claim7.holds_tied_plain_at .later [] _ _ _ _ said (fun _ h=>by cases h) (by kernel_rfl) (fun _ h=>by cases h) numberDeals_row_tie rfl ⟨rfl,rfl⟩ (by kernel_rfl) rfl plain (by kernel_rfl)
end Go.Av
namespace Go.Proofs.YtcioalhpchindaaGreatDoor
theorem numberDeals_holds:Rows.NumberDealsCardSaid:=Go.Av.card
end Go.Proofs.YtcioalhpchindaaGreatDoor
