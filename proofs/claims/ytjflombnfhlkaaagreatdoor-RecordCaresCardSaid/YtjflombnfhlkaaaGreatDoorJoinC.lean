/-
  It is proved that RecordCares returns true for all inputs. Conditions: those of the given row alone (the listed package variables hold what the program's text lays).
-/
import Derived.Test.YtjflombnfhlkaaaGreatDoorPlC12
import Derived.Test.YtjflombnfhlkaaaGreatDoorAvIn
import Derived.Test.YtjflombnfhlkaaaGreatDoorAvAwk10
import Derived.Test.YtjflombnfhlkaaaGreatDoorCards
import Derived.Test.YtjflombnfhlkaaaGreatDoorTie
import Derived.Lay
import Derived.LaidMore
import Derived.LaidSub
import Derived.SevenTiedAt
import Derived.Stop.Joined
import Derived.Lib.LaidTab
import Derived.Lib.ItoaNum
noncomputable section
namespace Go.Av
open Go.Proofs Go.Proofs.YtjflombnfhlkaaaGreatDoor
open Go.ChangeShapes Go.WideShapes Go.ChangeAt Go.RowKit
set_option linter.unusedSectionVars false
set_option maxRecDepth 100000
theorem ud22 : Tryz.prog.underlying 22 = some (.slice 26) := by kernel_rfl
theorem ud9 : Tryz.prog.underlying 9 = some (.string) := by kernel_rfl
theorem rd9 : jk Tryz.prog 9 encS := jk.str ud9
theorem ud24 : Tryz.prog.underlying 24 = some (.slice 3) := by kernel_rfl
theorem ud3 : Tryz.prog.underlying 3 = some (.int .i64) := by kernel_rfl
theorem rd3 : jk Tryz.prog 3 encI := jk.i64 ud3
theorem rd24 : jk Tryz.prog 24 (qgL encI) := jk.list ud24 (by kernel_rfl) rd3
theorem ud23 : Tryz.prog.underlying 23 = some (.slice 9) := by kernel_rfl
theorem rd23 : jk Tryz.prog 23 (qgL encS) := jk.list ud23 (by kernel_rfl) rd9
theorem ud26 : Tryz.prog.underlying 26 = some (.struct #[{ name := "Number", type := 3, offset := 0, embedded := false, tag := "", pkgPath := "", byteOffset := 0 }, { name := "Kind", type := 9, offset := 1, embedded := false, tag := "", pkgPath := "", byteOffset := 8 }, { name := "Names", type := 23, offset := 2, embedded := false, tag := "", pkgPath := "", byteOffset := 24 }, { name := "Values", type := 24, offset := 3, embedded := false, tag := "", pkgPath := "", byteOffset := 48 }, { name := "Text", type := 9, offset := 4, embedded := false, tag := "", pkgPath := "", byteOffset := 72 }]) := by kernel_rfl
theorem rd26 : jk Tryz.prog 26 qb := yV.struct (fl := [{ name := "Number", type := 3, offset := 0, embedded := false, tag := "", pkgPath := "", byteOffset := 0 }, { name := "Kind", type := 9, offset := 1, embedded := false, tag := "", pkgPath := "", byteOffset := 8 }, { name := "Names", type := 23, offset := 2, embedded := false, tag := "", pkgPath := "", byteOffset := 24 }, { name := "Values", type := 24, offset := 3, embedded := false, tag := "", pkgPath := "", byteOffset := 48 }, { name := "Text", type := 9, offset := 4, embedded := false, tag := "", pkgPath := "", byteOffset := 72 }]) ud26 rfl (by kernel_rfl) (fun (x0, x1, x2, x3, x4) => (⟨x0, x1, x2, x3, x4⟩ : ql)) (fun _ => rfl) (yV.cons rfl (by kernel_rfl) rd3 (yV.cons rfl (by kernel_rfl) rd9 (yV.cons rfl (by kernel_rfl) rd23 (yV.cons rfl (by kernel_rfl) rd24 (yV.last rfl (by kernel_rfl) rd9)))))
theorem tyB : Tryz.prog.underlying 4 = some .bool := by kernel_rfl
theorem laidOut : laidOutB Tryz.prog = true := by kernel_rfl
theorem contract (H : Type) (enc : TypeId × Value → H) (W : World) (base : Nat) (args : Array Value) (ds gs : List (DataW H)) (before : List MemPlace)
    (hval : ∀ (j : Nat) t v, Tryz.f8.params[j]? = some t → args[j]? = some v → Value.okWide Tryz.prog W .any base t v)
    (hW : DataW.Whole enc Tryz.prog Tryz.f8.params.toList Rows.recordCaresSpec.vars false W args.toList ds gs before) (hG : Glob.G (AllOf W) W) :
    Calls Tryz.prog 8 args W fun e W' => ∃ v, e = .returned v ∧ Rows.recordCaresSpec.post enc Tryz.prog Tryz.f8 false true false false W args v W' := by
  have hW' := hW
  obtain ⟨p, q, hA0, hV, rfl, hfz, hnd⟩ := hW
  have r0 : DataW.TrodAll enc Tryz.prog W 0 (fun _ => true) true Tryz.f8.params.toList args.toList ds p := hA0
  rw [Tryz.params8] at r0 hval
  obtain ⟨v0, vs0, d0, ds0, p0, q0, hargs, rfl, rfl, h0, r1⟩ := trodAll_cons r0
  obtain ⟨v1, vs1, d1, ds1, p1, q1, rfl, rfl, rfl, h1, r2⟩ := trodAll_cons r1
  obtain ⟨v2, vs2, d2, ds2, p2, q2, rfl, rfl, rfl, h2, r3⟩ := trodAll_cons r2
  obtain ⟨rfl, rfl, rfl⟩ := trodAll_nil r3
  obtain rfl : args = #[v0, v1, v2] := by cases args; simp_all
  obtain ⟨a0, hu0⟩ := In.list ud22 (by kernel_rfl) rd26 (hval 0 22 v0 rfl rfl) h0
  obtain ⟨a1, hu1⟩ := In.str ud9 (hval 1 9 v1 rfl rfl)
  obtain ⟨a2, hu2⟩ := In.i64 ud3 (hval 2 3 v2 rfl rfl)
  refine qg6 laidOut (fun t ht => ?_) rfl (show Tryz.f8.resultTypes = #[4] from rfl) tyB (fun ds hds => ?_) hW' (enters_of (by kernel_rfl)) (qa8 3000 a0 a1 a2 (qct a0 a1 a2)) hG (al := [vl qb a0, .str a1, .int .i64 a2]) ⟨rfl, fun i a v ha hv => ?_⟩
  · rw [Tryz.params8] at ht
    have ht : t = 22 ∨ t = 9 ∨ t = 3 := by simpa using ht
    rcases ht with rfl | rfl | rfl
    · exact ⟨by kernel_rfl, of_decide_eq_true (by kernel_rfl)⟩
    · exact ⟨by kernel_rfl, of_decide_eq_true (by kernel_rfl)⟩
    · exact ⟨by kernel_rfl, of_decide_eq_true (by kernel_rfl)⟩
  · rw [Tryz.params8] at hds
    match ds, hds with
    | [d1, d2, d3], _ => exact ⟨rfl, rfl, rfl⟩
  · match i with
    | 0 => simp at ha hv; subst ha hv; exact hu0
    | 1 => simp at ha hv; subst ha hv; exact hu1
    | 2 => simp at ha hv; subst ha hv; exact hu2
    | i + 3 => simp at ha
theorem qhN {W : World} (h : laidMetH Tryz.prog Rows.recordCaresRow.laid W) : Glob.G (AllOf W) W := by
  have h1 := h.filter fun x => x.1 == qaA
  have e : (Rows.recordCaresRow.laid.filter fun x => x.1 == qaA) = [(qaA, Lib.tabData .u64 Lib.pow10Tab)] := by kernel_rfl
  rw [e] at h1
  have h2 : laidMet Tryz.prog [(qaA, Lib.tabData .u64 Lib.pow10Tab)] W := by
    rw [MakeChecks.laidMetH_plain _ _ _ (by kernel_rfl)] at h1
    exact h1
  have ht : Lib.TabIs Tryz.prog W qaA .u64 Lib.pow10Tab :=
    Lib.tabIs_of_head (rest := []) (t := 329) (e := 274) (n := 20) qcR (by kernel_rfl) (by kernel_rfl) (by kernel_rfl) (by kernel_rfl) (by kernel_rfl) h2
  refine ⟨?_, ht⟩
  unfold Lib.TabIs World.var? at ht
  rw [qcR] at ht
  simp only [Option.bind_some] at ht
  show 3 < W.heap.size
  rcases Nat.lt_or_ge 3 W.heap.size with h5 | h5
  · exact h5
  · rw [Array.getElem?_eq_none h5] at ht
    cases ht
theorem own : ownKnob Tryz.prog.godebug = none := by kernel_rfl
theorem lifted (os : Os) (started : os.Started) (H : Type) (enc : TypeId × Value → H) :
    ReturnsInHanded {} Tryz.checked os 8 .any (fun w args => (Rows.recordCaresSpec.pre enc Tryz.prog Tryz.f8 Rows.recordCaresRow.domain false w args ∧ laidMetH Tryz.prog Rows.recordCaresRow.laid w) ∧ sizedMet enc Tryz.prog Tryz.f8 (OpenSpec.ofChange Rows.recordCaresSpec) false w args)
      (Rows.recordCaresSpec.post enc Tryz.prog Tryz.f8 false true false false) := by
  refine returnsInHanded_of_change_and (C := Tryz.checked) (X := fun w _ => laidMetH Tryz.prog Rows.recordCaresRow.laid w) (fun _ _ _ hh h => h.of_heap hh) own started (by kernel_rfl) Tryz.func8
    (ChangeSpec.witness_shaped (enc := enc) (C := Tryz.checked) (os := os) (X := fun w _ => laidMetH Tryz.prog Rows.recordCaresRow.laid w) false (World.laidAll Tryz.prog os Rows.recordCaresRow.laid) #[.slice none 0 0, .string ⟨#[]⟩, .int .i64 0] 8 (World.laidAll_os _ _ _)
      (World.shaped_of_ZipB (by kernel_rfl) (by kernel_rfl)) (by kernel_rfl) (by kernel_rfl) (by kernel_rfl)
      (by rw [MakeChecks.laidMetH_plain _ _ _ (by kernel_rfl)]; exact laidMet_laidAll _ (by kernel_rfl) (by kernel_rfl))) ?_
  intro W base args ds gs before hval hW _ _ hL _
  exact contract H enc W base args ds gs before hval hW (qhN hL)
theorem factA : Tryz.pinned.checked.prog.funcNamed Rows.recordCaresRow.func = some 8 := by kernel_rfl
theorem fact0 : (Rows.recordCaresRow.wf (OpenSpec.ofChange Rows.recordCaresSpec)) = true := by kernel_rfl
theorem fact1 : (laidOutB Tryz.pinned.checked.prog) = true := by kernel_rfl
theorem fact2 : (mapsRowed Tryz.pinned.checked.prog) = true := by kernel_rfl
theorem fact3 : (Tryz.f8.params.all (Tryz.pinned.checked.prog.readableRec ·)) = true := by kernel_rfl
theorem fact4 : (namedTie Tryz.pinned.checked.prog Rows.recordCaresRow.named Rows.recordCaresSpec.vars) = true := by kernel_rfl
theorem fact5 : ((Rows.recordCaresRow.stops == [])) = true := by kernel_rfl
theorem fact6 : ((Tryz.pinned.checked.prog.stops == [])) = true := by kernel_rfl
theorem fact7 : ((Rows.recordCaresRow.knobs == [])) = true := by kernel_rfl
theorem fact8 : ((Tryz.pinned.checked.prog.stopKnobs == [])) = true := by kernel_rfl
theorem fact9 : ((Rows.recordCaresRow.inPlace == Tryz.pinned.checked.prog.inPlace 8)) = true := by kernel_rfl
theorem qjL : ((Rows.recordCaresRow.unfollowed == Tryz.pinned.checked.prog.unfollowed 8)) = true := by kernel_rfl
theorem qki : ((Rows.recordCaresRow.recurses == Tryz.pinned.checked.prog.recurses 8)) = true := by kernel_rfl
theorem qj8 : ((Rows.recordCaresRow.named == Tryz.pinned.checked.prog.varsNamed 8)) = true := by kernel_rfl
theorem qjE : ((Rows.recordCaresRow.maps == (Tryz.f8.params.toList ++ Rows.recordCaresSpec.plain.varTypes Tryz.pinned.checked.prog).any (Tryz.pinned.checked.prog.mapsRec ·))) = true := by kernel_rfl
theorem qj0 : ((Rows.recordCaresRow.ifaces == (Tryz.f8.params.toList ++ Rows.recordCaresSpec.plain.varTypes Tryz.pinned.checked.prog).any (Tryz.pinned.checked.prog.ifacesRec ·))) = true := by kernel_rfl
theorem qjU : ((Rows.recordCaresRow.mapsOut == Tryz.pinned.checked.prog.mapsAmong Tryz.f8.resultTypes.toList)) = true := by kernel_rfl
theorem qkj : ((Rows.recordCaresRow.loops == (Tryz.f8.params.toList ++ Rows.recordCaresSpec.plain.varTypes Tryz.pinned.checked.prog).any (Tryz.pinned.checked.prog.loopsFrom ·))) = true := by kernel_rfl
theorem qkg : ((Rows.recordCaresRow.wideKeys == (Tryz.f8.params.toList ++ Rows.recordCaresSpec.plain.varTypes Tryz.pinned.checked.prog ++ Tryz.f8.resultTypes.toList).any (Tryz.pinned.checked.prog.wideKeysFrom ·))) = true := by kernel_rfl
theorem qjJ : (Rows.recordCaresSpec.vars.all (Tryz.pinned.checked.prog.varReadable ·)) = true := by kernel_rfl
theorem qka : (Tryz.f8.resultTypes.all (fun t => Tryz.pinned.checked.prog.readableRec t && decide (t < Tryz.pinned.checked.prog.types.size))) = true := by kernel_rfl
theorem qjI : ((Rows.recordCaresRow.ifacesOut == Tryz.f8.resultTypes.toList.any (Tryz.pinned.checked.prog.ifacesRec ·))) = true := by kernel_rfl
theorem qkf : ((Rows.recordCaresRow.loopsOut == Tryz.f8.resultTypes.toList.any (Tryz.pinned.checked.prog.loopsFrom ·))) = true := by kernel_rfl
theorem qkc : ((Rows.recordCaresRow.plainKeys == Tryz.pinned.checked.prog.plainKeys)) = true := by kernel_rfl
theorem qjQ : (Rows.recordCaresRow.shortTexts.isNone) = true := by kernel_rfl
theorem qjG : (Tryz.pinned.checked.prog.stopsHeard) = true := by kernel_rfl
theorem qkd : (Tryz.pinned.checked.prog.mayEnter) = true := by kernel_rfl
theorem qj5 : ((Rows.recordCaresRow.lifted == Tryz.pinned.checked.prog.liftsFinal)) = true := by kernel_rfl
theorem qjV : ((Tryz.pinned.checked.prog.make == some Rows.recordCaresRow.make)) = true := by kernel_rfl
theorem qjR : ((Rows.recordCaresRow.kinds == (if Rows.recordCaresRow.domain.isEmpty then [] else Tryz.f8.params.toList.map fun t => match Tryz.pinned.checked.prog.underlying t with | some (.int k) => some k | _ => none))) = true := by kernel_rfl
theorem qj6 : ((Rows.recordCaresRow.pinned == Rows.recordCaresRow.pinnedBy)) = true := by kernel_rfl
theorem qjT : ((Rows.recordCaresRow.veiled == (Tryz.f8.params.toList ++ Rows.recordCaresSpec.plain.varTypes Tryz.pinned.checked.prog ++ Tryz.f8.resultTypes.toList).any (Tryz.pinned.checked.prog.veiledRec ·))) = true := by kernel_rfl
theorem qjM : (Rows.recordCaresRow.veiledFits Tryz.pinned.checked.prog Tryz.f8.params.toList (Tryz.f8.params.toList ++ Rows.recordCaresSpec.plain.varTypes Tryz.pinned.checked.prog ++ Tryz.f8.resultTypes.toList)) = true := by kernel_rfl
theorem factB : joinedFacts Tryz.pinned.checked.prog 8 Tryz.f8 Rows.recordCaresSpec Rows.recordCaresRow = true := by
  unfold joinedFacts
  exact (yA (yA (yA (yA (yA (yA (yA (yA (yA (yA (yA (yA (yA (yA (yA (yA (yA (yA (yA (yA (yA (yA (yA (yA (yA (yA (yA (yA (yA (yA (yA fact0 fact1) fact2) fact3) fact4) fact5) fact6) fact7) fact8) fact9) qjL) qki) qj8) qjE) qj0) qjU) qkj) qkg) qjJ) qka) qjI) qkf) qkc) qjQ) qjG) qkd) qj5) qjV) qjR) qj6) qjT) qjM)
theorem factC : Tryz.f8.isInstance Tryz.pinned.checked.prog Rows.recordCaresRow.origin Rows.recordCaresRow.targs := of_decide_eq_true (by kernel_rfl)
theorem factD : Tryz.f8.isWrapper Tryz.pinned.checked.prog Rows.recordCaresRow.wrapper Rows.recordCaresRow.mainSum := by unfold Func.isWrapper; first | (rw [if_pos (by decide +kernel)]; kernel_rfl) | (rw [if_neg (by decide +kernel)]; exact ⟨rfl, rfl⟩)
theorem said : Rows.RecordCaresSaid :=
  OpenClaim.holds_of_wide 8 Tryz.f8 rfl rfl rfl rfl rfl rfl rfl ⟨rfl, rfl, rfl, rfl, rfl⟩ rfl rfl rfl rfl rfl factA Tryz.func8 factB factC factD
    (fun os started H enc _ => lifted os started H enc)
theorem qjO : Tryz.pinned.checked.prog.wantsStandIn 3 = false := by kernel_rfl
theorem qjD : Tryz.pinned.checked.prog.wantsStandIn 9 = false := by kernel_rfl
theorem qi8 : Tryz.pinned.checked.prog.wantsStandIn 22 = false := by kernel_rfl
theorem qjF : true = Tryz.pinned.checked.prog.looks [] := by kernel_rfl
theorem plain (f : FuncId) (fn : Func) (hf : Tryz.pinned.checked.prog.funcNamed "becket/becketlaw10.RecordCares" = some f) (hfn : Tryz.pinned.checked.prog.funcs[f]? = some fn) :
    true = Tryz.pinned.checked.prog.looks [] ∧ ∀ (j : Nat) t, fn.params[j]? = some t → Tryz.pinned.checked.prog.wantsStandIn t = false := by
  obtain rfl : f = 8 := Option.some.inj ((show Tryz.prog.funcNamed "becket/becketlaw10.RecordCares" = some 8 by kernel_rfl).symm.trans hf) |>.symm
  obtain rfl : fn = Tryz.f8 := (Option.some.inj (Tryz.func8.symm.trans hfn)).symm
  refine ⟨qjF, fun j t ht => ?_⟩
  rw [Tryz.params8] at ht
  have ht : t = 22 ∨ t = 9 ∨ t = 3 := by have := Array.mem_of_getElem? ht; simpa using this
  rcases ht with rfl | rfl | rfl
  · exact qi8
  · exact qjD
  · exact qjO
theorem card : Rows.RecordCaresCardSaid :=
  Claim7.holds_tied_plain_at .later [] _ _ _ _ said (fun _ h => by cases h) (by kernel_rfl) (fun _ h => by cases h) recordCares_row_tie rfl ⟨rfl, rfl⟩ (by kernel_rfl) rfl plain (by kernel_rfl)
end Go.Av
namespace Go.Proofs.YtjflombnfhlkaaaGreatDoor
theorem recordCares_holds : Rows.RecordCaresCardSaid := Go.Av.card
end Go.Proofs.YtjflombnfhlkaaaGreatDoor
