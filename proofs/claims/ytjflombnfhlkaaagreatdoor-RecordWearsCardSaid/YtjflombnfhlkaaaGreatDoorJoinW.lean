/-
  It is proved that RecordWears returns true for all inputs. Conditions: those of the given row alone (the listed package variables hold what the program's text lays).
-/
import Derived.Test.YtjflombnfhlkaaaGreatDoorPwB
import Derived.Test.YtjflombnfhlkaaaGreatDoorAvIn
import Derived.Test.YtjflombnfhlkaaaGreatDoorAvAwk10
import Derived.Test.YtjflombnfhlkaaaGreatDoorCards
import Derived.Test.YtjflombnfhlkaaaGreatDoorTie
import Derived.Lay
import Derived.LaidMore
import Derived.LaidSub
import Derived.SevenTiedAt
import Derived.Stop.Joined
import Derived.Lib.LaidTab
import Derived.Lib.ItoaNum
noncomputable section
namespace Go.Av
open Go.Proofs Go.Proofs.YtjflombnfhlkaaaGreatDoor
open Go.ChangeShapes Go.WideShapes Go.ChangeAt Go.RowKit
set_option linter.unusedSectionVars false
set_option maxRecDepth 100000
theorem ud22 : Tryz.prog.underlying 22 = some (.slice 26) := by kernel_rfl
theorem ud9 : Tryz.prog.underlying 9 = some (.string) := by kernel_rfl
theorem rd9 : jd Tryz.prog 9 encS := jd.str ud9
theorem ud24 : Tryz.prog.underlying 24 = some (.slice 3) := by kernel_rfl
theorem ud3 : Tryz.prog.underlying 3 = some (.int .i64) := by kernel_rfl
theorem rd3 : jd Tryz.prog 3 encI := jd.i64 ud3
theorem rd24 : jd Tryz.prog 24 (qgm encI) := jd.list ud24 (by kernel_rfl) rd3
theorem ud23 : Tryz.prog.underlying 23 = some (.slice 9) := by kernel_rfl
theorem rd23 : jd Tryz.prog 23 (qgm encS) := jd.list ud23 (by kernel_rfl) rd9
theorem ud26 : Tryz.prog.underlying 26 = some (.struct #[{ name := "Number", type := 3, offset := 0, embedded := false, tag := "", pkgPath := "", byteOffset := 0 }, { name := "Kind", type := 9, offset := 1, embedded := false, tag := "", pkgPath := "", byteOffset := 8 }, { name := "Names", type := 23, offset := 2, embedded := false, tag := "", pkgPath := "", byteOffset := 24 }, { name := "Values", type := 24, offset := 3, embedded := false, tag := "", pkgPath := "", byteOffset := 48 }, { name := "Text", type := 9, offset := 4, embedded := false, tag := "", pkgPath := "", byteOffset := 72 }]) := by kernel_rfl
theorem rd26 : jd Tryz.prog 26 qb := yT.struct (fl := [{ name := "Number", type := 3, offset := 0, embedded := false, tag := "", pkgPath := "", byteOffset := 0 }, { name := "Kind", type := 9, offset := 1, embedded := false, tag := "", pkgPath := "", byteOffset := 8 }, { name := "Names", type := 23, offset := 2, embedded := false, tag := "", pkgPath := "", byteOffset := 24 }, { name := "Values", type := 24, offset := 3, embedded := false, tag := "", pkgPath := "", byteOffset := 48 }, { name := "Text", type := 9, offset := 4, embedded := false, tag := "", pkgPath := "", byteOffset := 72 }]) ud26 rfl (by kernel_rfl) (fun (x0, x1, x2, x3, x4) => (⟨x0, x1, x2, x3, x4⟩ : ql)) (fun _ => rfl) (yT.cons rfl (by kernel_rfl) rd3 (yT.cons rfl (by kernel_rfl) rd9 (yT.cons rfl (by kernel_rfl) rd23 (yT.cons rfl (by kernel_rfl) rd24 (yT.last rfl (by kernel_rfl) rd9)))))
theorem tyB : Tryz.prog.underlying 4 = some .bool := by kernel_rfl
theorem laidOut : laidOutB Tryz.prog = true := by kernel_rfl
theorem contract (H : Type) (enc : TypeId × Value → H) (W : World) (base : Nat) (args : Array Value) (ds gs : List (DataW H)) (before : List MemPlace)
    (hval : ∀ (j : Nat) t v, Tryz.f5.params[j]? = some t → args[j]? = some v → Value.okWide Tryz.prog W .any base t v)
    (hW : DataW.Whole enc Tryz.prog Tryz.f5.params.toList Rows.recordWearsSpec.vars false W args.toList ds gs before) (hG : Glob.G (AllOf W) W) :
    Calls Tryz.prog 5 args W fun e W' => ∃ v, e = .returned v ∧ Rows.recordWearsSpec.post enc Tryz.prog Tryz.f5 false true false false W args v W' := by
  have hW' := hW
  obtain ⟨p, q, hA0, hV, rfl, hfz, hnd⟩ := hW
  have r0 : DataW.TrodAll enc Tryz.prog W 0 (fun _ => true) true Tryz.f5.params.toList args.toList ds p := hA0
  rw [Tryz.params5] at r0 hval
  obtain ⟨v0, vs0, d0, ds0, p0, q0, hargs, rfl, rfl, h0, r1⟩ := trodAll_cons r0
  obtain ⟨v1, vs1, d1, ds1, p1, q1, rfl, rfl, rfl, h1, r2⟩ := trodAll_cons r1
  obtain ⟨rfl, rfl, rfl⟩ := trodAll_nil r2
  obtain rfl : args = #[v0, v1] := by cases args; simp_all
  obtain ⟨a0, hu0⟩ := In.list ud22 (by kernel_rfl) rd26 (hval 0 22 v0 rfl rfl) h0
  obtain ⟨a1, hu1⟩ := In.i64 ud3 (hval 1 3 v1 rfl rfl)
  refine qhg laidOut (fun t ht => ?_) rfl (show Tryz.f5.resultTypes = #[4] from rfl) tyB (fun ds hds => ?_) hW' (enters_of (by kernel_rfl)) (qa5 3000 a0 a1 (qb2 a0 a1)) hG (al := [vl qb a0, .int .i64 a1]) ⟨rfl, fun i a v ha hv => ?_⟩
  · rw [Tryz.params5] at ht
    have ht : t = 22 ∨ t = 3 := by simpa using ht
    rcases ht with rfl | rfl
    · exact ⟨by kernel_rfl, of_decide_eq_true (by kernel_rfl)⟩
    · exact ⟨by kernel_rfl, of_decide_eq_true (by kernel_rfl)⟩
  · rw [Tryz.params5] at hds
    match ds, hds with
    | [d1, d2], _ => exact ⟨rfl, rfl, rfl⟩
  · match i with
    | 0 => simp at ha hv; subst ha hv; exact hu0
    | 1 => simp at ha hv; subst ha hv; exact hu1
    | i + 2 => simp at ha
theorem qhz {W : World} (h : laidMetH Tryz.prog Rows.recordWearsRow.laid W) : Glob.G (AllOf W) W := by
  have h1 := h.filter fun x => x.1 == qay
  have e : (Rows.recordWearsRow.laid.filter fun x => x.1 == qay) = [(qay, Lib.tabData .u64 Lib.pow10Tab)] := by kernel_rfl
  rw [e] at h1
  have h2 : laidMet Tryz.prog [(qay, Lib.tabData .u64 Lib.pow10Tab)] W := by
    rw [MakeChecks.laidMetH_plain _ _ _ (by kernel_rfl)] at h1
    exact h1
  have ht : Lib.TabIs Tryz.prog W qay .u64 Lib.pow10Tab :=
    Lib.tabIs_of_head (rest := []) (t := 329) (e := 274) (n := 20) qcl (by kernel_rfl) (by kernel_rfl) (by kernel_rfl) (by kernel_rfl) (by kernel_rfl) h2
  refine ⟨?_, ht⟩
  unfold Lib.TabIs World.var? at ht
  rw [qcl] at ht
  simp only [Option.bind_some] at ht
  show 3 < W.heap.size
  rcases Nat.lt_or_ge 3 W.heap.size with h5 | h5
  · exact h5
  · rw [Array.getElem?_eq_none h5] at ht
    cases ht
theorem own : ownKnob Tryz.prog.godebug = none := by kernel_rfl
theorem lifted (os : Os) (started : os.Started) (H : Type) (enc : TypeId × Value → H) :
    ReturnsInHanded {} Tryz.checked os 5 .any (fun w args => (Rows.recordWearsSpec.pre enc Tryz.prog Tryz.f5 Rows.recordWearsRow.domain false w args ∧ laidMetH Tryz.prog Rows.recordWearsRow.laid w) ∧ sizedMet enc Tryz.prog Tryz.f5 (OpenSpec.ofChange Rows.recordWearsSpec) false w args)
      (Rows.recordWearsSpec.post enc Tryz.prog Tryz.f5 false true false false) := by
  refine returnsInHanded_of_change_and (C := Tryz.checked) (X := fun w _ => laidMetH Tryz.prog Rows.recordWearsRow.laid w) (fun _ _ _ hh h => h.of_heap hh) own started (by kernel_rfl) Tryz.func5
    (ChangeSpec.witness_shaped (enc := enc) (C := Tryz.checked) (os := os) (X := fun w _ => laidMetH Tryz.prog Rows.recordWearsRow.laid w) false (World.laidAll Tryz.prog os Rows.recordWearsRow.laid) #[.slice none 0 0, .int .i64 0] 8 (World.laidAll_os _ _ _)
      (World.shaped_of_ZipB (by kernel_rfl) (by kernel_rfl)) (by kernel_rfl) (by kernel_rfl) (by kernel_rfl)
      (by rw [MakeChecks.laidMetH_plain _ _ _ (by kernel_rfl)]; exact laidMet_laidAll _ (by kernel_rfl) (by kernel_rfl))) ?_
  intro W base args ds gs before hval hW _ _ hL _
  exact contract H enc W base args ds gs before hval hW (qhz hL)
theorem factA : Tryz.pinned.checked.prog.funcNamed Rows.recordWearsRow.func = some 5 := by kernel_rfl
theorem fact0 : (Rows.recordWearsRow.wf (OpenSpec.ofChange Rows.recordWearsSpec)) = true := by kernel_rfl
theorem fact1 : (laidOutB Tryz.pinned.checked.prog) = true := by kernel_rfl
theorem fact2 : (mapsRowed Tryz.pinned.checked.prog) = true := by kernel_rfl
theorem fact3 : (Tryz.f5.params.all (Tryz.pinned.checked.prog.readableRec ·)) = true := by kernel_rfl
theorem fact4 : (namedTie Tryz.pinned.checked.prog Rows.recordWearsRow.named Rows.recordWearsSpec.vars) = true := by kernel_rfl
theorem fact5 : ((Rows.recordWearsRow.stops == [])) = true := by kernel_rfl
theorem fact6 : ((Tryz.pinned.checked.prog.stops == [])) = true := by kernel_rfl
theorem fact7 : ((Rows.recordWearsRow.knobs == [])) = true := by kernel_rfl
theorem fact8 : ((Tryz.pinned.checked.prog.stopKnobs == [])) = true := by kernel_rfl
theorem fact9 : ((Rows.recordWearsRow.inPlace == Tryz.pinned.checked.prog.inPlace 5)) = true := by kernel_rfl
theorem qjQ : ((Rows.recordWearsRow.unfollowed == Tryz.pinned.checked.prog.unfollowed 5)) = true := by kernel_rfl
theorem qjF : ((Rows.recordWearsRow.recurses == Tryz.pinned.checked.prog.recurses 5)) = true := by kernel_rfl
theorem qjI : ((Rows.recordWearsRow.named == Tryz.pinned.checked.prog.varsNamed 5)) = true := by kernel_rfl
theorem qjL : ((Rows.recordWearsRow.maps == (Tryz.f5.params.toList ++ Rows.recordWearsSpec.plain.varTypes Tryz.pinned.checked.prog).any (Tryz.pinned.checked.prog.mapsRec ·))) = true := by kernel_rfl
theorem qjZ : ((Rows.recordWearsRow.ifaces == (Tryz.f5.params.toList ++ Rows.recordWearsSpec.plain.varTypes Tryz.pinned.checked.prog).any (Tryz.pinned.checked.prog.ifacesRec ·))) = true := by kernel_rfl
theorem qj0 : ((Rows.recordWearsRow.mapsOut == Tryz.pinned.checked.prog.mapsAmong Tryz.f5.resultTypes.toList)) = true := by kernel_rfl
theorem qjR : ((Rows.recordWearsRow.loops == (Tryz.f5.params.toList ++ Rows.recordWearsSpec.plain.varTypes Tryz.pinned.checked.prog).any (Tryz.pinned.checked.prog.loopsFrom ·))) = true := by kernel_rfl
theorem qj4 : ((Rows.recordWearsRow.wideKeys == (Tryz.f5.params.toList ++ Rows.recordWearsSpec.plain.varTypes Tryz.pinned.checked.prog ++ Tryz.f5.resultTypes.toList).any (Tryz.pinned.checked.prog.wideKeysFrom ·))) = true := by kernel_rfl
theorem qjT : (Rows.recordWearsSpec.vars.all (Tryz.pinned.checked.prog.varReadable ·)) = true := by kernel_rfl
theorem qjt : (Tryz.f5.resultTypes.all (fun t => Tryz.pinned.checked.prog.readableRec t && decide (t < Tryz.pinned.checked.prog.types.size))) = true := by kernel_rfl
theorem qjx : ((Rows.recordWearsRow.ifacesOut == Tryz.f5.resultTypes.toList.any (Tryz.pinned.checked.prog.ifacesRec ·))) = true := by kernel_rfl
theorem qj3 : ((Rows.recordWearsRow.loopsOut == Tryz.f5.resultTypes.toList.any (Tryz.pinned.checked.prog.loopsFrom ·))) = true := by kernel_rfl
theorem qjY : ((Rows.recordWearsRow.plainKeys == Tryz.pinned.checked.prog.plainKeys)) = true := by kernel_rfl
theorem qjK : (Rows.recordWearsRow.shortTexts.isNone) = true := by kernel_rfl
theorem qj7 : (Tryz.pinned.checked.prog.stopsHeard) = true := by kernel_rfl
theorem qjH : (Tryz.pinned.checked.prog.mayEnter) = true := by kernel_rfl
theorem qjX : ((Rows.recordWearsRow.lifted == Tryz.pinned.checked.prog.liftsFinal)) = true := by kernel_rfl
theorem qj8 : ((Tryz.pinned.checked.prog.make == some Rows.recordWearsRow.make)) = true := by kernel_rfl
theorem qjD : ((Rows.recordWearsRow.kinds == (if Rows.recordWearsRow.domain.isEmpty then [] else Tryz.f5.params.toList.map fun t => match Tryz.pinned.checked.prog.underlying t with | some (.int k) => some k | _ => none))) = true := by kernel_rfl
theorem qjE : ((Rows.recordWearsRow.pinned == Rows.recordWearsRow.pinnedBy)) = true := by kernel_rfl
theorem qjy : ((Rows.recordWearsRow.veiled == (Tryz.f5.params.toList ++ Rows.recordWearsSpec.plain.varTypes Tryz.pinned.checked.prog ++ Tryz.f5.resultTypes.toList).any (Tryz.pinned.checked.prog.veiledRec ·))) = true := by kernel_rfl
theorem qj5 : (Rows.recordWearsRow.veiledFits Tryz.pinned.checked.prog Tryz.f5.params.toList (Tryz.f5.params.toList ++ Rows.recordWearsSpec.plain.varTypes Tryz.pinned.checked.prog ++ Tryz.f5.resultTypes.toList)) = true := by kernel_rfl
theorem factB : joinedFacts Tryz.pinned.checked.prog 5 Tryz.f5 Rows.recordWearsSpec Rows.recordWearsRow = true := by
  unfold joinedFacts
  exact (yf (yf (yf (yf (yf (yf (yf (yf (yf (yf (yf (yf (yf (yf (yf (yf (yf (yf (yf (yf (yf (yf (yf (yf (yf (yf (yf (yf (yf (yf (yf fact0 fact1) fact2) fact3) fact4) fact5) fact6) fact7) fact8) fact9) qjQ) qjF) qjI) qjL) qjZ) qj0) qjR) qj4) qjT) qjt) qjx) qj3) qjY) qjK) qj7) qjH) qjX) qj8) qjD) qjE) qjy) qj5)
theorem factC : Tryz.f5.isInstance Tryz.pinned.checked.prog Rows.recordWearsRow.origin Rows.recordWearsRow.targs := of_decide_eq_true (by kernel_rfl)
theorem factD : Tryz.f5.isWrapper Tryz.pinned.checked.prog Rows.recordWearsRow.wrapper Rows.recordWearsRow.mainSum := by unfold Func.isWrapper; first | (rw [if_pos (by decide +kernel)]; kernel_rfl) | (rw [if_neg (by decide +kernel)]; exact ⟨rfl, rfl⟩)
theorem said : Rows.RecordWearsSaid :=
  OpenClaim.holds_of_wide 5 Tryz.f5 rfl rfl rfl rfl rfl rfl rfl ⟨rfl, rfl, rfl, rfl, rfl⟩ rfl rfl rfl rfl rfl factA Tryz.func5 factB factC factD
    (fun os started H enc _ => lifted os started H enc)
theorem qjv : Tryz.pinned.checked.prog.wantsStandIn 3 = false := by kernel_rfl
theorem qjd : Tryz.pinned.checked.prog.wantsStandIn 22 = false := by kernel_rfl
theorem qjM : true = Tryz.pinned.checked.prog.looks [] := by kernel_rfl
theorem plain (f : FuncId) (fn : Func) (hf : Tryz.pinned.checked.prog.funcNamed "becket/becketlaw10.RecordWears" = some f) (hfn : Tryz.pinned.checked.prog.funcs[f]? = some fn) :
    true = Tryz.pinned.checked.prog.looks [] ∧ ∀ (j : Nat) t, fn.params[j]? = some t → Tryz.pinned.checked.prog.wantsStandIn t = false := by
  obtain rfl : f = 5 := Option.some.inj ((show Tryz.prog.funcNamed "becket/becketlaw10.RecordWears" = some 5 by kernel_rfl).symm.trans hf) |>.symm
  obtain rfl : fn = Tryz.f5 := (Option.some.inj (Tryz.func5.symm.trans hfn)).symm
  refine ⟨qjM, fun j t ht => ?_⟩
  rw [Tryz.params5] at ht
  have ht : t = 22 ∨ t = 3 := by have := Array.mem_of_getElem? ht; simpa using this
  rcases ht with rfl | rfl
  · exact qjd
  · exact qjv
theorem card : Rows.RecordWearsCardSaid :=
  Claim7.holds_tied_plain_at .later [] _ _ _ _ said (fun _ h => by cases h) (by kernel_rfl) (fun _ h => by cases h) recordWears_row_tie rfl ⟨rfl, rfl⟩ (by kernel_rfl) rfl plain (by kernel_rfl)
end Go.Av
namespace Go.Proofs.YtjflombnfhlkaaaGreatDoor
theorem recordWears_holds : Rows.RecordWearsCardSaid := Go.Av.card
end Go.Proofs.YtjflombnfhlkaaaGreatDoor
