/-
  NumberPerms: from the walk to the statement.
-/
import Derived.Test.YtkjgcmachachaaaGreatDoorAvSymD
import Derived.Test.YtkjgcmachachaaaGreatDoorAvEnd
import Derived.Test.YtkjgcmachachaaaGreatDoorCards
import Derived.Test.YtkjgcmachachaaaGreatDoorTie
noncomputable section
namespace Go.Av
open Go.Proofs Go.Proofs.YtkjgcmachachaaaGreatDoor
open Go.ChangeShapes Go.WideShapes Go.ChangeAt Go.RowKit
set_option linter.unusedSectionVars false
set_option maxRecDepth 100000
variable [Glob]

/-- A list of integers that came in. -/
theorem R_ints {H : Type} {enc : TypeId × Value → H} {P : Program} {W : World} {t e : TypeId} {v : Value} {d : DataW H} {p : List MemPlace} {base : Nat} (ht : P.underlying t = some (.slice e)) (he : P.underlying e = some (.int .i64)) (hc : P.cellsOf e = 1)
    (hval : Value.okWide P W .any base t v) (h : DataW.Trod enc P W 0 (fun _ => true) true t v d p) : ∃ ns : List Int, R (AllOf W) (fun _ => none) W (iS ns) v := by
  obtain ⟨a0, len, cap, rfl⟩ := okWide_slice ht hval
  obtain ⟨fuel, hf⟩ := h
  rcases open_ints ht he hc hf with ⟨hcs, hx⟩ | ⟨a, len', cap', zs, hcs, _, hl, hm, hz, hx, hcell, hwz⟩
  · simp [Value.cells] at hcs
    obtain ⟨rfl, rfl, rfl⟩ := hcs
    exact ⟨[], .fslice0 _ _⟩
  · simp [Value.cells] at hcs
    obtain ⟨rfl, rfl, rfl⟩ := hcs
    simp only [if_true] at hz
    by_cases h0 : len = 0
    · subst h0
      exact ⟨[], .fslice0 _ _⟩
    · have hlz : len ≤ zs.length := by omega
      have hlen : (zs.take len).length = len := by simp; omega
      refine ⟨zs.take len, ?_⟩
      have hb : a.block < W.heap.size := by
        have := hcell 0 (by omega)
        have := World.block_lt_of_cell? _ _ this
        rwa [add_block] at this
      have := R.fslice (F := AllOf W) (nu := fun _ => none) (w := W) len (iL (zs.take len)) a cap ((zs.take len).map (Value.int .i64)) hl hb (by simp [iL]) (fun i v hv => ?_) (fun i b v hb hv => ?_)
      · unfold iS
        rw [hlen]
        exact this
      · rw [List.getElem?_map] at hv
        cases hi : (zs.take len)[i]? with
        | none => rw [hi] at hv; simp at hv
        | some z =>
          rw [hi] at hv
          simp only [Option.map_some, Option.some.injEq] at hv
          subst hv
          have hil : i < zs.length := by
            have := (List.getElem?_eq_some_iff.1 hi).1
            simp at this
            omega
          have hz2 : zs.getD i 0 = z := by
            have : i < len := by
              have := (List.getElem?_eq_some_iff.1 hi).1
              simp at this
              omega
            rw [List.getElem?_take_of_lt this] at hi
            rw [List.getD_eq_getElem?_getD, hi]
            rfl
          rw [hcell i hil, hz2]
      · unfold iL at hb
        rw [List.getElem?_map] at hb hv
        cases hi : (zs.take len)[i]? with
        | none => rw [hi] at hb; simp at hb
        | some z =>
          rw [hi] at hb hv
          simp only [Option.map_some, Option.some.injEq] at hb hv
          subst hb hv
          exact .int _ _

theorem cells3 : Tryz.prog.cellsOf 3 = 1 := by kernel_rfl
theorem ty4 : Tryz.prog.underlying 4 = some .bool := by kernel_rfl
theorem laidOut : laidOutB Tryz.prog = true := by kernel_rfl

/-- THE LAW, at every input. -/
theorem contract (hA : Awake) (H : Type) (enc : TypeId × Value → H) (W : World) (base : Nat) (args : Array Value) (ds gs : List (DataW H)) (before : List MemPlace)
    (hval : ∀ (j : Nat) t v, Tryz.f3.params[j]? = some t → args[j]? = some v → Value.okWide Tryz.prog W .any base t v)
    (hW : DataW.Whole enc Tryz.prog Tryz.f3.params.toList Rows.numberPermsSpec.vars false W args.toList ds gs before) (hG : Glob.G (AllOf W) W) :
    Calls Tryz.prog 3 args W fun e W' => ∃ v, e = .returned v ∧ Rows.numberPermsSpec.post enc Tryz.prog Tryz.f3 false true false false W args v W' := by
  have hW' := hW
  obtain ⟨p, q, hA0, hV, rfl, hfz, hnd⟩ := hW
  have hA1 : DataW.TrodAll enc Tryz.prog W 0 (fun _ => true) true Tryz.f3.params.toList args.toList ds p := hA0
  rw [Tryz.params3] at hA1 hval
  obtain ⟨v0, vs0, d0, ds0, p0, q0, hargs, rfl, rfl, h0, r0⟩ := trodAll_cons hA1
  obtain ⟨v1, vs1, d1, ds1, p1, q1, rfl, rfl, rfl, h1, r1⟩ := trodAll_cons r0
  obtain ⟨rfl, rfl, rfl⟩ := trodAll_nil r1
  obtain rfl : args = #[v0, v1] := by cases args; simp_all
  obtain ⟨us, hu⟩ := R_ints ty22 ty3 cells3 (hval 0 22 v0 rfl rfl) h0
  obtain ⟨qs, hq⟩ := R_ints ty22 ty3 cells3 (hval 1 22 v1 rfl rfl) h1
  refine law_calls laidOut (fun t ht => ?_) rfl (show Tryz.f3.resultTypes = #[4] from rfl) ty4 (fun ds hds => ?_) hW' (enters_of (by kernel_rfl)) (perms3 hA us qs) hG ⟨rfl, fun i a v ha hv => ?_⟩
  · rw [Tryz.params3] at ht
    have : t = 22 := by simpa using ht
    subst this
    exact ⟨by kernel_rfl, of_decide_eq_true (by kernel_rfl)⟩
  · rw [Tryz.params3] at hds
    match ds, hds with
    | [d1, d2], _ => exact ⟨rfl, rfl, rfl⟩
  · match i with
    | 0 => simp at ha hv; subst ha hv; exact hu
    | 1 => simp at ha hv; subst ha hv; exact hq
    | i + 2 => simp at ha
end Go.Av
