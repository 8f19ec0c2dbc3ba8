/-
  NumberPerms: the statement, from awake.
-/
import Derived.Test.YtkjgcmachachaaaGreatDoorAvSymE
import Derived.Lay
import Derived.LaidMore
import Derived.LaidSub
import Derived.SevenTiedAt
import Derived.Stop.Joined
import Derived.Lib.LaidTab
import Derived.Lib.ItoaNum
import Derived.Shelf.Strconv.Itoa3
import Derived.Test.YtkjgcmachachaaaGreatDoorAvPrimB
noncomputable section
namespace Go.Av
open Go.Proofs Go.Proofs.YtkjgcmachachaaaGreatDoor
open Go.ChangeShapes Go.WideShapes Go.ChangeAt Go.RowKit
set_option linter.unusedSectionVars false
set_option maxRecDepth 100000

theorem glob_all {W : World} (h : laidMetH Tryz.prog Rows.numberPermsRow.laid W) : Glob.G (AllOf W) W := by
  have h1 := h.filter fun x => x.1 == powName
  have e : (Rows.numberPermsRow.laid.filter fun x => x.1 == powName) = [(powName, Lib.tabData .u64 Lib.pow10Tab)] := by kernel_rfl
  rw [e] at h1
  have h2 : laidMet Tryz.prog [(powName, Lib.tabData .u64 Lib.pow10Tab)] W := by
    rw [MakeChecks.laidMetH_plain _ _ _ (by kernel_rfl)] at h1
    exact h1
  have ht : Lib.TabIs Tryz.prog W powName .u64 Lib.pow10Tab :=
    Lib.tabIs_of_head (rest := []) (t := 225) (e := 163) (n := 20) pow_named (by kernel_rfl) (by kernel_rfl) (by kernel_rfl) (by kernel_rfl) (by kernel_rfl) h2
  refine ⟨?_, ht⟩
  unfold Lib.TabIs World.var? at ht
  rw [pow_named] at ht
  simp only [Option.bind_some] at ht
  show 5 < W.heap.size
  rcases Nat.lt_or_ge 5 W.heap.size with h5 | h5
  · exact h5
  · rw [Array.getElem?_eq_none h5] at ht
    cases ht

theorem own : ownKnob Tryz.prog.godebug = none := by kernel_rfl

set_option maxRecDepth 100000 in
theorem lifted (hA : Awake) (os : Os) (started : os.Started) (H : Type) (enc : TypeId × Value → H) :
    ReturnsInHanded {} Tryz.checked os 3 .any (fun w args => (Rows.numberPermsSpec.pre enc Tryz.prog Tryz.f3 Rows.numberPermsRow.domain false w args ∧ laidMetH Tryz.prog Rows.numberPermsRow.laid w) ∧ sizedMet enc Tryz.prog Tryz.f3 (OpenSpec.ofChange Rows.numberPermsSpec) false w args)
      (Rows.numberPermsSpec.post enc Tryz.prog Tryz.f3 false true false false) := by
  refine returnsInHanded_of_change_and (C := Tryz.checked) (X := fun w _ => laidMetH Tryz.prog Rows.numberPermsRow.laid w) (fun _ _ _ hh h => h.of_heap hh) own started (by kernel_rfl) Tryz.func3
    (ChangeSpec.witness_shaped (enc := enc) (C := Tryz.checked) (os := os) (X := fun w _ => laidMetH Tryz.prog Rows.numberPermsRow.laid w) false (World.laidAll Tryz.prog os Rows.numberPermsRow.laid) #[.slice none 0 0, .slice none 0 0] 8 (World.laidAll_os _ _ _)
      (World.shaped_of_ZipB (by kernel_rfl) (by kernel_rfl)) (by kernel_rfl) (by kernel_rfl) (by kernel_rfl)
      (by rw [MakeChecks.laidMetH_plain _ _ _ (by kernel_rfl)]; exact laidMet_laidAll _ (by kernel_rfl) (by kernel_rfl))) ?_
  intro W base args ds gs before hval hW _ _ hL _
  exact contract hA H enc W base args ds gs before hval hW (glob_all hL)

theorem said (hA : Awake) : Rows.NumberPermsSaid :=
  OpenClaim.holds_of_wide 3 Tryz.f3 rfl rfl rfl rfl rfl rfl rfl ⟨rfl, rfl, rfl, rfl, rfl⟩ rfl rfl rfl rfl rfl (by kernel_rfl) Tryz.func3 (by kernel_rfl)
    (of_decide_eq_true (by kernel_rfl)) (by unfold Func.isWrapper; first | (rw [if_pos (by decide +kernel)]; kernel_rfl) | (rw [if_neg (by decide +kernel)]; exact ⟨rfl, rfl⟩))
    (fun os started H enc _ => lifted hA os started H enc)

/-- No parameter wants a stand-in; the program's own looks are off. -/
theorem plain (f : FuncId) (fn : Func) (hf : Tryz.pinned.checked.prog.funcNamed "becket/becketlaw01.NumberPerms" = some f) (hfn : Tryz.pinned.checked.prog.funcs[f]? = some fn) :
    true = Tryz.pinned.checked.prog.looks [] ∧ ∀ (j : Nat) t, fn.params[j]? = some t → Tryz.pinned.checked.prog.wantsStandIn t = false := by
  obtain rfl : f = 3 := Option.some.inj ((show Tryz.prog.funcNamed "becket/becketlaw01.NumberPerms" = some 3 by kernel_rfl).symm.trans hf) |>.symm
  obtain rfl : fn = Tryz.f3 := (Option.some.inj (Tryz.func3.symm.trans hfn)).symm
  refine ⟨by kernel_rfl, fun j t ht => ?_⟩
  rw [Tryz.params3] at ht
  obtain rfl : t = 22 := by simpa using Array.mem_of_getElem? ht
  exact (show Tryz.prog.wantsStandIn 22 = false by kernel_rfl)

theorem card (hA : Awake) : Rows.NumberPermsCardSaid :=
  Claim7.holds_tied_plain_at .later [] _ _ _ _ (said hA) (fun _ h => by cases h) (by kernel_rfl) (fun _ h => by cases h) numberPerms_row_tie rfl ⟨rfl, rfl⟩ (by kernel_rfl) rfl plain (by kernel_rfl)
end Go.Av
