/-
  Chapter 10: the check of an event.
-/
import Derived.Test.YtjflombnfhlkaaaGreatDoorPlL1
noncomputable section
namespace Go.Av
set_option linter.unusedSimpArgs false
def firstE : List Int → Int
  | [] => 0
  | x :: xs => if x = 0 then firstE xs else x
theorem first_L0 (l : List Int) (hl : l.length < 4611686018427387904) : ∀ (K k : Nat), k ≤ l.length → l.length < K + k → record_first_L0 l K (k : Int) = some (if firstE (l.drop k) = 0 then .inl () else .inr (firstE (l.drop k)))
  | 0, k, h, hK => by omega
  | K + 1, k, h, hK => by
    unfold record_first_L0
    by_cases hk : k < l.length
    · rw [if_pos (by omega), idx_nat, List.getElem?_eq_getElem hk, List.drop_eq_getElem_cons hk, w64_up (by omega), first_L0 l hl K (k + 1) (by omega) (by omega)]
      simp only [Option.bind_some, firstE]
      by_cases h0 : l[k] = 0
      · simp [h0]
      · simp [h0]
    · rw [if_neg (by omega), List.drop_of_length_le (by omega)]
      rfl
theorem first_eq {N : Nat} {l : List Int} (hl : l.length < 4611686018427387904) (h : l.length < N) : record_first N l = some (firstE l) := by
  unfold record_first
  rw [show (0 : Int) = ((0 : Nat) : Int) from rfl, first_L0 l hl N 0 (Nat.zero_le _) (by omega), List.drop_zero]
  by_cases h0 : firstE l = 0
  · simp [h0]
  · simp [h0]
theorem when_eq (b : Bool) (e : Int) : record_when b e = some (if b = true then e else 0) := by
  unfold record_when; split <;> rfl
def outE (n lo hi : Int) : Bool := decide (n < lo) || decide (n > hi)
theorem within_eq (n lo hi : Int) : record_within n lo hi = some (if outE n lo hi = true then 3 else 0) := by
  unfold record_within outE
  simp only [when_eq]
  by_cases h : n < lo <;> simp [h]
theorem Outside_eq (n lo hi : Int) : ref10_Outside n lo hi = some (outE n lo hi) := by
  unfold ref10_Outside outE
  by_cases h : n < lo <;> simp [h]
theorem named_eq {N : Nat} {s : Str} (h : s.length < N) : record_named N s = some (if nameB s = true then 0 else 8) := by
  unfold record_named
  simp only [IsName_eq h, when_eq, Option.bind_some]
  cases nameB s <;> rfl
def kMake : Str := [109, 97, 107, 101]
def kTest : Str := [116, 101, 115, 116]
def kUse : Str := [117, 115, 101]
def kFail : Str := [102, 97, 105, 108]
def kRecall : Str := [114, 101, 99, 97, 108, 108]
def kUndo : Str := [117, 110, 100, 111]
def formE (k : Str) : Int × Int × Bool :=
  if (k == kMake) = true then (2, 3, true) else if (k == kTest) = true then (1, 2, true) else if (k == kUse) = true then (1, 2, true) else if (k == kFail) = true then (1, 1, true)
  else if (k == kRecall) = true then (1, 1, true) else if (k == kUndo) = true then (0, 0, true) else (0, 0, false)
theorem Form_eq (k : Str) : ref10_Form k = some (formE k) := by
  unfold ref10_Form formE kMake kTest kUse kFail kRecall kUndo
  by_cases h1 : (k == [109, 97, 107, 101]) = true
  · simp only [h1, if_true]
  · by_cases h2 : (k == [116, 101, 115, 116]) = true
    · simp only [h1, h2, if_false, if_true, Option.bind_some]; rfl
    · by_cases h3 : (k == [117, 115, 101]) = true
      · simp only [h1, h2, h3, if_false, if_true, Option.bind_some]; rfl
      · by_cases h4 : (k == [102, 97, 105, 108]) = true
        · simp only [h1, h2, h3, h4, if_false, if_true, Option.bind_some]; rfl
        · by_cases h5 : (k == [114, 101, 99, 97, 108, 108]) = true
          · simp only [h1, h2, h3, h4, h5, if_false, if_true, Option.bind_some]; rfl
          · simp only [h1, h2, h3, h4, h5, if_false, Option.bind_some, Bool.false_eq_true]
            split <;> rfl
def checkE (e : EventT) : Int :=
  if outE e.Number 1 1000 = true then 3
  else if (formE e.Kind).2.2 = false then 13
  else if ¬ ((e.Names.length : Int) = (formE e.Kind).1 ∧ (e.Values.length : Int) = (formE e.Kind).2.1) then 2
  else if e.Names.all nameB = false then 8
  else if e.Values.all (fun v => !outE v 0 999999999) = false then 3
  else if e.Text = [] then 0 else 1
theorem CE_L0 {N : Nat} (e : EventT) (hl : e.Names.length < 4611686018427387904) (hs : ∀ s ∈ e.Names, s.length < N) : ∀ (K k : Nat), k ≤ e.Names.length → e.Names.length < K + k → record_CheckEvent_L0 N e K (k : Int) = some (if (e.Names.drop k).all nameB = true then .inl () else .inr 8)
  | 0, k, h, hK => by omega
  | K + 1, k, h, hK => by
    unfold record_CheckEvent_L0
    by_cases hk : k < e.Names.length
    · rw [if_pos (by omega), idx_nat, List.getElem?_eq_getElem hk, List.drop_eq_getElem_cons hk, w64_up (by omega), CE_L0 e hl hs K (k + 1) (by omega) (by omega)]
      simp only [Option.bind_some, named_eq (hs _ (List.getElem_mem hk)), List.all_cons]
      by_cases hq : nameB e.Names[k] = true <;> simp [hq]
    · rw [if_neg (by omega), List.drop_of_length_le (by omega)]
      rfl
theorem CE_L1 (e : EventT) (hl : e.Values.length < 4611686018427387904) : ∀ (K k : Nat), k ≤ e.Values.length → e.Values.length < K + k → record_CheckEvent_L1 e K (k : Int) = some (if (e.Values.drop k).all (fun v => !outE v 0 999999999) = true then .inl () else .inr 3)
  | 0, k, h, hK => by omega
  | K + 1, k, h, hK => by
    unfold record_CheckEvent_L1
    by_cases hk : k < e.Values.length
    · rw [if_pos (by omega), idx_nat, List.getElem?_eq_getElem hk, List.drop_eq_getElem_cons hk, w64_up (by omega), CE_L1 e hl K (k + 1) (by omega) (by omega)]
      simp only [Option.bind_some, within_eq, List.all_cons]
      by_cases hq : outE e.Values[k] 0 999999999 = true <;> simp [hq]
    · rw [if_neg (by omega), List.drop_of_length_le (by omega)]
      rfl
structure ShortE (N : Nat) (e : EventT) : Prop where
  n : e.Names.length < N
  v : e.Values.length < N
  s : ∀ s ∈ e.Names, s.length < N
theorem CheckEvent_eq {N : Nat} (hN : N < 4611686018427387904) (h3 : 3 < N) {e : EventT} (h : ShortE N e) : record_CheckEvent N e = some (checkE e) := by
  obtain ⟨hn, hv, hs⟩ := h
  unfold record_CheckEvent
  have hf : ((record_kinds).bind fun r1 =>
      if (e.Kind == [109, 97, 107, 101]) = true then some (2, 3, true) else if (e.Kind == [116, 101, 115, 116]) = true then some (1, 2, true) else if (e.Kind == [117, 115, 101]) = true then some (1, 2, true)
      else if (e.Kind == [102, 97, 105, 108]) = true then some (1, 1, true) else if (e.Kind == [114, 101, 99, 97, 108, 108]) = true then some (1, 1, true) else if (e.Kind == [117, 110, 100, 111]) = true then some (0, 0, true)
      else some (0, 0, false) : Option (Int × Int × Bool)) = some (formE e.Kind) := by
    simp only [record_kinds, Option.bind_some, formE, kMake, kTest, kUse, kFail, kRecall, kUndo]
    by_cases h1 : (e.Kind == [109, 97, 107, 101]) = true
    · simp only [h1, if_true]
    by_cases h2 : (e.Kind == [116, 101, 115, 116]) = true
    · simp only [h1, h2, if_true, if_false, Bool.false_eq_true]
    by_cases h3 : (e.Kind == [117, 115, 101]) = true
    · simp only [h1, h2, h3, if_true, if_false, Bool.false_eq_true]
    by_cases h4 : (e.Kind == [102, 97, 105, 108]) = true
    · simp only [h1, h2, h3, h4, if_true, if_false, Bool.false_eq_true]
    by_cases h5 : (e.Kind == [114, 101, 99, 97, 108, 108]) = true
    · simp only [h1, h2, h3, h4, h5, if_true, if_false, Bool.false_eq_true]
    by_cases h6 : (e.Kind == [117, 110, 100, 111]) = true
    · simp only [h1, h2, h3, h4, h5, h6, if_true, if_false, Bool.false_eq_true]
    simp only [h1, h2, h3, h4, h5, h6, if_true, if_false, Bool.false_eq_true]
  rw [hf]
  have e0 : (0 : Int) = ((0 : Nat) : Int) := rfl
  simp only [Option.bind_some, within_eq, when_eq, first_eq (N := N) (l := [_, _, _]) (by simp) (by simpa using h3)]
  rw [e0, CE_L0 e (by omega) hs N 0 (by omega) (by omega), CE_L1 e (by omega) N 0 (by omega) (by omega), List.drop_zero, List.drop_zero]
  unfold checkE
  generalize formE e.Kind = f
  obtain ⟨a, b, c⟩ := f
  by_cases h1 : outE e.Number 1 1000 = true
  · by_cases hx : (e.Names.length : Int) = a <;> simp [h1, firstE, hx]
  · cases c
    · by_cases hx : (e.Names.length : Int) = a <;> simp [h1, firstE, hx]
    · by_cases hx : (e.Names.length : Int) = a
      · by_cases hy : (e.Values.length : Int) = b
        · cases hA : e.Names.all nameB
          · simp [h1, firstE, hx, hy, hA]
          · cases hB : e.Values.all (fun v => !outE v 0 999999999)
            · simp [h1, firstE, hx, hy, hA, hB]
            · by_cases ht : e.Text = []
              · simp [h1, firstE, hx, hy, hA, hB, ht]
              · have : (e.Text == []) = false := by cases hq : e.Text with | nil => exact absurd hq ht | cons => rfl
                simp [h1, firstE, hx, hy, hA, hB, ht, this]
        · simp [h1, firstE, hx, hy]
      · simp [h1, firstE, hx]
theorem rCE_L0 {N : Nat} (hN : N < 4611686018427387904) (e : EventT) {r : Int × Int × Bool} (hr : (e.Names.length : Int) = r.1) (hl : e.Names.length < 4611686018427387904) (hs : ∀ s ∈ e.Names, s.length < N) : ∀ (K k : Nat), k ≤ e.Names.length → e.Names.length < K + k → ref10_CheckEvent_L0 N e r K (k : Int) = some (if (e.Names.drop k).all nameB = true then .inl () else .inr 8)
  | 0, k, h, hK => by omega
  | K + 1, k, h, hK => by
    unfold ref10_CheckEvent_L0
    by_cases hk : k < e.Names.length
    · have := hs _ (List.getElem_mem hk)
      rw [if_pos (by omega), idx_nat, List.getElem?_eq_getElem hk, List.drop_eq_getElem_cons hk, w64_up (by omega), rCE_L0 hN e hr hl hs K (k + 1) (by omega) (by omega)]
      simp only [Option.bind_some, rIsName_eq this (by omega), List.all_cons]
      by_cases hq : nameB e.Names[k] = true <;> simp [hq]
    · rw [if_neg (by omega), List.drop_of_length_le (by omega)]
      rfl
theorem rCE_L1 (e : EventT) {r : Int × Int × Bool} (hr : (e.Values.length : Int) = r.2.1) (hl : e.Values.length < 4611686018427387904) : ∀ (K k : Nat), k ≤ e.Values.length → e.Values.length < K + k → ref10_CheckEvent_L1 e r K (k : Int) = some (if (e.Values.drop k).all (fun v => !outE v 0 999999999) = true then .inl () else .inr 3)
  | 0, k, h, hK => by omega
  | K + 1, k, h, hK => by
    unfold ref10_CheckEvent_L1
    by_cases hk : k < e.Values.length
    · rw [if_pos (by omega), idx_nat, List.getElem?_eq_getElem hk, List.drop_eq_getElem_cons hk, w64_up (by omega), rCE_L1 e hr hl K (k + 1) (by omega) (by omega)]
      simp only [Option.bind_some, Outside_eq, List.all_cons]
      by_cases hq : outE e.Values[k] 0 999999999 = true <;> simp [hq]
    · rw [if_neg (by omega), List.drop_of_length_le (by omega)]
      rfl
theorem rCheckEvent_eq {N : Nat} (hN : N < 4611686018427387904) {e : EventT} (h : ShortE N e) : ref10_CheckEvent N e = some (checkE e) := by
  obtain ⟨hn, hv, hs⟩ := h
  unfold ref10_CheckEvent checkE
  rw [Outside_eq, Form_eq]
  simp only [Option.bind_some]
  by_cases h1 : outE e.Number 1 1000 = true
  · simp [h1]
  · rw [if_neg h1, if_neg h1]
    cases hc : (formE e.Kind).2.2
    · simp
    · by_cases hx : (e.Names.length : Int) = (formE e.Kind).1
      · by_cases hy : (e.Values.length : Int) = (formE e.Kind).2.1
        · have e0 : (0 : Int) = ((0 : Nat) : Int) := rfl
          rw [e0, rCE_L0 hN e hx (by omega) hs N 0 (by omega) (by omega), rCE_L1 e hy (by omega) N 0 (by omega) (by omega), List.drop_zero, List.drop_zero]
          cases hA : e.Names.all nameB
          · simp [hx, hy]
          · cases hB : e.Values.all (fun v => !outE v 0 999999999)
            · simp [hx, hy]
            · by_cases ht : e.Text = []
              · simp [hx, hy, ht]
              · have : (e.Text == []) = false := by cases hq : e.Text with | nil => exact absurd hq ht | cons => rfl
                simp [hx, hy, ht, this]
        · simp [hx, hy]
      · simp [hx]
end Go.Av
