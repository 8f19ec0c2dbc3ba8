/-
  Chapter 10: the check of an event.
-/
import Derived.Test.YtjflombnfhlkaaaGreatDoorPlS1
noncomputable section
namespace Go.Av
set_option linter.unusedSimpArgs false
def qE : List Int → Int
  | [] => 0
  | x :: xs => if x = 0 then qE xs else x
theorem qfq (l : List Int) (hl : l.length < 4611686018427387904) : ∀ (K k : Nat), k ≤ l.length → l.length < K + k → jd l K (k : Int) = some (if qE (l.drop k) = 0 then .inl () else .inr (qE (l.drop k)))
  | 0, k, h, hK => by omega
  | K + 1, k, h, hK => by
    unfold jd
    by_cases hk : k < l.length
    · rw [if_pos (by omega), ku, List.getElem?_eq_getElem hk, List.drop_eq_getElem_cons hk, zP (by omega), qfq l hl K (k + 1) (by omega) (by omega)]
      simp only [Option.bind_some, qE]
      by_cases h0 : l[k] = 0
      · simp [h0]
      · simp [h0]
    · rw [if_neg (by omega), List.drop_of_length_le (by omega)]
      rfl
theorem jr {N : Nat} {l : List Int} (hl : l.length < 4611686018427387904) (h : l.length < N) : kY N l = some (qE l) := by
  unfold kY
  rw [show (0 : Int) = ((0 : Nat) : Int) from rfl, qfq l hl N 0 (Nat.zero_le _) (by omega), List.drop_zero]
  by_cases h0 : qE l = 0
  · simp [h0]
  · simp [h0]
theorem vK (b : Bool) (e : Int) : qZ b e = some (if b = true then e else 0) := by
  unfold qZ; split <;> rfl
def ji (n lo hi : Int) : Bool := decide (n < lo) || decide (n > hi)
theorem xX (n lo hi : Int) : zq n lo hi = some (if ji n lo hi = true then 3 else 0) := by
  unfold zq ji
  simp only [vK]
  by_cases h : n < lo <;> simp [h]
theorem xm (n lo hi : Int) : zf n lo hi = some (ji n lo hi) := by
  unfold zf ji
  by_cases h : n < lo <;> simp [h]
theorem qdc {N : Nat} {s : Str} (h : s.length < N) : vL N s = some (if vQ s = true then 0 else 8) := by
  unfold vL
  simp only [qgM h, vK, Option.bind_some]
  cases vQ s <;> rfl
def jA : Str := [109, 97, 107, 101]
def yw : Str := [116, 101, 115, 116]
def qai : Str := [117, 115, 101]
def vY : Str := [102, 97, 105, 108]
def zl : Str := [114, 101, 99, 97, 108, 108]
def yU : Str := [117, 110, 100, 111]
def ve (k : Str) : Int × Int × Bool :=
  if (k == jA) = true then (2, 3, true) else if (k == yw) = true then (1, 2, true) else if (k == qai) = true then (1, 2, true) else if (k == vY) = true then (1, 1, true)
  else if (k == zl) = true then (1, 1, true) else if (k == yU) = true then (0, 0, true) else (0, 0, false)
theorem qiD (k : Str) : xq k = some (ve k) := by
  unfold xq ve jA yw qai vY zl yU
  by_cases h1 : (k == [109, 97, 107, 101]) = true
  · simp only [h1, if_true]
  · by_cases h2 : (k == [116, 101, 115, 116]) = true
    · simp only [h1, h2, if_false, if_true, Option.bind_some]; rfl
    · by_cases h3 : (k == [117, 115, 101]) = true
      · simp only [h1, h2, h3, if_false, if_true, Option.bind_some]; rfl
      · by_cases h4 : (k == [102, 97, 105, 108]) = true
        · simp only [h1, h2, h3, h4, if_false, if_true, Option.bind_some]; rfl
        · by_cases h5 : (k == [114, 101, 99, 97, 108, 108]) = true
          · simp only [h1, h2, h3, h4, h5, if_false, if_true, Option.bind_some]; rfl
          · simp only [h1, h2, h3, h4, h5, if_false, Option.bind_some, Bool.false_eq_true]
            split <;> rfl
def jB (e : qm) : Int :=
  if ji e.Number 1 1000 = true then 3
  else if (ve e.Kind).2.2 = false then 13
  else if ¬ ((e.Names.length : Int) = (ve e.Kind).1 ∧ (e.Values.length : Int) = (ve e.Kind).2.1) then 2
  else if e.Names.all vQ = false then 8
  else if e.Values.all (fun v => !ji v 0 999999999) = false then 3
  else if e.Text = [] then 0 else 1
theorem qi0 {N : Nat} (e : qm) (hl : e.Names.length < 4611686018427387904) (hs : ∀ s ∈ e.Names, s.length < N) : ∀ (K k : Nat), k ≤ e.Names.length → e.Names.length < K + k → kS N e K (k : Int) = some (if (e.Names.drop k).all vQ = true then .inl () else .inr 8)
  | 0, k, h, hK => by omega
  | K + 1, k, h, hK => by
    unfold kS
    by_cases hk : k < e.Names.length
    · rw [if_pos (by omega), ku, List.getElem?_eq_getElem hk, List.drop_eq_getElem_cons hk, zP (by omega), qi0 e hl hs K (k + 1) (by omega) (by omega)]
      simp only [Option.bind_some, qdc (hs _ (List.getElem_mem hk)), List.all_cons]
      by_cases hq : vQ e.Names[k] = true <;> simp [hq]
    · rw [if_neg (by omega), List.drop_of_length_le (by omega)]
      rfl
theorem qiV (e : qm) (hl : e.Values.length < 4611686018427387904) : ∀ (K k : Nat), k ≤ e.Values.length → e.Values.length < K + k → kT e K (k : Int) = some (if (e.Values.drop k).all (fun v => !ji v 0 999999999) = true then .inl () else .inr 3)
  | 0, k, h, hK => by omega
  | K + 1, k, h, hK => by
    unfold kT
    by_cases hk : k < e.Values.length
    · rw [if_pos (by omega), ku, List.getElem?_eq_getElem hk, List.drop_eq_getElem_cons hk, zP (by omega), qiV e hl K (k + 1) (by omega) (by omega)]
      simp only [Option.bind_some, xX, List.all_cons]
      by_cases hq : ji e.Values[k] 0 999999999 = true <;> simp [hq]
    · rw [if_neg (by omega), List.drop_of_length_le (by omega)]
      rfl
structure qbE (N : Nat) (e : qm) : Prop where
  n : e.Names.length < N
  v : e.Values.length < N
  s : ∀ s ∈ e.Names, s.length < N
theorem qdP {N : Nat} (hN : N < 4611686018427387904) (h3 : 3 < N) {e : qm} (h : qbE N e) : jF N e = some (jB e) := by
  obtain ⟨hn, hv, hs⟩ := h
  unfold jF
  have hf : ((zk).bind fun r1 =>
      if (e.Kind == [109, 97, 107, 101]) = true then some (2, 3, true) else if (e.Kind == [116, 101, 115, 116]) = true then some (1, 2, true) else if (e.Kind == [117, 115, 101]) = true then some (1, 2, true)
      else if (e.Kind == [102, 97, 105, 108]) = true then some (1, 1, true) else if (e.Kind == [114, 101, 99, 97, 108, 108]) = true then some (1, 1, true) else if (e.Kind == [117, 110, 100, 111]) = true then some (0, 0, true)
      else some (0, 0, false) : Option (Int × Int × Bool)) = some (ve e.Kind) := by
    simp only [zk, Option.bind_some, ve, jA, yw, qai, vY, zl, yU]
    by_cases h1 : (e.Kind == [109, 97, 107, 101]) = true
    · simp only [h1, if_true]
    by_cases h2 : (e.Kind == [116, 101, 115, 116]) = true
    · simp only [h1, h2, if_true, if_false, Bool.false_eq_true]
    by_cases h3 : (e.Kind == [117, 115, 101]) = true
    · simp only [h1, h2, h3, if_true, if_false, Bool.false_eq_true]
    by_cases h4 : (e.Kind == [102, 97, 105, 108]) = true
    · simp only [h1, h2, h3, h4, if_true, if_false, Bool.false_eq_true]
    by_cases h5 : (e.Kind == [114, 101, 99, 97, 108, 108]) = true
    · simp only [h1, h2, h3, h4, h5, if_true, if_false, Bool.false_eq_true]
    by_cases h6 : (e.Kind == [117, 110, 100, 111]) = true
    · simp only [h1, h2, h3, h4, h5, h6, if_true, if_false, Bool.false_eq_true]
    simp only [h1, h2, h3, h4, h5, h6, if_true, if_false, Bool.false_eq_true]
  rw [hf]
  have e0 : (0 : Int) = ((0 : Nat) : Int) := rfl
  simp only [Option.bind_some, xX, vK, jr (N := N) (l := [_, _, _]) (by simp) (by simpa using h3)]
  rw [e0, qi0 e (by omega) hs N 0 (by omega) (by omega), qiV e (by omega) N 0 (by omega) (by omega), List.drop_zero, List.drop_zero]
  unfold jB
  generalize ve e.Kind = f
  obtain ⟨a, b, c⟩ := f
  by_cases h1 : ji e.Number 1 1000 = true
  · by_cases hx : (e.Names.length : Int) = a <;> simp [h1, qE, hx]
  · cases c
    · by_cases hx : (e.Names.length : Int) = a <;> simp [h1, qE, hx]
    · by_cases hx : (e.Names.length : Int) = a
      · by_cases hy : (e.Values.length : Int) = b
        · cases hA : e.Names.all vQ
          · simp [h1, qE, hx, hy, hA]
          · cases hB : e.Values.all (fun v => !ji v 0 999999999)
            · simp [h1, qE, hx, hy, hA, hB]
            · by_cases ht : e.Text = []
              · simp [h1, qE, hx, hy, hA, hB, ht]
              · have : (e.Text == []) = false := by cases hq : e.Text with | nil => exact absurd hq ht | cons => rfl
                simp [h1, qE, hx, hy, hA, hB, ht, this]
        · simp [h1, qE, hx, hy]
      · simp [h1, qE, hx]
theorem qhj {N : Nat} (hN : N < 4611686018427387904) (e : qm) {r : Int × Int × Bool} (hr : (e.Names.length : Int) = r.1) (hl : e.Names.length < 4611686018427387904) (hs : ∀ s ∈ e.Names, s.length < N) : ∀ (K k : Nat), k ≤ e.Names.length → e.Names.length < K + k → za N e r K (k : Int) = some (if (e.Names.drop k).all vQ = true then .inl () else .inr 8)
  | 0, k, h, hK => by omega
  | K + 1, k, h, hK => by
    unfold za
    by_cases hk : k < e.Names.length
    · have := hs _ (List.getElem_mem hk)
      rw [if_pos (by omega), ku, List.getElem?_eq_getElem hk, List.drop_eq_getElem_cons hk, zP (by omega), qhj hN e hr hl hs K (k + 1) (by omega) (by omega)]
      simp only [Option.bind_some, qdp this (by omega), List.all_cons]
      by_cases hq : vQ e.Names[k] = true <;> simp [hq]
    · rw [if_neg (by omega), List.drop_of_length_le (by omega)]
      rfl
theorem qhZ (e : qm) {r : Int × Int × Bool} (hr : (e.Values.length : Int) = r.2.1) (hl : e.Values.length < 4611686018427387904) : ∀ (K k : Nat), k ≤ e.Values.length → e.Values.length < K + k → zb e r K (k : Int) = some (if (e.Values.drop k).all (fun v => !ji v 0 999999999) = true then .inl () else .inr 3)
  | 0, k, h, hK => by omega
  | K + 1, k, h, hK => by
    unfold zb
    by_cases hk : k < e.Values.length
    · rw [if_pos (by omega), ku, List.getElem?_eq_getElem hk, List.drop_eq_getElem_cons hk, zP (by omega), qhZ e hr hl K (k + 1) (by omega) (by omega)]
      simp only [Option.bind_some, xm, List.all_cons]
      by_cases hq : ji e.Values[k] 0 999999999 = true <;> simp [hq]
    · rw [if_neg (by omega), List.drop_of_length_le (by omega)]
      rfl
theorem qdN {N : Nat} (hN : N < 4611686018427387904) {e : qm} (h : qbE N e) : jN N e = some (jB e) := by
  obtain ⟨hn, hv, hs⟩ := h
  unfold jN jB
  rw [xm, qiD]
  simp only [Option.bind_some]
  by_cases h1 : ji e.Number 1 1000 = true
  · simp [h1]
  · rw [if_neg h1, if_neg h1]
    cases hc : (ve e.Kind).2.2
    · simp
    · by_cases hx : (e.Names.length : Int) = (ve e.Kind).1
      · by_cases hy : (e.Values.length : Int) = (ve e.Kind).2.1
        · have e0 : (0 : Int) = ((0 : Nat) : Int) := rfl
          rw [e0, qhj hN e hx (by omega) hs N 0 (by omega) (by omega), qhZ e hy (by omega) N 0 (by omega) (by omega), List.drop_zero, List.drop_zero]
          cases hA : e.Names.all vQ
          · simp [hx, hy]
          · cases hB : e.Values.all (fun v => !ji v 0 999999999)
            · simp [hx, hy]
            · by_cases ht : e.Text = []
              · simp [hx, hy, ht]
              · have : (e.Text == []) = false := by cases hq : e.Text with | nil => exact absurd hq ht | cons => rfl
                simp [hx, hy, ht, this]
        · simp [hx, hy]
      · simp [hx]
end Go.Av
