/-
  Chapter 10: the check of an event.
-/
import Derived.Test.YtjflombnfhlkaaaGreatDoorPlC1
noncomputable section
namespace Go.Av
set_option linter.unusedSimpArgs false
def qN : List Int → Int
  | [] => 0
  | x :: xs => if x = 0 then qN xs else x
theorem qfP (l : List Int) (hl : l.length < 4611686018427387904) : ∀ (K k : Nat), k ≤ l.length → l.length < K + k → jD l K (k : Int) = some (if qN (l.drop k) = 0 then .inl () else .inr (qN (l.drop k)))
  | 0, k, h, hK => by omega
  | K + 1, k, h, hK => by
    unfold jD
    by_cases hk : k < l.length
    · rw [if_pos (by omega), qO, List.getElem?_eq_getElem hk, List.drop_eq_getElem_cons hk, zm (by omega), qfP l hl K (k + 1) (by omega) (by omega)]
      simp only [Option.bind_some, qN]
      by_cases h0 : l[k] = 0
      · simp [h0]
      · simp [h0]
    · rw [if_neg (by omega), List.drop_of_length_le (by omega)]
      rfl
theorem vH {N : Nat} {l : List Int} (hl : l.length < 4611686018427387904) (h : l.length < N) : kG N l = some (qN l) := by
  unfold kG
  rw [show (0 : Int) = ((0 : Nat) : Int) from rfl, qfP l hl N 0 (Nat.zero_le _) (by omega), List.drop_zero]
  by_cases h0 : qN l = 0
  · simp [h0]
  · simp [h0]
theorem y8 (b : Bool) (e : Int) : qP b e = some (if b = true then e else 0) := by
  unfold qP; split <;> rfl
def jS (n lo hi : Int) : Bool := decide (n < lo) || decide (n > hi)
theorem qaq (n lo hi : Int) : zN n lo hi = some (if jS n lo hi = true then 3 else 0) := by
  unfold zN jS
  simp only [y8]
  by_cases h : n < lo <;> simp [h]
theorem xI (n lo hi : Int) : zD n lo hi = some (jS n lo hi) := by
  unfold zD jS
  by_cases h : n < lo <;> simp [h]
theorem qdF {N : Nat} {s : Str} (h : s.length < N) : vE N s = some (if jN s = true then 0 else 8) := by
  unfold vE
  simp only [qhe h, y8, Option.bind_some]
  cases jN s <;> rfl
def jr : Str := [109, 97, 107, 101]
def yP : Str := [116, 101, 115, 116]
def qaH : Str := [117, 115, 101]
def yC : Str := [102, 97, 105, 108]
def kE : Str := [114, 101, 99, 97, 108, 108]
def xh : Str := [117, 110, 100, 111]
def jW (k : Str) : Int × Int × Bool :=
  if (k == jr) = true then (2, 3, true) else if (k == yP) = true then (1, 2, true) else if (k == qaH) = true then (1, 2, true) else if (k == yC) = true then (1, 1, true)
  else if (k == kE) = true then (1, 1, true) else if (k == xh) = true then (0, 0, true) else (0, 0, false)
theorem qjr (k : Str) : xQ k = some (jW k) := by
  unfold xQ jW jr yP qaH yC kE xh
  by_cases h1 : (k == [109, 97, 107, 101]) = true
  · simp only [h1, if_true]
  · by_cases h2 : (k == [116, 101, 115, 116]) = true
    · simp only [h1, h2, if_false, if_true, Option.bind_some]; rfl
    · by_cases h3 : (k == [117, 115, 101]) = true
      · simp only [h1, h2, h3, if_false, if_true, Option.bind_some]; rfl
      · by_cases h4 : (k == [102, 97, 105, 108]) = true
        · simp only [h1, h2, h3, h4, if_false, if_true, Option.bind_some]; rfl
        · by_cases h5 : (k == [114, 101, 99, 97, 108, 108]) = true
          · simp only [h1, h2, h3, h4, h5, if_false, if_true, Option.bind_some]; rfl
          · simp only [h1, h2, h3, h4, h5, if_false, Option.bind_some, Bool.false_eq_true]
            split <;> rfl
def zS (e : ql) : Int :=
  if jS e.Number 1 1000 = true then 3
  else if (jW e.Kind).2.2 = false then 13
  else if ¬ ((e.Names.length : Int) = (jW e.Kind).1 ∧ (e.Values.length : Int) = (jW e.Kind).2.1) then 2
  else if e.Names.all jN = false then 8
  else if e.Values.all (fun v => !jS v 0 999999999) = false then 3
  else if e.Text = [] then 0 else 1
theorem qjw {N : Nat} (e : ql) (hl : e.Names.length < 4611686018427387904) (hs : ∀ s ∈ e.Names, s.length < N) : ∀ (K k : Nat), k ≤ e.Names.length → e.Names.length < K + k → zl N e K (k : Int) = some (if (e.Names.drop k).all jN = true then .inl () else .inr 8)
  | 0, k, h, hK => by omega
  | K + 1, k, h, hK => by
    unfold zl
    by_cases hk : k < e.Names.length
    · rw [if_pos (by omega), qO, List.getElem?_eq_getElem hk, List.drop_eq_getElem_cons hk, zm (by omega), qjw e hl hs K (k + 1) (by omega) (by omega)]
      simp only [Option.bind_some, qdF (hs _ (List.getElem_mem hk)), List.all_cons]
      by_cases hq : jN e.Names[k] = true <;> simp [hq]
    · rw [if_neg (by omega), List.drop_of_length_le (by omega)]
      rfl
theorem qjv (e : ql) (hl : e.Values.length < 4611686018427387904) : ∀ (K k : Nat), k ≤ e.Values.length → e.Values.length < K + k → zk e K (k : Int) = some (if (e.Values.drop k).all (fun v => !jS v 0 999999999) = true then .inl () else .inr 3)
  | 0, k, h, hK => by omega
  | K + 1, k, h, hK => by
    unfold zk
    by_cases hk : k < e.Values.length
    · rw [if_pos (by omega), qO, List.getElem?_eq_getElem hk, List.drop_eq_getElem_cons hk, zm (by omega), qjv e hl K (k + 1) (by omega) (by omega)]
      simp only [Option.bind_some, qaq, List.all_cons]
      by_cases hq : jS e.Values[k] 0 999999999 = true <;> simp [hq]
    · rw [if_neg (by omega), List.drop_of_length_le (by omega)]
      rfl
structure qaJ (N : Nat) (e : ql) : Prop where
  n : e.Names.length < N
  v : e.Values.length < N
  s : ∀ s ∈ e.Names, s.length < N
theorem qbK {N : Nat} (hN : N < 4611686018427387904) (h3 : 3 < N) {e : ql} (h : qaJ N e) : jA N e = some (zS e) := by
  obtain ⟨hn, hv, hs⟩ := h
  unfold jA
  have hf : ((zH).bind fun r1 =>
      if (e.Kind == [109, 97, 107, 101]) = true then some (2, 3, true) else if (e.Kind == [116, 101, 115, 116]) = true then some (1, 2, true) else if (e.Kind == [117, 115, 101]) = true then some (1, 2, true)
      else if (e.Kind == [102, 97, 105, 108]) = true then some (1, 1, true) else if (e.Kind == [114, 101, 99, 97, 108, 108]) = true then some (1, 1, true) else if (e.Kind == [117, 110, 100, 111]) = true then some (0, 0, true)
      else some (0, 0, false) : Option (Int × Int × Bool)) = some (jW e.Kind) := by
    simp only [zH, Option.bind_some, jW, jr, yP, qaH, yC, kE, xh]
    by_cases h1 : (e.Kind == [109, 97, 107, 101]) = true
    · simp only [h1, if_true]
    by_cases h2 : (e.Kind == [116, 101, 115, 116]) = true
    · simp only [h1, h2, if_true, if_false, Bool.false_eq_true]
    by_cases h3 : (e.Kind == [117, 115, 101]) = true
    · simp only [h1, h2, h3, if_true, if_false, Bool.false_eq_true]
    by_cases h4 : (e.Kind == [102, 97, 105, 108]) = true
    · simp only [h1, h2, h3, h4, if_true, if_false, Bool.false_eq_true]
    by_cases h5 : (e.Kind == [114, 101, 99, 97, 108, 108]) = true
    · simp only [h1, h2, h3, h4, h5, if_true, if_false, Bool.false_eq_true]
    by_cases h6 : (e.Kind == [117, 110, 100, 111]) = true
    · simp only [h1, h2, h3, h4, h5, h6, if_true, if_false, Bool.false_eq_true]
    simp only [h1, h2, h3, h4, h5, h6, if_true, if_false, Bool.false_eq_true]
  rw [hf]
  have e0 : (0 : Int) = ((0 : Nat) : Int) := rfl
  simp only [Option.bind_some, qaq, y8, vH (N := N) (l := [_, _, _]) (by simp) (by simpa using h3)]
  rw [e0, qjw e (by omega) hs N 0 (by omega) (by omega), qjv e (by omega) N 0 (by omega) (by omega), List.drop_zero, List.drop_zero]
  unfold zS
  generalize jW e.Kind = f
  obtain ⟨a, b, c⟩ := f
  by_cases h1 : jS e.Number 1 1000 = true
  · by_cases hx : (e.Names.length : Int) = a <;> simp [h1, qN, hx]
  · cases c
    · by_cases hx : (e.Names.length : Int) = a <;> simp [h1, qN, hx]
    · by_cases hx : (e.Names.length : Int) = a
      · by_cases hy : (e.Values.length : Int) = b
        · cases hA : e.Names.all jN
          · simp [h1, qN, hx, hy, hA]
          · cases hB : e.Values.all (fun v => !jS v 0 999999999)
            · simp [h1, qN, hx, hy, hA, hB]
            · by_cases ht : e.Text = []
              · simp [h1, qN, hx, hy, hA, hB, ht]
              · have : (e.Text == []) = false := by cases hq : e.Text with | nil => exact absurd hq ht | cons => rfl
                simp [h1, qN, hx, hy, hA, hB, ht, this]
        · simp [h1, qN, hx, hy]
      · simp [h1, qN, hx]
theorem qiz {N : Nat} (hN : N < 4611686018427387904) (e : ql) {r : Int × Int × Bool} (hr : (e.Names.length : Int) = r.1) (hl : e.Names.length < 4611686018427387904) (hs : ∀ s ∈ e.Names, s.length < N) : ∀ (K k : Nat), k ≤ e.Names.length → e.Names.length < K + k → zy N e r K (k : Int) = some (if (e.Names.drop k).all jN = true then .inl () else .inr 8)
  | 0, k, h, hK => by omega
  | K + 1, k, h, hK => by
    unfold zy
    by_cases hk : k < e.Names.length
    · have := hs _ (List.getElem_mem hk)
      rw [if_pos (by omega), qO, List.getElem?_eq_getElem hk, List.drop_eq_getElem_cons hk, zm (by omega), qiz hN e hr hl hs K (k + 1) (by omega) (by omega)]
      simp only [Option.bind_some, qdO this (by omega), List.all_cons]
      by_cases hq : jN e.Names[k] = true <;> simp [hq]
    · rw [if_neg (by omega), List.drop_of_length_le (by omega)]
      rfl
theorem qiV (e : ql) {r : Int × Int × Bool} (hr : (e.Values.length : Int) = r.2.1) (hl : e.Values.length < 4611686018427387904) : ∀ (K k : Nat), k ≤ e.Values.length → e.Values.length < K + k → zz e r K (k : Int) = some (if (e.Values.drop k).all (fun v => !jS v 0 999999999) = true then .inl () else .inr 3)
  | 0, k, h, hK => by omega
  | K + 1, k, h, hK => by
    unfold zz
    by_cases hk : k < e.Values.length
    · rw [if_pos (by omega), qO, List.getElem?_eq_getElem hk, List.drop_eq_getElem_cons hk, zm (by omega), qiV e hr hl K (k + 1) (by omega) (by omega)]
      simp only [Option.bind_some, xI, List.all_cons]
      by_cases hq : jS e.Values[k] 0 999999999 = true <;> simp [hq]
    · rw [if_neg (by omega), List.drop_of_length_le (by omega)]
      rfl
theorem qdS {N : Nat} (hN : N < 4611686018427387904) {e : ql} (h : qaJ N e) : jX N e = some (zS e) := by
  obtain ⟨hn, hv, hs⟩ := h
  unfold jX zS
  rw [xI, qjr]
  simp only [Option.bind_some]
  by_cases h1 : jS e.Number 1 1000 = true
  · simp [h1]
  · rw [if_neg h1, if_neg h1]
    cases hc : (jW e.Kind).2.2
    · simp
    · by_cases hx : (e.Names.length : Int) = (jW e.Kind).1
      · by_cases hy : (e.Values.length : Int) = (jW e.Kind).2.1
        · have e0 : (0 : Int) = ((0 : Nat) : Int) := rfl
          rw [e0, qiz hN e hx (by omega) hs N 0 (by omega) (by omega), qiV e hy (by omega) N 0 (by omega) (by omega), List.drop_zero, List.drop_zero]
          cases hA : e.Names.all jN
          · simp [hx, hy]
          · cases hB : e.Values.all (fun v => !jS v 0 999999999)
            · simp [hx, hy]
            · by_cases ht : e.Text = []
              · simp [hx, hy, ht]
              · have : (e.Text == []) = false := by cases hq : e.Text with | nil => exact absurd hq ht | cons => rfl
                simp [hx, hy, ht, this]
        · simp [hx, hy]
      · simp [hx]
end Go.Av
