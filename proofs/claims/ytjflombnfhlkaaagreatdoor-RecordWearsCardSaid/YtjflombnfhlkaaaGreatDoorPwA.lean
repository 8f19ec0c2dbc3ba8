/-
  Chapter 10: names and events.
-/
import Derived.Test.YtjflombnfhlkaaaGreatDoorAvPl
import Derived.Test.YtjflombnfhlkaaaGreatDoorQGenW
noncomputable section
namespace Go.Av
set_option linter.unusedSimpArgs false
set_option linter.unusedVariables false
theorem qfG {s : Str} {k : Nat} {c : UInt8} (h : s[k]? = some c) : ((⟨s.toArray⟩ : ByteArray).get! k) = c := by
  have hk := (List.getElem?_eq_some_iff.1 h).1
  show s.toArray[k]! = c
  rw [getElem!_def]
  simp [h]
theorem qfR {s : Str} {k : Nat} {c : UInt8} (h : s[k]? = some c) (hc : c.toNat < 128) : kI s k = c.toNat ∧ runeLen s k = 1 := by
  have e := qfG h
  unfold kI runeLen Utf8.decode
  simp only [Nat.add_zero, e, if_pos hc, and_self]
theorem qhe {s : Str} {k : Nat} {c : UInt8} (h : s[k]? = some c) (hc : 128 ≤ c.toNat) : 128 ≤ kI s k := by
  have e := qfG h
  unfold kI Utf8.decode
  simp only [Nat.add_zero, e, if_neg (Nat.not_lt.2 hc)]
  have hr : (128 : Nat) ≤ Utf8.runeError := by decide
  repeat' split
  all_goals first | (simp only [Bool.and_eq_true, decide_eq_true_eq] at *; omega) | (simp; omega) | omega
def qeR (c : Int) : Bool := (decide (97 ≤ c) && decide (c ≤ 122)) || (decide (65 ≤ c) && decide (c ≤ 90))
theorem qcB (c : Int) : jI c = some (qeR c) := by
  unfold jI qeR
  by_cases h1 : c ≥ 97 <;> by_cases h2 : c ≤ 122 <;> by_cases h3 : c ≥ 65 <;> by_cases h4 : c ≤ 90 <;> simp [h1, h2, h3, h4] <;> omega
def qf2 (k : Nat) (c : Int) : Bool := !qeR c && (decide (k = 0) || (!decide (c = 95) && (decide (c < 48) || decide (c > 57))))
def jN (s : Str) : Bool := decide (1 ≤ s.length) && decide (s.length ≤ 24) && !((List.range s.length).any fun k => qf2 k (s.getD k 0).toNat)
theorem qhn {k : Nat} {c : Int} (h : 128 ≤ c) : qf2 k c = true := by
  unfold qf2 qeR
  simp
  omega
def yz (s : Str) (k : Nat) : Bool := (List.range (s.length - k)).any fun j => qf2 (k + j) (s.getD (k + j) 0).toNat
theorem qcb {s : Str} {k : Nat} {c : UInt8} (h : s[k]? = some c) : yz s k = (qf2 k c.toNat || yz s (k + 1)) := by
  have hk := (List.getElem?_eq_some_iff.1 h).1
  unfold yz
  rw [show s.length - k = (s.length - (k + 1)) + 1 by omega, List.range_succ_eq_map, List.any_cons, List.any_map]
  congr 1
  · simp [List.getD, h]
  · congr 1
    funext j
    simp only [Function.comp, Nat.succ_eq_add_one]
    rw [show k + (j + 1) = k + 1 + j by omega]
theorem qcC {s : Str} {k : Nat} (h : s.length ≤ k) : yz s k = false := by
  unfold yz
  rw [show s.length - k = 0 by omega]
  rfl
theorem qey (s : Str) : ∀ (K k : Nat), k ≤ s.length → s.length < K + k → zY s K k = some (if yz s k then .inr false else .inl ())
  | 0, k, h, hK => by omega
  | K + 1, k, h, hK => by
    unfold zY
    by_cases hk : k < s.length
    · have hc : s[k]? = some s[k] := List.getElem?_eq_getElem hk
      rw [if_pos hk, qcB, qcb hc]
      by_cases ha : (s[k]).toNat < 128
      · obtain ⟨e1, e2⟩ := qfR hc ha
        rw [e1, e2, qey s K (k + 1) (by omega) (by omega)]
        have ek : ((k : Int) = 0) ↔ k = 0 := by omega
        unfold qf2
        generalize ((s[k]).toNat : Int) = c
        cases hl : qeR c <;> by_cases h0 : k = 0 <;> by_cases h1 : c = 95 <;> by_cases h2 : c < 48 <;> by_cases h3 : 57 < c <;>
          simp [hl, h0, h1, h2, h3]
      · have hw := qhe hc (by omega)
        rw [qhn (show (128 : Int) ≤ ((s[k]).toNat : Int) by omega)]
        have hl : qeR (kI s k) = false := by unfold qeR; simp; omega
        have h1 : ¬ kI s k = 95 := by omega
        have h2 : ¬ kI s k < 48 := by omega
        have h3 : kI s k > 57 := by omega
        have ek : ((k : Int) = 0) ↔ k = 0 := by omega
        simp only [hl, Option.bind_some, Bool.not_false, if_true, h1, h2, h3, decide_true, decide_false, if_false, Bool.true_or, ek]
        by_cases h0 : k = 0
        · simp only [h0, if_true, Option.bind_some]
        · simp only [h0, if_false, Option.bind_some, if_true]
    · rw [if_neg hk, qcC (by omega)]
      rfl
theorem qfu (s : Str) : jN s = (decide (1 ≤ s.length) && decide (s.length ≤ 24) && !yz s 0) := by
  unfold jN yz
  simp
theorem qhj {N : Nat} {s : Str} (h : s.length < N) : vU N s = some (jN s) := by
  unfold vU
  rw [qey s N 0 (Nat.zero_le _) (by omega), qfu]
  cases hb : yz s 0
  · cases s with
    | nil => simp
    | cons x xs =>
      have e : ((x :: xs) == ([] : Str)) = false := rfl
      simp only [Option.bind_some, Bool.false_eq_true, if_false, e, Bool.not_false, if_true, Bool.and_true, Option.some.injEq]
      have : (1 ≤ (x :: xs).length) := by simp
      rw [Bool.eq_iff_iff]
      simp only [decide_eq_true_eq, Bool.and_eq_true, this, true_and]
      omega
  · simp
theorem qdi (s : Str) (hs : s.length < 4611686018427387904) : ∀ (K k : Nat), k ≤ s.length → s.length < K + k → jl s K (k : Int) = some (if yz s k then .inr false else .inl ())
  | 0, k, h, hK => by omega
  | K + 1, k, h, hK => by
    unfold jl
    by_cases hk : k < s.length
    · have hc : s[k]? = some s[k] := List.getElem?_eq_getElem hk
      rw [if_pos (by omega), kT, hc, qcb hc, zW (by omega), qdi s hs K (k + 1) (by omega) (by omega)]
      simp only [Option.bind_some]
      have ek : ((k : Int) = 0) ↔ k = 0 := by omega
      unfold qf2
      generalize ((s[k]).toNat : Int) = c
      rw [show (if c ≥ 97 then if c ≤ 122 then some true else if c ≥ 65 then some (decide (c ≤ 90)) else some false else if c ≥ 65 then some (decide (c ≤ 90)) else some false : Option Bool) = some (qeR c) from by
        have := qcB c
        unfold jI at this
        rw [← this]
        cases (if c ≥ 97 then if c ≤ 122 then some true else if c ≥ 65 then some (decide (c ≤ 90)) else some false else if c ≥ 65 then some (decide (c ≤ 90)) else some false : Option Bool) <;> rfl]
      simp only [Option.bind_some, ek]
      cases qeR c
      · by_cases h5 : k = 0
        · simp [h5]
        · by_cases h6 : c ≥ 48
          · by_cases h7 : c ≤ 57
            · have a1 : ¬ c < 48 := by omega
              have a2 : ¬ c > 57 := by omega
              simp [h5, h6, h7, a1, a2]
            · have a1 : ¬ c < 48 := by omega
              have a2 : c > 57 := by omega
              by_cases h8 : c = 95 <;> simp [h5, h6, h7, h8, a1, a2]
          · have a1 : c < 48 := by omega
            by_cases h8 : c = 95 <;> simp [h5, h6, h8, a1]
      · simp
    · rw [if_neg (by omega), qcC (by omega)]
      rfl
theorem qf8 {N : Nat} {s : Str} (h : s.length < N) (hs : s.length < 4611686018427387904) : yC N s = some (jN s) := by
  unfold yC
  rw [show (0 : Int) = ((0 : Nat) : Int) from rfl, qdi s hs N 0 (Nat.zero_le _) (by omega), qfu]
  by_cases h1 : s.length < 1
  · rw [if_pos (by omega)]
    simp [show ¬ 1 ≤ s.length by omega]
  · by_cases h2 : s.length > 24
    · rw [if_neg (by omega)]
      simp only [Option.bind_some, show ((s.length : Int) > 24) by omega, decide_true, if_true, show ¬ s.length ≤ 24 by omega, decide_false, Bool.and_false, Bool.false_and]
    · rw [if_neg (by omega)]
      simp only [Option.bind_some, show ¬ ((s.length : Int) > 24) by omega, decide_false, Bool.false_eq_true, if_false, show 1 ≤ s.length by omega, show s.length ≤ 24 by omega, decide_true, Bool.true_and]
      cases hb : yz s 0 <;> rfl
def kw : List Int → Int
  | [] => 0
  | x :: xs => if x = 0 then kw xs else x
theorem qfC (l : List Int) (hl : l.length < 4611686018427387904) : ∀ (K k : Nat), k ≤ l.length → l.length < K + k → jo l K (k : Int) = some (if kw (l.drop k) = 0 then .inl () else .inr (kw (l.drop k)))
  | 0, k, h, hK => by omega
  | K + 1, k, h, hK => by
    unfold jo
    by_cases hk : k < l.length
    · rw [if_pos (by omega), kT, List.getElem?_eq_getElem hk, List.drop_eq_getElem_cons hk, zW (by omega), qfC l hl K (k + 1) (by omega) (by omega)]
      simp only [Option.bind_some, kw]
      by_cases h0 : l[k] = 0
      · simp [h0]
      · simp [h0]
    · rw [if_neg (by omega), List.drop_of_length_le (by omega)]
      rfl
theorem yo {N : Nat} {l : List Int} (hl : l.length < 4611686018427387904) (h : l.length < N) : zf N l = some (kw l) := by
  unfold zf
  rw [show (0 : Int) = ((0 : Nat) : Int) from rfl, qfC l hl N 0 (Nat.zero_le _) (by omega), List.drop_zero]
  by_cases h0 : kw l = 0
  · simp [h0]
  · simp [h0]
theorem xQ (b : Bool) (e : Int) : kg b e = some (if b = true then e else 0) := by
  unfold kg; split <;> rfl
def zB (n lo hi : Int) : Bool := decide (n < lo) || decide (n > hi)
theorem qag (n lo hi : Int) : zC n lo hi = some (if zB n lo hi = true then 3 else 0) := by
  unfold zC zB
  simp only [xQ]
  by_cases h : n < lo <;> simp [h]
theorem yR (n lo hi : Int) : kZ n lo hi = some (zB n lo hi) := by
  unfold kZ zB
  by_cases h : n < lo <;> simp [h]
theorem qfp {N : Nat} {s : Str} (h : s.length < N) : vP N s = some (if jN s = true then 0 else 8) := by
  unfold vP
  simp only [qhj h, xQ, Option.bind_some]
  cases jN s <;> rfl
def jL : Str := [109, 97, 107, 101]
def vT : Str := [116, 101, 115, 116]
def xA : Str := [117, 115, 101]
def vX : Str := [102, 97, 105, 108]
def ze : Str := [114, 101, 99, 97, 108, 108]
def vR : Str := [117, 110, 100, 111]
def jM (k : Str) : Int × Int × Bool :=
  if (k == jL) = true then (2, 3, true) else if (k == vT) = true then (1, 2, true) else if (k == xA) = true then (1, 2, true) else if (k == vX) = true then (1, 1, true)
  else if (k == ze) = true then (1, 1, true) else if (k == vR) = true then (0, 0, true) else (0, 0, false)
theorem qiP (k : Str) : xJ k = some (jM k) := by
  unfold xJ jM jL vT xA vX ze vR
  by_cases h1 : (k == [109, 97, 107, 101]) = true
  · simp only [h1, if_true]
  · by_cases h2 : (k == [116, 101, 115, 116]) = true
    · simp only [h1, h2, if_false, if_true, Option.bind_some]; rfl
    · by_cases h3 : (k == [117, 115, 101]) = true
      · simp only [h1, h2, h3, if_false, if_true, Option.bind_some]; rfl
      · by_cases h4 : (k == [102, 97, 105, 108]) = true
        · simp only [h1, h2, h3, h4, if_false, if_true, Option.bind_some]; rfl
        · by_cases h5 : (k == [114, 101, 99, 97, 108, 108]) = true
          · simp only [h1, h2, h3, h4, h5, if_false, if_true, Option.bind_some]; rfl
          · simp only [h1, h2, h3, h4, h5, if_false, Option.bind_some, Bool.false_eq_true]
            split <;> rfl
def jf (e : ql) : Int :=
  if zB e.Number 1 1000 = true then 3
  else if (jM e.Kind).2.2 = false then 13
  else if ¬ ((e.Names.length : Int) = (jM e.Kind).1 ∧ (e.Values.length : Int) = (jM e.Kind).2.1) then 2
  else if e.Names.all jN = false then 8
  else if e.Values.all (fun v => !zB v 0 999999999) = false then 3
  else if e.Text = [] then 0 else 1
theorem qjp {N : Nat} (e : ql) (hl : e.Names.length < 4611686018427387904) (hs : ∀ s ∈ e.Names, s.length < N) : ∀ (K k : Nat), k ≤ e.Names.length → e.Names.length < K + k → kY N e K (k : Int) = some (if (e.Names.drop k).all jN = true then .inl () else .inr 8)
  | 0, k, h, hK => by omega
  | K + 1, k, h, hK => by
    unfold kY
    by_cases hk : k < e.Names.length
    · rw [if_pos (by omega), kT, List.getElem?_eq_getElem hk, List.drop_eq_getElem_cons hk, zW (by omega), qjp e hl hs K (k + 1) (by omega) (by omega)]
      simp only [Option.bind_some, qfp (hs _ (List.getElem_mem hk)), List.all_cons]
      by_cases hq : jN e.Names[k] = true <;> simp [hq]
    · rw [if_neg (by omega), List.drop_of_length_le (by omega)]
      rfl
theorem qjk (e : ql) (hl : e.Values.length < 4611686018427387904) : ∀ (K k : Nat), k ≤ e.Values.length → e.Values.length < K + k → kV e K (k : Int) = some (if (e.Values.drop k).all (fun v => !zB v 0 999999999) = true then .inl () else .inr 3)
  | 0, k, h, hK => by omega
  | K + 1, k, h, hK => by
    unfold kV
    by_cases hk : k < e.Values.length
    · rw [if_pos (by omega), kT, List.getElem?_eq_getElem hk, List.drop_eq_getElem_cons hk, zW (by omega), qjk e hl K (k + 1) (by omega) (by omega)]
      simp only [Option.bind_some, qag, List.all_cons]
      by_cases hq : zB e.Values[k] 0 999999999 = true <;> simp [hq]
    · rw [if_neg (by omega), List.drop_of_length_le (by omega)]
      rfl
structure qbM (N : Nat) (e : ql) : Prop where
  n : e.Names.length < N
  v : e.Values.length < N
  s : ∀ s ∈ e.Names, s.length < N
theorem qd3 {N : Nat} (hN : N < 4611686018427387904) (h3 : 3 < N) {e : ql} (h : qbM N e) : jK N e = some (jf e) := by
  obtain ⟨hn, hv, hs⟩ := h
  unfold jK
  have hf : ((zu).bind fun r1 =>
      if (e.Kind == [109, 97, 107, 101]) = true then some (2, 3, true) else if (e.Kind == [116, 101, 115, 116]) = true then some (1, 2, true) else if (e.Kind == [117, 115, 101]) = true then some (1, 2, true)
      else if (e.Kind == [102, 97, 105, 108]) = true then some (1, 1, true) else if (e.Kind == [114, 101, 99, 97, 108, 108]) = true then some (1, 1, true) else if (e.Kind == [117, 110, 100, 111]) = true then some (0, 0, true)
      else some (0, 0, false) : Option (Int × Int × Bool)) = some (jM e.Kind) := by
    simp only [zu, Option.bind_some, jM, jL, vT, xA, vX, ze, vR]
    by_cases h1 : (e.Kind == [109, 97, 107, 101]) = true
    · simp only [h1, if_true]
    by_cases h2 : (e.Kind == [116, 101, 115, 116]) = true
    · simp only [h1, h2, if_true, if_false, Bool.false_eq_true]
    by_cases h3 : (e.Kind == [117, 115, 101]) = true
    · simp only [h1, h2, h3, if_true, if_false, Bool.false_eq_true]
    by_cases h4 : (e.Kind == [102, 97, 105, 108]) = true
    · simp only [h1, h2, h3, h4, if_true, if_false, Bool.false_eq_true]
    by_cases h5 : (e.Kind == [114, 101, 99, 97, 108, 108]) = true
    · simp only [h1, h2, h3, h4, h5, if_true, if_false, Bool.false_eq_true]
    by_cases h6 : (e.Kind == [117, 110, 100, 111]) = true
    · simp only [h1, h2, h3, h4, h5, h6, if_true, if_false, Bool.false_eq_true]
    simp only [h1, h2, h3, h4, h5, h6, if_true, if_false, Bool.false_eq_true]
  rw [hf]
  have e0 : (0 : Int) = ((0 : Nat) : Int) := rfl
  simp only [Option.bind_some, qag, xQ, yo (N := N) (l := [_, _, _]) (by simp) (by simpa using h3)]
  rw [e0, qjp e (by omega) hs N 0 (by omega) (by omega), qjk e (by omega) N 0 (by omega) (by omega), List.drop_zero, List.drop_zero]
  unfold jf
  generalize jM e.Kind = f
  obtain ⟨a, b, c⟩ := f
  by_cases h1 : zB e.Number 1 1000 = true
  · by_cases hx : (e.Names.length : Int) = a <;> simp [h1, kw, hx]
  · cases c
    · by_cases hx : (e.Names.length : Int) = a <;> simp [h1, kw, hx]
    · by_cases hx : (e.Names.length : Int) = a
      · by_cases hy : (e.Values.length : Int) = b
        · cases hA : e.Names.all jN
          · simp [h1, kw, hx, hy, hA]
          · cases hB : e.Values.all (fun v => !zB v 0 999999999)
            · simp [h1, kw, hx, hy, hA, hB]
            · by_cases ht : e.Text = []
              · simp [h1, kw, hx, hy, hA, hB, ht]
              · have : (e.Text == []) = false := by cases hq : e.Text with | nil => exact absurd hq ht | cons => rfl
                simp [h1, kw, hx, hy, hA, hB, ht, this]
        · simp [h1, kw, hx, hy]
      · simp [h1, kw, hx]
theorem qie {N : Nat} (hN : N < 4611686018427387904) (e : ql) {r : Int × Int × Bool} (hr : (e.Names.length : Int) = r.1) (hl : e.Names.length < 4611686018427387904) (hs : ∀ s ∈ e.Names, s.length < N) : ∀ (K k : Nat), k ≤ e.Names.length → e.Names.length < K + k → zm N e r K (k : Int) = some (if (e.Names.drop k).all jN = true then .inl () else .inr 8)
  | 0, k, h, hK => by omega
  | K + 1, k, h, hK => by
    unfold zm
    by_cases hk : k < e.Names.length
    · have := hs _ (List.getElem_mem hk)
      rw [if_pos (by omega), kT, List.getElem?_eq_getElem hk, List.drop_eq_getElem_cons hk, zW (by omega), qie hN e hr hl hs K (k + 1) (by omega) (by omega)]
      simp only [Option.bind_some, qf8 this (by omega), List.all_cons]
      by_cases hq : jN e.Names[k] = true <;> simp [hq]
    · rw [if_neg (by omega), List.drop_of_length_le (by omega)]
      rfl
theorem qij (e : ql) {r : Int × Int × Bool} (hr : (e.Values.length : Int) = r.2.1) (hl : e.Values.length < 4611686018427387904) : ∀ (K k : Nat), k ≤ e.Values.length → e.Values.length < K + k → zl e r K (k : Int) = some (if (e.Values.drop k).all (fun v => !zB v 0 999999999) = true then .inl () else .inr 3)
  | 0, k, h, hK => by omega
  | K + 1, k, h, hK => by
    unfold zl
    by_cases hk : k < e.Values.length
    · rw [if_pos (by omega), kT, List.getElem?_eq_getElem hk, List.drop_eq_getElem_cons hk, zW (by omega), qij e hr hl K (k + 1) (by omega) (by omega)]
      simp only [Option.bind_some, yR, List.all_cons]
      by_cases hq : zB e.Values[k] 0 999999999 = true <;> simp [hq]
    · rw [if_neg (by omega), List.drop_of_length_le (by omega)]
      rfl
theorem qdz {N : Nat} (hN : N < 4611686018427387904) {e : ql} (h : qbM N e) : jV N e = some (jf e) := by
  obtain ⟨hn, hv, hs⟩ := h
  unfold jV jf
  rw [yR, qiP]
  simp only [Option.bind_some]
  by_cases h1 : zB e.Number 1 1000 = true
  · simp [h1]
  · rw [if_neg h1, if_neg h1]
    cases hc : (jM e.Kind).2.2
    · simp
    · by_cases hx : (e.Names.length : Int) = (jM e.Kind).1
      · by_cases hy : (e.Values.length : Int) = (jM e.Kind).2.1
        · have e0 : (0 : Int) = ((0 : Nat) : Int) := rfl
          rw [e0, qie hN e hx (by omega) hs N 0 (by omega) (by omega), qij e hy (by omega) N 0 (by omega) (by omega), List.drop_zero, List.drop_zero]
          cases hA : e.Names.all jN
          · simp [hx, hy]
          · cases hB : e.Values.all (fun v => !zB v 0 999999999)
            · simp [hx, hy]
            · by_cases ht : e.Text = []
              · simp [hx, hy, ht]
              · have : (e.Text == []) = false := by cases hq : e.Text with | nil => exact absurd hq ht | cons => rfl
                simp [hx, hy, ht, this]
        · simp [hx, hy]
      · simp [hx]
def jw (s : qc) (d : Int) : Bool := s.Gone || (decide (d > s.Last) || decide (s.Used = s.Uses))
def qaQ (s : qc) (d : Int) : Bool := decide (s.Limit > 0) && decide (d ≤ s.Until)
theorem qak (s : qc) (d : Int) : kG s d = some (jw s d) := by
  unfold kG jw
  by_cases h : s.Gone = true
  · simp [h]
  · by_cases h2 : d > s.Last <;> simp [h, h2]
theorem qcE (s : qc) (d : Int) : vC s d = some (jw s d) := by
  unfold vC jw
  by_cases h : s.Gone = true
  · simp [h]
  · by_cases h2 : d > s.Last <;> simp [h, h2]
theorem qe0 (s : qc) (d : Int) : zU s d = some (qaQ s d) := by
  unfold zU qaQ
  by_cases h : s.Limit > 0 <;> simp [h]
theorem qgO (s : qc) (d : Int) : yj s d = some (qaQ s d) := by
  unfold yj qaQ
  by_cases h : s.Limit > 0 <;> simp [h]
def zM : List qc → Str → Nat
  | [], _ => 0
  | s :: l, n => if ltL s.Name n = true then zM l n + 1 else 0
def zS : List qc → Str → Bool
  | [], _ => false
  | s :: l, n => if ltL s.Name n = true then zS l n else s.Name == n
theorem qbO : ∀ (l : List qc) (n : Str), zM l n ≤ l.length
  | [], _ => Nat.le_refl _
  | s :: l, n => by
    unfold zM
    split
    · have := qbO l n; simp only [List.length_cons]; omega
    · simp
theorem qbe : ∀ {l : List qc} {n : Str}, zS l n = true → zM l n < l.length
  | [], _, h => by simp [zS] at h
  | s :: l, n, h => by
    unfold zS at h
    unfold zM
    by_cases hc : ltL s.Name n = true
    · rw [if_pos hc] at h ⊢
      have := qbe h
      simp only [List.length_cons]; omega
    · rw [if_neg hc]; simp
theorem qb8 : ∀ {l : List qc} {n : Str} {s : qc}, l[zM l n]? = some s → zS l n = (s.Name == n)
  | [], _, _, h => by simp at h
  | t :: l, n, s, h => by
    unfold zM at h
    unfold zS
    by_cases hc : ltL t.Name n = true
    · rw [if_pos hc] at h ⊢
      exact qb8 (by simpa using h)
    · rw [if_neg hc] at h ⊢
      simp only [List.getElem?_cons_zero, Option.some.injEq] at h
      rw [h]
theorem qb7 (l : List qc) (hl : l.length < 4611686018427387904) (n : Str) : ∀ (K k : Nat), k ≤ l.length → l.length < K + k → qL l n K (k : Int) = some (if zM (l.drop k) n < (l.drop k).length then .inr ((k + zM (l.drop k) n : Nat) : Int) else .inl ())
  | 0, k, h, hK => by omega
  | K + 1, k, h, hK => by
    unfold qL
    by_cases hk : k < l.length
    · rw [if_pos (by omega), kT, List.getElem?_eq_getElem hk, List.drop_eq_getElem_cons hk, zW (by omega), qb7 l hl n K (k + 1) (by omega) (by omega)]
      simp only [Option.bind_some, zF, zM, List.length_cons]
      by_cases hc : ltL (l[k]).Name n = true
      · simp only [hc, Bool.not_true, Bool.false_eq_true, if_false, if_true, Nat.add_lt_add_iff_right]
        split
        · rw [show k + 1 + zM (List.drop (k + 1) l) n = k + (zM (List.drop (k + 1) l) n + 1) by omega]
        · rfl
      · simp [hc]
    · rw [if_neg (by omega), List.drop_of_length_le (by omega)]
      rfl
theorem qcX {N : Nat} {l : List qc} (hl : l.length < 4611686018427387904) (hN : l.length < N) (d : Int) (n : Str) : kX N ⟨d, l⟩ n = some ((zM l n : Int), zS l n) := by
  unfold kX zQ
  rw [show (0 : Int) = ((0 : Nat) : Int) from rfl, qb7 l hl n N 0 (by omega) (by omega), List.drop_zero]
  by_cases h : zM l n < l.length
  · have hg : l[zM l n]? = some (l[zM l n]) := List.getElem?_eq_getElem h
    have h2 : ¬ ((zM l n : Nat) : Int) < 0 := by omega
    simp only [h, if_true, Nat.zero_add, Option.bind_some]
    rw [if_neg (by omega), kT, hg, Option.bind_some, qb8 hg]
  · have h0 : zS l n = false := by
      cases hq : zS l n with
      | false => rfl
      | true => exact absurd (qbe hq) h
    have h1 : zM l n = l.length := by have := qbO l n; omega
    simp [h, h0, h1]
def Asc (l : List qc) : Prop := l.Pairwise fun a b => ltL a.Name b.Name = true
theorem Asc.find : ∀ {l : List qc}, Asc l → ∀ n : Str, l.findIdx? (fun s => s.Name == n) = if zS l n = true then some (zM l n) else none
  | [], _, n => by simp [zS]
  | s :: l, h, n => by
    have h1 := (List.pairwise_cons.1 h).1
    have h2 := Asc.find (List.pairwise_cons.1 h).2 n
    rw [List.findIdx?_cons]
    unfold zS zM
    by_cases hc : ltL s.Name n = true
    · have : (s.Name == n) = false := beq_eq_false_iff_ne.2 (qdr hc)
      rw [if_pos hc, if_pos hc, this, h2]
      simp only [Bool.false_eq_true, if_false]
      split <;> rfl
    · rw [if_neg hc, if_neg hc]
      by_cases he : (s.Name == n) = true
      · simp [he]
      · simp only [he, if_false, Bool.false_eq_true]
        have hgt : ltL n s.Name = true := by
          cases hq : ltL n s.Name with
          | true => rfl
          | false => exact absurd (beq_iff_eq.2 (qeO _ _ (by simpa using hc) hq)) he
        have : l.findIdx? (fun s => s.Name == n) = none := by
          rw [List.findIdx?_eq_none_iff]
          intro x hx
          exact beq_eq_false_iff_ne.2 fun e => qdr (qcu hgt (h1 x hx)) e.symm
        rw [this]; rfl
theorem qjm (r : qI) (hl : r.Slings.length < 4611686018427387904) (n : Str) : ∀ (K k : Nat), k ≤ r.Slings.length → r.Slings.length < K + k → vH r n K (k : Int) = some (match (r.Slings.drop k).findIdx? (fun s => s.Name == n) with | some j => .inr ((k + j : Nat) : Int) | none => .inl ())
  | 0, k, h, hK => by omega
  | K + 1, k, h, hK => by
    unfold vH
    by_cases hk : k < r.Slings.length
    · rw [if_pos (by omega), kT, List.getElem?_eq_getElem hk, List.drop_eq_getElem_cons hk, zW (by omega), qjm r hl n K (k + 1) (by omega) (by omega), List.findIdx?_cons]
      simp only [Option.bind_some]
      by_cases he : ((r.Slings[k]).Name == n) = true
      · simp [he]
      · simp only [he, if_false, Bool.false_eq_true]
        cases (r.Slings.drop (k + 1)).findIdx? (fun s => s.Name == n) with
        | none => rfl
        | some j => simp only [Option.map_some]; rw [show k + 1 + j = k + (j + 1) by omega]
    · rw [if_neg (by omega), List.drop_of_length_le (by omega)]
      rfl
theorem qii {N : Nat} {r : qI} (hl : r.Slings.length < 4611686018427387904) (hN : r.Slings.length < N) (ha : Asc r.Slings) (n : Str) : qaO N r n = some (if zS r.Slings n = true then (zM r.Slings n : Int) else -1) := by
  unfold qaO
  rw [show (0 : Int) = ((0 : Nat) : Int) from rfl, qjm r hl n N 0 (by omega) (by omega), List.drop_zero, ha.find n]
  by_cases h : zS r.Slings n = true <;> simp [h]
theorem Asc.uniq {l : List qc} (h : Asc l) {i : Nat} {s : qc} {n : Str} (hi : l[i]? = some s) (hs : s.Name = n) : zS l n = true ∧ zM l n = i := by
  have hf := h.find n
  have hlt := (List.getElem?_eq_some_iff.1 hi).1
  cases hq : zS l n with
  | false =>
    rw [hq, if_neg (by simp), List.findIdx?_eq_none_iff] at hf
    have := hf s (List.mem_of_getElem? hi)
    simp [hs] at this
  | true =>
    refine ⟨rfl, ?_⟩
    have hp := qbe hq
    have hg : l[zM l n]? = some (l[zM l n]) := List.getElem?_eq_getElem hp
    have hn := qb8 hg
    rw [hq] at hn
    have hn : (l[zM l n]).Name = n := (beq_iff_eq.1 hn.symm)
    have he : l[i] = s := by
      rw [List.getElem?_eq_getElem hlt] at hi
      injection hi
    rcases Nat.lt_trichotomy (zM l n) i with hlt2 | e | hgt
    · have := List.pairwise_iff_getElem.1 h _ _ hp hlt hlt2
      rw [he, hn, hs] at this
      exact absurd rfl (qdr this)
    · exact e
    · have := List.pairwise_iff_getElem.1 h _ _ hlt hp hgt
      rw [he, hn, hs] at this
      exact absurd rfl (qdr this)
def qbK (l : List qc) (s : qc) : List qc := l.take (zM l s.Name) ++ s :: l.drop (zM l s.Name)
theorem xq {d : Int} {l : List qc} (h : l.length ≤ 1000) : qz d l = some l := by
  unfold qz
  have e : mk 88 (l.length : Int) (⟨[], [], 0, 0, 0, 0, 0, 0, false⟩ : qc) = some (List.replicate l.length ⟨[], [], 0, 0, 0, 0, 0, 0, false⟩) := by
    unfold mk
    rw [if_pos ⟨by omega, by omega, by omega⟩, Int.toNat_natCast]
  rw [e, Option.bind_some, qfr (by simp)]
  rfl
theorem qgL {l : List qc} (h : l.length ≤ 1000) {p : Nat} (hp : p ≤ l.length) (a b : Str) (c d e f g i : Int) (j : Bool) : zK l (p : Int) a b c d e f g i j = some (l.take p ++ ⟨a, b, c, d, e, f, g, i, j⟩ :: l.drop p) := by
  unfold zK
  generalize hs : (⟨a, b, c, d, e, f, g, i, j⟩ : qc) = s
  rw [qga hp, Option.bind_some, if_neg (by decide)]
  by_cases he : p = l.length
  · rw [if_pos (by omega), he, List.take_length, List.drop_length]
    cases l with
    | nil => rfl
    | cons x xs =>
      simp only [List.length_cons] at h
      simp only [yu (b := 88) (l := x :: xs) (xs := [s]) (by simp; omega) (by simp; omega), Option.bind_some]
  · rw [if_neg (by omega)]
    have w1 : w64 ((l.length : Int) + 1) = ((l.length + 1 : Nat) : Int) := zW (by omega)
    have w2 : w64 (((l.length + 1 : Nat) : Int) - (p : Int)) = ((l.length + 1 - p : Nat) : Int) := by rw [yM (by omega) (by omega)]; omega
    have w3 : w64 ((p : Int) + 1) = ((p + 1 : Nat) : Int) := zW (by omega)
    rw [w1, if_pos (by omega), w2, w3]
    have e1 : qha 88 l p ((l.length + 1 - p : Nat) : Int) (⟨[], [], 0, 0, 0, 0, 0, 0, false⟩ : qc) = some (l.take p ++ List.replicate (l.length + 1 - p) ⟨[], [], 0, 0, 0, 0, 0, 0, false⟩) := by
      unfold qha
      rw [if_pos ⟨by omega, by omega, by omega, by omega, hp, by simp only [Int.toNat_natCast]; omega, by simp only [Int.toNat_natCast]; omega, by simp only [Int.toNat_natCast]; omega⟩, Int.toNat_natCast]
    rw [e1, Option.bind_some]
    obtain ⟨z, hz⟩ : ∃ z : qc, z = ⟨[], [], 0, 0, 0, 0, 0, 0, false⟩ := ⟨_, rfl⟩
    rw [← hz]
    have e2 : List.replicate (l.length + 1 - p) z = z :: List.replicate (l.length - p) z := by
      rw [show l.length + 1 - p = (l.length - p) + 1 by omega]; rfl
    have lt : (l.take p).length = p := by rw [List.length_take]; omega
    have e3 : (if (p : Int) = 0 then (some (cpy (l.take p ++ List.replicate (l.length + 1 - p) z) [s])).bind fun l13 => some l13
        else (at' (l.take p ++ List.replicate (l.length + 1 - p) z) (p : Int)).bind fun j14 => ((if j14 < (l.take p ++ List.replicate (l.length + 1 - p) z).length then some () else none : Option Unit)).bind fun u15 =>
          (some (qbQ (l.take p ++ List.replicate (l.length + 1 - p) z) j14 [s])).bind fun l16 => some l16 : Option (List qc)) = some (l.take p ++ s :: List.replicate (l.length - p) z) := by
      by_cases h0 : p = 0
      · subst h0
        rw [if_pos (by rfl)]
        simp only [Option.bind_some, List.take_zero, List.nil_append, e2]
        simp [cpy]
      · rw [if_neg (by omega), qga (by simp; omega), Option.bind_some, if_pos (by simp; omega), Option.bind_some, Option.bind_some]
        simp only [qbQ, List.take_append, List.drop_append, lt, Nat.sub_self, List.take_zero, List.append_nil, List.drop_zero]
        rw [List.take_of_length_le (by omega), List.drop_of_length_le (by omega), List.nil_append, e2]
        simp [cpy]
    rw [e3, Option.bind_some, if_neg (by omega), qga (by simp; omega), Option.bind_some, if_pos (by simp; omega), Option.bind_some, Option.bind_some]
    have e4 : (l.take p ++ s :: List.replicate (l.length - p) z).take (p + 1) = l.take p ++ [s] := by
      rw [List.take_append, lt, List.take_of_length_le (by omega), show p + 1 - p = 1 by omega]; rfl
    have e5 : (l.take p ++ s :: List.replicate (l.length - p) z).drop (p + 1) = List.replicate (l.length - p) z := by
      rw [List.drop_append, lt, List.drop_of_length_le (by omega), show p + 1 - p = 1 by omega]; rfl
    simp only [qbQ, e4, e5]
    rw [qfr (by simp), List.append_assoc]
    rfl
def vG (d day : Int) : Int := if day > 99999 then 3 else if day < d then 19 else 0
theorem qg0 {N : Nat} (hN : 2 < N) {d day : Int} (h : 0 ≤ day) : zf N [if zB day 0 99999 = true then 3 else 0, if decide (day < d) = true then 19 else 0] = some (vG d day) := by
  rw [yo (by simp) (by simpa using hN)]
  unfold zB vG
  by_cases h1 : day > 99999
  · simp [h1, kw]
  · have : ¬ day < 0 := by omega
    by_cases h2 : day < d <;> simp [h1, h2, this, kw]
theorem xU (n : Int) : zP n = some (if zB n 0 99999 = true then 3 else 0) := by
  unfold zP; rw [qag]; rfl
structure vW (N : Nat) (l : List qc) : Prop where
  asc : Asc l
  len : l.length ≤ 1000
  big : 2000 < N
  max : N < 4611686018427387904
def qbR (r : Option (Int × List qc × Int)) (err day : Int) (new : List qc) : Prop := ∃ x l', r = some (x, l', err) ∧ (err = 0 → x = day ∧ l' = new)
structure qgN (N : Nat) (d : Int) (l : List qc) (e : ql) (err day : Int) (new : List qc) : Prop where
  ref : qV N ⟨d, l⟩ e = some err
  aft : err = 0 → kW N ⟨d, l⟩ e = some ⟨day, new⟩
theorem qbR.day {N : Nat} (hN : 2000 < N) {d : Int} {l new : List qc} {num : Int} {k : Str} {ns : List Str} {vs : List Int} {t : Str} {day err err2 : Int} (hv : vs[0]? = some day) (h0 : 0 ≤ day) (he : err = if vG d day = 0 then err2 else vG d day)
    (hk : vG d day = 0 → ∃ l', (((zu).bind fun r9 =>
        if (k == [109, 97, 107, 101]) = true then (qz d l).bind fun l12 => (vJ N d l12 num k ns vs t).bind fun (l14, e_15) => some (l14, e_15)
        else if (k == [116, 101, 115, 116]) = true then (qz d l).bind fun l18 => (jO N d l18 num k ns vs t).bind fun (l20, e_21) => some (l20, e_21)
        else if (k == [117, 115, 101]) = true then (qz d l).bind fun l24 => (vI N d l24 num k ns vs t).bind fun (l26, e_27) => some (l26, e_27)
        else if (k == [102, 97, 105, 108]) = true then (qz d l).bind fun l30 => (jS N d l30 num k ns vs t).bind fun (l32, e_33) => some (l32, e_33)
        else if (k == [114, 101, 99, 97, 108, 108]) = true then (qz d l).bind fun l36 => (jy N d l36 num k ns vs t).bind fun (l38, e_39) => some (l38, e_39)
        else if (k == [117, 110, 100, 111]) = true then none else none : Option (List qc × Int)) = some (l', err2)) ∧ (err2 = 0 → l' = new)) :
    qbR (qE N d l num k ns vs t) err day new := by
  unfold qbR qE
  rw [yE, hv, Option.bind_some, xU, Option.bind_some, xQ, Option.bind_some, qg0 (by omega) h0, Option.bind_some]
  by_cases hd : vG d day = 0
  · obtain ⟨l', h1, h2⟩ := hk hd
    rw [if_pos hd] at he
    subst he
    rw [if_neg (by simp [hd]), h1, Option.bind_some]
    exact ⟨day, l', rfl, fun h => ⟨rfl, h2 h⟩⟩
  · rw [if_neg hd] at he
    subst he
    rw [if_pos (by simp [hd])]
    exact ⟨0, [], rfl, fun h => absurd h hd⟩
def qbq (l : List qc) (n : Str) (day life uses : Int) : Int :=
  if zS l n = true then 9 else if zB life 1 9999 = true then 3 else if zB uses 1 9999 = true then 3 else if w64 (day + life) > 99999 then 3 else if l.length ≥ 256 then 5 else 0
theorem qjC {N : Nat} {d : Int} {l : List qc} (h : vW N l) {num day life uses : Int} {n b t : Str} (h0 : 0 ≤ day ∧ day ≤ 999999999) (h1 : 0 ≤ life ∧ life ≤ 999999999) :
    qbR (qE N d l num jL [n, b] [day, life, uses] t) (if vG d day = 0 then qbq l n day life uses else vG d day) day (qbK l ⟨n, b, day, w64 (day + life), uses, 0, 0, 0, false⟩) := by
  obtain ⟨ha, hl, hN, hM⟩ := h
  refine qbR.day hN rfl h0.1 rfl fun hd => ?_
  simp only [zu, Option.bind_some, show (jL == [109, 97, 107, 101]) = true by decide, if_true, xq hl, vJ, yE, qaX, qgr, List.getElem?_cons_zero, List.getElem?_cons_succ, qcX (N := N) (l := l) (by omega) (by omega), xQ, qag, xU]
  rw [yo (by simp) (by simp; omega), Option.bind_some]
  have e : kw [if zS l n = true then 9 else 0, if zB life 1 9999 = true then 3 else 0, if zB uses 1 9999 = true then 3 else 0, if zB (w64 (day + life)) 0 99999 = true then 3 else 0, if decide ((l.length : Int) ≥ 256) = true then 5 else 0] = qbq l n day life uses := by
    have hw : w64 (day + life) = day + life := yM (by omega) (by omega)
    rw [hw]
    unfold qbq
    rw [hw]
    by_cases a1 : zS l n = true
    · simp [a1, kw]
    · by_cases a2 : zB life 1 9999 = true
      · simp [a1, a2, kw]
      · by_cases a3 : zB uses 1 9999 = true
        · simp [a1, a2, a3, kw]
        · by_cases a4 : day + life > 99999
          · have : zB (day + life) 0 99999 = true := by simp [zB]; omega
            simp [a1, a2, a3, a4, this, kw]
          · have : zB (day + life) 0 99999 = false := by simp [zB]; omega
            by_cases a5 : l.length ≥ 256
            · have : (l.length : Int) ≥ 256 := by omega
              simp [a1, a2, a3, a4, a5, this, kw, *]
            · have : ¬ (l.length : Int) ≥ 256 := by omega
              simp [a1, a2, a3, a4, a5, this, kw, *]
  rw [e]
  by_cases hz : qbq l n day life uses = 0
  · rw [if_neg (by simp [hz])]
    simp only [qgL hl (qbO l n), Option.bind_some]
    exact ⟨_, by rw [hz]; rfl, fun _ => rfl⟩
  · rw [if_pos (by simp [hz])]
    exact ⟨_, rfl, fun h => absurd h hz⟩
theorem qfk (l : List qc) (hl : l.length ≤ 1000) (n : Str) (x : Int) : ∀ (K k : Nat), k ≤ l.length → l.length < K + k → zI l n K x (k : Int) = some (x, ((k + zM (l.drop k) n : Nat) : Int))
  | 0, k, h, hK => by omega
  | K + 1, k, h, hK => by
    unfold zI
    by_cases hk : k < l.length
    · rw [if_pos (by omega), kT, List.getElem?_eq_getElem hk, List.drop_eq_getElem_cons hk, zW (by omega), qfk l hl n x K (k + 1) (by omega) (by omega)]
      simp only [Option.bind_some, zM]
      by_cases hc : ltL (l[k]).Name n = true
      · simp only [hc, if_true, Option.some.injEq, Prod.mk.injEq, true_and]
        omega
      · simp [hc]
    · rw [if_neg (by omega), List.drop_of_length_le (by omega)]
      simp [zM]
theorem qgn {N : Nat} {d : Int} {l : List qc} (h : vW N l) {num day life uses : Int} {n b t : Str} :
    qgN N d l ⟨num, jL, [n, b], [day, life, uses], t⟩ (if vG d day = 0 then qbq l n day life uses else vG d day) day (qbK l ⟨n, b, day, w64 (day + life), uses, 0, 0, 0, false⟩) := by
  obtain ⟨ha, hl, hN, hM⟩ := h
  constructor
  · unfold qV
    simp only [yE, qaX, qgr, List.getElem?_cons_zero, List.getElem?_cons_succ, Option.bind_some, qii (N := N) (r := ⟨d, l⟩) (show l.length < _ by omega) (show l.length < N by omega) ha, yR, show (jL == [109, 97, 107, 101]) = true by decide, if_true]
    unfold vG qbq
    by_cases a1 : day > 99999
    · simp [a1]
    by_cases a2 : day < d
    · simp [a1, a2]
    simp only [a1, a2, if_false, if_true]
    by_cases a3 : zS l n = true
    · simp [a3]
    · have : ¬ ((-1 : Int) ≥ 0) := by omega
      simp only [a3, this, if_false, Bool.false_eq_true]
      by_cases a4 : zB life 1 9999 = true
      · simp [a4]
      · by_cases a5 : zB uses 1 9999 = true
        · simp [a4, a5]
        · by_cases a6 : w64 (day + life) > 99999
          · simp [a4, a5, a6]
          · by_cases a7 : l.length ≥ 256
            · have : (l.length : Int) ≥ 256 := by omega
              simp [a4, a5, a6, a7, this]
            · have : ¬ (l.length : Int) ≥ 256 := by omega
              simp [a4, a5, a6, a7, this]
  · intro hz
    unfold kW
    have e0 : (0 : Int) = ((0 : Nat) : Int) := rfl
    simp only [yE, qaX, qgr, List.getElem?_cons_zero, List.getElem?_cons_succ, Option.bind_some, show (jL == [109, 97, 107, 101]) = true by decide, if_true]
    rw [yu (by simp; omega) (by simp; omega), Option.bind_some, List.nil_append]
    rw [show (zI l n N (w64 (day + life)) 0) = zI l n N (w64 (day + life)) ((0 : Nat) : Int) from rfl, qfk l hl n _ N 0 (by omega) (by omega), List.drop_zero, Option.bind_some]
    have hp := qbO l n
    simp only [Nat.zero_add]
    rw [qa7 hp, Option.bind_some, yu (by simp; omega) (by simp; omega), Option.bind_some, List.nil_append, yu (by simp; omega) (by simp; omega), Option.bind_some, qhM hp, Option.bind_some, yu (by simp; omega) (by simp; omega), Option.bind_some]
    simp [qbK]
def qcM (l : List qc) (n : Str) (f : qc → qc) : List qc := l.map fun s => if (s.Name == n) = true then f s else s
theorem Asc.set {l : List qc} (h : Asc l) {i : Nat} {s : qc} {n : Str} (hi : l[i]? = some s) (hs : s.Name = n) (f : qc → qc) : qcM l n f = l.set i (f s) := by
  refine List.ext_getElem? fun j => ?_
  have hlt := (List.getElem?_eq_some_iff.1 hi).1
  unfold qcM
  rw [List.getElem?_map, List.getElem?_set]
  by_cases hj : i = j
  · subst hj
    rw [if_pos rfl, hi]
    simp [hs, hlt]
  · rw [if_neg hj]
    cases hq : l[j]? with
    | none => rfl
    | some t =>
      have : ¬ (t.Name == n) = true := fun e => hj ((h.uniq hi hs).2.symm.trans (h.uniq hq (beq_iff_eq.1 e)).2)
      simp only [Option.map_some, this, if_false, Bool.false_eq_true]
def xE (l : List qc) (n : Str) (day : Int) (more : qc → Int) : Int := match l[zM l n]? with
  | some s => if zS l n = true then if jw s day = true then 20 else more s else 10
  | none => 10
theorem qeL {N : Nat} {d : Int} {l : List qc} (h : vW N l) (n : Str) (day : Int) : kD N d l n day = match l[zM l n]? with
    | some s => if zS l n = true then some ((zM l n : Int), true, if jw s day = true then 20 else 0) else some (0, false, 10)
    | none => some (0, false, 10) := by
  obtain ⟨ha, hl, hN, hM⟩ := h
  unfold kD
  rw [qcX (by omega) (by omega), Option.bind_some]
  cases hq : l[zM l n]? with
  | none =>
    have : zS l n = false := by
      cases hh : zS l n with
      | false => rfl
      | true => have := qbe hh; rw [List.getElem?_eq_getElem this] at hq; cases hq
    simp [this]
  | some s =>
    by_cases hh : zS l n = true
    · simp only [hh, Bool.not_true, Bool.false_eq_true, if_false, if_true, kT, hq, Option.bind_some, qak, xQ]
    · simp [hh]
theorem qbU {l : List qc} {n : Str} {s : qc} (hq : l[zM l n]? = some s) (hh : zS l n = true) : s.Name = n := by
  have := qb8 hq
  rw [hh] at this
  exact beq_iff_eq.1 this.symm
theorem jF {l : List qc} {n : Str} {day : Int} {m : qc → Int} (h : zS l n = false) : xE l n day m = 10 := by
  unfold xE
  cases l[zM l n]? with
  | none => rfl
  | some s => simp [h]
theorem qbX {l : List qc} {n : Str} (h : zS l n = true) : ∃ s, l[zM l n]? = some s ∧ zM l n < l.length := ⟨_, List.getElem?_eq_getElem (qbe h), qbe h⟩
theorem qbC {N : Nat} {d : Int} {l : List qc} (h : vW N l) {e : ql} {n : Str} {day : Int} (hn : e.Names[0]? = some n) (hv : e.Values[0]? = some day) (h1 : (e.Kind == jL) = false) (h5 : (e.Kind == ze) = false) {m : qc → Int}
    (hm : ∀ s : qc, (((if (e.Kind == [116, 101, 115, 116]) = true then (idx e.Values 1).bind fun x43 => (kZ x43 2 999999999).bind fun r44 => some r44 else some false : Option Bool).bind fun b45 =>
        if b45 = true then some 3 else ((if (e.Kind == [117, 115, 101]) = true then (yj s day).bind fun r51 => if (!r51) = true then some (.inr 24) else (idx e.Values 1).bind fun x53 => if x53 > s.Limit then some (.inr 31) else some (.inl ()) else some (.inl ()) : Option (Unit ⊕ Int))).bind (fun
          | (.inl ()) => some 0
          | (.inr q55) => some q55)) : Option Int) = some (m s)) :
    qV N ⟨d, l⟩ e = some (if vG d day = 0 then xE l n day m else vG d day) := by
  obtain ⟨ha, hl, hN, hM⟩ := h
  unfold qV
  simp only [yE, hv, hn, Option.bind_some, qii (N := N) (r := ⟨d, l⟩) (show l.length < _ by omega) (show l.length < N by omega) ha]
  have h1' : ¬ (e.Kind == [109, 97, 107, 101]) = true := by rw [show ([109, 97, 107, 101] : Str) = jL from rfl, h1]; simp
  have h5' : ¬ (e.Kind == [114, 101, 99, 97, 108, 108]) = true := by rw [show ([114, 101, 99, 97, 108, 108] : Str) = ze from rfl, h5]; simp
  rw [if_neg h1', if_neg h5']
  unfold vG
  by_cases a1 : day > 99999
  · simp [a1]
  by_cases a2 : day < d
  · simp [a1, a2]
  simp only [a1, a2, if_false, if_true]
  cases hh : zS l n with
  | false => rw [jF hh]; rfl
  | true =>
    obtain ⟨s, hs, hlt⟩ := qbX hh
    rw [if_pos rfl, if_neg (by omega), kT, hs, Option.bind_some, qcE, Option.bind_some]
    unfold xE
    rw [hs]
    simp only [hh, if_true]
    by_cases hr : jw s day = true
    · simp [hr]
    · rw [if_neg hr, if_neg hr]
      exact hm s
theorem qaV {e : ql} {day : Int} {n : Str} (hn : e.Names[0]? = some n) (f : qc → qc) (hf : ∀ (s : qc) (l : List qc) (k : Nat), l[k]? = some s → (((if (e.Kind == [116, 101, 115, 116]) = true then some (s.Name == n) else some false : Option Bool).bind fun b33 =>
      if b33 = true then (idx e.Values 1).bind fun x36 => (put l k (⟨s.Name, s.Batch, s.Born, s.Last, s.Uses, s.Used, w64 (x36.tdiv 2), s.Until, s.Gone⟩ : qc)).bind fun l37 => (idx l37 k).bind fun x38 =>
        (put l37 k (⟨x38.Name, x38.Batch, x38.Born, x38.Last, x38.Uses, x38.Used, x38.Limit, (if x38.Last < (w64 (day + 365)) then x38.Last else (w64 (day + 365))), x38.Gone⟩ : qc)).bind fun l39 => some l39
      else (if (e.Kind == [117, 115, 101]) = true then some (s.Name == n) else some false : Option Bool).bind fun b41 =>
      if b41 = true then (put l k (⟨s.Name, s.Batch, s.Born, s.Last, s.Uses, w64 (s.Used + 1), s.Limit, s.Until, s.Gone⟩ : qc)).bind fun l44 => some l44
      else (if (e.Kind == [102, 97, 105, 108]) = true then some (s.Name == n) else some false : Option Bool).bind fun b46 =>
      ((if b46 = true then some b46 else (if (e.Kind == [114, 101, 99, 97, 108, 108]) = true then some (s.Batch == n) else some false : Option Bool).bind fun b52 => some b52 : Option Bool)).bind fun b48 =>
      if b48 = true then (put l k (⟨s.Name, s.Batch, s.Born, s.Last, s.Uses, s.Used, s.Limit, s.Until, true⟩ : qc)).bind fun l55 => some l55 else some l) : Option (List qc)) = some (l.set k (f s))) :
    ∀ (K : Nat) (l : List qc) (k : Nat), l.length ≤ 1000 → k ≤ l.length → l.length < K + k → zq e day K l (k : Int) = some (l.take k ++ (l.drop k).map f)
  | 0, l, k, hl, h, hK => by omega
  | K + 1, l, k, hl, h, hK => by
    unfold zq
    by_cases hk : k < l.length
    · have hg : l[k]? = some l[k] := List.getElem?_eq_getElem hk
      rw [if_pos (by omega), kT, hg, Option.bind_some, yE, hn, Option.bind_some]
      have := hf l[k] l k hg
      rw [this, Option.bind_some, zW (by omega), qaV hn f hf K (l.set k (f l[k])) (k + 1) (by simp; omega) (by simp; omega) (by simp; omega)]
      congr 1
      rw [List.drop_eq_getElem_cons hk, List.drop_set, if_pos (by omega), List.map_cons, List.take_add_one, List.getElem?_set_self hk, List.take_set, List.set_eq_of_length_le (by simp; exact Nat.min_le_left _ _)]
      simp
    · rw [if_neg (by omega), List.take_of_length_le (by omega), List.drop_of_length_le (by omega)]
      simp
theorem qbd {N : Nat} {d : Int} {l : List qc} (h : vW N l) {e : ql} {day : Int} {n : Str} (hn : e.Names[0]? = some n) (hv : e.Values[0]? = some day) (h1 : (e.Kind == jL) = false) (f : qc → qc)
    (hK : ∀ (K : Nat) (l : List qc) (k : Nat), l.length ≤ 1000 → k ≤ l.length → l.length < K + k → zq e day K l (k : Int) = some (l.take k ++ (l.drop k).map f)) : kW N ⟨d, l⟩ e = some ⟨day, l.map f⟩ := by
  obtain ⟨ha, hl, hN, hM⟩ := h
  unfold kW
  rw [yE, hv, Option.bind_some]
  have h1' : ¬ (e.Kind == [109, 97, 107, 101]) = true := by rw [show ([109, 97, 107, 101] : Str) = jL from rfl, h1]; simp
  simp only
  rw [yu (by simp; omega) (by simp; omega), Option.bind_some, List.nil_append, if_neg h1']
  rw [show zq e day N l 0 = zq e day N l ((0 : Nat) : Int) from rfl, hK N l 0 hl (by omega) (by omega)]
  simp
def qfi (load : Int) (_ : qc) : Int := if zB load 2 999999999 = true then 3 else 0
def qfD (day load : Int) (s : qc) : qc := ⟨s.Name, s.Batch, s.Born, s.Last, s.Uses, s.Used, w64 (load.tdiv 2), (if s.Last < w64 (day + 365) then s.Last else w64 (day + 365)), s.Gone⟩
theorem qhH {N : Nat} {d : Int} {l : List qc} (h : vW N l) {num day load : Int} {n t : Str} (h0 : 0 ≤ day) :
    qbR (qE N d l num vT [n] [day, load] t) (if vG d day = 0 then xE l n day (qfi load) else vG d day) day (qcM l n (qfD day load)) := by
  have h' := h
  obtain ⟨ha, hl, hN, hM⟩ := h
  refine qbR.day hN rfl h0 rfl fun hd => ?_
  simp only [zu, Option.bind_some, show (vT == [109, 97, 107, 101]) = false by decide, show (vT == [116, 101, 115, 116]) = true by decide, Bool.false_eq_true, if_false, if_true, xq hl, jO, yE, qaX, List.getElem?_cons_zero, List.getElem?_cons_succ, qag]
  rw [qeL h']
  cases hh : zS l n with
  | false =>
    refine ⟨l, ?_, fun h => ?_⟩
    · rw [jF hh]
      cases hq : l[zM l n]? with
      | none =>
        simp only [Option.bind_some]
        rw [yo (by simp) (by simp; omega)]
        simp [kw]
      | some s =>
        simp only [hh, Bool.false_eq_true, if_false, Option.bind_some]
        rw [yo (by simp) (by simp; omega)]
        simp [kw]
    · rw [jF hh] at h; cases h
  | true =>
    obtain ⟨s, hs, hlt⟩ := qbX hh
    have hname := qbU hs hh
    unfold xE
    rw [hs]
    simp only [hh, if_true, Option.bind_some]
    rw [yo (by simp) (by simp; omega)]
    unfold qfi
    by_cases hr : jw s day = true
    · exact ⟨l, by simp [hr, kw], fun h => by rw [if_pos hr] at h; cases h⟩
    · by_cases ho : zB load 2 999999999 = true
      · exact ⟨l, by simp [hr, ho, kw], fun h => by rw [if_neg hr, if_pos ho] at h; cases h⟩
      · refine ⟨l.set (zM l n) (qfD day load s), ?_, fun _ => (ha.set hs hname _).symm⟩
        have hlen : zM l n < (l.set (zM l n) (⟨s.Name, s.Batch, s.Born, s.Last, s.Uses, s.Used, w64 (load.tdiv 2), s.Until, s.Gone⟩ : qc)).length := by simpa using hlt
        simp only [hr, ho, if_false, kw, if_true, Bool.false_eq_true, Option.bind_some, decide_true, Bool.not_true, kT, hs, yU hlt, List.getElem?_set_self hlt, yU hlen, List.set_set]
        rfl
theorem qdF {N : Nat} {d : Int} {l : List qc} (h : vW N l) {num day load : Int} {n t : Str} :
    qgN N d l ⟨num, vT, [n], [day, load], t⟩ (if vG d day = 0 then xE l n day (qfi load) else vG d day) day (qcM l n (qfD day load)) := by
  constructor
  · refine qbC h rfl rfl (by show (vT == jL) = false; decide) (by show (vT == ze) = false; decide) fun s => ?_
    simp only [show (vT == [116, 101, 115, 116]) = true by decide, show (vT == [117, 115, 101]) = false by decide, if_true, if_false, Bool.false_eq_true, qaX, List.getElem?_cons_succ, List.getElem?_cons_zero, Option.bind_some, yR, qfi]
    by_cases ho : zB load 2 999999999 = true <;> simp [ho]
  · intro _
    refine qbd h rfl rfl (by show (vT == jL) = false; decide) _ (qaV (n := n) rfl _ fun s l k hk => ?_)
    have hlt := (List.getElem?_eq_some_iff.1 hk).1
    simp only [show (vT == [116, 101, 115, 116]) = true by decide, show (vT == [117, 115, 101]) = false by decide, show (vT == [102, 97, 105, 108]) = false by decide, show (vT == [114, 101, 99, 97, 108, 108]) = false by decide, if_true, if_false, Bool.false_eq_true, qaX, List.getElem?_cons_succ, List.getElem?_cons_zero, Option.bind_some]
    by_cases hb : (s.Name == n) = true
    · simp only [hb, if_true, yU hlt, Option.bind_some, kT, List.getElem?_set_self hlt]
      rw [yU (by simpa using hlt), List.set_set]
      rfl
    · simp only [hb, if_false, Bool.false_eq_true]
      rw [show l.set k s = l from by
        have e : l[k] = s := by rw [List.getElem?_eq_getElem hlt] at hk; injection hk
        rw [← e, List.set_getElem_self]]
def qhT (day load : Int) (s : qc) : Int := if qaQ s day = false then 24 else if load > s.Limit then 31 else 0
def qiD (s : qc) : qc := ⟨s.Name, s.Batch, s.Born, s.Last, s.Uses, w64 (s.Used + 1), s.Limit, s.Until, s.Gone⟩
theorem qjG {N : Nat} {d : Int} {l : List qc} (h : vW N l) {num day load : Int} {n t : Str} (h0 : 0 ≤ day) :
    qbR (qE N d l num xA [n] [day, load] t) (if vG d day = 0 then xE l n day (qhT day load) else vG d day) day (qcM l n qiD) := by
  have h' := h
  obtain ⟨ha, hl, hN, hM⟩ := h
  refine qbR.day hN rfl h0 rfl fun hd => ?_
  simp only [zu, Option.bind_some, show (xA == [109, 97, 107, 101]) = false by decide, show (xA == [116, 101, 115, 116]) = false by decide, show (xA == [117, 115, 101]) = true by decide, Bool.false_eq_true, if_false, if_true, xq hl, vI, yE, qaX, List.getElem?_cons_zero, List.getElem?_cons_succ]
  rw [qeL h']
  cases hh : zS l n with
  | false =>
    refine ⟨l, ?_, fun h => by rw [jF hh] at h; cases h⟩
    rw [jF hh]
    cases hq : l[zM l n]? with
    | none => simp
    | some s => simp [hh]
  | true =>
    obtain ⟨s, hs, hlt⟩ := qbX hh
    have hname := qbU hs hh
    unfold xE
    rw [hs]
    simp only [hh, if_true, Option.bind_some]
    by_cases hr : jw s day = true
    · exact ⟨l, by simp [hr], fun h => by rw [if_pos hr] at h; cases h⟩
    · simp only [hr, if_false, Bool.false_eq_true, decide_true, Bool.not_true, kT, hs, Option.bind_some, qe0, xQ]
      rw [yo (by simp) (by simp; omega)]
      unfold qhT
      simp only [Option.bind_some]
      by_cases hH : qaQ s day = true
      · by_cases hL : load > s.Limit
        · exact ⟨l, by simp [hH, hL, kw], fun h => by simp [hH, hL] at h⟩
        · refine ⟨l.set (zM l n) (qiD s), ?_, fun _ => (ha.set hs hname _).symm⟩
          simp only [hH, hL, kw, Bool.not_true, Bool.false_eq_true, if_false, if_true, decide_false, decide_true, yU hlt, Option.bind_some]
          rfl
      · exact ⟨l, by simp [hH, kw], fun h => by simp [hH] at h⟩
theorem qfX {N : Nat} {d : Int} {l : List qc} (h : vW N l) {num day load : Int} {n t : Str} :
    qgN N d l ⟨num, xA, [n], [day, load], t⟩ (if vG d day = 0 then xE l n day (qhT day load) else vG d day) day (qcM l n qiD) := by
  constructor
  · refine qbC h rfl rfl (by show (xA == jL) = false; decide) (by show (xA == ze) = false; decide) fun s => ?_
    simp only [show (xA == [116, 101, 115, 116]) = false by decide, show (xA == [117, 115, 101]) = true by decide, if_true, if_false, Bool.false_eq_true, qaX, List.getElem?_cons_succ, List.getElem?_cons_zero, Option.bind_some, qgO, qhT]
    by_cases hH : qaQ s day = true
    · by_cases hL : load > s.Limit <;> simp [hH, hL]
    · simp [hH]
  · intro _
    refine qbd h rfl rfl (by show (xA == jL) = false; decide) _ (qaV (n := n) rfl _ fun s l k hk => ?_)
    have hlt := (List.getElem?_eq_some_iff.1 hk).1
    simp only [show (xA == [116, 101, 115, 116]) = false by decide, show (xA == [117, 115, 101]) = true by decide, show (xA == [102, 97, 105, 108]) = false by decide, show (xA == [114, 101, 99, 97, 108, 108]) = false by decide, if_true, if_false, Bool.false_eq_true, Option.bind_some]
    by_cases hb : (s.Name == n) = true
    · simp only [hb, if_true, yU hlt, Option.bind_some]
      rfl
    · simp only [hb, if_false, Bool.false_eq_true]
      rw [show l.set k s = l from by
        have e : l[k] = s := by rw [List.getElem?_eq_getElem hlt] at hk; injection hk
        rw [← e, List.set_getElem_self]]
def qdw (s : qc) : qc := ⟨s.Name, s.Batch, s.Born, s.Last, s.Uses, s.Used, s.Limit, s.Until, true⟩
theorem qhQ {N : Nat} {d : Int} {l : List qc} (h : vW N l) {num day : Int} {n t : Str} (h0 : 0 ≤ day) :
    qbR (qE N d l num vX [n] [day] t) (if vG d day = 0 then xE l n day (fun _ => 0) else vG d day) day (qcM l n qdw) := by
  have h' := h
  obtain ⟨ha, hl, hN, hM⟩ := h
  refine qbR.day hN rfl h0 rfl fun hd => ?_
  simp only [zu, Option.bind_some, show (vX == [109, 97, 107, 101]) = false by decide, show (vX == [116, 101, 115, 116]) = false by decide, show (vX == [117, 115, 101]) = false by decide, show (vX == [102, 97, 105, 108]) = true by decide, Bool.false_eq_true, if_false, if_true, xq hl, jS, yE, qaX, List.getElem?_cons_zero, List.getElem?_cons_succ]
  rw [qeL h']
  cases hh : zS l n with
  | false =>
    refine ⟨l, ?_, fun h => by rw [jF hh] at h; cases h⟩
    rw [jF hh]
    cases hq : l[zM l n]? with
    | none => simp
    | some s => simp [hh]
  | true =>
    obtain ⟨s, hs, hlt⟩ := qbX hh
    have hname := qbU hs hh
    unfold xE
    rw [hs]
    simp only [hh, if_true, Option.bind_some]
    by_cases hr : jw s day = true
    · exact ⟨l, by simp [hr], fun h => by rw [if_pos hr] at h; cases h⟩
    · refine ⟨l.set (zM l n) (qdw s), ?_, fun _ => (ha.set hs hname _).symm⟩
      simp only [hr, if_false, Bool.false_eq_true, decide_true, Bool.not_true, kT, hs, Option.bind_some, yU hlt]
      rfl
theorem qdj {N : Nat} {d : Int} {l : List qc} (h : vW N l) {num day : Int} {n t : Str} :
    qgN N d l ⟨num, vX, [n], [day], t⟩ (if vG d day = 0 then xE l n day (fun _ => 0) else vG d day) day (qcM l n qdw) := by
  constructor
  · refine qbC h rfl rfl (by show (vX == jL) = false; decide) (by show (vX == ze) = false; decide) fun s => ?_
    simp only [show (vX == [116, 101, 115, 116]) = false by decide, show (vX == [117, 115, 101]) = false by decide, if_true, if_false, Bool.false_eq_true, Option.bind_some]
  · intro _
    refine qbd h rfl rfl (by show (vX == jL) = false; decide) _ (qaV (n := n) rfl _ fun s l k hk => ?_)
    have hlt := (List.getElem?_eq_some_iff.1 hk).1
    simp only [show (vX == [116, 101, 115, 116]) = false by decide, show (vX == [117, 115, 101]) = false by decide, show (vX == [102, 97, 105, 108]) = true by decide, show (vX == [114, 101, 99, 97, 108, 108]) = false by decide, if_true, if_false, Bool.false_eq_true, Option.bind_some]
    by_cases hb : (s.Name == n) = true
    · simp only [hb, if_true, yU hlt, Option.bind_some]
      rfl
    · simp only [hb, if_false, Bool.false_eq_true, Option.bind_some]
      rw [show l.set k s = l from by
        have e : l[k] = s := by rw [List.getElem?_eq_getElem hlt] at hk; injection hk
        rw [← e, List.set_getElem_self]]
def xm (n : Str) (s : qc) : qc := if (s.Batch == n) = true then qdw s else s
def qdk (n : Str) (day : Int) : Int → List qc → Int
  | b, [] => b
  | b, s :: l => qdk n day (if (s.Batch == n) = true then if jw s day = true then if b = 10 then 20 else b else 0 else b) l
def qcq (l : List qc) (n : Str) (day : Int) : Int := if (l.any fun s => s.Batch == n) = false then 10 else if (l.any fun s => s.Batch == n && !jw s day) = false then 20 else 0
theorem qdN (n : Str) (day : Int) : ∀ l, qdk n day 0 l = 0
  | [] => rfl
  | s :: l => by
    unfold qdk
    by_cases h : (s.Batch == n) = true
    · by_cases h2 : jw s day = true
      · simp only [h, h2, if_true]; rw [if_neg (by decide)]; exact qdN n day l
      · simp only [h, h2, if_true, if_false, Bool.false_eq_true]; exact qdN n day l
    · simp only [h, if_false, Bool.false_eq_true]; exact qdN n day l
theorem qeC (n : Str) (day : Int) : ∀ l : List qc, qdk n day 20 l = if (l.any fun s => s.Batch == n && !jw s day) = false then 20 else 0
  | [] => rfl
  | s :: l => by
    unfold qdk
    rw [List.any_cons]
    by_cases h : (s.Batch == n) = true
    · by_cases h2 : jw s day = true
      · simp only [h, h2, if_true]; rw [if_neg (by decide), qeC n day l]; simp
      · simp only [h, h2, if_true, if_false, Bool.false_eq_true]; rw [qdN]; simp
    · simp only [h, if_false, Bool.false_eq_true]; rw [qeC n day l]; simp
theorem qgD (n : Str) (day : Int) : ∀ l : List qc, qdk n day 10 l = qcq l n day
  | [] => rfl
  | s :: l => by
    unfold qdk qcq
    rw [List.any_cons, List.any_cons]
    by_cases h : (s.Batch == n) = true
    · by_cases h2 : jw s day = true
      · simp only [h, h2, if_true]; rw [qeC n day l]; simp
      · simp only [h, h2, if_true, if_false, Bool.false_eq_true]; rw [qdN]; simp
    · simp only [h, if_false, Bool.false_eq_true]; rw [qgD n day l]; simp [qcq]
theorem yh {l : List qc} (hl : l.length ≤ 1000) {n : Str} {day : Int} : ∀ (K k : Nat) (b : Int), k ≤ l.length → l.length < K + k →
    qR l [n] [day] K ((l.take k).map (xm n) ++ l.drop k) (k : Int) b = some (l.map (xm n), qdk n day b (l.drop k))
  | 0, k, b, h, hK => by omega
  | K + 1, k, b, h, hK => by
    unfold qR
    by_cases hk : k < l.length
    · have hlen : ((l.take k).map (xm n)).length = k := by simp; omega
      have hg : ((l.take k).map (xm n) ++ l.drop k)[k]? = some l[k] := by
        rw [List.getElem?_append_right (by omega), hlen, Nat.sub_self, List.drop_eq_getElem_cons hk]; rfl
      have hlt : k < ((l.take k).map (xm n) ++ l.drop k).length := by rw [List.length_append, hlen, List.length_drop]; omega
      rw [if_pos (by omega), kT, hg, Option.bind_some, yE]
      simp only [List.getElem?_cons_zero, Option.bind_some]
      have hset : ∀ x : qc, ((l.take k).map (xm n) ++ l.drop k).set k x = (l.take k).map (xm n) ++ x :: l.drop (k + 1) := by
        intro x
        rw [List.set_append_right _ _ (by omega), hlen, Nat.sub_self, List.drop_eq_getElem_cons hk, List.set_cons_zero]
      have hnext : ∀ x : qc, x = xm n l[k] → (l.take k).map (xm n) ++ x :: l.drop (k + 1) = (l.take (k + 1)).map (xm n) ++ l.drop (k + 1) := by
        rintro x rfl
        rw [List.take_add_one, List.getElem?_eq_getElem hk, List.map_append, List.append_assoc]
        rfl
      have hsame : (l.take k).map (xm n) ++ l.drop k = (l.take k).map (xm n) ++ l[k] :: l.drop (k + 1) := by rw [List.drop_eq_getElem_cons hk]
      have e1 : qdk n day b (l.drop k) = qdk n day (if ((l[k]).Batch == n) = true then if jw l[k] day = true then if b = 10 then 20 else b else 0 else b) (l.drop (k + 1)) := by
        rw [List.drop_eq_getElem_cons hk]; rfl
      rw [e1]
      by_cases hb : ((l[k]).Batch == n) = true
      · simp only [hb, Bool.not_true, Bool.false_eq_true, if_false, if_true, qak, Option.bind_some, yU hlt, hset]
        have hF : (⟨(l[k]).Name, (l[k]).Batch, (l[k]).Born, (l[k]).Last, (l[k]).Uses, (l[k]).Used, (l[k]).Limit, (l[k]).Until, true⟩ : qc) = xm n l[k] := by unfold xm; rw [if_pos hb]; rfl
        rw [hnext _ hF]
        by_cases hr : jw l[k] day = true
        · by_cases hb10 : b = 10
          · simp only [hr, hb10, if_true, yE, List.getElem?_cons_zero, Bool.not_true, Bool.false_eq_true, if_false, Option.bind_some]
            rw [zW (by omega), yh hl K (k + 1) _ (by omega) (by omega)]
          · simp only [hr, hb10, if_true, yE, List.getElem?_cons_zero, Bool.not_true, Bool.false_eq_true, if_false, Option.bind_some]
            rw [zW (by omega), yh hl K (k + 1) _ (by omega) (by omega)]
        · by_cases hb10 : b = 10
          · simp only [hr, hb10, if_true, yE, List.getElem?_cons_zero, Bool.not_false, Bool.false_eq_true, if_false, Option.bind_some]
            rw [zW (by omega), yh hl K (k + 1) _ (by omega) (by omega)]
          · simp only [hr, hb10, if_true, yE, List.getElem?_cons_zero, Bool.not_false, Bool.false_eq_true, if_false, Option.bind_some]
            rw [zW (by omega), yh hl K (k + 1) _ (by omega) (by omega)]
      · simp only [hb, Bool.not_false, Bool.false_eq_true, if_false, if_true, Option.bind_some]
        rw [hsame, hnext _ (by unfold xm; rw [if_neg hb]), zW (by omega), yh hl K (k + 1) _ (by omega) (by omega)]
    · have : l.take k = l := List.take_of_length_le (by omega)
      rw [if_neg (by omega), List.drop_of_length_le (by omega), this]
      simp [qdk]
theorem qgp {N : Nat} {d : Int} {l : List qc} (h : vW N l) {num day : Int} {n t : Str} (h0 : 0 ≤ day) :
    qbR (qE N d l num ze [n] [day] t) (if vG d day = 0 then qcq l n day else vG d day) day (l.map (xm n)) := by
  obtain ⟨ha, hl, hN, hM⟩ := h
  refine qbR.day hN rfl h0 rfl fun hd => ?_
  simp only [zu, Option.bind_some, show (ze == [109, 97, 107, 101]) = false by decide, show (ze == [116, 101, 115, 116]) = false by decide, show (ze == [117, 115, 101]) = false by decide, show (ze == [102, 97, 105, 108]) = false by decide, show (ze == [114, 101, 99, 97, 108, 108]) = true by decide, Bool.false_eq_true, if_false, if_true, xq hl, jy]
  have := yh hl (n := n) (day := day) N 0 10 (by omega) (by omega)
  rw [List.take_zero, List.map_nil, List.nil_append, List.drop_zero] at this
  rw [show qR l [n] [day] N l 0 10 = qR l [n] [day] N l ((0 : Nat) : Int) 10 from rfl, this, qgD]
  exact ⟨_, rfl, fun _ => rfl⟩
theorem qaj {N : Nat} {r : qI} (hl : r.Slings.length ≤ 1000) {e : ql} {n : Str} (hn : e.Names[0]? = some n) (day : Int) : ∀ (K k : Nat) (a b : Bool), k ≤ r.Slings.length → r.Slings.length < K + k →
    zb r e day K a b (k : Int) = some (a || (r.Slings.drop k).any (fun s => s.Batch == n), b || (r.Slings.drop k).any (fun s => s.Batch == n && !jw s day))
  | 0, k, a, b, h, hK => by omega
  | K + 1, k, a, b, h, hK => by
    unfold zb
    by_cases hk : k < r.Slings.length
    · rw [if_pos (by omega), kT, List.getElem?_eq_getElem hk, Option.bind_some, yE, hn, Option.bind_some, zW (by omega), List.drop_eq_getElem_cons hk, List.any_cons, List.any_cons]
      by_cases hb : ((r.Slings[k]).Batch == n) = true
      · by_cases hq : b = true
        · simp only [hb, hq, if_true, Option.bind_some]
          rw [qaj (N := N) hl hn day K (k + 1) _ _ (by omega) (by omega)]
          simp
        · simp only [hb, hq, if_true, if_false, Option.bind_some, qcE, Bool.false_eq_true]
          rw [qaj (N := N) hl hn day K (k + 1) _ _ (by omega) (by omega)]
          simp
      · simp only [hb, if_false, Option.bind_some, Bool.false_eq_true]
        rw [qaj (N := N) hl hn day K (k + 1) _ _ (by omega) (by omega)]
        simp
    · rw [if_neg (by omega), List.drop_of_length_le (by omega)]
      simp
theorem qbx {N : Nat} {d : Int} {l : List qc} (h : vW N l) {num day : Int} {n t : Str} :
    qgN N d l ⟨num, ze, [n], [day], t⟩ (if vG d day = 0 then qcq l n day else vG d day) day (l.map (xm n)) := by
  constructor
  · obtain ⟨ha, hl, hN, hM⟩ := h
    unfold qV
    simp only [yE, List.getElem?_cons_zero, Option.bind_some, qii (N := N) (r := ⟨d, l⟩) (show l.length < _ by omega) (show l.length < N by omega) ha, show (ze == [109, 97, 107, 101]) = false by decide, show (ze == [114, 101, 99, 97, 108, 108]) = true by decide, if_true, if_false, Bool.false_eq_true]
    unfold vG
    by_cases a1 : day > 99999
    · simp [a1]
    by_cases a2 : day < d
    · simp [a1, a2]
    simp only [a1, a2, if_false, if_true]
    rw [show ∀ e, zb ⟨d, l⟩ e day N false false 0 = zb ⟨d, l⟩ e day N false false ((0 : Nat) : Int) from fun _ => rfl, qaj (N := N) (r := ⟨d, l⟩) hl (n := n) rfl day N 0 false false (Nat.zero_le _) (show l.length < N + 0 by omega), List.drop_zero, Option.bind_some]
    unfold qcq
    simp only [Bool.false_or]
    by_cases b1 : (l.any fun s => s.Batch == n) = true
    · by_cases b2 : (l.any fun s => s.Batch == n && !jw s day) = true <;> simp [b1, b2]
    · simp [b1]
  · intro _
    refine qbd h rfl rfl (by show (ze == jL) = false; decide) _ (qaV (n := n) rfl _ fun s l k hk => ?_)
    have hlt := (List.getElem?_eq_some_iff.1 hk).1
    simp only [show (ze == [116, 101, 115, 116]) = false by decide, show (ze == [117, 115, 101]) = false by decide, show (ze == [102, 97, 105, 108]) = false by decide, show (ze == [114, 101, 99, 97, 108, 108]) = true by decide, if_true, if_false, Bool.false_eq_true, Option.bind_some]
    unfold xm
    by_cases hb : (s.Batch == n) = true
    · simp only [hb, if_true, yU hlt, Option.bind_some]
      rfl
    · simp only [hb, if_false, Bool.false_eq_true, Option.bind_some]
      rw [show l.set k s = l from by
        have e : l[k] = s := by rw [List.getElem?_eq_getElem hlt] at hk; injection hk
        rw [← e, List.set_getElem_self]]
theorem Asc.map {l : List qc} (h : Asc l) {f : qc → qc} (hf : ∀ s, (f s).Name = s.Name) : Asc (l.map f) := by
  unfold Asc
  rw [List.pairwise_map]
  exact h.imp fun {a b} hab => by rw [hf, hf]; exact hab
theorem qbh (t : qc) (l : List qc) (s : qc) : qbK (t :: l) s = if ltL t.Name s.Name = true then t :: qbK l s else s :: t :: l := by
  unfold qbK
  rw [zM]
  split <;> simp
theorem qdZ {x s : qc} : ∀ {l : List qc}, x ∈ qbK l s → x = s ∨ x ∈ l
  | [], h => by simp [qbK, zM] at h; exact .inl h
  | t :: l, h => by
    rw [qbh] at h
    split at h
    · rcases List.mem_cons.1 h with rfl | h
      · exact .inr (by simp)
      · rcases qdZ h with h | h
        · exact .inl h
        · exact .inr (by simp [h])
    · rcases List.mem_cons.1 h with rfl | h
      · exact .inl rfl
      · exact .inr h
theorem Asc.ins {s : qc} : ∀ {l : List qc}, Asc l → zS l s.Name = false → Asc (qbK l s)
  | [], _, _ => by simp [qbK, zM, Asc]
  | t :: l, h, hn => by
    obtain ⟨h1, h2⟩ := List.pairwise_cons.1 h
    rw [qbh]
    unfold zS at hn
    split
    · rename_i hc
      rw [if_pos hc] at hn
      refine List.pairwise_cons.2 ⟨fun x hx => ?_, Asc.ins h2 hn⟩
      rcases qdZ hx with rfl | hx
      · exact hc
      · exact h1 x hx
    · rename_i hc
      rw [if_neg hc] at hn
      have hlt : ltL s.Name t.Name = true := by
        cases hq : ltL s.Name t.Name with
        | true => rfl
        | false => exact absurd (qeO _ _ (by simpa using hc) hq) (beq_eq_false_iff_ne.1 hn)
      refine List.pairwise_cons.2 ⟨fun x hx => ?_, h⟩
      rcases List.mem_cons.1 hx with rfl | hx
      · exact hlt
      · exact qcu hlt (h1 x hx)
theorem vZ (l : List qc) (n : Str) (f : qc → qc) : qcM l n f = l.map fun s => if (s.Name == n) = true then f s else s := rfl
theorem qb4 {α : Type} {l : List α} (h : (l.length : Int) = 2) : ∃ a b, l = [a, b] := by
  match l, h with
  | [a, b], _ => exact ⟨a, b, rfl⟩
  | [], h => simp at h
  | [_], h => simp at h
  | _ :: _ :: _ :: _, h => simp at h; omega
theorem yI {α : Type} {l : List α} (h : (l.length : Int) = 1) : ∃ a, l = [a] := by
  match l, h with
  | [a], _ => exact ⟨a, rfl⟩
  | [], h => simp at h
  | _ :: _ :: _, h => simp at h; omega
theorem qir {α : Type} {l : List α} (h : (l.length : Int) = 3) : ∃ a b c, l = [a, b, c] := by
  match l, h with
  | [a, b, c], _ => exact ⟨a, b, c, rfl⟩
  | [], h => simp at h
  | [_], h => simp at h
  | [_, _], h => simp at h
  | _ :: _ :: _ :: _ :: _, h => simp at h; omega
structure qgB (e : ql) : Prop where
  num : 1 ≤ e.Number ∧ e.Number ≤ 1000
  form : (jM e.Kind).2.2 = true
  names : (e.Names.length : Int) = (jM e.Kind).1
  values : (e.Values.length : Int) = (jM e.Kind).2.1
  range : ∀ v ∈ e.Values, 0 ≤ v ∧ v ≤ 999999999
  text : e.Text = []
theorem yD {e : ql} (h : jf e = 0) : qgB e := by
  unfold jf at h
  by_cases h1 : zB e.Number 1 1000 = true
  · rw [if_pos h1] at h; cases h
  rw [if_neg h1] at h
  by_cases h2 : (jM e.Kind).2.2 = false
  · rw [if_pos h2] at h; cases h
  rw [if_neg h2] at h
  by_cases h3 : ((e.Names.length : Int) = (jM e.Kind).1 ∧ (e.Values.length : Int) = (jM e.Kind).2.1)
  · rw [if_neg (by simpa using h3)] at h
    by_cases h4 : e.Names.all jN = false
    · rw [if_pos h4] at h; cases h
    rw [if_neg h4] at h
    by_cases h5 : e.Values.all (fun v => !zB v 0 999999999) = false
    · rw [if_pos h5] at h; cases h
    rw [if_neg h5] at h
    by_cases h6 : e.Text = []
    · refine ⟨?_, by simpa using h2, h3.1, h3.2, fun v hv => ?_, h6⟩
      · simp [zB] at h1; omega
      · have h5 : e.Values.all (fun v => !zB v 0 999999999) = true := by simpa using h5
        have := List.all_eq_true.1 h5 v hv
        simp [zB] at this
        exact this
    · rw [if_neg h6] at h; cases h
  · rw [if_pos h3] at h; cases h
theorem qdQ {k : Str} (h : (jM k).2.2 = true) : k = jL ∨ k = vT ∨ k = xA ∨ k = vX ∨ k = ze ∨ k = vR := by
  unfold jM at h
  by_cases h1 : (k == jL) = true
  · exact .inl (beq_iff_eq.1 h1)
  by_cases h2 : (k == vT) = true
  · exact .inr (.inl (beq_iff_eq.1 h2))
  by_cases h3 : (k == xA) = true
  · exact .inr (.inr (.inl (beq_iff_eq.1 h3)))
  by_cases h4 : (k == vX) = true
  · exact .inr (.inr (.inr (.inl (beq_iff_eq.1 h4))))
  by_cases h5 : (k == ze) = true
  · exact .inr (.inr (.inr (.inr (.inl (beq_iff_eq.1 h5)))))
  by_cases h6 : (k == vR) = true
  · exact .inr (.inr (.inr (.inr (.inr (beq_iff_eq.1 h6)))))
  simp [h1, h2, h3, h4, h5, h6] at h
theorem qcT {N : Nat} {d : Int} {l : List qc} (h : vW N l) {e : ql} (hv : qgB e) (hu : (e.Kind == vR) = false) :
    ∃ err day new, qbR (qE N d l e.Number e.Kind e.Names e.Values e.Text) err day new ∧ qgN N d l e err day new ∧ (err = 0 → Asc new ∧ new.length ≤ l.length + 1) := by
  obtain ⟨num, k, ns, vs, t⟩ := e
  obtain ⟨_, hf, hn, hs, hr, _⟩ := hv
  simp only at hf hn hs hr hu
  have ha := h.asc
  rcases qdQ hf with rfl | rfl | rfl | rfl | rfl | rfl
  · obtain ⟨n, b, rfl⟩ := qb4 (show (ns.length : Int) = 2 from hn)
    obtain ⟨day, life, uses, rfl⟩ := qir (show (vs.length : Int) = 3 from hs)
    refine ⟨_, _, _, qjC h (hr _ (by simp)) (hr _ (by simp)), qgn h, fun h0 => ?_⟩
    have hh : zS l n = false := by
      cases hq : zS l n with
      | false => rfl
      | true =>
        split at h0
        · simp [qbq, hq] at h0
        · rename_i hd; exact absurd h0 hd
    refine ⟨Asc.ins ha hh, ?_⟩
    have hp := qbO l n
    simp [qbK]
    omega
  · obtain ⟨n, rfl⟩ := yI (show (ns.length : Int) = 1 from hn)
    obtain ⟨day, load, rfl⟩ := qb4 (show (vs.length : Int) = 2 from hs)
    refine ⟨_, _, _, qhH h (hr _ (by simp)).1, qdF h, fun _ => ⟨?_, by simp [qcM]⟩⟩
    rw [vZ]
    exact ha.map fun s => by split <;> rfl
  · obtain ⟨n, rfl⟩ := yI (show (ns.length : Int) = 1 from hn)
    obtain ⟨day, load, rfl⟩ := qb4 (show (vs.length : Int) = 2 from hs)
    refine ⟨_, _, _, qjG h (hr _ (by simp)).1, qfX h, fun _ => ⟨?_, by simp [qcM]⟩⟩
    rw [vZ]
    exact ha.map fun s => by split <;> rfl
  · obtain ⟨n, rfl⟩ := yI (show (ns.length : Int) = 1 from hn)
    obtain ⟨day, rfl⟩ := yI (show (vs.length : Int) = 1 from hs)
    refine ⟨_, _, _, qhQ h (hr _ (by simp)).1, qdj h, fun _ => ⟨?_, by simp [qcM]⟩⟩
    rw [vZ]
    exact ha.map fun s => by split <;> rfl
  · obtain ⟨n, rfl⟩ := yI (show (ns.length : Int) = 1 from hn)
    obtain ⟨day, rfl⟩ := yI (show (vs.length : Int) = 1 from hs)
    refine ⟨_, _, _, qgp h (hr _ (by simp)).1, qbx h, fun _ => ⟨?_, by simp⟩⟩
    exact ha.map fun s => by unfold xm; split <;> rfl
  · simp at hu
def qca (N : Nat) (c : List ql) : Option qI := c.foldlM (fun r e => kW N r e) ⟨0, []⟩
theorem qcz {N : Nat} (c : List ql) (hc : c.length ≤ 1000) : ∀ (K k : Nat) (d : Int) (l : List qc), k ≤ c.length → c.length < K + k → kR N c K d l (k : Int) = ((c.drop k).foldlM (fun r e => kW N r e) (⟨d, l⟩ : qI)).map fun r => (r.Day, r.Slings)
  | 0, k, d, l, h, hK => by omega
  | K + 1, k, d, l, h, hK => by
    unfold kR
    by_cases hk : k < c.length
    · rw [if_pos (by omega), kT, List.getElem?_eq_getElem hk, Option.bind_some, List.drop_eq_getElem_cons hk, List.foldlM_cons, zW (by omega)]
      cases kW N ⟨d, l⟩ c[k] with
      | none => rfl
      | some r =>
        simp only [Option.bind_some]
        rw [qcz c hc K (k + 1) _ _ (by omega) (by omega)]
        rfl
    · rw [if_neg (by omega), List.drop_of_length_le (by omega)]
      rfl
theorem yl {N : Nat} {c : List ql} (hc : c.length ≤ 1000) (hN : 2000 < N) : kr N c = qca N c := by
  unfold kr
  rw [show kR N c N 0 [] 0 = kR N c N 0 [] ((0 : Nat) : Int) from rfl, qcz c hc N 0 0 [] (by omega) (by omega), List.drop_zero]
  unfold qca
  cases c.foldlM (fun r e => kW N r e) (⟨0, []⟩ : qI) <;> rfl
theorem qct (N : Nat) (c : List ql) (e : ql) : qca N (c ++ [e]) = (qca N c).bind fun r => kW N r e := by
  unfold qca
  rw [List.foldlM_append]
  cases c.foldlM (fun r e => kW N r e) (⟨0, []⟩ : qI) with
  | none => rfl
  | some r => simp [List.foldlM]
structure Rel (N : Nat) (c : List ql) (ss : List StateT) : Prop where
  len : ss.length = c.length
  at_ : ∀ (j : Nat) (s : StateT) (e : ql), ss[j]? = some s → c[j]? = some e → s.number = e.Number ∧ qca N (c.take (j + 1)) = some ⟨s.register.Day, s.register.Slings⟩ ∧ Asc s.register.Slings ∧ s.register.Slings.length ≤ j + 1
theorem Rel.nil (N : Nat) : Rel N [] [] := ⟨rfl, by simp⟩
theorem Rel.last {N : Nat} {c : List ql} {ss : List StateT} (h : Rel N c ss) : (ss = [] ∧ c = []) ∨ ∃ s, ss[ss.length - 1]? = some s ∧ 0 < ss.length ∧ qca N c = some ⟨s.register.Day, s.register.Slings⟩ ∧ Asc s.register.Slings ∧ s.register.Slings.length ≤ c.length := by
  rcases Nat.eq_zero_or_pos ss.length with h0 | h0
  · have h1 := h.len
    exact .inl ⟨List.length_eq_zero_iff.1 h0, List.length_eq_zero_iff.1 (by omega)⟩
  · have hlt : ss.length - 1 < ss.length := by omega
    have hlc : ss.length - 1 < c.length := by have := h.len; omega
    obtain ⟨_, h2, h3, h4⟩ := h.at_ _ _ _ (List.getElem?_eq_getElem hlt) (List.getElem?_eq_getElem hlc)
    rw [show ss.length - 1 + 1 = c.length by have := h.len; omega, List.take_length] at h2
    exact .inr ⟨_, List.getElem?_eq_getElem hlt, h0, h2, h3, by omega⟩
theorem Rel.pop {N : Nat} {c : List ql} {ss : List StateT} (h : Rel N c ss) : Rel N c.dropLast (ss.take (ss.length - 1)) := by
  refine ⟨by rw [List.length_take, List.length_dropLast, h.len]; omega, fun j s e hs he => ?_⟩
  rw [List.getElem?_take] at hs
  rw [List.getElem?_dropLast] at he
  split at hs
  · rename_i hj
    split at he
    · rename_i hj2
      obtain ⟨h1, h2, h3, h4⟩ := h.at_ j s e hs he
      refine ⟨h1, ?_, h3, h4⟩
      rw [List.dropLast_eq_take, List.take_take, Nat.min_eq_left (by omega)]
      exact h2
    · cases he
  · cases hs
theorem Rel.push {N : Nat} {c : List ql} {ss : List StateT} (h : Rel N c ss) {e : ql} {d : Int} {l : List qc} (hr : qca N (c ++ [e]) = some ⟨d, l⟩) (ha : Asc l) (hl : l.length ≤ c.length + 1) : Rel N (c ++ [e]) (ss ++ [⟨e.Number, ⟨d, l⟩⟩]) := by
  have hlen := h.len
  refine ⟨by simp [hlen], fun j s e' hs he => ?_⟩
  rcases Nat.lt_or_ge j ss.length with hj | hj
  · rw [List.getElem?_append_left hj] at hs
    rw [List.getElem?_append_left (by omega)] at he
    obtain ⟨h1, h2, h3, h4⟩ := h.at_ j s e' hs he
    refine ⟨h1, ?_, h3, h4⟩
    rw [List.take_append_of_le_length (by omega)]
    exact h2
  · rw [List.getElem?_append_right hj] at hs
    rw [List.getElem?_append_right (by omega)] at he
    have hj0 : j - ss.length = 0 := by
      have := (List.getElem?_eq_some_iff.1 hs).1
      simp at this
      omega
    rw [hj0] at hs
    rw [show j - c.length = 0 by omega] at he
    simp only [List.getElem?_cons_zero, Option.some.injEq] at hs he
    subst hs he
    refine ⟨rfl, ?_, ha, by simp only; omega⟩
    rw [List.take_of_length_le (by simp; omega)]
    exact hr
def yg (N : Nat) (c : List ql) (k : Nat) (e : ql) : Int :=
  if jf e ≠ 0 then jf e else if e.Number ≠ ((k + 1 : Nat) : Int) then 11 else if (e.Kind == vR) = true then (if c = [] then 12 else 0) else ((kr N c).bind fun r => qV N r e).getD 0
def qbk (c : List ql) (e : ql) : List ql := if (e.Kind == vR) = true then c.dropLast else c ++ [e]
structure Pre (N : Nat) (c : List ql) (ss : List StateT) (k : Nat) (e : ql) : Prop where
  rel : Rel N c ss
  ck : c.length ≤ k
  k1 : k < 1000
  big : 2000 < N
  max : N < 4611686018427387904
  short : qbM N e
theorem jA {evs : List ql} {o : Option (List StateT)} {N : Nat} {c : List ql} (h : Rel N c (hof o)) (hc : c.length ≤ 1000) (hN : 2000 < N) : ∃ o' d l, qH evs o = some (o', d, l) ∧ hof o' = hof o ∧ kr N c = some ⟨d, l⟩ ∧ Asc l ∧ l.length ≤ c.length := by
  rw [yl hc hN]
  rcases h.last with ⟨h1, rfl⟩ | ⟨s, h1, h2, h3, h4, h5⟩
  · cases o with
    | none => exact ⟨none, 0, [], by simp [qH], rfl, rfl, List.Pairwise.nil, by simp⟩
    | some l =>
      have : l = [] := h1
      subst this
      exact ⟨some [], 0, [], by simp [qH], rfl, rfl, List.Pairwise.nil, by simp⟩
  · cases o with
    | none => simp [hof] at h2
    | some l =>
      have h1 : l[l.length - 1]? = some s := h1
      have h2 : 0 < l.length := h2
      have hlen : l.length = c.length := h.len
      refine ⟨some l, s.register.Day, s.register.Slings, ?_, rfl, h3, h4, h5⟩
      have : ¬ ((l.length : Int) = 0) := by omega
      simp only [qH, this, decide_false, Option.bind_some, Bool.false_eq_true, if_false]
      rw [qfS (by omega) h2, kT, h1]
      rfl
theorem qdd {e : ql} (hn : e.Names.length ≤ 1000) (hv : e.Values.length ≤ 1000) : zw e = some e := by
  have e1 : slices_Clone_string e.Names = some e.Names := by
    cases hq : e.Names with
    | nil =>
      simp only [slices_Clone_string, jH, qeb]
      rw [yu (by simp) (by simp)]
      simp
    | cons x xs =>
      rw [hq] at hn
      simp only [slices_Clone_string, jG]
      rw [yu (by simp only [List.length_nil]; omega) (by simp only [List.length_nil]; omega)]
      rfl
  have e2 : slices_Clone_int e.Values = some e.Values := by
    cases hq : e.Values with
    | nil =>
      simp only [slices_Clone_int, vg, qeb]
      rw [yu (by simp) (by simp)]
      simp
    | cons x xs =>
      rw [hq] at hv
      simp only [slices_Clone_int, ve]
      rw [yu (by simp only [List.length_nil]; omega) (by simp only [List.length_nil]; omega)]
      rfl
  unfold zw
  rw [e1, e2]
  rfl
theorem qgK {N : Nat} {c : List ql} {k : Nat} {e : ql} {evs : List ql} {o : Option (List StateT)} (h : Pre N c (hof o) k e) (hk : evs.length = k) (hc : jf e = 0) :
    ∃ evs' o', zJ N evs o e.Number e.Kind e.Names e.Values e.Text = some (evs', o', yg N c k e) ∧ (yg N c k e = 0 → evs' = evs ++ [e] ∧ Rel N (qbk c e) (hof o') ∧ (qbk c e).length ≤ k + 1) := by
  obtain ⟨hrel, hck, hk1, hN, hM, hs⟩ := h
  have hv := yD hc
  have hlen : (e.Names.length ≤ 3) ∧ (e.Values.length ≤ 3) := by
    have h1 := hv.names
    have h2 := hv.values
    have h3 : (jM e.Kind).1 ≤ 2 ∧ (jM e.Kind).2.1 ≤ 3 := by
      unfold jM
      repeat' split
      all_goals decide
    omega
  have hcopy : zw (⟨e.Number, e.Kind, e.Names, e.Values, e.Text⟩ : ql) = some e := qdd (e := e) (by omega) (by omega)
  have happ : app 88 evs [e] = some (evs ++ [e]) := yu (by simp; omega) (by simp; omega)
  unfold zJ
  have hw : w64 ((evs.length : Int) + 1) = ((k + 1 : Nat) : Int) := by rw [zW (by omega), hk]
  rw [hw]
  rw [show ([117, 110, 100, 111] : Str) = vR from rfl]
  have c0 : (jf e ≠ 0) = False := by simp [hc]
  unfold yg
  simp only [c0, if_false]
  by_cases h1 : e.Number = ((k + 1 : Nat) : Int)
  · have c1 : ((!decide (e.Number = ((k + 1 : Nat) : Int))) = true) = False := by simp [h1]
    have c2 : (e.Number ≠ ((k + 1 : Nat) : Int)) = False := by simp [h1]
    simp only [c1, c2, if_false]
    by_cases hu : (e.Kind == vR) = true
    · simp only [hu, if_true]
      cases o with
      | none =>
        have hc0 : c = [] := by have := hrel.len; simp [hof] at this; exact List.length_eq_zero_iff.1 this.symm
        rw [if_pos hc0]
        exact ⟨evs, none, by simp, fun h => by cases h⟩
      | some l =>
        have hl : l.length = c.length := hrel.len
        by_cases hl0 : l.length = 0
        · have hc0 : c = [] := List.length_eq_zero_iff.1 (by omega)
          rw [if_pos hc0]
          exact ⟨evs, some l, by simp [hl0], fun h => by cases h⟩
        · have hc0 : ¬ c = [] := fun e => hl0 (by rw [hl, e]; rfl)
          rw [if_neg hc0]
          have : ¬ ((l.length : Int) = 0) := by omega
          refine ⟨evs ++ [e], some (l.take (l.length - 1)), ?_, fun _ => ⟨rfl, ?_, ?_⟩⟩
          · simp only [this, decide_false, Option.bind_some, Bool.false_eq_true, if_false]
            rw [qfS (by omega) (by omega), qa7 (by omega)]
            simp only [Option.bind_some]
            rw [hcopy, Option.bind_some, happ]
            rfl
          · unfold qbk
            rw [if_pos hu]
            exact hrel.pop
          · unfold qbk
            rw [if_pos hu, List.length_dropLast]
            omega
    · simp only [hu, if_false, Bool.false_eq_true]
      obtain ⟨o', d, l, e1, e2, e3, e4, e5⟩ := jA (evs := evs) hrel (by omega) hN
      obtain ⟨err, day, new, hP, hR, hA⟩ := qcT (d := d) (⟨e4, by omega, hN, hM⟩ : vW N l) hv (by simpa using hu)
      obtain ⟨x, l', hP1, hP2⟩ := hP
      rw [e1, Option.bind_some]
      simp only
      rw [hP1, Option.bind_some, e3, Option.bind_some, hR.ref, Option.getD_some]
      simp only
      by_cases h0 : err = 0
      · obtain ⟨rfl, rfl⟩ := hP2 h0
        rw [if_neg (by simp [h0])]
        obtain ⟨hA1, hA2⟩ := hA h0
        have hreg : qca N (c ++ [e]) = some ⟨x, l'⟩ := by
          rw [qct, ← yl (by omega) hN, e3, Option.bind_some]
          exact hR.aft h0
        have hrel' : Rel N (c ++ [e]) (hof o' ++ [⟨e.Number, ⟨x, l'⟩⟩]) := by
          rw [e2]
          exact hrel.push hreg hA1 (by omega)
        have hlo : (hof o').length ≤ 1000 := by rw [e2, hrel.len]; omega
        have fin : ∀ o2 : Option (List StateT), hof o2 = hof o' ++ [⟨e.Number, ⟨x, l'⟩⟩] → err = 0 → (evs ++ [e] = evs ++ [e] ∧ Rel N (qbk c e) (hof o2) ∧ (qbk c e).length ≤ k + 1) := by
          intro o2 ho2 _
          unfold qbk
          rw [if_neg hu, ho2]
          exact ⟨rfl, hrel', by simp; omega⟩
        cases o' with
        | none =>
          simp only [Option.bind_some]
          rw [hcopy, Option.bind_some, happ, Option.bind_some]
          exact ⟨_, _, by rw [h0], fin (some [⟨e.Number, ⟨x, l'⟩⟩]) rfl⟩
        | some l2 =>
          have hlo : l2.length ≤ 1000 := hlo
          simp only
          rw [yu (by simp; omega) (by simp; omega)]
          simp only [Option.bind_some]
          rw [hcopy, Option.bind_some, happ, Option.bind_some]
          exact ⟨_, _, by rw [h0], fin (some (l2 ++ [⟨e.Number, ⟨x, l'⟩⟩])) rfl⟩
      · rw [if_pos (by simp [h0])]
        exact ⟨evs, o', rfl, fun h => absurd h h0⟩
  · have c1 : ((!decide (e.Number = ((k + 1 : Nat) : Int))) = true) = True := by simp only [h1, decide_false, Bool.not_false]
    have c2 : (e.Number ≠ ((k + 1 : Nat) : Int)) = True := eq_true h1
    simp only [c1, c2, if_true]
    exact ⟨evs, o, rfl, fun h => by cases h⟩
theorem qhA {N : Nat} {c : List ql} {k : Nat} {e : ql} {evs : List ql} {o : Option (List StateT)} (h : Pre N c (hof o) k e) (hk : evs.length = k) :
    ∃ evs' o', jv N evs o e.Number e.Kind e.Names e.Values e.Text = some (evs', o', yg N c k e) ∧ (yg N c k e = 0 → evs' = evs ++ [e] ∧ Rel N (qbk c e) (hof o') ∧ (qbk c e).length ≤ k + 1) := by
  unfold jv
  have hN := h.big
  rw [show (⟨e.Number, e.Kind, e.Names, e.Values, e.Text⟩ : ql) = e from rfl, qd3 h.max (by omega) h.short, Option.bind_some]
  by_cases hc : jf e = 0
  · rw [if_neg (by simp [hc])]
    obtain ⟨evs', o', h1, h2⟩ := qgK h hk hc
    rw [h1]
    exact ⟨evs', o', rfl, h2⟩
  · rw [if_pos (by simp [hc])]
    have : yg N c k e = jf e := by unfold yg; rw [if_pos hc]
    rw [this]
    exact ⟨evs, o, rfl, fun h => absurd h hc⟩
def jm (N : Nat) : List ql → Nat → List ql → Int × Int × List ql
  | [], _, c => (0, 0, c)
  | e :: es, k, c => if yg N c k e = 0 then jm N es (k + 1) (qbk c e) else (((k + 1 : Nat) : Int), yg N c k e, [])
theorem qee {N : Nat} (hN : 2000 < N) (hM : N < 4611686018427387904) {l : List ql} (hl : l.length ≤ 1000) (hs : ∀ e ∈ l, qbM N e) : ∀ (K k : Nat) (c : List ql) (o : Option (List StateT)), k ≤ l.length → l.length < K + k → Rel N c (hof o) → c.length ≤ k →
    (((jm N (l.drop k) k c).2.1 ≠ 0 ∧ qU N l K (l.take k) o (k : Int) = some (.inr ([], none, false, (jm N (l.drop k) k c).1, (jm N (l.drop k) k c).2.1))) ∨
    ((jm N (l.drop k) k c).2.1 = 0 ∧ ∃ o', qU N l K (l.take k) o (k : Int) = some (.inl (l, o')) ∧ Rel N (jm N (l.drop k) k c).2.2 (hof o') ∧ (jm N (l.drop k) k c).2.2.length ≤ l.length))
  | 0, k, c, o, h, hK, _, _ => by omega
  | K + 1, k, c, o, h, hK, hr, hc => by
    unfold qU
    by_cases hk : k < l.length
    · rw [if_pos (by omega), kT, List.getElem?_eq_getElem hk, Option.bind_some, zW (by omega), List.drop_eq_getElem_cons hk]
      unfold jm
      have pre : Pre N c (hof o) k l[k] := ⟨hr, hc, by omega, hN, hM, hs _ (List.getElem_mem hk)⟩
      obtain ⟨evs', o', h1, h2⟩ := qhA (evs := l.take k) pre (by rw [List.length_take]; omega)
      rw [h1, Option.bind_some]
      simp only
      by_cases h0 : yg N c k l[k] = 0
      · obtain ⟨rfl, g2, g3⟩ := h2 h0
        rw [if_neg (show ¬ ((!decide (yg N c k l[k] = 0)) = true) by simp [h0]), if_pos h0]
        have ht : l.take k ++ [l[k]] = l.take (k + 1) := by
          rw [List.take_add_one, List.getElem?_eq_getElem hk]; rfl
        rw [ht]
        exact qee hN hM hl hs K (k + 1) _ o' (by omega) (by omega) g2 g3
      · rw [if_pos (show ((!decide (yg N c k l[k] = 0)) = true) by simp [h0]), if_neg h0]
        exact .inl ⟨h0, rfl⟩
    · rw [if_neg (by omega), List.drop_of_length_le (by omega), List.take_of_length_le (by omega)]
      unfold jm
      exact .inr ⟨rfl, o, rfl, hr, by simp only; omega⟩
theorem qdT {N : Nat} (hN : 2000 < N) (hM : N < 4611686018427387904) {l : List ql} (hl : l.length ≤ 1000) (hs : ∀ e ∈ l, qbM N e) : ∀ (K k : Nat) (c : List ql) (ss : List StateT), k ≤ l.length → l.length < K + k → Rel N c ss → c.length ≤ k →
    zi N l K c (k : Int) = some (if (jm N (l.drop k) k c).2.1 = 0 then .inl (jm N (l.drop k) k c).2.2 else .inr ([], (jm N (l.drop k) k c).1, (jm N (l.drop k) k c).2.1))
  | 0, k, c, ss, h, hK, _, _ => by omega
  | K + 1, k, c, ss, h, hK, hr, hc => by
    unfold zi
    by_cases hk : k < l.length
    · have hsh := hs _ (List.getElem_mem hk)
      rw [if_pos (by omega), kT, List.getElem?_eq_getElem hk, Option.bind_some, qdz hM hsh, Option.bind_some, zW (by omega), List.drop_eq_getElem_cons hk]
      unfold jm
      generalize he : l[k] = e at *
      obtain ⟨o, rfl⟩ : ∃ o : Option (List StateT), hof o = ss := ⟨some ss, rfl⟩
      have pre : Pre N c (hof o) k e := ⟨hr, hc, by omega, hN, hM, hsh⟩
      obtain ⟨evs', o', _, h2⟩ := qhA (evs := l.take k) pre (by rw [List.length_take]; omega)
      have key : ((if jf e = 0 then some (!decide (e.Number = ((k + 1 : Nat) : Int))) else some false : Option Bool).bind fun b13 => ((if b13 = true then some 11 else some (jf e) : Option Int)).bind fun e_15 =>
          (if e_15 = 0 then if (e.Kind == [117, 110, 100, 111]) = true then some (decide ((c.length : Int) = 0)) else some false else some false : Option Bool).bind fun b20 => ((if b20 = true then some 12 else some e_15 : Option Int)).bind fun e_22 =>
          (if e_22 = 0 then some (!(e.Kind == [117, 110, 100, 111])) else some false : Option Bool).bind fun b26 => ((if b26 = true then (kr N c).bind fun r31 => (qV N r31 e).bind fun r32 => some r32 else some e_22 : Option Int))) = some (yg N c k e) := by
        unfold yg
        have hku : ([117, 110, 100, 111] : Str) = vR := rfl
        rw [hku]
        by_cases a1 : jf e = 0
        · by_cases a2 : e.Number = ((k + 1 : Nat) : Int)
          · by_cases a3 : (e.Kind == vR) = true
            · by_cases a4 : c = []
              · simp [a1, a2, a3, a4]
              · have : ¬ c.length = 0 := fun h => a4 (List.length_eq_zero_iff.1 h)
                simp [a1, a2, a3, a4, this]
            · obtain ⟨_, d, l2, _, _, e3, e4, e5⟩ := jA (evs := []) hr (by omega) hN
              obtain ⟨err, day, new, _, hR, _⟩ := qcT (d := d) (⟨e4, by omega, hN, hM⟩ : vW N l2) (yD a1) (by simpa using a3)
              simp [a1, a2, a3, e3, hR.ref]
          · have a2' : ¬ e.Number = (k : Int) + 1 := by simpa using a2
            simp [a1, a2']
        · simp [a1]
      have key2 : ∀ F : Int → Option (List ql ⊕ (List ql × Int × Int)), ((if jf e = 0 then some (!decide (e.Number = ((k + 1 : Nat) : Int))) else some false : Option Bool).bind fun b13 => ((if b13 = true then some 11 else some (jf e) : Option Int)).bind fun e_15 =>
          (if e_15 = 0 then if (e.Kind == [117, 110, 100, 111]) = true then some (decide ((c.length : Int) = 0)) else some false else some false : Option Bool).bind fun b20 => ((if b20 = true then some 12 else some e_15 : Option Int)).bind fun e_22 =>
          (if e_22 = 0 then some (!(e.Kind == [117, 110, 100, 111])) else some false : Option Bool).bind fun b26 => ((if b26 = true then (kr N c).bind fun r31 => (qV N r31 e).bind fun r32 => some r32 else some e_22 : Option Int)).bind F) = F (yg N c k e) := by
        intro F
        have := congrArg (fun x => Option.bind x F) key
        simp only [Option.bind_some, Option.bind_assoc] at this
        exact this
      rw [key2]
      by_cases h0 : yg N c k e = 0
      · obtain ⟨_, g2, g3⟩ := h2 h0
        rw [if_neg (show ¬ ((!decide (yg N c k e = 0)) = true) by simp [h0]), if_pos h0, ← qdT hN hM hl hs K (k + 1) _ (hof o') (by omega) (by omega) g2 g3]
        unfold qbk
        by_cases hu : (e.Kind == vR) = true
        · have hu' : (e.Kind == [117, 110, 100, 111]) = true := hu
          rw [if_pos hu', if_pos hu]
          have hc0 : c ≠ [] := by
            intro hc0
            unfold yg at h0
            by_cases a1 : jf e = 0
            · rw [if_neg (by simp [a1])] at h0
              by_cases a2 : e.Number = ((k + 1 : Nat) : Int)
              · rw [if_neg (by simp [a2]), if_pos hu, if_pos hc0] at h0; cases h0
              · rw [if_pos a2] at h0; cases h0
            · rw [if_pos a1] at h0; exact a1 h0
          have hcl : 0 < c.length := List.length_pos_iff.2 hc0
          rw [qfS (by omega) hcl, qa7 (by omega), List.dropLast_eq_take]
          rfl
        · have hu' : ¬ (e.Kind == [117, 110, 100, 111]) = true := hu
          rw [if_neg hu', if_neg hu, yu (by simp; omega) (by simp; omega), Option.bind_some, yu (by simp; omega) (by simp; omega)]
          rfl
      · rw [if_pos (show ((!decide (yg N c k e = 0)) = true) by simp [h0]), if_neg h0]
        simp [h0]
    · rw [if_neg (by omega), List.drop_of_length_le (by omega)]
      rfl
def qa4 (e : ql) : Bool := decide (e.Kind.length ≤ 60) && (decide (e.Names.length ≤ 5) && (decide (e.Values.length ≤ 5) && (decide (e.Text.length ≤ 60) && e.Names.all fun s => decide (s.length ≤ 60))))
theorem qe3 {l : List ql} {i : Nat} {e : ql} (he : l[i]? = some e) (hn : e.Names.length ≤ 5) : ∀ (K k : Nat), k ≤ e.Names.length → e.Names.length < K + k → ku l (i : Int) K (k : Int) = some (if ((e.Names.drop k).all fun s => decide (s.length ≤ 60)) = true then .inl () else .inr false)
  | 0, k, h, hK => by omega
  | K + 1, k, h, hK => by
    unfold ku
    rw [kT, he, Option.bind_some]
    by_cases hk : k < e.Names.length
    · rw [if_pos (by omega), kT, List.getElem?_eq_getElem hk, Option.bind_some, zW (by omega), qe3 he hn K (k + 1) (by omega) (by omega), List.drop_eq_getElem_cons hk, List.all_cons]
      by_cases hq : (e.Names[k]).length > 60
      · have h1 : ((e.Names[k]).length : Int) > 60 := by omega
        have h2 : ¬ (e.Names[k]).length ≤ 60 := by omega
        simp [h1, h2]
      · have h1 : ¬ ((e.Names[k]).length : Int) > 60 := by omega
        have h2 : (e.Names[k]).length ≤ 60 := by omega
        simp only [h1, h2, decide_true, Bool.true_and, if_false]
    · rw [if_neg (by omega), List.drop_of_length_le (by omega)]
      rfl
theorem qfA {N : Nat} (hN : 2000 < N) {l : List ql} (hl : l.length ≤ 1000) : ∀ (K k : Nat), k ≤ l.length → l.length < K + k → ko N l K (k : Int) = some (if (l.drop k).all qa4 = true then .inl () else .inr false)
  | 0, k, h, hK => by omega
  | K + 1, k, h, hK => by
    unfold ko
    by_cases hk : k < l.length
    · have he : l[k]? = some l[k] := List.getElem?_eq_getElem hk
      rw [if_pos (by omega), kT, he, Option.bind_some, zW (by omega), qfA hN hl K (k + 1) (by omega) (by omega), List.drop_eq_getElem_cons hk, List.all_cons]
      generalize l[k] = e at he
      unfold qa4
      by_cases a1 : e.Kind.length ≤ 60
      · have b1 : ¬ (e.Kind.length : Int) > 60 := by omega
        by_cases a2 : e.Names.length ≤ 5
        · have b2 : ¬ (e.Names.length : Int) > 5 := by omega
          by_cases a3 : e.Values.length ≤ 5
          · have b3 : ¬ (e.Values.length : Int) > 5 := by omega
            by_cases a4 : e.Text.length ≤ 60
            · have b4 : ¬ (e.Text.length : Int) > 60 := by omega
              have := qe3 he a2 N 0 (by omega) (by omega)
              rw [List.drop_zero] at this
              simp only [a1, a2, a3, a4, b1, b2, b3, b4, decide_true, decide_false, Bool.true_and, if_false, Option.bind_some, Bool.false_eq_true]
              rw [show ku l (k : Int) N 0 = ku l (k : Int) N ((0 : Nat) : Int) from rfl, this]
              by_cases a5 : (e.Names.all fun s => decide (s.length ≤ 60)) = true <;> simp [a5]
            · have b4 : (e.Text.length : Int) > 60 := by omega
              simp [a1, a2, a3, a4, b1, b2, b3, b4]
          · have b3 : (e.Values.length : Int) > 5 := by omega
            simp [a1, a2, a3, b1, b2, b3]
        · have b2 : (e.Names.length : Int) > 5 := by omega
          simp [a1, a2, b1, b2]
      · have b1 : (e.Kind.length : Int) > 60 := by omega
        simp [a1, b1]
    · rw [if_neg (by omega), List.drop_of_length_le (by omega)]
      rfl
theorem qdO {N : Nat} (hN : 2000 < N) {l : List ql} {n : Nat} (hn : n ≤ 1000) : jh N l (n : Int) = some (decide (l.length ≤ n) && l.all qa4) := by
  unfold jh
  by_cases h : l.length ≤ n
  · rw [if_neg (by omega), show ko N l N 0 = ko N l N ((0 : Nat) : Int) from rfl, qfA hN (by omega) N 0 (by omega) (by omega), List.drop_zero]
    by_cases h2 : l.all qa4 = true <;> simp [h, h2]
  · rw [if_pos (by omega)]
    simp [h]
theorem qim {N : Nat} (hN : 2000 < N) {e : ql} (h : qa4 e = true) : qbM N e := by
  unfold qa4 at h
  simp only [Bool.and_eq_true, decide_eq_true_eq, List.all_eq_true] at h
  exact ⟨by omega, by omega, fun s hs => by have := h.2.2.2.2 s hs; omega⟩
structure Evs (N : Nat) (l : List ql) : Prop where
  len : l.length ≤ 1000
  short : ∀ e ∈ l, qbM N e
  big : 2000 < N
  max : N < 4611686018427387904
theorem qch {N : Nat} {l : List ql} (h : Evs N l) :
    ((jm N l 0 []).2.1 ≠ 0 ∧ zh N l = some ([], none, false, (jm N l 0 []).1, (jm N l 0 []).2.1) ∧ vz N l = some ([], (jm N l 0 []).1, (jm N l 0 []).2.1)) ∨
    ((jm N l 0 []).2.1 = 0 ∧ ∃ o', zh N l = some (l, o', true, 0, 0) ∧ vz N l = some ((jm N l 0 []).2.2, 0, 0) ∧ Rel N (jm N l 0 []).2.2 (hof o') ∧ (jm N l 0 []).2.2.length ≤ l.length) := by
  obtain ⟨hl, hs, hN, hM⟩ := h
  have hr0 : Rel N [] (hof (none : Option (List StateT))) := Rel.nil N
  have h1 := qee hN hM hl hs N 0 [] none (by omega) (by omega) hr0 (by simp)
  have h2 := qdT hN hM hl hs N 0 [] [] (by omega) (by omega) hr0 (by simp)
  rw [List.drop_zero] at h1 h2
  rw [List.take_zero] at h1
  have e1 : ∀ a b c, qU N l a b c 0 = qU N l a b c ((0 : Nat) : Int) := fun _ _ _ => rfl
  have e2 : ∀ a b, zi N l a b 0 = zi N l a b ((0 : Nat) : Int) := fun _ _ => rfl
  unfold zh vz
  rw [if_neg (by omega), e1, e2, h2]
  rcases h1 with ⟨g1, g2⟩ | ⟨g1, o', g2, g3, g4⟩
  · rw [g2]
    exact .inl ⟨g1, rfl, by simp [g1]⟩
  · rw [g2]
    exact .inr ⟨g1, o', rfl, by simp [g1], g3, g4⟩
theorem qf1 {N : Nat} {l : List ql} (h : Evs N l) : (((jm N l 0 []).2.1 ≠ 0 ∧ vQ N l = some (⟨0, []⟩, (jm N l 0 []).1, (jm N l 0 []).2.1)) ∨
    ((jm N l 0 []).2.1 = 0 ∧ ∃ d s, kr N (jm N l 0 []).2.2 = some ⟨d, s⟩ ∧ s.length ≤ 1000 ∧ vQ N l = some (⟨d, s⟩, 0, 0))) := by
  have hl := h.len
  have hN := h.big
  unfold vQ
  rw [if_neg (by omega)]
  rcases qch h with ⟨g1, g2, g3⟩ | ⟨g1, o', g2, g3, g4, g5⟩
  · rw [g3, Option.bind_some]
    refine .inl ⟨g1, ?_⟩
    simp only
    rw [if_pos (by simp [g1])]
  · rw [g3, Option.bind_some]
    obtain ⟨_, d, s, _, _, e3, _, e5⟩ := jA (evs := []) g4 (by omega) hN
    refine .inr ⟨g1, d, s, e3, by omega, ?_⟩
    simp only
    rw [if_neg (by simp), e3]
    rfl
end Go.Av
