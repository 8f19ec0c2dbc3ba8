/-
  Chapter 10: names and events.
-/
import Derived.Test.YtjflombnfhlkaaaGreatDoorAvPl
import Derived.Test.YtjflombnfhlkaaaGreatDoorQGenC
noncomputable section
namespace Go.Av
set_option linter.unusedSimpArgs false
set_option linter.unusedVariables false
theorem qfF {s : Str} {k : Nat} {c : UInt8} (h : s[k]? = some c) : ((⟨s.toArray⟩ : ByteArray).get! k) = c := by
  have hk := (List.getElem?_eq_some_iff.1 h).1
  show s.toArray[k]! = c
  rw [getElem!_def]
  simp [h]
theorem qgw {s : Str} {k : Nat} {c : UInt8} (h : s[k]? = some c) (hc : c.toNat < 128) : kS s k = c.toNat ∧ runeLen s k = 1 := by
  have e := qfF h
  unfold kS runeLen Utf8.decode
  simp only [Nat.add_zero, e, if_pos hc, and_self]
theorem qhw {s : Str} {k : Nat} {c : UInt8} (h : s[k]? = some c) (hc : 128 ≤ c.toNat) : 128 ≤ kS s k := by
  have e := qfF h
  unfold kS Utf8.decode
  simp only [Nat.add_zero, e, if_neg (Nat.not_lt.2 hc)]
  have hr : (128 : Nat) ≤ Utf8.runeError := by decide
  repeat' split
  all_goals first | (simp only [Bool.and_eq_true, decide_eq_true_eq] at *; omega) | (simp; omega) | omega
def qeX (c : Int) : Bool := (decide (97 ≤ c) && decide (c ≤ 122)) || (decide (65 ≤ c) && decide (c ≤ 90))
theorem qcX (c : Int) : jT c = some (qeX c) := by
  unfold jT qeX
  by_cases h1 : c ≥ 97 <;> by_cases h2 : c ≤ 122 <;> by_cases h3 : c ≥ 65 <;> by_cases h4 : c ≤ 90 <;> simp [h1, h2, h3, h4] <;> omega
def qgk (k : Nat) (c : Int) : Bool := !qeX c && (decide (k = 0) || (!decide (c = 95) && (decide (c < 48) || decide (c > 57))))
def jN (s : Str) : Bool := decide (1 ≤ s.length) && decide (s.length ≤ 24) && !((List.range s.length).any fun k => qgk k (s.getD k 0).toNat)
theorem qir {k : Nat} {c : Int} (h : 128 ≤ c) : qgk k c = true := by
  unfold qgk qeX
  simp
  omega
def yL (s : Str) (k : Nat) : Bool := (List.range (s.length - k)).any fun j => qgk (k + j) (s.getD (k + j) 0).toNat
theorem qb9 {s : Str} {k : Nat} {c : UInt8} (h : s[k]? = some c) : yL s k = (qgk k c.toNat || yL s (k + 1)) := by
  have hk := (List.getElem?_eq_some_iff.1 h).1
  unfold yL
  rw [show s.length - k = (s.length - (k + 1)) + 1 by omega, List.range_succ_eq_map, List.any_cons, List.any_map]
  congr 1
  · simp [List.getD, h]
  · congr 1
    funext j
    simp only [Function.comp, Nat.succ_eq_add_one]
    rw [show k + (j + 1) = k + 1 + j by omega]
theorem qc9 {s : Str} {k : Nat} (h : s.length ≤ k) : yL s k = false := by
  unfold yL
  rw [show s.length - k = 0 by omega]
  rfl
theorem qeB (s : Str) : ∀ (K k : Nat), k ≤ s.length → s.length < K + k → z8 s K k = some (if yL s k then .inr false else .inl ())
  | 0, k, h, hK => by omega
  | K + 1, k, h, hK => by
    unfold z8
    by_cases hk : k < s.length
    · have hc : s[k]? = some s[k] := List.getElem?_eq_getElem hk
      rw [if_pos hk, qcX, qb9 hc]
      by_cases ha : (s[k]).toNat < 128
      · obtain ⟨e1, e2⟩ := qgw hc ha
        rw [e1, e2, qeB s K (k + 1) (by omega) (by omega)]
        have ek : ((k : Int) = 0) ↔ k = 0 := by omega
        unfold qgk
        generalize ((s[k]).toNat : Int) = c
        cases hl : qeX c <;> by_cases h0 : k = 0 <;> by_cases h1 : c = 95 <;> by_cases h2 : c < 48 <;> by_cases h3 : 57 < c <;>
          simp [hl, h0, h1, h2, h3]
      · have hw := qhw hc (by omega)
        rw [qir (show (128 : Int) ≤ ((s[k]).toNat : Int) by omega)]
        have hl : qeX (kS s k) = false := by unfold qeX; simp; omega
        have h1 : ¬ kS s k = 95 := by omega
        have h2 : ¬ kS s k < 48 := by omega
        have h3 : kS s k > 57 := by omega
        have ek : ((k : Int) = 0) ↔ k = 0 := by omega
        simp only [hl, Option.bind_some, Bool.not_false, if_true, h1, h2, h3, decide_true, decide_false, if_false, Bool.true_or, ek]
        by_cases h0 : k = 0
        · simp only [h0, if_true, Option.bind_some]
        · simp only [h0, if_false, Option.bind_some, if_true]
    · rw [if_neg hk, qc9 (by omega)]
      rfl
theorem qfQ (s : Str) : jN s = (decide (1 ≤ s.length) && decide (s.length ≤ 24) && !yL s 0) := by
  unfold jN yL
  simp
theorem qhe {N : Nat} {s : Str} (h : s.length < N) : ym N s = some (jN s) := by
  unfold ym
  rw [qeB s N 0 (Nat.zero_le _) (by omega), qfQ]
  cases hb : yL s 0
  · cases s with
    | nil => simp
    | cons x xs =>
      have e : ((x :: xs) == ([] : Str)) = false := rfl
      simp only [Option.bind_some, Bool.false_eq_true, if_false, e, Bool.not_false, if_true, Bool.and_true, Option.some.injEq]
      have : (1 ≤ (x :: xs).length) := by simp
      rw [Bool.eq_iff_iff]
      simp only [decide_eq_true_eq, Bool.and_eq_true, this, true_and]
      omega
  · simp
theorem qee (s : Str) (hs : s.length < 4611686018427387904) : ∀ (K k : Nat), k ≤ s.length → s.length < K + k → jC s K (k : Int) = some (if yL s k then .inr false else .inl ())
  | 0, k, h, hK => by omega
  | K + 1, k, h, hK => by
    unfold jC
    by_cases hk : k < s.length
    · have hc : s[k]? = some s[k] := List.getElem?_eq_getElem hk
      rw [if_pos (by omega), qO, hc, qb9 hc, zm (by omega), qee s hs K (k + 1) (by omega) (by omega)]
      simp only [Option.bind_some]
      have ek : ((k : Int) = 0) ↔ k = 0 := by omega
      unfold qgk
      generalize ((s[k]).toNat : Int) = c
      rw [show (if c ≥ 97 then if c ≤ 122 then some true else if c ≥ 65 then some (decide (c ≤ 90)) else some false else if c ≥ 65 then some (decide (c ≤ 90)) else some false : Option Bool) = some (qeX c) from by
        have := qcX c
        unfold jT at this
        rw [← this]
        cases (if c ≥ 97 then if c ≤ 122 then some true else if c ≥ 65 then some (decide (c ≤ 90)) else some false else if c ≥ 65 then some (decide (c ≤ 90)) else some false : Option Bool) <;> rfl]
      simp only [Option.bind_some, ek]
      cases qeX c
      · by_cases h5 : k = 0
        · simp [h5]
        · by_cases h6 : c ≥ 48
          · by_cases h7 : c ≤ 57
            · have a1 : ¬ c < 48 := by omega
              have a2 : ¬ c > 57 := by omega
              simp [h5, h6, h7, a1, a2]
            · have a1 : ¬ c < 48 := by omega
              have a2 : c > 57 := by omega
              by_cases h8 : c = 95 <;> simp [h5, h6, h7, h8, a1, a2]
          · have a1 : c < 48 := by omega
            by_cases h8 : c = 95 <;> simp [h5, h6, h8, a1]
      · simp
    · rw [if_neg (by omega), qc9 (by omega)]
      rfl
theorem qdO {N : Nat} {s : Str} (h : s.length < N) (hs : s.length < 4611686018427387904) : vZ N s = some (jN s) := by
  unfold vZ
  rw [show (0 : Int) = ((0 : Nat) : Int) from rfl, qee s hs N 0 (Nat.zero_le _) (by omega), qfQ]
  by_cases h1 : s.length < 1
  · rw [if_pos (by omega)]
    simp [show ¬ 1 ≤ s.length by omega]
  · by_cases h2 : s.length > 24
    · rw [if_neg (by omega)]
      simp only [Option.bind_some, show ((s.length : Int) > 24) by omega, decide_true, if_true, show ¬ s.length ≤ 24 by omega, decide_false, Bool.and_false, Bool.false_and]
    · rw [if_neg (by omega)]
      simp only [Option.bind_some, show ¬ ((s.length : Int) > 24) by omega, decide_false, Bool.false_eq_true, if_false, show 1 ≤ s.length by omega, show s.length ≤ 24 by omega, decide_true, Bool.true_and]
      cases hb : yL s 0 <;> rfl
end Go.Av
