/-
  Chapter 10: names and events.
-/
import Derived.Test.YtjflombnfhlkaaaGreatDoorAvPl
import Derived.Test.YtjflombnfhlkaaaGreatDoorGenS
noncomputable section
namespace Go.Av
set_option linter.unusedSimpArgs false
set_option linter.unusedVariables false
theorem qe7 {s : Str} {k : Nat} {c : UInt8} (h : s[k]? = some c) : ((⟨s.toArray⟩ : ByteArray).get! k) = c := by
  have hk := (List.getElem?_eq_some_iff.1 h).1
  show s.toArray[k]! = c
  rw [getElem!_def]
  simp [h]
theorem qfJ {s : Str} {k : Nat} {c : UInt8} (h : s[k]? = some c) (hc : c.toNat < 128) : qR s k = c.toNat ∧ runeLen s k = 1 := by
  have e := qe7 h
  unfold qR runeLen Utf8.decode
  simp only [Nat.add_zero, e, if_pos hc, and_self]
theorem qgH {s : Str} {k : Nat} {c : UInt8} (h : s[k]? = some c) (hc : 128 ≤ c.toNat) : 128 ≤ qR s k := by
  have e := qe7 h
  unfold qR Utf8.decode
  simp only [Nat.add_zero, e, if_neg (Nat.not_lt.2 hc)]
  have hr : (128 : Nat) ≤ Utf8.runeError := by decide
  repeat' split
  all_goals first | (simp only [Bool.and_eq_true, decide_eq_true_eq] at *; omega) | (simp; omega) | omega
def qeM (c : Int) : Bool := (decide (97 ≤ c) && decide (c ≤ 122)) || (decide (65 ≤ c) && decide (c ≤ 90))
theorem qcE (c : Int) : jC c = some (qeM c) := by
  unfold jC qeM
  by_cases h1 : c ≥ 97 <;> by_cases h2 : c ≤ 122 <;> by_cases h3 : c ≥ 65 <;> by_cases h4 : c ≤ 90 <;> simp [h1, h2, h3, h4] <;> omega
def qfD (k : Nat) (c : Int) : Bool := !qeM c && (decide (k = 0) || (!decide (c = 95) && (decide (c < 48) || decide (c > 57))))
def vQ (s : Str) : Bool := decide (1 ≤ s.length) && decide (s.length ≤ 24) && !((List.range s.length).any fun k => qfD k (s.getD k 0).toNat)
theorem qhy {k : Nat} {c : Int} (h : 128 ≤ c) : qfD k c = true := by
  unfold qfD qeM
  simp
  omega
def ym (s : Str) (k : Nat) : Bool := (List.range (s.length - k)).any fun j => qfD (k + j) (s.getD (k + j) 0).toNat
theorem qb2 {s : Str} {k : Nat} {c : UInt8} (h : s[k]? = some c) : ym s k = (qfD k c.toNat || ym s (k + 1)) := by
  have hk := (List.getElem?_eq_some_iff.1 h).1
  unfold ym
  rw [show s.length - k = (s.length - (k + 1)) + 1 by omega, List.range_succ_eq_map, List.any_cons, List.any_map]
  congr 1
  · simp [List.getD, h]
  · congr 1
    funext j
    simp only [Function.comp, Nat.succ_eq_add_one]
    rw [show k + (j + 1) = k + 1 + j by omega]
theorem qcB {s : Str} {k : Nat} (h : s.length ≤ k) : ym s k = false := by
  unfold ym
  rw [show s.length - k = 0 by omega]
  rfl
theorem qdW (s : Str) : ∀ (K k : Nat), k ≤ s.length → s.length < K + k → zN s K k = some (if ym s k then .inr false else .inl ())
  | 0, k, h, hK => by omega
  | K + 1, k, h, hK => by
    unfold zN
    by_cases hk : k < s.length
    · have hc : s[k]? = some s[k] := List.getElem?_eq_getElem hk
      rw [if_pos hk, qcE, qb2 hc]
      by_cases ha : (s[k]).toNat < 128
      · obtain ⟨e1, e2⟩ := qfJ hc ha
        rw [e1, e2, qdW s K (k + 1) (by omega) (by omega)]
        have ek : ((k : Int) = 0) ↔ k = 0 := by omega
        unfold qfD
        generalize ((s[k]).toNat : Int) = c
        cases hl : qeM c <;> by_cases h0 : k = 0 <;> by_cases h1 : c = 95 <;> by_cases h2 : c < 48 <;> by_cases h3 : 57 < c <;>
          simp [hl, h0, h1, h2, h3]
      · have hw := qgH hc (by omega)
        rw [qhy (show (128 : Int) ≤ ((s[k]).toNat : Int) by omega)]
        have hl : qeM (qR s k) = false := by unfold qeM; simp; omega
        have h1 : ¬ qR s k = 95 := by omega
        have h2 : ¬ qR s k < 48 := by omega
        have h3 : qR s k > 57 := by omega
        have ek : ((k : Int) = 0) ↔ k = 0 := by omega
        simp only [hl, Option.bind_some, Bool.not_false, if_true, h1, h2, h3, decide_true, decide_false, if_false, Bool.true_or, ek]
        by_cases h0 : k = 0
        · simp only [h0, if_true, Option.bind_some]
        · simp only [h0, if_false, Option.bind_some, if_true]
    · rw [if_neg hk, qcB (by omega)]
      rfl
theorem qfs (s : Str) : vQ s = (decide (1 ≤ s.length) && decide (s.length ≤ 24) && !ym s 0) := by
  unfold vQ ym
  simp
theorem qgM {N : Nat} {s : Str} (h : s.length < N) : vO N s = some (vQ s) := by
  unfold vO
  rw [qdW s N 0 (Nat.zero_le _) (by omega), qfs]
  cases hb : ym s 0
  · cases s with
    | nil => simp
    | cons x xs =>
      have e : ((x :: xs) == ([] : Str)) = false := rfl
      simp only [Option.bind_some, Bool.false_eq_true, if_false, e, Bool.not_false, if_true, Bool.and_true, Option.some.injEq]
      have : (1 ≤ (x :: xs).length) := by simp
      rw [Bool.eq_iff_iff]
      simp only [decide_eq_true_eq, Bool.and_eq_true, this, true_and]
      omega
  · simp
theorem qdJ (s : Str) (hs : s.length < 4611686018427387904) : ∀ (K k : Nat), k ≤ s.length → s.length < K + k → jc s K (k : Int) = some (if ym s k then .inr false else .inl ())
  | 0, k, h, hK => by omega
  | K + 1, k, h, hK => by
    unfold jc
    by_cases hk : k < s.length
    · have hc : s[k]? = some s[k] := List.getElem?_eq_getElem hk
      rw [if_pos (by omega), ku, hc, qb2 hc, zP (by omega), qdJ s hs K (k + 1) (by omega) (by omega)]
      simp only [Option.bind_some]
      have ek : ((k : Int) = 0) ↔ k = 0 := by omega
      unfold qfD
      generalize ((s[k]).toNat : Int) = c
      rw [show (if c ≥ 97 then if c ≤ 122 then some true else if c ≥ 65 then some (decide (c ≤ 90)) else some false else if c ≥ 65 then some (decide (c ≤ 90)) else some false : Option Bool) = some (qeM c) from by
        have := qcE c
        unfold jC at this
        rw [← this]
        cases (if c ≥ 97 then if c ≤ 122 then some true else if c ≥ 65 then some (decide (c ≤ 90)) else some false else if c ≥ 65 then some (decide (c ≤ 90)) else some false : Option Bool) <;> rfl]
      simp only [Option.bind_some, ek]
      cases qeM c
      · by_cases h5 : k = 0
        · simp [h5]
        · by_cases h6 : c ≥ 48
          · by_cases h7 : c ≤ 57
            · have a1 : ¬ c < 48 := by omega
              have a2 : ¬ c > 57 := by omega
              simp [h5, h6, h7, a1, a2]
            · have a1 : ¬ c < 48 := by omega
              have a2 : c > 57 := by omega
              by_cases h8 : c = 95 <;> simp [h5, h6, h7, h8, a1, a2]
          · have a1 : c < 48 := by omega
            by_cases h8 : c = 95 <;> simp [h5, h6, h8, a1]
      · simp
    · rw [if_neg (by omega), qcB (by omega)]
      rfl
theorem qdp {N : Nat} {s : Str} (h : s.length < N) (hs : s.length < 4611686018427387904) : vJ N s = some (vQ s) := by
  unfold vJ
  rw [show (0 : Int) = ((0 : Nat) : Int) from rfl, qdJ s hs N 0 (Nat.zero_le _) (by omega), qfs]
  by_cases h1 : s.length < 1
  · rw [if_pos (by omega)]
    simp [show ¬ 1 ≤ s.length by omega]
  · by_cases h2 : s.length > 24
    · rw [if_neg (by omega)]
      simp only [Option.bind_some, show ((s.length : Int) > 24) by omega, decide_true, if_true, show ¬ s.length ≤ 24 by omega, decide_false, Bool.and_false, Bool.false_and]
    · rw [if_neg (by omega)]
      simp only [Option.bind_some, show ¬ ((s.length : Int) > 24) by omega, decide_false, Bool.false_eq_true, if_false, show 1 ≤ s.length by omega, show s.length ≤ 24 by omega, decide_true, Bool.true_and]
      cases hb : ym s 0 <;> rfl
end Go.Av
