/-
  Chapter 10: the law of events, plain.
-/
import Derived.Test.YtjflombnfhlkaaaGreatDoorPlC7
noncomputable section
namespace Go.Av
set_option linter.unusedSimpArgs false
set_option linter.unusedVariables false
def qa0 (e : ql) : Bool := decide (e.Kind.length ≤ 60) && (decide (e.Names.length ≤ 5) && (decide (e.Values.length ≤ 5) && (decide (e.Text.length ≤ 60) && e.Names.all fun s => decide (s.length ≤ 60))))
theorem qfS {l : List ql} {i : Nat} {e : ql} (he : l[i]? = some e) (hn : e.Names.length ≤ 5) : ∀ (K k : Nat), k ≤ e.Names.length → e.Names.length < K + k → kr l (i : Int) K (k : Int) = some (if ((e.Names.drop k).all fun s => decide (s.length ≤ 60)) = true then .inl () else .inr false)
  | 0, k, h, hK => by omega
  | K + 1, k, h, hK => by
    unfold kr
    rw [qO, he, Option.bind_some]
    by_cases hk : k < e.Names.length
    · rw [if_pos (by omega), qO, List.getElem?_eq_getElem hk, Option.bind_some, zm (by omega), qfS he hn K (k + 1) (by omega) (by omega), List.drop_eq_getElem_cons hk, List.all_cons]
      by_cases hq : (e.Names[k]).length > 60
      · have h1 : ((e.Names[k]).length : Int) > 60 := by omega
        have h2 : ¬ (e.Names[k]).length ≤ 60 := by omega
        simp [h1, h2]
      · have h1 : ¬ ((e.Names[k]).length : Int) > 60 := by omega
        have h2 : (e.Names[k]).length ≤ 60 := by omega
        simp only [h1, h2, decide_true, Bool.true_and, if_false]
    · rw [if_neg (by omega), List.drop_of_length_le (by omega)]
      rfl
theorem qfx {N : Nat} (hN : 2000 < N) {l : List ql} (hl : l.length ≤ 1000) : ∀ (K k : Nat), k ≤ l.length → l.length < K + k → ku N l K (k : Int) = some (if (l.drop k).all qa0 = true then .inl () else .inr false)
  | 0, k, h, hK => by omega
  | K + 1, k, h, hK => by
    unfold ku
    by_cases hk : k < l.length
    · have he : l[k]? = some l[k] := List.getElem?_eq_getElem hk
      rw [if_pos (by omega), qO, he, Option.bind_some, zm (by omega), qfx hN hl K (k + 1) (by omega) (by omega), List.drop_eq_getElem_cons hk, List.all_cons]
      generalize l[k] = e at he
      unfold qa0
      by_cases a1 : e.Kind.length ≤ 60
      · have b1 : ¬ (e.Kind.length : Int) > 60 := by omega
        by_cases a2 : e.Names.length ≤ 5
        · have b2 : ¬ (e.Names.length : Int) > 5 := by omega
          by_cases a3 : e.Values.length ≤ 5
          · have b3 : ¬ (e.Values.length : Int) > 5 := by omega
            by_cases a4 : e.Text.length ≤ 60
            · have b4 : ¬ (e.Text.length : Int) > 60 := by omega
              have := qfS he a2 N 0 (by omega) (by omega)
              rw [List.drop_zero] at this
              simp only [a1, a2, a3, a4, b1, b2, b3, b4, decide_true, decide_false, Bool.true_and, if_false, Option.bind_some, Bool.false_eq_true]
              rw [show kr l (k : Int) N 0 = kr l (k : Int) N ((0 : Nat) : Int) from rfl, this]
              by_cases a5 : (e.Names.all fun s => decide (s.length ≤ 60)) = true <;> simp [a5]
            · have b4 : (e.Text.length : Int) > 60 := by omega
              simp [a1, a2, a3, a4, b1, b2, b3, b4]
          · have b3 : (e.Values.length : Int) > 5 := by omega
            simp [a1, a2, a3, b1, b2, b3]
        · have b2 : (e.Names.length : Int) > 5 := by omega
          simp [a1, a2, b1, b2]
      · have b1 : (e.Kind.length : Int) > 60 := by omega
        simp [a1, b1]
    · rw [if_neg (by omega), List.drop_of_length_le (by omega)]
      rfl
theorem qdx {N : Nat} (hN : 2000 < N) {l : List ql} {n : Nat} (hn : n ≤ 1000) : jo N l (n : Int) = some (decide (l.length ≤ n) && l.all qa0) := by
  unfold jo
  by_cases h : l.length ≤ n
  · rw [if_neg (by omega), show ku N l N 0 = ku N l N ((0 : Nat) : Int) from rfl, qfx hN (by omega) N 0 (by omega) (by omega), List.drop_zero]
    by_cases h2 : l.all qa0 = true <;> simp [h, h2]
  · rw [if_pos (by omega)]
    simp [h]
theorem qiU {N : Nat} (hN : 2000 < N) {e : ql} (h : qa0 e = true) : qaJ N e := by
  unfold qa0 at h
  simp only [Bool.and_eq_true, decide_eq_true_eq, List.all_eq_true] at h
  exact ⟨by omega, by omega, fun s hs => by have := h.2.2.2.2 s hs; omega⟩
structure Evs (N : Nat) (l : List ql) : Prop where
  len : l.length ≤ 1000
  short : ∀ e ∈ l, qaJ N e
  big : 2000 < N
  max : N < 4611686018427387904
theorem qaF {N : Nat} {l : List ql} (h : Evs N l) :
    ((jG N l 0 []).2.1 ≠ 0 ∧ kg N l = some ([], none, false, (jG N l 0 []).1, (jG N l 0 []).2.1) ∧ vJ N l = some ([], (jG N l 0 []).1, (jG N l 0 []).2.1)) ∨
    ((jG N l 0 []).2.1 = 0 ∧ ∃ o', kg N l = some (l, o', true, 0, 0) ∧ vJ N l = some ((jG N l 0 []).2.2, 0, 0) ∧ Rel N (jG N l 0 []).2.2 (hof o') ∧ (jG N l 0 []).2.2.length ≤ l.length) := by
  obtain ⟨hl, hs, hN, hM⟩ := h
  have hr0 : Rel N [] (hof (none : Option (List StateT))) := Rel.nil N
  have h1 := qeL hN hM hl hs N 0 [] none (by omega) (by omega) hr0 (by simp)
  have h2 := qdz hN hM hl hs N 0 [] [] (by omega) (by omega) hr0 (by simp)
  rw [List.drop_zero] at h1 h2
  rw [List.take_zero] at h1
  have e1 : ∀ a b c, qW N l a b c 0 = qW N l a b c ((0 : Nat) : Int) := fun _ _ _ => rfl
  have e2 : ∀ a b, zn N l a b 0 = zn N l a b ((0 : Nat) : Int) := fun _ _ => rfl
  unfold kg vJ
  rw [if_neg (by omega), e1, e2, h2]
  rcases h1 with ⟨g1, g2⟩ | ⟨g1, o', g2, g3, g4⟩
  · rw [g2]
    exact .inl ⟨g1, rfl, by simp [g1]⟩
  · rw [g2]
    exact .inr ⟨g1, o', rfl, by simp [g1], g3, g4⟩
theorem qge {N : Nat} {l : List ql} (h : Evs N l) : (((jG N l 0 []).2.1 ≠ 0 ∧ vX N l = some (⟨0, []⟩, (jG N l 0 []).1, (jG N l 0 []).2.1)) ∨
    ((jG N l 0 []).2.1 = 0 ∧ ∃ d s, ko N (jG N l 0 []).2.2 = some ⟨d, s⟩ ∧ s.length ≤ 1000 ∧ vX N l = some (⟨d, s⟩, 0, 0))) := by
  have hl := h.len
  have hN := h.big
  unfold vX
  rw [if_neg (by omega)]
  rcases qaF h with ⟨g1, g2, g3⟩ | ⟨g1, o', g2, g3, g4, g5⟩
  · rw [g3, Option.bind_some]
    refine .inl ⟨g1, ?_⟩
    simp only
    rw [if_pos (by simp [g1])]
  · rw [g3, Option.bind_some]
    obtain ⟨_, d, s, _, _, e3, _, e5⟩ := zO (evs := []) g4 (by omega) hN
    refine .inr ⟨g1, d, s, e3, by omega, ?_⟩
    simp only
    rw [if_neg (by simp), e3]
    rfl
end Go.Av
