/-
  Chapter 10: the law of events, plain.
-/
import Derived.Test.YtjflombnfhlkaaaGreatDoorPlL7
noncomputable section
namespace Go.Av
set_option linter.unusedSimpArgs false
set_option linter.unusedVariables false
def shortB (e : EventT) : Bool := decide (e.Kind.length ≤ 60) && (decide (e.Names.length ≤ 5) && (decide (e.Values.length ≤ 5) && (decide (e.Text.length ≤ 60) && e.Names.all fun s => decide (s.length ≤ 60))))
theorem Short_L1 {l : List EventT} {i : Nat} {e : EventT} (he : l[i]? = some e) (hn : e.Names.length ≤ 5) : ∀ (K k : Nat), k ≤ e.Names.length → e.Names.length < K + k → ref10_ShortEvents_L1 l (i : Int) K (k : Int) = some (if ((e.Names.drop k).all fun s => decide (s.length ≤ 60)) = true then .inl () else .inr false)
  | 0, k, h, hK => by omega
  | K + 1, k, h, hK => by
    unfold ref10_ShortEvents_L1
    rw [idx_nat, he, Option.bind_some]
    by_cases hk : k < e.Names.length
    · rw [if_pos (by omega), idx_nat, List.getElem?_eq_getElem hk, Option.bind_some, w64_up (by omega), Short_L1 he hn K (k + 1) (by omega) (by omega), List.drop_eq_getElem_cons hk, List.all_cons]
      by_cases hq : (e.Names[k]).length > 60
      · have h1 : ((e.Names[k]).length : Int) > 60 := by omega
        have h2 : ¬ (e.Names[k]).length ≤ 60 := by omega
        simp [h1, h2]
      · have h1 : ¬ ((e.Names[k]).length : Int) > 60 := by omega
        have h2 : (e.Names[k]).length ≤ 60 := by omega
        simp only [h1, h2, decide_true, Bool.true_and, if_false]
    · rw [if_neg (by omega), List.drop_of_length_le (by omega)]
      rfl
theorem Short_L0 {N : Nat} (hN : 2000 < N) {l : List EventT} (hl : l.length ≤ 1000) : ∀ (K k : Nat), k ≤ l.length → l.length < K + k → ref10_ShortEvents_L0 N l K (k : Int) = some (if (l.drop k).all shortB = true then .inl () else .inr false)
  | 0, k, h, hK => by omega
  | K + 1, k, h, hK => by
    unfold ref10_ShortEvents_L0
    by_cases hk : k < l.length
    · have he : l[k]? = some l[k] := List.getElem?_eq_getElem hk
      rw [if_pos (by omega), idx_nat, he, Option.bind_some, w64_up (by omega), Short_L0 hN hl K (k + 1) (by omega) (by omega), List.drop_eq_getElem_cons hk, List.all_cons]
      generalize l[k] = e at he
      unfold shortB
      by_cases a1 : e.Kind.length ≤ 60
      · have b1 : ¬ (e.Kind.length : Int) > 60 := by omega
        by_cases a2 : e.Names.length ≤ 5
        · have b2 : ¬ (e.Names.length : Int) > 5 := by omega
          by_cases a3 : e.Values.length ≤ 5
          · have b3 : ¬ (e.Values.length : Int) > 5 := by omega
            by_cases a4 : e.Text.length ≤ 60
            · have b4 : ¬ (e.Text.length : Int) > 60 := by omega
              have := Short_L1 he a2 N 0 (by omega) (by omega)
              rw [List.drop_zero] at this
              simp only [a1, a2, a3, a4, b1, b2, b3, b4, decide_true, decide_false, Bool.true_and, if_false, Option.bind_some, Bool.false_eq_true]
              rw [show ref10_ShortEvents_L1 l (k : Int) N 0 = ref10_ShortEvents_L1 l (k : Int) N ((0 : Nat) : Int) from rfl, this]
              by_cases a5 : (e.Names.all fun s => decide (s.length ≤ 60)) = true <;> simp [a5]
            · have b4 : (e.Text.length : Int) > 60 := by omega
              simp [a1, a2, a3, a4, b1, b2, b3, b4]
          · have b3 : (e.Values.length : Int) > 5 := by omega
            simp [a1, a2, a3, b1, b2, b3]
        · have b2 : (e.Names.length : Int) > 5 := by omega
          simp [a1, a2, b1, b2]
      · have b1 : (e.Kind.length : Int) > 60 := by omega
        simp [a1, b1]
    · rw [if_neg (by omega), List.drop_of_length_le (by omega)]
      rfl
theorem ShortEvents_eq {N : Nat} (hN : 2000 < N) {l : List EventT} {n : Nat} (hn : n ≤ 1000) : ref10_ShortEvents N l (n : Int) = some (decide (l.length ≤ n) && l.all shortB) := by
  unfold ref10_ShortEvents
  by_cases h : l.length ≤ n
  · rw [if_neg (by omega), show ref10_ShortEvents_L0 N l N 0 = ref10_ShortEvents_L0 N l N ((0 : Nat) : Int) from rfl, Short_L0 hN (by omega) N 0 (by omega) (by omega), List.drop_zero]
    by_cases h2 : l.all shortB = true <;> simp [h, h2]
  · rw [if_pos (by omega)]
    simp [h]
theorem shortB_E {N : Nat} (hN : 2000 < N) {e : EventT} (h : shortB e = true) : ShortE N e := by
  unfold shortB at h
  simp only [Bool.and_eq_true, decide_eq_true_eq, List.all_eq_true] at h
  exact ⟨by omega, by omega, fun s hs => by have := h.2.2.2.2 s hs; omega⟩
structure Evs (N : Nat) (l : List EventT) : Prop where
  len : l.length ≤ 1000
  short : ∀ e ∈ l, ShortE N e
  big : 2000 < N
  max : N < 4611686018427387904
theorem replay_cases {N : Nat} {l : List EventT} (h : Evs N l) :
    ((crun N l 0 []).2.1 ≠ 0 ∧ record_replay_h1 N l = some ([], none, false, (crun N l 0 []).1, (crun N l 0 []).2.1) ∧ ref10_Counted N l = some ([], (crun N l 0 []).1, (crun N l 0 []).2.1)) ∨
    ((crun N l 0 []).2.1 = 0 ∧ ∃ o', record_replay_h1 N l = some (l, o', true, 0, 0) ∧ ref10_Counted N l = some ((crun N l 0 []).2.2, 0, 0) ∧ Rel N (crun N l 0 []).2.2 (hof o') ∧ (crun N l 0 []).2.2.length ≤ l.length) := by
  obtain ⟨hl, hs, hN, hM⟩ := h
  have hr0 : Rel N [] (hof (none : Option (List StateT))) := Rel.nil N
  have h1 := replay_L0 hN hM hl hs N 0 [] none (by omega) (by omega) hr0 (by simp)
  have h2 := counted_L0 hN hM hl hs N 0 [] [] (by omega) (by omega) hr0 (by simp)
  rw [List.drop_zero] at h1 h2
  rw [List.take_zero] at h1
  have e1 : ∀ a b c, record_replay_h1_L0 N l a b c 0 = record_replay_h1_L0 N l a b c ((0 : Nat) : Int) := fun _ _ _ => rfl
  have e2 : ∀ a b, ref10_Counted_L0 N l a b 0 = ref10_Counted_L0 N l a b ((0 : Nat) : Int) := fun _ _ => rfl
  unfold record_replay_h1 ref10_Counted
  rw [if_neg (by omega), e1, e2, h2]
  rcases h1 with ⟨g1, g2⟩ | ⟨g1, o', g2, g3, g4⟩
  · rw [g2]
    exact .inl ⟨g1, rfl, by simp [g1]⟩
  · rw [g2]
    exact .inr ⟨g1, o', rfl, by simp [g1], g3, g4⟩
theorem rReplay_eq {N : Nat} {l : List EventT} (h : Evs N l) : (((crun N l 0 []).2.1 ≠ 0 ∧ ref10_Replay N l = some (⟨0, []⟩, (crun N l 0 []).1, (crun N l 0 []).2.1)) ∨
    ((crun N l 0 []).2.1 = 0 ∧ ∃ d s, ref10_register N (crun N l 0 []).2.2 = some ⟨d, s⟩ ∧ s.length ≤ 1000 ∧ ref10_Replay N l = some (⟨d, s⟩, 0, 0))) := by
  have hl := h.len
  have hN := h.big
  unfold ref10_Replay
  rw [if_neg (by omega)]
  rcases replay_cases h with ⟨g1, g2, g3⟩ | ⟨g1, o', g2, g3, g4, g5⟩
  · rw [g3, Option.bind_some]
    refine .inl ⟨g1, ?_⟩
    simp only
    rw [if_pos (by simp [g1])]
  · rw [g3, Option.bind_some]
    obtain ⟨_, d, s, _, _, e3, _, e5⟩ := story_register (evs := []) g4 (by omega) hN
    refine .inr ⟨g1, d, s, e3, by omega, ?_⟩
    simp only
    rw [if_neg (by simp), e3]
    rfl
end Go.Av
