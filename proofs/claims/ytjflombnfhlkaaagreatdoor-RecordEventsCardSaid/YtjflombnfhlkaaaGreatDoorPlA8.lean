/-
  Chapter 10: the law of events, plain.
-/
import Derived.Test.YtjflombnfhlkaaaGreatDoorPlA7
noncomputable section
namespace Go.Av
set_option linter.unusedSimpArgs false
set_option linter.unusedVariables false
def shortB (e : EventT) : Bool := decide (e.Kind.length ≤ 60) && (decide (e.Names.length ≤ 5) && (decide (e.Values.length ≤ 5) && (decide (e.Text.length ≤ 60) && e.Names.all fun s => decide (s.length ≤ 60))))
theorem Short_L1 {l : List EventT} {i : Nat} {e : EventT} (he : l[i]? = some e) (hn : e.Names.length ≤ 5) : ∀ (K k : Nat), k ≤ e.Names.length → e.Names.length < K + k → ref10_ShortEvents_L1 l (i : Int) K (k : Int) = some (if ((e.Names.drop k).all fun s => decide (s.length ≤ 60)) = true then .inl () else .inr false)
  | 0, k, h, hK => by omega
  | K + 1, k, h, hK => by
    unfold ref10_ShortEvents_L1
    rw [idx_nat, he, Option.bind_some]
    by_cases hk : k < e.Names.length
    · rw [if_pos (by omega), idx_nat, List.getElem?_eq_getElem hk, Option.bind_some, w64_up (by omega), Short_L1 he hn K (k + 1) (by omega) (by omega), List.drop_eq_getElem_cons hk, List.all_cons]
      by_cases hq : (e.Names[k]).length > 60
      · have h1 : ((e.Names[k]).length : Int) > 60 := by omega
        have h2 : ¬ (e.Names[k]).length ≤ 60 := by omega
        simp [h1, h2]
      · have h1 : ¬ ((e.Names[k]).length : Int) > 60 := by omega
        have h2 : (e.Names[k]).length ≤ 60 := by omega
        simp only [h1, h2, decide_true, Bool.true_and, if_false]
    · rw [if_neg (by omega), List.drop_of_length_le (by omega)]
      rfl
theorem Short_L0 {N : Nat} (hN : 2000 < N) {l : List EventT} (hl : l.length ≤ 1000) : ∀ (K k : Nat), k ≤ l.length → l.length < K + k → ref10_ShortEvents_L0 N l K (k : Int) = some (if (l.drop k).all shortB = true then .inl () else .inr false)
  | 0, k, h, hK => by omega
  | K + 1, k, h, hK => by
    unfold ref10_ShortEvents_L0
    by_cases hk : k < l.length
    · have he : l[k]? = some l[k] := List.getElem?_eq_getElem hk
      rw [if_pos (by omega), idx_nat, he, Option.bind_some, w64_up (by omega), Short_L0 hN hl K (k + 1) (by omega) (by omega), List.drop_eq_getElem_cons hk, List.all_cons]
      generalize l[k] = e at he
      unfold shortB
      by_cases a1 : e.Kind.length ≤ 60
      · have b1 : ¬ (e.Kind.length : Int) > 60 := by omega
        by_cases a2 : e.Names.length ≤ 5
        · have b2 : ¬ (e.Names.length : Int) > 5 := by omega
          by_cases a3 : e.Values.length ≤ 5
          · have b3 : ¬ (e.Values.length : Int) > 5 := by omega
            by_cases a4 : e.Text.length ≤ 60
            · have b4 : ¬ (e.Text.length : Int) > 60 := by omega
              have := Short_L1 he a2 N 0 (by omega) (by omega)
              rw [List.drop_zero] at this
              simp only [a1, a2, a3, a4, b1, b2, b3, b4, decide_true, decide_false, Bool.true_and, if_false, Option.bind_some, Bool.false_eq_true]
              rw [show ref10_ShortEvents_L1 l (k : Int) N 0 = ref10_ShortEvents_L1 l (k : Int) N ((0 : Nat) : Int) from rfl, this]
              by_cases a5 : (e.Names.all fun s => decide (s.length ≤ 60)) = true <;> simp [a5]
            · have b4 : (e.Text.length : Int) > 60 := by omega
              simp [a1, a2, a3, a4, b1, b2, b3, b4]
          · have b3 : (e.Values.length : Int) > 5 := by omega
            simp [a1, a2, a3, b1, b2, b3]
        · have b2 : (e.Names.length : Int) > 5 := by omega
          simp [a1, a2, b1, b2]
      · have b1 : (e.Kind.length : Int) > 60 := by omega
        simp [a1, b1]
    · rw [if_neg (by omega), List.drop_of_length_le (by omega)]
      rfl
theorem ShortEvents_eq {N : Nat} (hN : 2000 < N) {l : List EventT} {n : Nat} (hn : n ≤ 1000) : ref10_ShortEvents N l (n : Int) = some (decide (l.length ≤ n) && l.all shortB) := by
  unfold ref10_ShortEvents
  by_cases h : l.length ≤ n
  · rw [if_neg (by omega), show ref10_ShortEvents_L0 N l N 0 = ref10_ShortEvents_L0 N l N ((0 : Nat) : Int) from rfl, Short_L0 hN (by omega) N 0 (by omega) (by omega), List.drop_zero]
    by_cases h2 : l.all shortB = true <;> simp [h, h2]
  · rw [if_pos (by omega)]
    simp [h]
theorem shortB_E {N : Nat} (hN : 2000 < N) {e : EventT} (h : shortB e = true) : ShortE N e := by
  unfold shortB at h
  simp only [Bool.and_eq_true, decide_eq_true_eq, List.all_eq_true] at h
  exact ⟨by omega, by omega, fun s hs => by have := h.2.2.2.2 s hs; omega⟩
structure Evs (N : Nat) (l : List EventT) : Prop where
  len : l.length ≤ 1000
  short : ∀ e ∈ l, ShortE N e
  big : 2000 < N
  max : N < 4611686018427387904
theorem replay_cases {N : Nat} {l : List EventT} (h : Evs N l) :
    ((crun N l 0 []).2.1 ≠ 0 ∧ record_replay_h1 N l = some ([], none, false, (crun N l 0 []).1, (crun N l 0 []).2.1) ∧ ref10_Counted N l = some ([], (crun N l 0 []).1, (crun N l 0 []).2.1)) ∨
    ((crun N l 0 []).2.1 = 0 ∧ ∃ o', record_replay_h1 N l = some (l, o', true, 0, 0) ∧ ref10_Counted N l = some ((crun N l 0 []).2.2, 0, 0) ∧ Rel N (crun N l 0 []).2.2 (hof o') ∧ (crun N l 0 []).2.2.length ≤ l.length) := by
  obtain ⟨hl, hs, hN, hM⟩ := h
  have hr0 : Rel N [] (hof (none : Option (List StateT))) := Rel.nil N
  have h1 := replay_L0 hN hM hl hs N 0 [] none (by omega) (by omega) hr0 (by simp)
  have h2 := counted_L0 hN hM hl hs N 0 [] [] (by omega) (by omega) hr0 (by simp)
  rw [List.drop_zero] at h1 h2
  rw [List.take_zero] at h1
  have e1 : ∀ a b c, record_replay_h1_L0 N l a b c 0 = record_replay_h1_L0 N l a b c ((0 : Nat) : Int) := fun _ _ _ => rfl
  have e2 : ∀ a b, ref10_Counted_L0 N l a b 0 = ref10_Counted_L0 N l a b ((0 : Nat) : Int) := fun _ _ => rfl
  unfold record_replay_h1 ref10_Counted
  rw [if_neg (by omega), e1, e2, h2]
  rcases h1 with ⟨g1, g2⟩ | ⟨g1, o', g2, g3, g4⟩
  · rw [g2]
    exact .inl ⟨g1, rfl, by simp [g1]⟩
  · rw [g2]
    exact .inr ⟨g1, o', rfl, by simp [g1], g3, g4⟩
theorem rReplay_eq {N : Nat} {l : List EventT} (h : Evs N l) : (((crun N l 0 []).2.1 ≠ 0 ∧ ref10_Replay N l = some (⟨0, []⟩, (crun N l 0 []).1, (crun N l 0 []).2.1)) ∨
    ((crun N l 0 []).2.1 = 0 ∧ ∃ d s, ref10_register N (crun N l 0 []).2.2 = some ⟨d, s⟩ ∧ s.length ≤ 1000 ∧ ref10_Replay N l = some (⟨d, s⟩, 0, 0))) := by
  have hl := h.len
  have hN := h.big
  unfold ref10_Replay
  rw [if_neg (by omega)]
  rcases replay_cases h with ⟨g1, g2, g3⟩ | ⟨g1, o', g2, g3, g4, g5⟩
  · rw [g3, Option.bind_some]
    refine .inl ⟨g1, ?_⟩
    simp only
    rw [if_pos (by simp [g1])]
  · rw [g3, Option.bind_some]
    obtain ⟨_, d, s, _, _, e3, _, e5⟩ := story_register (evs := []) g4 (by omega) hN
    refine .inr ⟨g1, d, s, e3, by omega, ?_⟩
    simp only
    rw [if_neg (by simp), e3]
    rfl
theorem Replay_eq {N : Nat} {l : List EventT} (h : Evs N l) : ∃ d s at' err, record_Replay N l = some (⟨d, s⟩, at', err) ∧ ref10_Replay N l = some (⟨d, s⟩, at', err) ∧ s.length ≤ 1000 := by
  have hl := h.len
  have hN := h.big
  rcases replay_cases h with ⟨g1, g2, g3⟩ | ⟨g1, o', g2, g3, g4, g5⟩
  · rcases rReplay_eq h with ⟨_, e⟩ | ⟨e0, _⟩
    · refine ⟨_, _, _, _, ?_, e, by simp⟩
      unfold record_Replay
      rw [g2, Option.bind_some]
      simp only
      rw [if_pos (by simp [g1])]
    · exact absurd e0 g1
  · rcases rReplay_eq h with ⟨e0, _⟩ | ⟨_, d, s, e1, e2, e3⟩
    · exact absurd g1 e0
    · refine ⟨_, _, _, _, ?_, e3, e2⟩
      obtain ⟨o2, d', s', f1, _, f3, _, f5⟩ := story_register (evs := l) g4 (by omega) hN
      rw [e1] at f3
      injection f3 with f3
      injection f3 with fd fs
      subst fd fs
      unfold record_Replay
      rw [g2, Option.bind_some]
      simp only
      rw [if_neg (by simp), f1, Option.bind_some]
      simp only
      rw [copied_eq e2]
      rfl
theorem own_L0 (r : RegisterT) (hl : r.Slings.length ≤ 1000) : ∀ (K k : Nat), k ≤ r.Slings.length → r.Slings.length < K + k → law10_own_L0 r K (r.Slings.take k) (k : Int) = some r.Slings
  | 0, k, h, hK => by omega
  | K + 1, k, h, hK => by
    unfold law10_own_L0
    by_cases hk : k < r.Slings.length
    · rw [if_pos (by omega), idx_nat, List.getElem?_eq_getElem hk, Option.bind_some, app_ok (by simp; omega) (by simp; omega), Option.bind_some, w64_up (by omega)]
      rw [show r.Slings.take k ++ [r.Slings[k]] = r.Slings.take (k + 1) by rw [List.take_add_one, List.getElem?_eq_getElem hk]; rfl]
      exact own_L0 r hl K (k + 1) (by omega) (by omega)
    · rw [if_neg (by omega), List.take_of_length_le (by omega)]
theorem own_eq {N : Nat} (hN : 2000 < N) {d : Int} {s : List SlingT} (hs : s.length ≤ 1000) : law10_own N ⟨d, s⟩ = some ⟨d, s⟩ := by
  unfold law10_own
  have := own_L0 ⟨d, s⟩ hs N 0 (by omega) (by simp only; omega)
  rw [List.take_zero] at this
  rw [show law10_own_L0 ⟨d, s⟩ N [] 0 = law10_own_L0 ⟨d, s⟩ N [] ((0 : Nat) : Int) from rfl, this]
  rfl
theorem Same_L0 (r : RegisterTq) (hl : r.Slings.length ≤ 1000) : ∀ (K k : Nat), k ≤ r.Slings.length → r.Slings.length < K + k → ref10_Same_L0 r r K (k : Int) = some (.inl ())
  | 0, k, h, hK => by omega
  | K + 1, k, h, hK => by
    unfold ref10_Same_L0
    by_cases hk : k < r.Slings.length
    · rw [if_pos (by omega), idx_nat, List.getElem?_eq_getElem hk, Option.bind_some, Option.bind_some, w64_up (by omega), if_neg (by simp)]
      exact Same_L0 r hl K (k + 1) (by omega) (by omega)
    · rw [if_neg (by omega)]
theorem Same_eq {N : Nat} (hN : 2000 < N) {d : Int} {s : List SlingT} (hs : s.length ≤ 1000) : ref10_Same N ⟨d, s⟩ ⟨d, s⟩ = some true := by
  unfold ref10_Same
  rw [if_neg (by simp), Option.bind_some, if_neg (by simp), show ref10_Same_L0 ⟨d, s⟩ ⟨d, s⟩ N 0 = ref10_Same_L0 ⟨d, s⟩ ⟨d, s⟩ N ((0 : Nat) : Int) from rfl, Same_L0 ⟨d, s⟩ hs N 0 (by omega) (by simp only; omega)]
  rfl
theorem crun_cons (N : Nat) (e : EventT) (es : List EventT) (k : Nat) (c : List EventT) : crun N (e :: es) k c = if cErr N c k e = 0 then crun N es (k + 1) (cNew c e) else (((k + 1 : Nat) : Int), cErr N c k e, []) := rfl
theorem crun_append (N : Nat) (e : EventT) : ∀ (l : List EventT) (k : Nat) (c : List EventT), crun N (l ++ [e]) k c = if (crun N l k c).2.1 = 0 then crun N [e] (k + l.length) (crun N l k c).2.2 else crun N l k c
  | [], k, c => by
    show crun N [e] k c = if (0 : Int) = 0 then crun N [e] (k + 0) c else _
    rw [if_pos rfl]
    rfl
  | x :: l, k, c => by
    rw [List.cons_append, crun_cons N x (l ++ [e]), crun_cons N x l]
    by_cases h : cErr N c k x = 0
    · rw [if_pos h, if_pos h, crun_append N e l (k + 1) (cNew c x), List.length_cons, show k + 1 + l.length = k + (l.length + 1) by omega]
    · rw [if_neg h, if_neg h, if_neg h]
theorem Accepts_eq {N : Nat} {l : List EventT} (h : Evs N l) {e : EventT} (he : ShortE N e) : ∃ err, record_Accepts N l e = some err ∧ ref10_Accepts N l e = some err := by
  have hl := h.len
  have hN := h.big
  have hM := h.max
  unfold record_Accepts ref10_Accepts
  rw [CheckEvent_eq hM (by omega) he, rCheckEvent_eq hM he]
  rcases replay_cases h with ⟨g1, g2, g3⟩ | ⟨g1, o', g2, g3, g4, g5⟩
  · rcases rReplay_eq h with ⟨_, e1⟩ | ⟨e0, _⟩
    · rw [g2, e1]
      refine ⟨(crun N l 0 []).2.1, ?_, ?_⟩
      · simp only [Option.bind_some, when_eq]
        rw [first_eq (by simp) (by simp; omega), Option.bind_some]
        simp [firstE, g1]
      · simp only [Option.bind_some]
        rw [if_neg g1, Option.bind_some, if_pos (by simp [g1])]
    · exact absurd e0 g1
  · rcases rReplay_eq h with ⟨e0, _⟩ | ⟨_, d, s, e1, e2, e3⟩
    · exact absurd g1 e0
    · rw [g2, e3]
      simp only [Option.bind_some, when_eq]
      rw [first_eq (by simp) (by simp; omega), Option.bind_some]
      by_cases hc : checkE e = 0
      · by_cases hlen : (l.length : Int) ≥ 1000
        · exact ⟨5, by simp [firstE, hc, hlen], by simp [hc, hlen]⟩
        · obtain ⟨evs', o2, a1, a2⟩ := accept_eq (k := l.length) (⟨g4, g5, by omega, hN, hM, he⟩ : Pre N (crun N l 0 []).2.2 (hof o') l.length e) rfl hc
          refine ⟨cErr N (crun N l 0 []).2.2 l.length e, ?_, ?_⟩
          · have f0 : firstE [0, checkE e, if decide ((l.length : Int) ≥ 1000) = true then 5 else 0] = 0 := by simp only [firstE, hc, hlen, decide_false, Bool.false_eq_true, if_false, if_true]
            rw [f0, if_neg (by simp), a1]
            rfl
          · rw [if_pos trivial, Option.bind_some, hc, if_neg (by simp), if_neg hlen, app_ok (by simp; omega) (by simp; omega), Option.bind_some, List.nil_append, app_ok (by simp; omega) (by simp; omega), Option.bind_some]
            have h' : Evs N (l ++ [e]) := ⟨by simp; omega, fun x hx => by
              rcases List.mem_append.1 hx with hx | hx
              · exact h.short x hx
              · simp at hx; subst hx; exact he, hN, hM⟩
            have ca : (crun N (l ++ [e]) 0 []).2.1 = cErr N (crun N l 0 []).2.2 l.length e := by
              rw [crun_append, if_pos g1, Nat.zero_add, crun_cons]
              by_cases hz : cErr N (crun N l 0 []).2.2 l.length e = 0
              · rw [if_pos hz]; exact hz.symm
              · rw [if_neg hz]
            rcases rReplay_eq h' with ⟨b0, b1⟩ | ⟨b0, d2, s2, _, _, b1⟩
            · rw [b1, Option.bind_some]
              exact congrArg some ca
            · rw [b1, Option.bind_some]
              rw [ca] at b0
              exact congrArg some b0.symm
      · refine ⟨checkE e, ?_, ?_⟩
        · simp [firstE, hc]
        · simp [hc]
theorem RecordEvents_plain (l : List EventT) (e : EventT) : law10_RecordEvents 3000 l e = some true := by
  have hN : 2000 < 3000 := by omega
  have hM : 3000 < 4611686018427387904 := by omega
  unfold law10_RecordEvents
  have e1 : ref10_ShortEvents 3000 l 24 = some (decide (l.length ≤ 24) && l.all shortB) := ShortEvents_eq (n := 24) hN (by omega)
  have e2 : ref10_ShortEvents 3000 [e] 1 = some (decide ([e].length ≤ 1) && [e].all shortB) := ShortEvents_eq (n := 1) hN (by omega)
  rw [e1, e2, Option.bind_some]
  by_cases h1 : l.length ≤ 24
  · by_cases h2 : l.all shortB = true
    · by_cases h3 : shortB e = true
      · have hE : Evs 3000 l := ⟨by omega, fun x hx => shortB_E hN (List.all_eq_true.1 h2 x hx), hN, hM⟩
        have he := shortB_E hN h3
        obtain ⟨d, s, at', err, f1, f2, f3⟩ := Replay_eq hE
        obtain ⟨a, g1, g2⟩ := Accepts_eq hE he
        simp [h1, h2, h3, f1, f2, CheckEvent_eq hM (by omega) he, rCheckEvent_eq hM he, own_eq hN f3, Same_eq hN f3, g1, g2, awk]
      · simp [h1, h2, h3, awk]
    · simp [h1, h2, awk]
  · simp [h1, awk]
end Go.Av
