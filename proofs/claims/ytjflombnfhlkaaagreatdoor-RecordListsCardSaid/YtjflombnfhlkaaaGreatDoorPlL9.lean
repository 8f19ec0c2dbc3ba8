/-
  Chapter 10: the law of lists, plain.
-/
import Derived.Test.YtjflombnfhlkaaaGreatDoorPlL8
noncomputable section
namespace Go.Av
set_option linter.unusedSimpArgs false
set_option linter.unusedVariables false
theorem lfirst_L0 (l : List Int) (hl : l.length < 4611686018427387904) : ∀ (K k : Nat), k ≤ l.length → l.length < K + k → law10_first_L0 l K (k : Int) = some (if firstE (l.drop k) = 0 then .inl () else .inr (firstE (l.drop k)))
  | 0, k, h, hK => by omega
  | K + 1, k, h, hK => by
    unfold law10_first_L0
    by_cases hk : k < l.length
    · rw [if_pos (by omega), idx_nat, List.getElem?_eq_getElem hk, List.drop_eq_getElem_cons hk, w64_up (by omega), lfirst_L0 l hl K (k + 1) (by omega) (by omega)]
      simp only [Option.bind_some, firstE]
      by_cases h0 : l[k] = 0
      · simp [h0]
      · simp [h0]
    · rw [if_neg (by omega), List.drop_of_length_le (by omega)]
      rfl
theorem lfirst_eq {N : Nat} {l : List Int} (hl : l.length < 4611686018427387904) (h : l.length < N) : law10_first N l = some (firstE l) := by
  unfold law10_first
  rw [show (0 : Int) = ((0 : Nat) : Int) from rfl, lfirst_L0 l hl N 0 (Nat.zero_le _) (by omega), List.drop_zero]
  by_cases h0 : firstE l = 0
  · simp [h0]
  · simp [h0]
theorem lwhen_eq (b : Bool) (e : Int) : law10_when b e = some (if b = true then e else 0) := by
  unfold law10_when; split <;> rfl
theorem lnamed_eq {N : Nat} {s : Str} (h : s.length < N) (hs : s.length < 4611686018427387904) : law10_named N s = some (if nameB s = true then 0 else 8) := by
  unfold law10_named
  simp only [rIsName_eq h hs, lwhen_eq, Option.bind_some]
  cases nameB s <;> rfl
theorem ldayed_eq (n : Int) : law10_dayed n = some (if outE n 0 99999 = true then 3 else 0) := by
  unfold law10_dayed
  simp only [Outside_eq, lwhen_eq, Option.bind_some]
theorem SameWords_L0 (a : List Str) (hl : a.length ≤ 1000) : ∀ (K k : Nat), k ≤ a.length → a.length < K + k → ref01_SameWords_L0 a a K (k : Int) = some (.inl ())
  | 0, k, h, hK => by omega
  | K + 1, k, h, hK => by
    unfold ref01_SameWords_L0
    by_cases hk : k < a.length
    · rw [if_pos (by omega), idx_nat, List.getElem?_eq_getElem hk, Option.bind_some, Option.bind_some, w64_up (by omega), if_neg (by simp)]
      exact SameWords_L0 a hl K (k + 1) (by omega) (by omega)
    · rw [if_neg (by omega)]
theorem SameWords_eq {N : Nat} (hN : 2000 < N) {a : List Str} (hl : a.length ≤ 1000) : ref01_SameWords N a a = some true := by
  unfold ref01_SameWords
  rw [if_neg (by simp), show ref01_SameWords_L0 a a N 0 = ref01_SameWords_L0 a a N ((0 : Nat) : Int) from rfl, SameWords_L0 a hl N 0 (by omega) (by omega)]
  rfl
def namesE (p : SlingT → Bool) (s : List SlingT) : List Str := (s.filter p).map (·.Name)
theorem namesE_le (p : SlingT → Bool) (s : List SlingT) : (namesE p s).length ≤ s.length := by
  unfold namesE; rw [List.length_map]; exact List.length_filter_le _ _
theorem namesE_cons (p : SlingT → Bool) (x : SlingT) (s : List SlingT) : namesE p (x :: s) = if p x = true then x.Name :: namesE p s else namesE p s := by
  unfold namesE; rw [List.filter_cons]; split <;> simp
def dueP (d : Int) (s : SlingT) : Bool := !retE s d && !holdE s d
def batP (b : Str) (s : SlingT) : Bool := s.Batch == b
theorem chosen1_L0 (s : List SlingT) (hs : s.length ≤ 1000) (d : Int) : ∀ (K k : Nat) (acc : List Str), k ≤ s.length → s.length < K + k → acc.length ≤ k → record_chosen_string_s1_L0 s d K acc (k : Int) = some (acc ++ namesE (dueP d) (s.drop k))
  | 0, k, _, h, hK, _ => by omega
  | K + 1, k, acc, h, hK, ha => by
    unfold record_chosen_string_s1_L0
    by_cases hk : k < s.length
    · rw [if_pos (by omega), idx_nat, List.getElem?_eq_getElem hk, Option.bind_some, w64_up (by omega), List.drop_eq_getElem_cons hk, namesE_cons]
      have e : (if (!retE s[k] d) = true then some (!holdE s[k] d) else some false : Option Bool) = some (dueP d s[k]) := by
        unfold dueP
        cases retE s[k] d <;> rfl
      simp only [record_Due_c1_s1, record_Sling_due, record_Sling_name, retired_eq, holds_eq, Option.bind_some, e]
      by_cases hp : dueP d s[k] = true
      · rw [if_pos hp, if_pos hp, app_ok (by simp; omega) (by simp; omega), Option.bind_some, Option.bind_some, chosen1_L0 s hs d K (k + 1) _ (by omega) (by omega) (by simp; omega)]
        simp
      · rw [if_neg hp, if_neg hp, Option.bind_some, chosen1_L0 s hs d K (k + 1) _ (by omega) (by omega) (by omega)]
    · rw [if_neg (by omega), List.drop_of_length_le (by omega)]
      simp [namesE]
theorem chosen1_eq {N : Nat} (hN : 2000 < N) {s : List SlingT} (hs : s.length ≤ 1000) (d : Int) : record_chosen_string_s1 N s d = some (namesE (dueP d) s) := by
  unfold record_chosen_string_s1
  rw [show record_chosen_string_s1_L0 s d N [] 0 = record_chosen_string_s1_L0 s d N [] ((0 : Nat) : Int) from rfl, chosen1_L0 s hs d N 0 [] (by omega) (by omega) (by simp), List.drop_zero]
  rfl
theorem chosen2_L0 (s : List SlingT) (hs : s.length ≤ 1000) (d : Str) : ∀ (K k : Nat) (acc : List Str), k ≤ s.length → s.length < K + k → acc.length ≤ k → record_chosen_string_s2_L0 s d K acc (k : Int) = some (acc ++ namesE (batP d) (s.drop k))
  | 0, k, _, h, hK, _ => by omega
  | K + 1, k, acc, h, hK, ha => by
    unfold record_chosen_string_s2_L0
    by_cases hk : k < s.length
    · rw [if_pos (by omega), idx_nat, List.getElem?_eq_getElem hk, Option.bind_some, w64_up (by omega), List.drop_eq_getElem_cons hk, namesE_cons]
      have e : ((s[k]).Batch == d) = batP d s[k] := rfl
      simp only [record_Batch_c1_s1, record_Sling_name, Option.bind_some, e]
      by_cases hp : batP d s[k] = true
      · rw [if_pos hp, if_pos hp, app_ok (by simp; omega) (by simp; omega), Option.bind_some, Option.bind_some, chosen2_L0 s hs d K (k + 1) _ (by omega) (by omega) (by simp; omega)]
        simp
      · rw [if_neg hp, if_neg hp, Option.bind_some, chosen2_L0 s hs d K (k + 1) _ (by omega) (by omega) (by omega)]
    · rw [if_neg (by omega), List.drop_of_length_le (by omega)]
      simp [namesE]
theorem chosen2_eq {N : Nat} (hN : 2000 < N) {s : List SlingT} (hs : s.length ≤ 1000) (d : Str) : record_chosen_string_s2 N s d = some (namesE (batP d) s) := by
  unfold record_chosen_string_s2
  rw [show record_chosen_string_s2_L0 s d N [] 0 = record_chosen_string_s2_L0 s d N [] ((0 : Nat) : Int) from rfl, chosen2_L0 s hs d N 0 [] (by omega) (by omega) (by simp), List.drop_zero]
  rfl
theorem rDue_L0 (r : RegisterTq) (hs : r.Slings.length ≤ 1000) (d : Int) : ∀ (K k : Nat) (acc : List Str), k ≤ r.Slings.length → r.Slings.length < K + k → acc.length ≤ k → ref10_Due_L0 r d K acc (k : Int) = some (acc ++ namesE (dueP d) (r.Slings.drop k))
  | 0, k, _, h, hK, _ => by omega
  | K + 1, k, acc, h, hK, ha => by
    unfold ref10_Due_L0
    by_cases hk : k < r.Slings.length
    · rw [if_pos (by omega), idx_nat, List.getElem?_eq_getElem hk, Option.bind_some, w64_up (by omega), List.drop_eq_getElem_cons hk, namesE_cons]
      have e : (if (!retE r.Slings[k] d) = true then some (!holdE r.Slings[k] d) else some false : Option Bool) = some (dueP d r.Slings[k]) := by
        unfold dueP
        cases retE r.Slings[k] d <;> rfl
      simp only [rRetired_eq, rHolds_eq, Option.bind_some, e]
      by_cases hp : dueP d r.Slings[k] = true
      · rw [if_pos hp, if_pos hp, app_ok (by simp; omega) (by simp; omega), Option.bind_some, Option.bind_some, rDue_L0 r hs d K (k + 1) _ (by omega) (by omega) (by simp; omega)]
        simp
      · rw [if_neg hp, if_neg hp, Option.bind_some, rDue_L0 r hs d K (k + 1) _ (by omega) (by omega) (by omega)]
    · rw [if_neg (by omega), List.drop_of_length_le (by omega)]
      simp [namesE]
theorem rDue_eq {N : Nat} (hN : 2000 < N) {b : Int} {s : List SlingT} (hs : s.length ≤ 1000) (d : Int) : ref10_Due N ⟨b, s⟩ d = some (namesE (dueP d) s) := by
  unfold ref10_Due
  rw [show ref10_Due_L0 ⟨b, s⟩ d N [] 0 = ref10_Due_L0 ⟨b, s⟩ d N [] ((0 : Nat) : Int) from rfl, rDue_L0 ⟨b, s⟩ hs d N 0 [] (by omega) (by simp only; omega) (by simp), List.drop_zero]
  rfl
theorem rBatch_L0 (r : RegisterTq) (hs : r.Slings.length ≤ 1000) (d : Str) : ∀ (K k : Nat) (acc : List Str), k ≤ r.Slings.length → r.Slings.length < K + k → acc.length ≤ k → ref10_Batch_L0 r d K acc (k : Int) = some (acc ++ namesE (batP d) (r.Slings.drop k))
  | 0, k, _, h, hK, _ => by omega
  | K + 1, k, acc, h, hK, ha => by
    unfold ref10_Batch_L0
    by_cases hk : k < r.Slings.length
    · rw [if_pos (by omega), idx_nat, List.getElem?_eq_getElem hk, Option.bind_some, w64_up (by omega), List.drop_eq_getElem_cons hk, namesE_cons]
      have e : ((r.Slings[k]).Batch == d) = batP d r.Slings[k] := rfl
      simp only [e]
      by_cases hp : batP d r.Slings[k] = true
      · rw [if_pos hp, if_pos hp, app_ok (by simp; omega) (by simp; omega), Option.bind_some, Option.bind_some, rBatch_L0 r hs d K (k + 1) _ (by omega) (by omega) (by simp; omega)]
        simp
      · rw [if_neg hp, if_neg hp, Option.bind_some, rBatch_L0 r hs d K (k + 1) _ (by omega) (by omega) (by omega)]
    · rw [if_neg (by omega), List.drop_of_length_le (by omega)]
      simp [namesE]
theorem rBatch_eq {N : Nat} (hN : 2000 < N) {b : Int} {s : List SlingT} (hs : s.length ≤ 1000) (d : Str) : ref10_Batch N ⟨b, s⟩ d = some (namesE (batP d) s) := by
  unfold ref10_Batch
  rw [show ref10_Batch_L0 ⟨b, s⟩ d N [] 0 = ref10_Batch_L0 ⟨b, s⟩ d N [] ((0 : Nat) : Int) from rfl, rBatch_L0 ⟨b, s⟩ hs d N 0 [] (by omega) (by simp only; omega) (by simp), List.drop_zero]
  rfl
theorem both_cases {N : Nat} {l : List EventT} (h : Evs N l) :
    (∃ p err, err ≠ 0 ∧ record_replay_h1 N l = some ([], none, false, p, err) ∧ ref10_Replay N l = some (⟨0, []⟩, p, err)) ∨
    (∃ o' d s, record_replay_h1 N l = some (l, o', true, 0, 0) ∧ ref10_Replay N l = some (⟨d, s⟩, 0, 0) ∧ s.length ≤ 1000 ∧ Asc s ∧ Rel N (crun N l 0 []).2.2 (hof o') ∧ (crun N l 0 []).2.2.length ≤ l.length ∧ ref10_Counted N l = some ((crun N l 0 []).2.2, 0, 0) ∧ ∃ o2, record_story_register_h1 l o' = some (o2, d, s) ∧ hof o2 = hof o') := by
  have hl := h.len
  have hN := h.big
  rcases replay_cases h with ⟨g1, g2, g3⟩ | ⟨g1, o', g2, g3, g4, g5⟩
  · rcases rReplay_eq h with ⟨_, e⟩ | ⟨e0, _⟩
    · exact .inl ⟨_, _, g1, g2, e⟩
    · exact absurd e0 g1
  · rcases rReplay_eq h with ⟨e0, _⟩ | ⟨_, d, s, e1, e2, e3⟩
    · exact absurd g1 e0
    · obtain ⟨o2, d', s', f1, f2, f3, f4, f5⟩ := story_register (evs := l) g4 (by omega) hN
      rw [e1] at f3
      injection f3 with f3
      injection f3 with fd fs
      subst fd fs
      exact .inr ⟨o', d, s, g2, e3, e2, f4, g4, g5, g3, o2, f1, f2⟩
theorem RecordLists_plain (l : List EventT) (b : Str) (day : Int) : law10_RecordLists 3000 l b day = some true := by
  have hN : 2000 < 3000 := by omega
  have hM : 3000 < 4611686018427387904 := by omega
  unfold law10_RecordLists
  have e1 : ref10_ShortEvents 3000 l 24 = some (decide (l.length ≤ 24) && l.all shortB) := ShortEvents_eq (n := 24) hN (by omega)
  rw [e1, Option.bind_some]
  by_cases h1 : l.length ≤ 24
  · by_cases h2 : l.all shortB = true
    · by_cases h3 : b.length ≤ 60
      · have hE : Evs 3000 l := ⟨by omega, fun x hx => shortB_E hN (List.all_eq_true.1 h2 x hx), hN, hM⟩
        have h4 : ¬ (b.length : Int) > 60 := by omega
        simp only [h1, h2, h4, decide_true, decide_false, Bool.and_self, Bool.not_true, Bool.false_eq_true, if_false, Option.bind_some]
        unfold record_Due record_Batch
        simp only [checkDay_eq, ldayed_eq, named_eq (show b.length < 3000 by omega), lnamed_eq (show b.length < 3000 by omega) (by omega), Option.bind_some]
        rcases both_cases hE with ⟨p, err, g0, g1, g2⟩ | ⟨o', d, s, g1, g2, g3, g4, _, _, _, o2, g5, g6⟩
        · rw [g1, g2]
          simp only [Option.bind_some]
          have f : ∀ x, firstE [err, x] = err := fun x => by simp only [firstE, if_neg g0]
          have q0 : ¬ (err = 0) := g0
          have q1 : ((!decide (err = 0)) = true) := by simp [g0]
          simp only [first_eq (N := 3000) (l := [err, _]) (by simp) (by simp), lfirst_eq (N := 3000) (l := [err, _]) (by simp) (by simp), f, Option.bind_some, q0, decide_false, Bool.not_false, if_true, if_false, SameWords_eq hN (a := []) (by simp), awk]
        · rw [g1, g2]
          simp only [Option.bind_some]
          have f : ∀ x, firstE [0, x] = x := fun x => by simp only [firstE, if_true]; split <;> simp [*]
          simp only [first_eq (N := 3000) (l := [0, _]) (by simp) (by simp), lfirst_eq (N := 3000) (l := [0, _]) (by simp) (by simp), f, Option.bind_some, g5, chosen1_eq hN g3, chosen2_eq hN g3, rDue_eq hN g3, rBatch_eq hN g3, when_eq, lwhen_eq]
          have n1 := namesE_le (dueP day) s
          have n2 := namesE_le (batP b) s
          by_cases a1 : outE day 0 99999 = true <;> by_cases a2 : nameB b = true <;> simp [a1, a2, SameWords_eq hN (a := []) (by simp), SameWords_eq hN (a := namesE (dueP day) s) (by omega), SameWords_eq hN (a := namesE (batP b) s) (by omega), awk]
      · have h4 : (b.length : Int) > 60 := by omega
        simp [h1, h2, h4, awk]
    · simp [h1, h2, awk]
  · simp [h1, awk]
end Go.Av
