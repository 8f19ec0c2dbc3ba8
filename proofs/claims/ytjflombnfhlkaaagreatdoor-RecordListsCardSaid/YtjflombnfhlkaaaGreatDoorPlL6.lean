/-
  Chapter 10: recalls; the step of all kinds; the order of slings.
-/
import Derived.Test.YtjflombnfhlkaaaGreatDoorPlL5
noncomputable section
namespace Go.Av
set_option linter.unusedSimpArgs false
set_option linter.unusedVariables false
def recF (n : Str) (s : SlingT) : SlingT := if (s.Batch == n) = true then failF s else s
def recB (n : Str) (day : Int) : Int → List SlingT → Int
  | b, [] => b
  | b, s :: l => recB n day (if (s.Batch == n) = true then if retE s day = true then if b = 10 then 20 else b else 0 else b) l
def recErr (l : List SlingT) (n : Str) (day : Int) : Int := if (l.any fun s => s.Batch == n) = false then 10 else if (l.any fun s => s.Batch == n && !retE s day) = false then 20 else 0
theorem recB_0 (n : Str) (day : Int) : ∀ l, recB n day 0 l = 0
  | [] => rfl
  | s :: l => by
    unfold recB
    by_cases h : (s.Batch == n) = true
    · by_cases h2 : retE s day = true
      · simp only [h, h2, if_true]; rw [if_neg (by decide)]; exact recB_0 n day l
      · simp only [h, h2, if_true, if_false, Bool.false_eq_true]; exact recB_0 n day l
    · simp only [h, if_false, Bool.false_eq_true]; exact recB_0 n day l
theorem recB_20 (n : Str) (day : Int) : ∀ l : List SlingT, recB n day 20 l = if (l.any fun s => s.Batch == n && !retE s day) = false then 20 else 0
  | [] => rfl
  | s :: l => by
    unfold recB
    rw [List.any_cons]
    by_cases h : (s.Batch == n) = true
    · by_cases h2 : retE s day = true
      · simp only [h, h2, if_true]; rw [if_neg (by decide), recB_20 n day l]; simp
      · simp only [h, h2, if_true, if_false, Bool.false_eq_true]; rw [recB_0]; simp
    · simp only [h, if_false, Bool.false_eq_true]; rw [recB_20 n day l]; simp
theorem recB_10 (n : Str) (day : Int) : ∀ l : List SlingT, recB n day 10 l = recErr l n day
  | [] => rfl
  | s :: l => by
    unfold recB recErr
    rw [List.any_cons, List.any_cons]
    by_cases h : (s.Batch == n) = true
    · by_cases h2 : retE s day = true
      · simp only [h, h2, if_true]; rw [recB_20 n day l]; simp
      · simp only [h, h2, if_true, if_false, Bool.false_eq_true]; rw [recB_0]; simp
    · simp only [h, if_false, Bool.false_eq_true]; rw [recB_10 n day l]; simp [recErr]
theorem recalled_L0 {l : List SlingT} (hl : l.length ≤ 1000) {n : Str} {day : Int} : ∀ (K k : Nat) (b : Int), k ≤ l.length → l.length < K + k →
    record_recalled_h1_L0 l [n] [day] K ((l.take k).map (recF n) ++ l.drop k) (k : Int) b = some (l.map (recF n), recB n day b (l.drop k))
  | 0, k, b, h, hK => by omega
  | K + 1, k, b, h, hK => by
    unfold record_recalled_h1_L0
    by_cases hk : k < l.length
    · have hlen : ((l.take k).map (recF n)).length = k := by simp; omega
      have hg : ((l.take k).map (recF n) ++ l.drop k)[k]? = some l[k] := by
        rw [List.getElem?_append_right (by omega), hlen, Nat.sub_self, List.drop_eq_getElem_cons hk]; rfl
      have hlt : k < ((l.take k).map (recF n) ++ l.drop k).length := by rw [List.length_append, hlen, List.length_drop]; omega
      rw [if_pos (by omega), idx_nat, hg, Option.bind_some, idx_0]
      simp only [List.getElem?_cons_zero, Option.bind_some]
      have hset : ∀ x : SlingT, ((l.take k).map (recF n) ++ l.drop k).set k x = (l.take k).map (recF n) ++ x :: l.drop (k + 1) := by
        intro x
        rw [List.set_append_right _ _ (by omega), hlen, Nat.sub_self, List.drop_eq_getElem_cons hk, List.set_cons_zero]
      have hnext : ∀ x : SlingT, x = recF n l[k] → (l.take k).map (recF n) ++ x :: l.drop (k + 1) = (l.take (k + 1)).map (recF n) ++ l.drop (k + 1) := by
        rintro x rfl
        rw [List.take_add_one, List.getElem?_eq_getElem hk, List.map_append, List.append_assoc]
        rfl
      have hsame : (l.take k).map (recF n) ++ l.drop k = (l.take k).map (recF n) ++ l[k] :: l.drop (k + 1) := by rw [List.drop_eq_getElem_cons hk]
      have e1 : recB n day b (l.drop k) = recB n day (if ((l[k]).Batch == n) = true then if retE l[k] day = true then if b = 10 then 20 else b else 0 else b) (l.drop (k + 1)) := by
        rw [List.drop_eq_getElem_cons hk]; rfl
      rw [e1]
      by_cases hb : ((l[k]).Batch == n) = true
      · simp only [hb, Bool.not_true, Bool.false_eq_true, if_false, if_true, retired_eq, Option.bind_some, put_nat hlt, hset]
        have hF : (⟨(l[k]).Name, (l[k]).Batch, (l[k]).Born, (l[k]).Last, (l[k]).Uses, (l[k]).Used, (l[k]).Limit, (l[k]).Until, true⟩ : SlingT) = recF n l[k] := by unfold recF; rw [if_pos hb]; rfl
        rw [hnext _ hF]
        by_cases hr : retE l[k] day = true
        · by_cases hb10 : b = 10
          · simp only [hr, hb10, if_true, idx_0, List.getElem?_cons_zero, Bool.not_true, Bool.false_eq_true, if_false, Option.bind_some]
            rw [w64_up (by omega), recalled_L0 hl K (k + 1) _ (by omega) (by omega)]
          · simp only [hr, hb10, if_true, idx_0, List.getElem?_cons_zero, Bool.not_true, Bool.false_eq_true, if_false, Option.bind_some]
            rw [w64_up (by omega), recalled_L0 hl K (k + 1) _ (by omega) (by omega)]
        · by_cases hb10 : b = 10
          · simp only [hr, hb10, if_true, idx_0, List.getElem?_cons_zero, Bool.not_false, Bool.false_eq_true, if_false, Option.bind_some]
            rw [w64_up (by omega), recalled_L0 hl K (k + 1) _ (by omega) (by omega)]
          · simp only [hr, hb10, if_true, idx_0, List.getElem?_cons_zero, Bool.not_false, Bool.false_eq_true, if_false, Option.bind_some]
            rw [w64_up (by omega), recalled_L0 hl K (k + 1) _ (by omega) (by omega)]
      · simp only [hb, Bool.not_false, Bool.false_eq_true, if_false, if_true, Option.bind_some]
        rw [hsame, hnext _ (by unfold recF; rw [if_neg hb]), w64_up (by omega), recalled_L0 hl K (k + 1) _ (by omega) (by omega)]
    · have : l.take k = l := List.take_of_length_le (by omega)
      rw [if_neg (by omega), List.drop_of_length_le (by omega), this]
      simp [recB]
theorem recalled_P {N : Nat} {d : Int} {l : List SlingT} (h : RegOK N l) {num day : Int} {n t : Str} (h0 : 0 ≤ day) :
    AftP (record_Register_after_h1 N d l num kRecall [n] [day] t) (if dayE d day = 0 then recErr l n day else dayE d day) day (l.map (recF n)) := by
  obtain ⟨ha, hl, hN, hM⟩ := h
  refine AftP.day hN rfl h0 rfl fun hd => ?_
  simp only [record_kinds, Option.bind_some, show (kRecall == [109, 97, 107, 101]) = false by decide, show (kRecall == [116, 101, 115, 116]) = false by decide, show (kRecall == [117, 115, 101]) = false by decide, show (kRecall == [102, 97, 105, 108]) = false by decide, show (kRecall == [114, 101, 99, 97, 108, 108]) = true by decide, Bool.false_eq_true, if_false, if_true, copied_eq hl, record_recalled_h1]
  have := recalled_L0 hl (n := n) (day := day) N 0 10 (by omega) (by omega)
  rw [List.take_zero, List.map_nil, List.nil_append, List.drop_zero] at this
  rw [show record_recalled_h1_L0 l [n] [day] N l 0 10 = record_recalled_h1_L0 l [n] [day] N l ((0 : Nat) : Int) 10 from rfl, this, recB_10]
  exact ⟨_, rfl, fun _ => rfl⟩
theorem refused_L0 {N : Nat} {r : RegisterTq} (hl : r.Slings.length ≤ 1000) {e : EventT} {n : Str} (hn : e.Names[0]? = some n) (day : Int) : ∀ (K k : Nat) (a b : Bool), k ≤ r.Slings.length → r.Slings.length < K + k →
    ref10_refused_L0 r e day K a b (k : Int) = some (a || (r.Slings.drop k).any (fun s => s.Batch == n), b || (r.Slings.drop k).any (fun s => s.Batch == n && !retE s day))
  | 0, k, a, b, h, hK => by omega
  | K + 1, k, a, b, h, hK => by
    unfold ref10_refused_L0
    by_cases hk : k < r.Slings.length
    · rw [if_pos (by omega), idx_nat, List.getElem?_eq_getElem hk, Option.bind_some, idx_0, hn, Option.bind_some, w64_up (by omega), List.drop_eq_getElem_cons hk, List.any_cons, List.any_cons]
      by_cases hb : ((r.Slings[k]).Batch == n) = true
      · by_cases hq : b = true
        · simp only [hb, hq, if_true, Option.bind_some]
          rw [refused_L0 (N := N) hl hn day K (k + 1) _ _ (by omega) (by omega)]
          simp
        · simp only [hb, hq, if_true, if_false, Option.bind_some, rRetired_eq, Bool.false_eq_true]
          rw [refused_L0 (N := N) hl hn day K (k + 1) _ _ (by omega) (by omega)]
          simp
      · simp only [hb, if_false, Option.bind_some, Bool.false_eq_true]
        rw [refused_L0 (N := N) hl hn day K (k + 1) _ _ (by omega) (by omega)]
        simp
    · rw [if_neg (by omega), List.drop_of_length_le (by omega)]
      simp
theorem recalled_R {N : Nat} {d : Int} {l : List SlingT} (h : RegOK N l) {num day : Int} {n t : Str} :
    AftR N d l ⟨num, kRecall, [n], [day], t⟩ (if dayE d day = 0 then recErr l n day else dayE d day) day (l.map (recF n)) := by
  constructor
  · obtain ⟨ha, hl, hN, hM⟩ := h
    unfold ref10_refused
    simp only [idx_0, List.getElem?_cons_zero, Option.bind_some, At_eq (N := N) (r := ⟨d, l⟩) (show l.length < _ by omega) (show l.length < N by omega) ha, show (kRecall == [109, 97, 107, 101]) = false by decide, show (kRecall == [114, 101, 99, 97, 108, 108]) = true by decide, if_true, if_false, Bool.false_eq_true]
    unfold dayE
    by_cases a1 : day > 99999
    · simp [a1]
    by_cases a2 : day < d
    · simp [a1, a2]
    simp only [a1, a2, if_false, if_true]
    rw [show ∀ e, ref10_refused_L0 ⟨d, l⟩ e day N false false 0 = ref10_refused_L0 ⟨d, l⟩ e day N false false ((0 : Nat) : Int) from fun _ => rfl, refused_L0 (N := N) (r := ⟨d, l⟩) hl (n := n) rfl day N 0 false false (Nat.zero_le _) (show l.length < N + 0 by omega), List.drop_zero, Option.bind_some]
    unfold recErr
    simp only [Bool.false_or]
    by_cases b1 : (l.any fun s => s.Batch == n) = true
    · by_cases b2 : (l.any fun s => s.Batch == n && !retE s day) = true <;> simp [b1, b2]
    · simp [b1]
  · intro _
    refine after_map h rfl rfl (by show (kRecall == kMake) = false; decide) _ (after_L1 (n := n) rfl _ fun s l k hk => ?_)
    have hlt := (List.getElem?_eq_some_iff.1 hk).1
    simp only [show (kRecall == [116, 101, 115, 116]) = false by decide, show (kRecall == [117, 115, 101]) = false by decide, show (kRecall == [102, 97, 105, 108]) = false by decide, show (kRecall == [114, 101, 99, 97, 108, 108]) = true by decide, if_true, if_false, Bool.false_eq_true, Option.bind_some]
    unfold recF
    by_cases hb : (s.Batch == n) = true
    · simp only [hb, if_true, put_nat hlt, Option.bind_some]
      rfl
    · simp only [hb, if_false, Bool.false_eq_true, Option.bind_some]
      rw [show l.set k s = l from by
        have e : l[k] = s := by rw [List.getElem?_eq_getElem hlt] at hk; injection hk
        rw [← e, List.set_getElem_self]]
theorem Asc.map {l : List SlingT} (h : Asc l) {f : SlingT → SlingT} (hf : ∀ s, (f s).Name = s.Name) : Asc (l.map f) := by
  unfold Asc
  rw [List.pairwise_map]
  exact h.imp fun {a b} hab => by rw [hf, hf]; exact hab
theorem insE_cons (t : SlingT) (l : List SlingT) (s : SlingT) : insE (t :: l) s = if ltL t.Name s.Name = true then t :: insE l s else s :: t :: l := by
  unfold insE
  rw [posE]
  split <;> simp
theorem insE_mem {x s : SlingT} : ∀ {l : List SlingT}, x ∈ insE l s → x = s ∨ x ∈ l
  | [], h => by simp [insE, posE] at h; exact .inl h
  | t :: l, h => by
    rw [insE_cons] at h
    split at h
    · rcases List.mem_cons.1 h with rfl | h
      · exact .inr (by simp)
      · rcases insE_mem h with h | h
        · exact .inl h
        · exact .inr (by simp [h])
    · rcases List.mem_cons.1 h with rfl | h
      · exact .inl rfl
      · exact .inr h
theorem Asc.ins {s : SlingT} : ∀ {l : List SlingT}, Asc l → hasE l s.Name = false → Asc (insE l s)
  | [], _, _ => by simp [insE, posE, Asc]
  | t :: l, h, hn => by
    obtain ⟨h1, h2⟩ := List.pairwise_cons.1 h
    rw [insE_cons]
    unfold hasE at hn
    split
    · rename_i hc
      rw [if_pos hc] at hn
      refine List.pairwise_cons.2 ⟨fun x hx => ?_, Asc.ins h2 hn⟩
      rcases insE_mem hx with rfl | hx
      · exact hc
      · exact h1 x hx
    · rename_i hc
      rw [if_neg hc] at hn
      have hlt : ltL s.Name t.Name = true := by
        cases hq : ltL s.Name t.Name with
        | true => rfl
        | false => exact absurd (ltL_tri _ _ (by simpa using hc) hq) (beq_eq_false_iff_ne.1 hn)
      refine List.pairwise_cons.2 ⟨fun x hx => ?_, h⟩
      rcases List.mem_cons.1 hx with rfl | hx
      · exact hlt
      · exact ltL_trans hlt (h1 x hx)
theorem setE_eq (l : List SlingT) (n : Str) (f : SlingT → SlingT) : setE l n f = l.map fun s => if (s.Name == n) = true then f s else s := rfl
theorem list2 {α : Type} {l : List α} (h : (l.length : Int) = 2) : ∃ a b, l = [a, b] := by
  match l, h with
  | [a, b], _ => exact ⟨a, b, rfl⟩
  | [], h => simp at h
  | [_], h => simp at h
  | _ :: _ :: _ :: _, h => simp at h; omega
theorem list1 {α : Type} {l : List α} (h : (l.length : Int) = 1) : ∃ a, l = [a] := by
  match l, h with
  | [a], _ => exact ⟨a, rfl⟩
  | [], h => simp at h
  | _ :: _ :: _, h => simp at h; omega
theorem list3 {α : Type} {l : List α} (h : (l.length : Int) = 3) : ∃ a b c, l = [a, b, c] := by
  match l, h with
  | [a, b, c], _ => exact ⟨a, b, c, rfl⟩
  | [], h => simp at h
  | [_], h => simp at h
  | [_, _], h => simp at h
  | _ :: _ :: _ :: _ :: _, h => simp at h; omega
structure Valid (e : EventT) : Prop where
  num : 1 ≤ e.Number ∧ e.Number ≤ 1000
  form : (formE e.Kind).2.2 = true
  names : (e.Names.length : Int) = (formE e.Kind).1
  values : (e.Values.length : Int) = (formE e.Kind).2.1
  range : ∀ v ∈ e.Values, 0 ≤ v ∧ v ≤ 999999999
  text : e.Text = []
theorem checkE_valid {e : EventT} (h : checkE e = 0) : Valid e := by
  unfold checkE at h
  by_cases h1 : outE e.Number 1 1000 = true
  · rw [if_pos h1] at h; cases h
  rw [if_neg h1] at h
  by_cases h2 : (formE e.Kind).2.2 = false
  · rw [if_pos h2] at h; cases h
  rw [if_neg h2] at h
  by_cases h3 : ((e.Names.length : Int) = (formE e.Kind).1 ∧ (e.Values.length : Int) = (formE e.Kind).2.1)
  · rw [if_neg (by simpa using h3)] at h
    by_cases h4 : e.Names.all nameB = false
    · rw [if_pos h4] at h; cases h
    rw [if_neg h4] at h
    by_cases h5 : e.Values.all (fun v => !outE v 0 999999999) = false
    · rw [if_pos h5] at h; cases h
    rw [if_neg h5] at h
    by_cases h6 : e.Text = []
    · refine ⟨?_, by simpa using h2, h3.1, h3.2, fun v hv => ?_, h6⟩
      · simp [outE] at h1; omega
      · have h5 : e.Values.all (fun v => !outE v 0 999999999) = true := by simpa using h5
        have := List.all_eq_true.1 h5 v hv
        simp [outE] at this
        exact this
    · rw [if_neg h6] at h; cases h
  · rw [if_pos h3] at h; cases h
theorem kinds_of {k : Str} (h : (formE k).2.2 = true) : k = kMake ∨ k = kTest ∨ k = kUse ∨ k = kFail ∨ k = kRecall ∨ k = kUndo := by
  unfold formE at h
  by_cases h1 : (k == kMake) = true
  · exact .inl (beq_iff_eq.1 h1)
  by_cases h2 : (k == kTest) = true
  · exact .inr (.inl (beq_iff_eq.1 h2))
  by_cases h3 : (k == kUse) = true
  · exact .inr (.inr (.inl (beq_iff_eq.1 h3)))
  by_cases h4 : (k == kFail) = true
  · exact .inr (.inr (.inr (.inl (beq_iff_eq.1 h4))))
  by_cases h5 : (k == kRecall) = true
  · exact .inr (.inr (.inr (.inr (.inl (beq_iff_eq.1 h5)))))
  by_cases h6 : (k == kUndo) = true
  · exact .inr (.inr (.inr (.inr (.inr (beq_iff_eq.1 h6)))))
  simp [h1, h2, h3, h4, h5, h6] at h
theorem step_eq {N : Nat} {d : Int} {l : List SlingT} (h : RegOK N l) {e : EventT} (hv : Valid e) (hu : (e.Kind == kUndo) = false) :
    ∃ err day new, AftP (record_Register_after_h1 N d l e.Number e.Kind e.Names e.Values e.Text) err day new ∧ AftR N d l e err day new ∧ (err = 0 → Asc new ∧ new.length ≤ l.length + 1) := by
  obtain ⟨num, k, ns, vs, t⟩ := e
  obtain ⟨_, hf, hn, hs, hr, _⟩ := hv
  simp only at hf hn hs hr hu
  have ha := h.asc
  rcases kinds_of hf with rfl | rfl | rfl | rfl | rfl | rfl
  · obtain ⟨n, b, rfl⟩ := list2 (show (ns.length : Int) = 2 from hn)
    obtain ⟨day, life, uses, rfl⟩ := list3 (show (vs.length : Int) = 3 from hs)
    refine ⟨_, _, _, made_P h (hr _ (by simp)) (hr _ (by simp)), made_R h, fun h0 => ?_⟩
    have hh : hasE l n = false := by
      cases hq : hasE l n with
      | false => rfl
      | true =>
        split at h0
        · simp [mkErr, hq] at h0
        · rename_i hd; exact absurd h0 hd
    refine ⟨Asc.ins ha hh, ?_⟩
    have hp := posE_le l n
    simp [insE]
    omega
  · obtain ⟨n, rfl⟩ := list1 (show (ns.length : Int) = 1 from hn)
    obtain ⟨day, load, rfl⟩ := list2 (show (vs.length : Int) = 2 from hs)
    refine ⟨_, _, _, tested_P h (hr _ (by simp)).1, tested_R h, fun _ => ⟨?_, by simp [setE]⟩⟩
    rw [setE_eq]
    exact ha.map fun s => by split <;> rfl
  · obtain ⟨n, rfl⟩ := list1 (show (ns.length : Int) = 1 from hn)
    obtain ⟨day, load, rfl⟩ := list2 (show (vs.length : Int) = 2 from hs)
    refine ⟨_, _, _, used_P h (hr _ (by simp)).1, used_R h, fun _ => ⟨?_, by simp [setE]⟩⟩
    rw [setE_eq]
    exact ha.map fun s => by split <;> rfl
  · obtain ⟨n, rfl⟩ := list1 (show (ns.length : Int) = 1 from hn)
    obtain ⟨day, rfl⟩ := list1 (show (vs.length : Int) = 1 from hs)
    refine ⟨_, _, _, failed_P h (hr _ (by simp)).1, failed_R h, fun _ => ⟨?_, by simp [setE]⟩⟩
    rw [setE_eq]
    exact ha.map fun s => by split <;> rfl
  · obtain ⟨n, rfl⟩ := list1 (show (ns.length : Int) = 1 from hn)
    obtain ⟨day, rfl⟩ := list1 (show (vs.length : Int) = 1 from hs)
    refine ⟨_, _, _, recalled_P h (hr _ (by simp)).1, recalled_R h, fun _ => ⟨?_, by simp⟩⟩
    exact ha.map fun s => by unfold recF; split <;> rfl
  · simp at hu
end Go.Av
