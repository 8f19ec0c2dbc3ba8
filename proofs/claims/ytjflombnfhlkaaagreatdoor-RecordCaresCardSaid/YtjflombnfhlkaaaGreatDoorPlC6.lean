/-
  Chapter 10: recalls; the step of all kinds; the order of slings.
-/
import Derived.Test.YtjflombnfhlkaaaGreatDoorPlC5
noncomputable section
namespace Go.Av
set_option linter.unusedSimpArgs false
set_option linter.unusedVariables false
def xY (n : Str) (s : qf) : qf := if (s.Batch == n) = true then qdZ s else s
def qeh (n : Str) (day : Int) : Int → List qf → Int
  | b, [] => b
  | b, s :: l => qeh n day (if (s.Batch == n) = true then if yN s day = true then if b = 10 then 20 else b else 0 else b) l
def qa2 (l : List qf) (n : Str) (day : Int) : Int := if (l.any fun s => s.Batch == n) = false then 10 else if (l.any fun s => s.Batch == n && !yN s day) = false then 20 else 0
theorem qd9 (n : Str) (day : Int) : ∀ l, qeh n day 0 l = 0
  | [] => rfl
  | s :: l => by
    unfold qeh
    by_cases h : (s.Batch == n) = true
    · by_cases h2 : yN s day = true
      · simp only [h, h2, if_true]; rw [if_neg (by decide)]; exact qd9 n day l
      · simp only [h, h2, if_true, if_false, Bool.false_eq_true]; exact qd9 n day l
    · simp only [h, if_false, Bool.false_eq_true]; exact qd9 n day l
theorem qfd (n : Str) (day : Int) : ∀ l : List qf, qeh n day 20 l = if (l.any fun s => s.Batch == n && !yN s day) = false then 20 else 0
  | [] => rfl
  | s :: l => by
    unfold qeh
    rw [List.any_cons]
    by_cases h : (s.Batch == n) = true
    · by_cases h2 : yN s day = true
      · simp only [h, h2, if_true]; rw [if_neg (by decide), qfd n day l]; simp
      · simp only [h, h2, if_true, if_false, Bool.false_eq_true]; rw [qd9]; simp
    · simp only [h, if_false, Bool.false_eq_true]; rw [qfd n day l]; simp
theorem qgR (n : Str) (day : Int) : ∀ l : List qf, qeh n day 10 l = qa2 l n day
  | [] => rfl
  | s :: l => by
    unfold qeh qa2
    rw [List.any_cons, List.any_cons]
    by_cases h : (s.Batch == n) = true
    · by_cases h2 : yN s day = true
      · simp only [h, h2, if_true]; rw [qfd n day l]; simp
      · simp only [h, h2, if_true, if_false, Bool.false_eq_true]; rw [qd9]; simp
    · simp only [h, if_false, Bool.false_eq_true]; rw [qgR n day l]; simp [qa2]
theorem yD {l : List qf} (hl : l.length ≤ 1000) {n : Str} {day : Int} : ∀ (K k : Nat) (b : Int), k ≤ l.length → l.length < K + k →
    qV l [n] [day] K ((l.take k).map (xY n) ++ l.drop k) (k : Int) b = some (l.map (xY n), qeh n day b (l.drop k))
  | 0, k, b, h, hK => by omega
  | K + 1, k, b, h, hK => by
    unfold qV
    by_cases hk : k < l.length
    · have hlen : ((l.take k).map (xY n)).length = k := by simp; omega
      have hg : ((l.take k).map (xY n) ++ l.drop k)[k]? = some l[k] := by
        rw [List.getElem?_append_right (by omega), hlen, Nat.sub_self, List.drop_eq_getElem_cons hk]; rfl
      have hlt : k < ((l.take k).map (xY n) ++ l.drop k).length := by rw [List.length_append, hlen, List.length_drop]; omega
      rw [if_pos (by omega), qO, hg, Option.bind_some, yw]
      simp only [List.getElem?_cons_zero, Option.bind_some]
      have hset : ∀ x : qf, ((l.take k).map (xY n) ++ l.drop k).set k x = (l.take k).map (xY n) ++ x :: l.drop (k + 1) := by
        intro x
        rw [List.set_append_right _ _ (by omega), hlen, Nat.sub_self, List.drop_eq_getElem_cons hk, List.set_cons_zero]
      have hnext : ∀ x : qf, x = xY n l[k] → (l.take k).map (xY n) ++ x :: l.drop (k + 1) = (l.take (k + 1)).map (xY n) ++ l.drop (k + 1) := by
        rintro x rfl
        rw [List.take_add_one, List.getElem?_eq_getElem hk, List.map_append, List.append_assoc]
        rfl
      have hsame : (l.take k).map (xY n) ++ l.drop k = (l.take k).map (xY n) ++ l[k] :: l.drop (k + 1) := by rw [List.drop_eq_getElem_cons hk]
      have e1 : qeh n day b (l.drop k) = qeh n day (if ((l[k]).Batch == n) = true then if yN l[k] day = true then if b = 10 then 20 else b else 0 else b) (l.drop (k + 1)) := by
        rw [List.drop_eq_getElem_cons hk]; rfl
      rw [e1]
      by_cases hb : ((l[k]).Batch == n) = true
      · simp only [hb, Bool.not_true, Bool.false_eq_true, if_false, if_true, xP, Option.bind_some, y7 hlt, hset]
        have hF : (⟨(l[k]).Name, (l[k]).Batch, (l[k]).Born, (l[k]).Last, (l[k]).Uses, (l[k]).Used, (l[k]).Limit, (l[k]).Until, true⟩ : qf) = xY n l[k] := by unfold xY; rw [if_pos hb]; rfl
        rw [hnext _ hF]
        by_cases hr : yN l[k] day = true
        · by_cases hb10 : b = 10
          · simp only [hr, hb10, if_true, yw, List.getElem?_cons_zero, Bool.not_true, Bool.false_eq_true, if_false, Option.bind_some]
            rw [zm (by omega), yD hl K (k + 1) _ (by omega) (by omega)]
          · simp only [hr, hb10, if_true, yw, List.getElem?_cons_zero, Bool.not_true, Bool.false_eq_true, if_false, Option.bind_some]
            rw [zm (by omega), yD hl K (k + 1) _ (by omega) (by omega)]
        · by_cases hb10 : b = 10
          · simp only [hr, hb10, if_true, yw, List.getElem?_cons_zero, Bool.not_false, Bool.false_eq_true, if_false, Option.bind_some]
            rw [zm (by omega), yD hl K (k + 1) _ (by omega) (by omega)]
          · simp only [hr, hb10, if_true, yw, List.getElem?_cons_zero, Bool.not_false, Bool.false_eq_true, if_false, Option.bind_some]
            rw [zm (by omega), yD hl K (k + 1) _ (by omega) (by omega)]
      · simp only [hb, Bool.not_false, Bool.false_eq_true, if_false, if_true, Option.bind_some]
        rw [hsame, hnext _ (by unfold xY; rw [if_neg hb]), zm (by omega), yD hl K (k + 1) _ (by omega) (by omega)]
    · have : l.take k = l := List.take_of_length_le (by omega)
      rw [if_neg (by omega), List.drop_of_length_le (by omega), this]
      simp [qeh]
theorem qf9 {N : Nat} {d : Int} {l : List qf} (h : yM N l) {num day : Int} {n t : Str} (h0 : 0 ≤ day) :
    qcg (qD N d l num kE [n] [day] t) (if yl d day = 0 then qa2 l n day else yl d day) day (l.map (xY n)) := by
  obtain ⟨ha, hl, hN, hM⟩ := h
  refine qcg.day hN rfl h0 rfl fun hd => ?_
  simp only [zH, Option.bind_some, show (kE == [109, 97, 107, 101]) = false by decide, show (kE == [116, 101, 115, 116]) = false by decide, show (kE == [117, 115, 101]) = false by decide, show (kE == [102, 97, 105, 108]) = false by decide, show (kE == [114, 101, 99, 97, 108, 108]) = true by decide, Bool.false_eq_true, if_false, if_true, xE hl, jJ]
  have := yD hl (n := n) (day := day) N 0 10 (by omega) (by omega)
  rw [List.take_zero, List.map_nil, List.nil_append, List.drop_zero] at this
  rw [show qV l [n] [day] N l 0 10 = qV l [n] [day] N l ((0 : Nat) : Int) 10 from rfl, this, qgR]
  exact ⟨_, rfl, fun _ => rfl⟩
theorem qaz {N : Nat} {r : qI} (hl : r.Slings.length ≤ 1000) {e : ql} {n : Str} (hn : e.Names[0]? = some n) (day : Int) : ∀ (K k : Nat) (a b : Bool), k ≤ r.Slings.length → r.Slings.length < K + k →
    zt r e day K a b (k : Int) = some (a || (r.Slings.drop k).any (fun s => s.Batch == n), b || (r.Slings.drop k).any (fun s => s.Batch == n && !yN s day))
  | 0, k, a, b, h, hK => by omega
  | K + 1, k, a, b, h, hK => by
    unfold zt
    by_cases hk : k < r.Slings.length
    · rw [if_pos (by omega), qO, List.getElem?_eq_getElem hk, Option.bind_some, yw, hn, Option.bind_some, zm (by omega), List.drop_eq_getElem_cons hk, List.any_cons, List.any_cons]
      by_cases hb : ((r.Slings[k]).Batch == n) = true
      · by_cases hq : b = true
        · simp only [hb, hq, if_true, Option.bind_some]
          rw [qaz (N := N) hl hn day K (k + 1) _ _ (by omega) (by omega)]
          simp
        · simp only [hb, hq, if_true, if_false, Option.bind_some, qc8, Bool.false_eq_true]
          rw [qaz (N := N) hl hn day K (k + 1) _ _ (by omega) (by omega)]
          simp
      · simp only [hb, if_false, Option.bind_some, Bool.false_eq_true]
        rw [qaz (N := N) hl hn day K (k + 1) _ _ (by omega) (by omega)]
        simp
    · rw [if_neg (by omega), List.drop_of_length_le (by omega)]
      simp
theorem qbR {N : Nat} {d : Int} {l : List qf} (h : yM N l) {num day : Int} {n t : Str} :
    qhr N d l ⟨num, kE, [n], [day], t⟩ (if yl d day = 0 then qa2 l n day else yl d day) day (l.map (xY n)) := by
  constructor
  · obtain ⟨ha, hl, hN, hM⟩ := h
    unfold kM
    simp only [yw, List.getElem?_cons_zero, Option.bind_some, qh5 (N := N) (r := ⟨d, l⟩) (show l.length < _ by omega) (show l.length < N by omega) ha, show (kE == [109, 97, 107, 101]) = false by decide, show (kE == [114, 101, 99, 97, 108, 108]) = true by decide, if_true, if_false, Bool.false_eq_true]
    unfold yl
    by_cases a1 : day > 99999
    · simp [a1]
    by_cases a2 : day < d
    · simp [a1, a2]
    simp only [a1, a2, if_false, if_true]
    rw [show ∀ e, zt ⟨d, l⟩ e day N false false 0 = zt ⟨d, l⟩ e day N false false ((0 : Nat) : Int) from fun _ => rfl, qaz (N := N) (r := ⟨d, l⟩) hl (n := n) rfl day N 0 false false (Nat.zero_le _) (show l.length < N + 0 by omega), List.drop_zero, Option.bind_some]
    unfold qa2
    simp only [Bool.false_or]
    by_cases b1 : (l.any fun s => s.Batch == n) = true
    · by_cases b2 : (l.any fun s => s.Batch == n && !yN s day) = true <;> simp [b1, b2]
    · simp [b1]
  · intro _
    refine qbo h rfl rfl (by show (kE == jr) = false; decide) _ (qa3 (n := n) rfl _ fun s l k hk => ?_)
    have hlt := (List.getElem?_eq_some_iff.1 hk).1
    simp only [show (kE == [116, 101, 115, 116]) = false by decide, show (kE == [117, 115, 101]) = false by decide, show (kE == [102, 97, 105, 108]) = false by decide, show (kE == [114, 101, 99, 97, 108, 108]) = true by decide, if_true, if_false, Bool.false_eq_true, Option.bind_some]
    unfold xY
    by_cases hb : (s.Batch == n) = true
    · simp only [hb, if_true, y7 hlt, Option.bind_some]
      rfl
    · simp only [hb, if_false, Bool.false_eq_true, Option.bind_some]
      rw [show l.set k s = l from by
        have e : l[k] = s := by rw [List.getElem?_eq_getElem hlt] at hk; injection hk
        rw [← e, List.set_getElem_self]]
theorem Asc.map {l : List qf} (h : Asc l) {f : qf → qf} (hf : ∀ s, (f s).Name = s.Name) : Asc (l.map f) := by
  unfold Asc
  rw [List.pairwise_map]
  exact h.imp fun {a b} hab => by rw [hf, hf]; exact hab
theorem qcD (t : qf) (l : List qf) (s : qf) : qcd (t :: l) s = if ltL t.Name s.Name = true then t :: qcd l s else s :: t :: l := by
  unfold qcd
  rw [zT]
  split <;> simp
theorem qfG {x s : qf} : ∀ {l : List qf}, x ∈ qcd l s → x = s ∨ x ∈ l
  | [], h => by simp [qcd, zT] at h; exact .inl h
  | t :: l, h => by
    rw [qcD] at h
    split at h
    · rcases List.mem_cons.1 h with rfl | h
      · exact .inr (by simp)
      · rcases qfG h with h | h
        · exact .inl h
        · exact .inr (by simp [h])
    · rcases List.mem_cons.1 h with rfl | h
      · exact .inl rfl
      · exact .inr h
theorem Asc.ins {s : qf} : ∀ {l : List qf}, Asc l → zX l s.Name = false → Asc (qcd l s)
  | [], _, _ => by simp [qcd, zT, Asc]
  | t :: l, h, hn => by
    obtain ⟨h1, h2⟩ := List.pairwise_cons.1 h
    rw [qcD]
    unfold zX at hn
    split
    · rename_i hc
      rw [if_pos hc] at hn
      refine List.pairwise_cons.2 ⟨fun x hx => ?_, Asc.ins h2 hn⟩
      rcases qfG hx with rfl | hx
      · exact hc
      · exact h1 x hx
    · rename_i hc
      rw [if_neg hc] at hn
      have hlt : ltL s.Name t.Name = true := by
        cases hq : ltL s.Name t.Name with
        | true => rfl
        | false => exact absurd (qfa _ _ (by simpa using hc) hq) (beq_eq_false_iff_ne.1 hn)
      refine List.pairwise_cons.2 ⟨fun x hx => ?_, h⟩
      rcases List.mem_cons.1 hx with rfl | hx
      · exact hlt
      · exact qcP hlt (h1 x hx)
theorem qbu (l : List qf) (n : Str) (f : qf → qf) : qde l n f = l.map fun s => if (s.Name == n) = true then f s else s := rfl
theorem qeM {α : Type} {l : List α} (h : (l.length : Int) = 2) : ∃ a b, l = [a, b] := by
  match l, h with
  | [a, b], _ => exact ⟨a, b, rfl⟩
  | [], h => simp at h
  | [_], h => simp at h
  | _ :: _ :: _ :: _, h => simp at h; omega
theorem qaT {α : Type} {l : List α} (h : (l.length : Int) = 1) : ∃ a, l = [a] := by
  match l, h with
  | [a], _ => exact ⟨a, rfl⟩
  | [], h => simp at h
  | _ :: _ :: _, h => simp at h; omega
theorem qjt {α : Type} {l : List α} (h : (l.length : Int) = 3) : ∃ a b c, l = [a, b, c] := by
  match l, h with
  | [a, b, c], _ => exact ⟨a, b, c, rfl⟩
  | [], h => simp at h
  | [_], h => simp at h
  | [_, _], h => simp at h
  | _ :: _ :: _ :: _ :: _, h => simp at h; omega
structure qik (e : ql) : Prop where
  num : 1 ≤ e.Number ∧ e.Number ≤ 1000
  form : (jW e.Kind).2.2 = true
  names : (e.Names.length : Int) = (jW e.Kind).1
  values : (e.Values.length : Int) = (jW e.Kind).2.1
  range : ∀ v ∈ e.Values, 0 ≤ v ∧ v ≤ 999999999
  text : e.Text = []
theorem qaD {e : ql} (h : zS e = 0) : qik e := by
  unfold zS at h
  by_cases h1 : jS e.Number 1 1000 = true
  · rw [if_pos h1] at h; cases h
  rw [if_neg h1] at h
  by_cases h2 : (jW e.Kind).2.2 = false
  · rw [if_pos h2] at h; cases h
  rw [if_neg h2] at h
  by_cases h3 : ((e.Names.length : Int) = (jW e.Kind).1 ∧ (e.Values.length : Int) = (jW e.Kind).2.1)
  · rw [if_neg (by simpa using h3)] at h
    by_cases h4 : e.Names.all jN = false
    · rw [if_pos h4] at h; cases h
    rw [if_neg h4] at h
    by_cases h5 : e.Values.all (fun v => !jS v 0 999999999) = false
    · rw [if_pos h5] at h; cases h
    rw [if_neg h5] at h
    by_cases h6 : e.Text = []
    · refine ⟨?_, by simpa using h2, h3.1, h3.2, fun v hv => ?_, h6⟩
      · simp [jS] at h1; omega
      · have h5 : e.Values.all (fun v => !jS v 0 999999999) = true := by simpa using h5
        have := List.all_eq_true.1 h5 v hv
        simp [jS] at this
        exact this
    · rw [if_neg h6] at h; cases h
  · rw [if_pos h3] at h; cases h
theorem qfO {k : Str} (h : (jW k).2.2 = true) : k = jr ∨ k = yP ∨ k = qaH ∨ k = yC ∨ k = kE ∨ k = xh := by
  unfold jW at h
  by_cases h1 : (k == jr) = true
  · exact .inl (beq_iff_eq.1 h1)
  by_cases h2 : (k == yP) = true
  · exact .inr (.inl (beq_iff_eq.1 h2))
  by_cases h3 : (k == qaH) = true
  · exact .inr (.inr (.inl (beq_iff_eq.1 h3)))
  by_cases h4 : (k == yC) = true
  · exact .inr (.inr (.inr (.inl (beq_iff_eq.1 h4))))
  by_cases h5 : (k == kE) = true
  · exact .inr (.inr (.inr (.inr (.inl (beq_iff_eq.1 h5)))))
  by_cases h6 : (k == xh) = true
  · exact .inr (.inr (.inr (.inr (.inr (beq_iff_eq.1 h6)))))
  simp [h1, h2, h3, h4, h5, h6] at h
theorem qe3 {N : Nat} {d : Int} {l : List qf} (h : yM N l) {e : ql} (hv : qik e) (hu : (e.Kind == xh) = false) :
    ∃ err day new, qcg (qD N d l e.Number e.Kind e.Names e.Values e.Text) err day new ∧ qhr N d l e err day new ∧ (err = 0 → Asc new ∧ new.length ≤ l.length + 1) := by
  obtain ⟨num, k, ns, vs, t⟩ := e
  obtain ⟨_, hf, hn, hs, hr, _⟩ := hv
  simp only at hf hn hs hr hu
  have ha := h.asc
  rcases qfO hf with rfl | rfl | rfl | rfl | rfl | rfl
  · obtain ⟨n, b, rfl⟩ := qeM (show (ns.length : Int) = 2 from hn)
    obtain ⟨day, life, uses, rfl⟩ := qjt (show (vs.length : Int) = 3 from hs)
    refine ⟨_, _, _, qj7 h (hr _ (by simp)) (hr _ (by simp)), qiI h, fun h0 => ?_⟩
    have hh : zX l n = false := by
      cases hq : zX l n with
      | false => rfl
      | true =>
        split at h0
        · simp [qcW, hq] at h0
        · rename_i hd; exact absurd h0 hd
    refine ⟨Asc.ins ha hh, ?_⟩
    have hp := qcl l n
    simp [qcd]
    omega
  · obtain ⟨n, rfl⟩ := qaT (show (ns.length : Int) = 1 from hn)
    obtain ⟨day, load, rfl⟩ := qeM (show (vs.length : Int) = 2 from hs)
    refine ⟨_, _, _, qhC h (hr _ (by simp)).1, qfH h, fun _ => ⟨?_, by simp [qde]⟩⟩
    rw [qbu]
    exact ha.map fun s => by split <;> rfl
  · obtain ⟨n, rfl⟩ := qaT (show (ns.length : Int) = 1 from hn)
    obtain ⟨day, load, rfl⟩ := qeM (show (vs.length : Int) = 2 from hs)
    refine ⟨_, _, _, qjN h (hr _ (by simp)).1, qhH h, fun _ => ⟨?_, by simp [qde]⟩⟩
    rw [qbu]
    exact ha.map fun s => by split <;> rfl
  · obtain ⟨n, rfl⟩ := qaT (show (ns.length : Int) = 1 from hn)
    obtain ⟨day, rfl⟩ := qaT (show (vs.length : Int) = 1 from hs)
    refine ⟨_, _, _, qhS h (hr _ (by simp)).1, qf8 h, fun _ => ⟨?_, by simp [qde]⟩⟩
    rw [qbu]
    exact ha.map fun s => by split <;> rfl
  · obtain ⟨n, rfl⟩ := qaT (show (ns.length : Int) = 1 from hn)
    obtain ⟨day, rfl⟩ := qaT (show (vs.length : Int) = 1 from hs)
    refine ⟨_, _, _, qf9 h (hr _ (by simp)).1, qbR h, fun _ => ⟨?_, by simp⟩⟩
    exact ha.map fun s => by unfold xY; split <;> rfl
  · simp at hu
end Go.Av
