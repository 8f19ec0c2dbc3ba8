/-
  Chapter 10: recalls; the step of all kinds; the order of slings.
-/
import Derived.Test.YtjflombnfhlkaaaGreatDoorPlS5
noncomputable section
namespace Go.Av
set_option linter.unusedSimpArgs false
set_option linter.unusedVariables false
def xV (n : Str) (s : qh) : qh := if (s.Batch == n) = true then qgr s else s
def qdj (n : Str) (day : Int) : Int → List qh → Int
  | b, [] => b
  | b, s :: l => qdj n day (if (s.Batch == n) = true then if xA s day = true then if b = 10 then 20 else b else 0 else b) l
def qct (l : List qh) (n : Str) (day : Int) : Int := if (l.any fun s => s.Batch == n) = false then 10 else if (l.any fun s => s.Batch == n && !xA s day) = false then 20 else 0
theorem qdk (n : Str) (day : Int) : ∀ l, qdj n day 0 l = 0
  | [] => rfl
  | s :: l => by
    unfold qdj
    by_cases h : (s.Batch == n) = true
    · by_cases h2 : xA s day = true
      · simp only [h, h2, if_true]; rw [if_neg (by decide)]; exact qdk n day l
      · simp only [h, h2, if_true, if_false, Bool.false_eq_true]; exact qdk n day l
    · simp only [h, if_false, Bool.false_eq_true]; exact qdk n day l
theorem qez (n : Str) (day : Int) : ∀ l : List qh, qdj n day 20 l = if (l.any fun s => s.Batch == n && !xA s day) = false then 20 else 0
  | [] => rfl
  | s :: l => by
    unfold qdj
    rw [List.any_cons]
    by_cases h : (s.Batch == n) = true
    · by_cases h2 : xA s day = true
      · simp only [h, h2, if_true]; rw [if_neg (by decide), qez n day l]; simp
      · simp only [h, h2, if_true, if_false, Bool.false_eq_true]; rw [qdk]; simp
    · simp only [h, if_false, Bool.false_eq_true]; rw [qez n day l]; simp
theorem qgd (n : Str) (day : Int) : ∀ l : List qh, qdj n day 10 l = qct l n day
  | [] => rfl
  | s :: l => by
    unfold qdj qct
    rw [List.any_cons, List.any_cons]
    by_cases h : (s.Batch == n) = true
    · by_cases h2 : xA s day = true
      · simp only [h, h2, if_true]; rw [qez n day l]; simp
      · simp only [h, h2, if_true, if_false, Bool.false_eq_true]; rw [qdk]; simp
    · simp only [h, if_false, Bool.false_eq_true]; rw [qgd n day l]; simp [qct]
theorem yc {l : List qh} (hl : l.length ≤ 1000) {n : Str} {day : Int} : ∀ (K k : Nat) (b : Int), k ≤ l.length → l.length < K + k →
    qO l [n] [day] K ((l.take k).map (xV n) ++ l.drop k) (k : Int) b = some (l.map (xV n), qdj n day b (l.drop k))
  | 0, k, b, h, hK => by omega
  | K + 1, k, b, h, hK => by
    unfold qO
    by_cases hk : k < l.length
    · have hlen : ((l.take k).map (xV n)).length = k := by simp; omega
      have hg : ((l.take k).map (xV n) ++ l.drop k)[k]? = some l[k] := by
        rw [List.getElem?_append_right (by omega), hlen, Nat.sub_self, List.drop_eq_getElem_cons hk]; rfl
      have hlt : k < ((l.take k).map (xV n) ++ l.drop k).length := by rw [List.length_append, hlen, List.length_drop]; omega
      rw [if_pos (by omega), ku, hg, Option.bind_some, yB]
      simp only [List.getElem?_cons_zero, Option.bind_some]
      have hset : ∀ x : qh, ((l.take k).map (xV n) ++ l.drop k).set k x = (l.take k).map (xV n) ++ x :: l.drop (k + 1) := by
        intro x
        rw [List.set_append_right _ _ (by omega), hlen, Nat.sub_self, List.drop_eq_getElem_cons hk, List.set_cons_zero]
      have hnext : ∀ x : qh, x = xV n l[k] → (l.take k).map (xV n) ++ x :: l.drop (k + 1) = (l.take (k + 1)).map (xV n) ++ l.drop (k + 1) := by
        rintro x rfl
        rw [List.take_add_one, List.getElem?_eq_getElem hk, List.map_append, List.append_assoc]
        rfl
      have hsame : (l.take k).map (xV n) ++ l.drop k = (l.take k).map (xV n) ++ l[k] :: l.drop (k + 1) := by rw [List.drop_eq_getElem_cons hk]
      have e1 : qdj n day b (l.drop k) = qdj n day (if ((l[k]).Batch == n) = true then if xA l[k] day = true then if b = 10 then 20 else b else 0 else b) (l.drop (k + 1)) := by
        rw [List.drop_eq_getElem_cons hk]; rfl
      rw [e1]
      by_cases hb : ((l[k]).Batch == n) = true
      · simp only [hb, Bool.not_true, Bool.false_eq_true, if_false, if_true, vC, Option.bind_some, yK hlt, hset]
        have hF : (⟨(l[k]).Name, (l[k]).Batch, (l[k]).Born, (l[k]).Last, (l[k]).Uses, (l[k]).Used, (l[k]).Limit, (l[k]).Until, true⟩ : qh) = xV n l[k] := by unfold xV; rw [if_pos hb]; rfl
        rw [hnext _ hF]
        by_cases hr : xA l[k] day = true
        · by_cases hb10 : b = 10
          · simp only [hr, hb10, if_true, yB, List.getElem?_cons_zero, Bool.not_true, Bool.false_eq_true, if_false, Option.bind_some]
            rw [zP (by omega), yc hl K (k + 1) _ (by omega) (by omega)]
          · simp only [hr, hb10, if_true, yB, List.getElem?_cons_zero, Bool.not_true, Bool.false_eq_true, if_false, Option.bind_some]
            rw [zP (by omega), yc hl K (k + 1) _ (by omega) (by omega)]
        · by_cases hb10 : b = 10
          · simp only [hr, hb10, if_true, yB, List.getElem?_cons_zero, Bool.not_false, Bool.false_eq_true, if_false, Option.bind_some]
            rw [zP (by omega), yc hl K (k + 1) _ (by omega) (by omega)]
          · simp only [hr, hb10, if_true, yB, List.getElem?_cons_zero, Bool.not_false, Bool.false_eq_true, if_false, Option.bind_some]
            rw [zP (by omega), yc hl K (k + 1) _ (by omega) (by omega)]
      · simp only [hb, Bool.not_false, Bool.false_eq_true, if_false, if_true, Option.bind_some]
        rw [hsame, hnext _ (by unfold xV; rw [if_neg hb]), zP (by omega), yc hl K (k + 1) _ (by omega) (by omega)]
    · have : l.take k = l := List.take_of_length_le (by omega)
      rw [if_neg (by omega), List.drop_of_length_le (by omega), this]
      simp [qdj]
theorem qfC {N : Nat} {d : Int} {l : List qh} (h : yA N l) {num day : Int} {n t : Str} (h0 : 0 ≤ day) :
    qbX (qA N d l num zl [n] [day] t) (if vT d day = 0 then qct l n day else vT d day) day (l.map (xV n)) := by
  obtain ⟨ha, hl, hN, hM⟩ := h
  refine qbX.day hN rfl h0 rfl fun hd => ?_
  simp only [zk, Option.bind_some, show (zl == [109, 97, 107, 101]) = false by decide, show (zl == [116, 101, 115, 116]) = false by decide, show (zl == [117, 115, 101]) = false by decide, show (zl == [102, 97, 105, 108]) = false by decide, show (zl == [114, 101, 99, 97, 108, 108]) = true by decide, Bool.false_eq_true, if_false, if_true, qaa hl, jm]
  have := yc hl (n := n) (day := day) N 0 10 (by omega) (by omega)
  rw [List.take_zero, List.map_nil, List.nil_append, List.drop_zero] at this
  rw [show qO l [n] [day] N l 0 10 = qO l [n] [day] N l ((0 : Nat) : Int) 10 from rfl, this, qgd]
  exact ⟨_, rfl, fun _ => rfl⟩
theorem qan {N : Nat} {r : qC} (hl : r.Slings.length ≤ 1000) {e : qm} {n : Str} (hn : e.Names[0]? = some n) (day : Int) : ∀ (K k : Nat) (a b : Bool), k ≤ r.Slings.length → r.Slings.length < K + k →
    kW r e day K a b (k : Int) = some (a || (r.Slings.drop k).any (fun s => s.Batch == n), b || (r.Slings.drop k).any (fun s => s.Batch == n && !xA s day))
  | 0, k, a, b, h, hK => by omega
  | K + 1, k, a, b, h, hK => by
    unfold kW
    by_cases hk : k < r.Slings.length
    · rw [if_pos (by omega), ku, List.getElem?_eq_getElem hk, Option.bind_some, yB, hn, Option.bind_some, zP (by omega), List.drop_eq_getElem_cons hk, List.any_cons, List.any_cons]
      by_cases hb : ((r.Slings[k]).Batch == n) = true
      · by_cases hq : b = true
        · simp only [hb, hq, if_true, Option.bind_some]
          rw [qan (N := N) hl hn day K (k + 1) _ _ (by omega) (by omega)]
          simp
        · simp only [hb, hq, if_true, if_false, Option.bind_some, qaT, Bool.false_eq_true]
          rw [qan (N := N) hl hn day K (k + 1) _ _ (by omega) (by omega)]
          simp
      · simp only [hb, if_false, Option.bind_some, Bool.false_eq_true]
        rw [qan (N := N) hl hn day K (k + 1) _ _ (by omega) (by omega)]
        simp
    · rw [if_neg (by omega), List.drop_of_length_le (by omega)]
      simp
theorem qdn {N : Nat} {d : Int} {l : List qh} (h : yA N l) {num day : Int} {n t : Str} :
    qg5 N d l ⟨num, zl, [n], [day], t⟩ (if vT d day = 0 then qct l n day else vT d day) day (l.map (xV n)) := by
  constructor
  · obtain ⟨ha, hl, hN, hM⟩ := h
    unfold kC
    simp only [yB, List.getElem?_cons_zero, Option.bind_some, qfk (N := N) (r := ⟨d, l⟩) (show l.length < _ by omega) (show l.length < N by omega) ha, show (zl == [109, 97, 107, 101]) = false by decide, show (zl == [114, 101, 99, 97, 108, 108]) = true by decide, if_true, if_false, Bool.false_eq_true]
    unfold vT
    by_cases a1 : day > 99999
    · simp [a1]
    by_cases a2 : day < d
    · simp [a1, a2]
    simp only [a1, a2, if_false, if_true]
    rw [show ∀ e, kW ⟨d, l⟩ e day N false false 0 = kW ⟨d, l⟩ e day N false false ((0 : Nat) : Int) from fun _ => rfl, qan (N := N) (r := ⟨d, l⟩) hl (n := n) rfl day N 0 false false (Nat.zero_le _) (show l.length < N + 0 by omega), List.drop_zero, Option.bind_some]
    unfold qct
    simp only [Bool.false_or]
    by_cases b1 : (l.any fun s => s.Batch == n) = true
    · by_cases b2 : (l.any fun s => s.Batch == n && !xA s day) = true <;> simp [b1, b2]
    · simp [b1]
  · intro _
    refine qa2 h rfl rfl (by show (zl == jA) = false; decide) _ (qaU (n := n) rfl _ fun s l k hk => ?_)
    have hlt := (List.getElem?_eq_some_iff.1 hk).1
    simp only [show (zl == [116, 101, 115, 116]) = false by decide, show (zl == [117, 115, 101]) = false by decide, show (zl == [102, 97, 105, 108]) = false by decide, show (zl == [114, 101, 99, 97, 108, 108]) = true by decide, if_true, if_false, Bool.false_eq_true, Option.bind_some]
    unfold xV
    by_cases hb : (s.Batch == n) = true
    · simp only [hb, if_true, yK hlt, Option.bind_some]
      rfl
    · simp only [hb, if_false, Bool.false_eq_true, Option.bind_some]
      rw [show l.set k s = l from by
        have e : l[k] = s := by rw [List.getElem?_eq_getElem hlt] at hk; injection hk
        rw [← e, List.set_getElem_self]]
theorem Asc.map {l : List qh} (h : Asc l) {f : qh → qh} (hf : ∀ s, (f s).Name = s.Name) : Asc (l.map f) := by
  unfold Asc
  rw [List.pairwise_map]
  exact h.imp fun {a b} hab => by rw [hf, hf]; exact hab
theorem qcr (t : qh) (l : List qh) (s : qh) : qbJ (t :: l) s = if ltL t.Name s.Name = true then t :: qbJ l s else s :: t :: l := by
  unfold qbJ
  rw [zH]
  split <;> simp
theorem qe8 {x s : qh} : ∀ {l : List qh}, x ∈ qbJ l s → x = s ∨ x ∈ l
  | [], h => by simp [qbJ, zH] at h; exact .inl h
  | t :: l, h => by
    rw [qcr] at h
    split at h
    · rcases List.mem_cons.1 h with rfl | h
      · exact .inr (by simp)
      · rcases qe8 h with h | h
        · exact .inl h
        · exact .inr (by simp [h])
    · rcases List.mem_cons.1 h with rfl | h
      · exact .inl rfl
      · exact .inr h
theorem Asc.ins {s : qh} : ∀ {l : List qh}, Asc l → zV l s.Name = false → Asc (qbJ l s)
  | [], _, _ => by simp [qbJ, zH, Asc]
  | t :: l, h, hn => by
    obtain ⟨h1, h2⟩ := List.pairwise_cons.1 h
    rw [qcr]
    unfold zV at hn
    split
    · rename_i hc
      rw [if_pos hc] at hn
      refine List.pairwise_cons.2 ⟨fun x hx => ?_, Asc.ins h2 hn⟩
      rcases qe8 hx with rfl | hx
      · exact hc
      · exact h1 x hx
    · rename_i hc
      rw [if_neg hc] at hn
      have hlt : ltL s.Name t.Name = true := by
        cases hq : ltL s.Name t.Name with
        | true => rfl
        | false => exact absurd (qet _ _ (by simpa using hc) hq) (beq_eq_false_iff_ne.1 hn)
      refine List.pairwise_cons.2 ⟨fun x hx => ?_, h⟩
      rcases List.mem_cons.1 hx with rfl | hx
      · exact hlt
      · exact qcf hlt (h1 x hx)
theorem qa1 (l : List qh) (n : Str) (f : qh → qh) : qcH l n f = l.map fun s => if (s.Name == n) = true then f s else s := rfl
theorem qd7 {α : Type} {l : List α} (h : (l.length : Int) = 2) : ∃ a b, l = [a, b] := by
  match l, h with
  | [a, b], _ => exact ⟨a, b, rfl⟩
  | [], h => simp at h
  | [_], h => simp at h
  | _ :: _ :: _ :: _, h => simp at h; omega
theorem qaz {α : Type} {l : List α} (h : (l.length : Int) = 1) : ∃ a, l = [a] := by
  match l, h with
  | [a], _ => exact ⟨a, rfl⟩
  | [], h => simp at h
  | _ :: _ :: _, h => simp at h; omega
theorem qiY {α : Type} {l : List α} (h : (l.length : Int) = 3) : ∃ a b c, l = [a, b, c] := by
  match l, h with
  | [a, b, c], _ => exact ⟨a, b, c, rfl⟩
  | [], h => simp at h
  | [_], h => simp at h
  | [_, _], h => simp at h
  | _ :: _ :: _ :: _ :: _, h => simp at h; omega
structure qhQ (e : qm) : Prop where
  num : 1 ≤ e.Number ∧ e.Number ≤ 1000
  form : (ve e.Kind).2.2 = true
  names : (e.Names.length : Int) = (ve e.Kind).1
  values : (e.Values.length : Int) = (ve e.Kind).2.1
  range : ∀ v ∈ e.Values, 0 ≤ v ∧ v ≤ 999999999
  text : e.Text = []
theorem qam {e : qm} (h : jB e = 0) : qhQ e := by
  unfold jB at h
  by_cases h1 : ji e.Number 1 1000 = true
  · rw [if_pos h1] at h; cases h
  rw [if_neg h1] at h
  by_cases h2 : (ve e.Kind).2.2 = false
  · rw [if_pos h2] at h; cases h
  rw [if_neg h2] at h
  by_cases h3 : ((e.Names.length : Int) = (ve e.Kind).1 ∧ (e.Values.length : Int) = (ve e.Kind).2.1)
  · rw [if_neg (by simpa using h3)] at h
    by_cases h4 : e.Names.all vQ = false
    · rw [if_pos h4] at h; cases h
    rw [if_neg h4] at h
    by_cases h5 : e.Values.all (fun v => !ji v 0 999999999) = false
    · rw [if_pos h5] at h; cases h
    rw [if_neg h5] at h
    by_cases h6 : e.Text = []
    · refine ⟨?_, by simpa using h2, h3.1, h3.2, fun v hv => ?_, h6⟩
      · simp [ji] at h1; omega
      · have h5 : e.Values.all (fun v => !ji v 0 999999999) = true := by simpa using h5
        have := List.all_eq_true.1 h5 v hv
        simp [ji] at this
        exact this
    · rw [if_neg h6] at h; cases h
  · rw [if_pos h3] at h; cases h
theorem qfv {k : Str} (h : (ve k).2.2 = true) : k = jA ∨ k = yw ∨ k = qai ∨ k = vY ∨ k = zl ∨ k = yU := by
  unfold ve at h
  by_cases h1 : (k == jA) = true
  · exact .inl (beq_iff_eq.1 h1)
  by_cases h2 : (k == yw) = true
  · exact .inr (.inl (beq_iff_eq.1 h2))
  by_cases h3 : (k == qai) = true
  · exact .inr (.inr (.inl (beq_iff_eq.1 h3)))
  by_cases h4 : (k == vY) = true
  · exact .inr (.inr (.inr (.inl (beq_iff_eq.1 h4))))
  by_cases h5 : (k == zl) = true
  · exact .inr (.inr (.inr (.inr (.inl (beq_iff_eq.1 h5)))))
  by_cases h6 : (k == yU) = true
  · exact .inr (.inr (.inr (.inr (.inr (beq_iff_eq.1 h6)))))
  simp [h1, h2, h3, h4, h5, h6] at h
theorem qeN {N : Nat} {d : Int} {l : List qh} (h : yA N l) {e : qm} (hv : qhQ e) (hu : (e.Kind == yU) = false) :
    ∃ err day new, qbX (qA N d l e.Number e.Kind e.Names e.Values e.Text) err day new ∧ qg5 N d l e err day new ∧ (err = 0 → Asc new ∧ new.length ≤ l.length + 1) := by
  obtain ⟨num, k, ns, vs, t⟩ := e
  obtain ⟨_, hf, hn, hs, hr, _⟩ := hv
  simp only at hf hn hs hr hu
  have ha := h.asc
  rcases qfv hf with rfl | rfl | rfl | rfl | rfl | rfl
  · obtain ⟨n, b, rfl⟩ := qd7 (show (ns.length : Int) = 2 from hn)
    obtain ⟨day, life, uses, rfl⟩ := qiY (show (vs.length : Int) = 3 from hs)
    refine ⟨_, _, _, qjq h (hr _ (by simp)) (hr _ (by simp)), qhl h, fun h0 => ?_⟩
    have hh : zV l n = false := by
      cases hq : zV l n with
      | false => rfl
      | true =>
        split at h0
        · simp [qcC, hq] at h0
        · rename_i hd; exact absurd h0 hd
    refine ⟨Asc.ins ha hh, ?_⟩
    have hp := qbM l n
    simp [qbJ]
    omega
  · obtain ⟨n, rfl⟩ := qaz (show (ns.length : Int) = 1 from hn)
    obtain ⟨day, load, rfl⟩ := qd7 (show (vs.length : Int) = 2 from hs)
    refine ⟨_, _, _, qhD h (hr _ (by simp)).1, qfd h, fun _ => ⟨?_, by simp [qcH]⟩⟩
    rw [qa1]
    exact ha.map fun s => by split <;> rfl
  · obtain ⟨n, rfl⟩ := qaz (show (ns.length : Int) = 1 from hn)
    obtain ⟨day, load, rfl⟩ := qd7 (show (vs.length : Int) = 2 from hs)
    refine ⟨_, _, _, qjt h (hr _ (by simp)).1, qhv h, fun _ => ⟨?_, by simp [qcH]⟩⟩
    rw [qa1]
    exact ha.map fun s => by split <;> rfl
  · obtain ⟨n, rfl⟩ := qaz (show (ns.length : Int) = 1 from hn)
    obtain ⟨day, rfl⟩ := qaz (show (vs.length : Int) = 1 from hs)
    refine ⟨_, _, _, qia h (hr _ (by simp)).1, qe0 h, fun _ => ⟨?_, by simp [qcH]⟩⟩
    rw [qa1]
    exact ha.map fun s => by split <;> rfl
  · obtain ⟨n, rfl⟩ := qaz (show (ns.length : Int) = 1 from hn)
    obtain ⟨day, rfl⟩ := qaz (show (vs.length : Int) = 1 from hs)
    refine ⟨_, _, _, qfC h (hr _ (by simp)).1, qdn h, fun _ => ⟨?_, by simp⟩⟩
    exact ha.map fun s => by unfold xV; split <;> rfl
  · simp at hu
end Go.Av
