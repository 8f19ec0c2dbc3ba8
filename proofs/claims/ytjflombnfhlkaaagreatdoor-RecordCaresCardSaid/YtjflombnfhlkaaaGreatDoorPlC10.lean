/-
  Chapter 10: the law of cares, plain: histories.
-/
import Derived.Test.YtjflombnfhlkaaaGreatDoorPlC9
noncomputable section
namespace Go.Av
set_option linter.unusedSimpArgs false
set_option linter.unusedVariables false
theorem qfZ {e : ql} (h : zS e = 0) : ∀ s ∈ e.Names, jN s = true := by
  unfold zS at h
  by_cases h1 : jS e.Number 1 1000 = true
  · rw [if_pos h1] at h; cases h
  rw [if_neg h1] at h
  by_cases h2 : (jW e.Kind).2.2 = false
  · rw [if_pos h2] at h; cases h
  rw [if_neg h2] at h
  by_cases h3 : ((e.Names.length : Int) = (jW e.Kind).1 ∧ (e.Values.length : Int) = (jW e.Kind).2.1)
  · rw [if_neg (by simpa using h3)] at h
    by_cases h4 : e.Names.all jN = false
    · rw [if_pos h4] at h; cases h
    have h4 : e.Names.all jN = true := by simpa using h4
    exact fun s hs => List.all_eq_true.1 h4 s hs
  · rw [if_pos h3] at h; cases h
theorem qff {e : ql} (h : zS e = 0) : ∀ s ∈ e.Names, s ≠ [] := by
  unfold zS at h
  by_cases h1 : jS e.Number 1 1000 = true
  · rw [if_pos h1] at h; cases h
  rw [if_neg h1] at h
  by_cases h2 : (jW e.Kind).2.2 = false
  · rw [if_pos h2] at h; cases h
  rw [if_neg h2] at h
  by_cases h3 : ((e.Names.length : Int) = (jW e.Kind).1 ∧ (e.Values.length : Int) = (jW e.Kind).2.1)
  · rw [if_neg (by simpa using h3)] at h
    by_cases h4 : e.Names.all jN = false
    · rw [if_pos h4] at h; cases h
    have h4 : e.Names.all jN = true := by simpa using h4
    intro s hs hq
    have := List.all_eq_true.1 h4 s hs
    rw [hq] at this
    exact absurd this (by decide)
  · rw [if_pos h3] at h; cases h
structure qjZ (N : Nat) (L c : List ql) (ss : List StateT) (n : Str) (j : Nat) (l : List qf) (e : ql) (st : StateT) (i : Nat) (n0 : Str) : Prop where
  ev : c[j]? = some e
  state : ss[j]? = some st
  snum : st.number = ((i + 1 : Nat) : Int)
  enum : e.Number = ((i + 1 : Nat) : Int)
  at_ : L[i]? = some e
  reg : qar N (c.take (j + 1)) = some ⟨st.register.Day, st.register.Slings⟩
  asc : Asc st.register.Slings
  len : st.register.Slings.length ≤ j + 1
  name : e.Names[0]? = some n0
  make : (e.Kind == jr) = true → ∃ b, e.Names[1]? = some b ∧ b ≠ [] ∧ (n0 = n → bat l n = none ∧ bat st.register.Slings n = some b) ∧ (n0 ≠ n → bat st.register.Slings n = bat l n)
  other : (e.Kind == jr) = false → bat st.register.Slings n = bat l n
  old : (e.Kind == jr) = false → (e.Kind == kE) = false → zX l n0 = true
  good : jN n0 = true
theorem qe6 {N : Nat} {L c : List ql} {ss : List StateT} (h : Rel N c ss) (hi : qbJ N L c) (hc : c.length ≤ 1000) (hN : 2000 < N) (hM : N < 4611686018427387904) (n : Str) {j : Nat} (hj : j < c.length) {d : Int} {l : List qf} (hr : qar N (c.take j) = some ⟨d, l⟩) (ha : Asc l) (hl : l.length ≤ j) :
    ∃ e st i n0, qjZ N L c ss n j l e st i n0 := by
  have hlen := h.len
  have hjs : j < ss.length := by omega
  have he : c[j]? = some c[j] := List.getElem?_eq_getElem hj
  have hst : ss[j]? = some ss[j] := List.getElem?_eq_getElem hjs
  obtain ⟨a1, a2, a3, a4⟩ := h.at_ j _ _ hst he
  obtain ⟨b1, b2, ⟨i, b3, b4⟩, b5⟩ := hi j _ he
  generalize c[j] = e at *
  generalize ss[j] = st at *
  have hv := qaD b1
  have hok : yM N l := ⟨ha, by omega, hN, hM⟩
  obtain ⟨err, _, _, _, hR, _⟩ := qe3 (d := d) hok hv b2
  rw [vo (by rw [List.length_take]; omega) hN, hr, Option.bind_some, hR.ref, Option.getD_some] at b5
  have h0 : kM N ⟨d, l⟩ e = some 0 := by rw [hR.ref, b5]
  obtain ⟨day, new, q1, n0, q2, q3, q4⟩ := qiw hok hv b2 h0 n
  have ht : c.take (j + 1) = c.take j ++ [e] := by rw [List.take_add_one, he]; rfl
  have hnew : st.register.Slings = new := by
    rw [ht, qcL, hr, Option.bind_some, q1] at a2
    injection a2 with a2
    injection a2 with _ a2
    exact a2.symm
  refine ⟨e, st, i, n0, he, hst, a1.trans b3, b3, b4, a2, a3, a4, q2, fun hk => ?_, fun hk => ?_, fun hk => (q4 hk).2, qfZ b1 n0 (List.mem_of_getElem? q2)⟩
  · obtain ⟨b, r1, r2, r3⟩ := q3 hk
    rw [hnew]
    exact ⟨b, r1, qff b1 b (List.mem_of_getElem? r1), r2, r3⟩
  · rw [hnew]
    exact (q4 hk).1
theorem qey {N : Nat} {L c : List ql} {ss : List StateT} (h : Rel N c ss) (hi : qbJ N L c) (hc : c.length ≤ 1000) (hN : 2000 < N) (hM : N < 4611686018427387904) (n b : Str) : ∀ (m j : Nat), j + m = c.length → ∀ (d : Int) (l : List qf), qar N (c.take j) = some ⟨d, l⟩ → Asc l → l.length ≤ j → bat l n = some b → ∃ d' l', qar N c = some ⟨d', l'⟩ ∧ bat l' n = some b
  | 0, j, hj, d, l, hr, _, _, hb => by
    rw [show j = c.length by omega, List.take_length] at hr
    exact ⟨d, l, hr, hb⟩
  | m + 1, j, hj, d, l, hr, ha, hl, hb => by
    obtain ⟨e, st, i, n0, S⟩ := qe6 h hi hc hN hM n (show j < c.length by omega) hr ha hl
    refine qey h hi hc hN hM n b m (j + 1) (by omega) _ _ S.reg S.asc S.len ?_
    cases hk : e.Kind == jr with
    | false => rw [S.other hk, hb]
    | true =>
      obtain ⟨b', _, _, r1, r2⟩ := S.make hk
      by_cases hn : n0 = n
      · rw [(r1 hn).1] at hb; cases hb
      · rw [r2 hn, hb]
structure HP (L : List ql) (n sF : Str) (out : List Int) : Prop where
  asc : out.Pairwise (· < ·)
  good : ∀ x ∈ out, ∃ (i : Nat) (e : ql) (n0 : Str), x = ((i + 1 : Nat) : Int) ∧ L[i]? = some e ∧ e.Names[0]? = some n0 ∧ (n0 = n ∨ ((e.Kind == kE) = true ∧ n0 = sF))
def yF (L : List ql) (out : List Int) : Prop := ∃ (i : Nat) (e : ql), out[0]? = some ((i + 1 : Nat) : Int) ∧ L[i]? = some e ∧ (e.Kind == jr) = true
theorem yF.app {L : List ql} {out : List Int} (h : yF L out) (xs : List Int) : yF L (out ++ xs) := by
  obtain ⟨i, e, h1, h2, h3⟩ := h
  refine ⟨i, e, ?_, h2, h3⟩
  rw [List.getElem?_append_left (List.getElem?_eq_some_iff.1 h1).1, h1]
theorem qd4 {N : Nat} {L c : List ql} {ss : List StateT} (h : Rel N c ss) (hi : qbJ N L c) (hup : c.Pairwise fun a b => a.Number < b.Number) (hc : c.length ≤ 1000) (hL : L.length ≤ 1000) (hN : 2000 < N) (hM : N < 4611686018427387904) (n sF : Str) (hF : ∀ d' l' b, qar N c = some ⟨d', l'⟩ → bat l' n = some b → b = sF) :
    ∀ (K j : Nat) (acc : List Int) (d : Int) (l : List qf), j ≤ c.length → c.length < K + j → qar N (c.take j) = some ⟨d, l⟩ → Asc l → l.length ≤ j → acc.length ≤ j → HP L n sF acc → (∀ x ∈ acc, ∀ i e, j ≤ i → c[i]? = some e → x < e.Number) → (bat l n = none → acc = []) → (bat l n ≠ none → yF L acc) →
      ∃ out, qU N n L sF ss (ss.length : Int) K acc (j : Int) = some out ∧ HP L n sF out ∧ out.length ≤ 1000 ∧ (∀ d' l', qar N c = some ⟨d', l'⟩ → bat l' n ≠ none → yF L out)
  | 0, j, _, _, _, h1, h2, _, _, _, _, _, _, _, _ => by omega
  | K + 1, j, acc, d, l, hj1, hK, hr, ha, hl, hacc, hP, hB, hE, hM1 => by
    have hlen := h.len
    unfold qU
    by_cases hj : j < c.length
    · obtain ⟨e, st, i, n0, S⟩ := qe6 h hi hc hN hM n hj hr ha hl
      have hiL : i < L.length := (List.getElem?_eq_some_iff.1 S.at_).1
      have happ : app 8 acc [e.Number] = some (acc ++ [e.Number]) := vC (by simp; omega) (by simp; omega)
      have hfind : ky N (⟨st.register.Day, st.register.Slings⟩ : kD) n = some ((zT st.register.Slings n : Int), zX st.register.Slings n) := qcA (by have := S.len; omega) (by have := S.len; omega) _ _
      have hnum : st.number = e.Number := S.snum.trans S.enum.symm
      have hw : w64 (e.Number - 1) = ((i : Nat) : Int) := by rw [S.enum, qbX (by omega) (by omega)]; rfl
      have hup2 : ∀ i f, j + 1 ≤ i → c[i]? = some f → e.Number < f.Number := by
        intro i f hi2 hf
        obtain ⟨hi3, hf⟩ := List.getElem?_eq_some_iff.1 hf
        obtain ⟨hj3, he⟩ := List.getElem?_eq_some_iff.1 S.ev
        have := List.pairwise_iff_getElem.1 hup j i hj3 hi3 (by omega)
        rw [he, hf] at this
        exact this
      have go := fun (acc' : List Int) (a1 : acc'.length ≤ j + 1) (a2 : HP L n sF acc') a3 a4 a5 => qd4 h hi hup hc hL hN hM n sF hF K (j + 1) acc' _ _ (by omega) (by omega) S.reg S.asc S.len a1 a2 a3 a4 a5
      have keep : (bat st.register.Slings n = bat l n) → ∃ out, qU N n L sF ss (ss.length : Int) K acc ((j + 1 : Nat) : Int) = some out ∧ HP L n sF out ∧ out.length ≤ 1000 ∧ (∀ d' l', qar N c = some ⟨d', l'⟩ → bat l' n ≠ none → yF L out) := fun hb =>
        go acc (by omega) hP (fun x hx i f hi2 hf => hB x hx i f (by omega) hf) (fun h => hE (hb ▸ h)) (fun h => hM1 (hb ▸ h))
      have put : (n0 = n ∨ ((e.Kind == kE) = true ∧ n0 = sF)) → bat st.register.Slings n ≠ none → (bat l n = none → (e.Kind == jr) = true) → ∃ out, qU N n L sF ss (ss.length : Int) K (acc ++ [e.Number]) ((j + 1 : Nat) : Int) = some out ∧ HP L n sF out ∧ out.length ≤ 1000 ∧ (∀ d' l', qar N c = some ⟨d', l'⟩ → bat l' n ≠ none → yF L out) := by
        intro hg hb hmk
        refine go (acc ++ [e.Number]) (by simp; omega) ⟨?_, ?_⟩ ?_ (fun h => absurd h hb) (fun _ => ?_)
        · refine List.pairwise_append.2 ⟨hP.asc, List.pairwise_singleton _ _, fun a ha2 b hb2 => ?_⟩
          simp at hb2
          subst hb2
          exact hB a ha2 j e (Nat.le_refl _) S.ev
        · intro x hx
          rcases List.mem_append.1 hx with hx | hx
          · exact hP.good x hx
          · simp at hx
            subst hx
            exact ⟨i, e, n0, S.enum, S.at_, S.name, hg⟩
        · intro x hx i2 f hi2 hf
          rcases List.mem_append.1 hx with hx | hx
          · exact hB x hx i2 f (by omega) hf
          · simp at hx
            subst hx
            exact hup2 i2 f hi2 hf
        · cases hq : bat l n with
          | none =>
            rw [hE hq, List.nil_append]
            exact ⟨i, e, by rw [← S.enum]; rfl, S.at_, hmk hq⟩
          | some b => exact (hM1 (by rw [hq]; simp)).app _
      rw [if_pos (by omega), qO, S.state, Option.bind_some, hnum, hw, qO, S.at_, Option.bind_some, zm (by omega)]
      simp only [yw, qa9, S.name, Option.bind_some, happ, hfind]
      by_cases hk : (e.Kind == [114, 101, 99, 97, 108, 108]) = true
      · have hk0 : e.Kind = kE := beq_iff_eq.1 hk
        have hm : (e.Kind == jr) = false := by rw [hk0]; decide
        have hb := S.other hm
        simp only [hk, Bool.not_true, Bool.false_eq_true, if_false, if_true, Option.bind_some]
        cases hq : bat l n with
        | none =>
          rw [hq] at hb
          have hh : zX st.register.Slings n = false := by
            cases hh : zX st.register.Slings n with
            | false => rfl
            | true =>
              obtain ⟨x, hx, _⟩ := qbt hh
              rw [qdu S.asc hh hx] at hb
              cases hb
          have := keep (hb.trans hq.symm)
          by_cases hn : (n0 == sF) = true
          · simpa [hn, hh] using this
          · simpa [hn, hh] using this
        | some b =>
          rw [hq] at hb
          have hbF : b = sF := by
            obtain ⟨d', l', f1, f2⟩ := qey h hi hc hN hM n b (c.length - j) j (by omega) d l hr ha hl hq
            exact hF d' l' b f1 f2
          have hh : zX st.register.Slings n = true := by
            cases hh : zX st.register.Slings n with
            | true => rfl
            | false => rw [qfX S.asc hh] at hb; cases hb
          subst hbF
          by_cases hn : (n0 == b) = true
          · have := put (.inr ⟨hk, beq_iff_eq.1 hn⟩) (by rw [hb]; simp) (fun h => by rw [hq] at h; cases h)
            simpa [hn, hh] using this
          · have := keep (hb.trans hq.symm)
            simpa [hn, hh] using this
      · simp only [hk, Bool.not_false, Bool.false_eq_true, if_false, if_true, Option.bind_some]
        have hk' : (e.Kind == kE) = false := by
          cases hq : e.Kind == kE with
          | false => rfl
          | true => exact absurd hq hk
        by_cases hn : (n0 == n) = true
        · have hn' : n0 = n := beq_iff_eq.1 hn
          have : bat st.register.Slings n ≠ none ∧ (bat l n = none → (e.Kind == jr) = true) := by
            cases hm : e.Kind == jr with
            | false =>
              have hh := S.old hm hk'
              rw [hn'] at hh
              obtain ⟨x, hx, _⟩ := qbt hh
              have hb := qdu ha hh hx
              exact ⟨by rw [S.other hm, hb]; simp, fun h => by rw [hb] at h; cases h⟩
            | true =>
              obtain ⟨b, r0, r1, r2, _⟩ := S.make hm
              exact ⟨by rw [(r2 hn').2]; simp, fun _ => rfl⟩
          have := put (.inl hn') this.1 this.2
          simpa [hn] using this
        · have hn' : n0 ≠ n := fun e => hn (beq_iff_eq.2 e)
          have hb : bat st.register.Slings n = bat l n := by
            cases hm : e.Kind == jr with
            | false => exact S.other hm
            | true => obtain ⟨b, _, _, _, r3⟩ := S.make hm; exact r3 hn'
          have := keep hb
          simpa [hn] using this
    · rw [if_neg (by omega)]
      refine ⟨acc, rfl, hP, by omega, fun d' l' h1 h2 => ?_⟩
      rw [show j = c.length by omega, List.take_length, h1] at hr
      injection hr with hr
      injection hr with _ hr
      subst hr
      exact hM1 h2
theorem qeI {N : Nat} {L c : List ql} {ss : List StateT} (h : Rel N c ss) (hi : qbJ N L c) (hc : c.length ≤ 1000) (hN : 2000 < N) (hM : N < 4611686018427387904) (n : Str) : ∀ (j : Nat), j ≤ c.length → ∃ d l, qar N (c.take j) = some ⟨d, l⟩ ∧ Asc l ∧ l.length ≤ j ∧ (bat l n ≠ none → jN n = true)
  | 0, _ => ⟨0, [], rfl, List.Pairwise.nil, by simp, fun h => absurd rfl h⟩
  | j + 1, hj => by
    obtain ⟨d, l, h1, h2, h3, h4⟩ := qeI h hi hc hN hM n j (by omega)
    obtain ⟨e, st, i, n0, S⟩ := qe6 h hi hc hN hM n (show j < c.length by omega) h1 h2 h3
    refine ⟨_, _, S.reg, S.asc, S.len, fun hb => ?_⟩
    cases hm : e.Kind == jr with
    | false => rw [S.other hm] at hb; exact h4 hb
    | true =>
      obtain ⟨b, _, _, _, r3⟩ := S.make hm
      by_cases hn : n0 = n
      · rw [← hn]; exact S.good
      · rw [r3 hn] at hb; exact h4 hb
def nmE (n : Str) : Int := if jN n = true then 0 else 8
theorem qbY {N : Nat} {l : List ql} (hE : Evs N l) {o' : Option (List StateT)} {c : List ql} (hr : Rel N c (hof o')) (hc : c.length ≤ 1000) {d : Int} {s : List qf} (hreg : ko N c = some ⟨d, s⟩) (hs : s.length ≤ 1000) (g1 : kg N l = some (l, o', true, 0, 0)) {n : Str} (hn : n.length < N) (a : Int) :
    (qN [nmE n, a] ≠ 0 → kX N l n a = some ([], none, false, [], [], 0, 0, 0, 0, 0, 0, false, qN [nmE n, a])) ∧
    (qN [nmE n, a] = 0 → zX s n = false → kX N l n a = some ([], none, false, [], [], 0, 0, 0, 0, 0, 0, false, 10)) ∧
    (qN [nmE n, a] = 0 → zX s n = true → ∀ x, s[zT s n]? = some x → ∃ o3, hof o3 = hof o' ∧ kX N l n a = some (l, o3, true, x.Name, x.Batch, x.Born, x.Last, x.Uses, x.Used, x.Limit, x.Until, x.Gone, 0)) := by
  have hN := hE.big
  obtain ⟨o2, d2, s2, f1, f2, f3, _, _⟩ := zO (evs := l) hr hc hN
  rw [hreg] at f3
  injection f3 with f3
  injection f3 with fd fs
  subst fd fs
  obtain ⟨o3, d3, s3, k1, k2, k3, _, _⟩ := zO (evs := l) (o := o2) (f2 ▸ hr) hc hN
  rw [hreg] at k3
  injection k3 with k3
  injection k3 with kd ks
  subst kd ks
  have e0 : qN [0, if jN n = true then 0 else 8, a] = qN [nmE n, a] := rfl
  have key : kX N l n a = kX N l n a := rfl
  conv at key => rhs; unfold kX
  rw [g1, Option.bind_some] at key
  simp only [qdF hn, Option.bind_some] at key
  rw [vH (by simp) (by simp; omega), Option.bind_some, e0] at key
  refine ⟨fun h => ?_, fun h hh => ?_, fun h hh x hx => ⟨o3, k2.trans f2, ?_⟩⟩
  · rw [key, if_pos (by simp [h])]
  · rw [key, if_neg (by simp [h])]
    simp only [f1, Option.bind_some, qcA (show s.length < 4611686018427387904 by omega) (show s.length < N by omega), hh, Bool.not_false, if_true]
  · rw [key, if_neg (by simp [h])]
    simp only [f1, Option.bind_some, qcA (show s.length < 4611686018427387904 by omega) (show s.length < N by omega), hh, Bool.not_true, Bool.false_eq_true, if_false, k1, qO, hx]
end Go.Av
