/-
  Chapter 10: the law of slings, plain: the history of a sling.
-/
import Derived.Test.YtjflombnfhlkaaaGreatDoorPlS9
noncomputable section
namespace Go.Av
set_option linter.unusedSimpArgs false
set_option linter.unusedVariables false
theorem qeq {e : qm} (h : jB e = 0) : ∀ s ∈ e.Names, s ≠ [] := by
  unfold jB at h
  by_cases h1 : ji e.Number 1 1000 = true
  · rw [if_pos h1] at h; cases h
  rw [if_neg h1] at h
  by_cases h2 : (ve e.Kind).2.2 = false
  · rw [if_pos h2] at h; cases h
  rw [if_neg h2] at h
  by_cases h3 : ((e.Names.length : Int) = (ve e.Kind).1 ∧ (e.Values.length : Int) = (ve e.Kind).2.1)
  · rw [if_neg (by simpa using h3)] at h
    by_cases h4 : e.Names.all vQ = false
    · rw [if_pos h4] at h; cases h
    have h4 : e.Names.all vQ = true := by simpa using h4
    intro s hs hq
    have := List.all_eq_true.1 h4 s hs
    rw [hq] at this
    exact absurd this (by decide)
  · rw [if_pos h3] at h; cases h
structure qjv (N : Nat) (L c : List qm) (ss : List StateT) (n : Str) (j : Nat) (l : List qh) (e : qm) (st : StateT) (i : Nat) (n0 : Str) : Prop where
  ev : c[j]? = some e
  state : ss[j]? = some st
  snum : st.number = ((i + 1 : Nat) : Int)
  enum : e.Number = ((i + 1 : Nat) : Int)
  at_ : L[i]? = some e
  reg : qbd N (c.take (j + 1)) = some ⟨st.register.Day, st.register.Slings⟩
  asc : Asc st.register.Slings
  len : st.register.Slings.length ≤ j + 1
  name : e.Names[0]? = some n0
  make : (e.Kind == jA) = true → ∃ b, e.Names[1]? = some b ∧ b ≠ [] ∧ (n0 = n → bat l n = none ∧ bat st.register.Slings n = some b) ∧ (n0 ≠ n → bat st.register.Slings n = bat l n)
  other : (e.Kind == jA) = false → bat st.register.Slings n = bat l n
theorem qgh {N : Nat} {L c : List qm} {ss : List StateT} (h : Rel N c ss) (hi : qcd N L c) (hc : c.length ≤ 1000) (hN : 2000 < N) (hM : N < 4611686018427387904) (n : Str) {j : Nat} (hj : j < c.length) {d : Int} {l : List qh} (hr : qbd N (c.take j) = some ⟨d, l⟩) (ha : Asc l) (hl : l.length ≤ j) :
    ∃ e st i n0, qjv N L c ss n j l e st i n0 := by
  have hlen := h.len
  have hjs : j < ss.length := by omega
  have he : c[j]? = some c[j] := List.getElem?_eq_getElem hj
  have hst : ss[j]? = some ss[j] := List.getElem?_eq_getElem hjs
  obtain ⟨a1, a2, a3, a4⟩ := h.at_ j _ _ hst he
  obtain ⟨b1, b2, ⟨i, b3, b4⟩, b5⟩ := hi j _ he
  generalize c[j] = e at *
  generalize ss[j] = st at *
  have hv := qam b1
  have hok : yA N l := ⟨ha, by omega, hN, hM⟩
  obtain ⟨err, _, _, _, hR, _⟩ := qeN (d := d) hok hv b2
  rw [xH (by rw [List.length_take]; omega) hN, hr, Option.bind_some, hR.ref, Option.getD_some] at b5
  have h0 : kC N ⟨d, l⟩ e = some 0 := by rw [hR.ref, b5]
  obtain ⟨day, new, q1, n0, q2, q3, q4⟩ := qh8 hok hv b2 h0 n
  have ht : c.take (j + 1) = c.take j ++ [e] := by rw [List.take_add_one, he]; rfl
  have hnew : st.register.Slings = new := by
    rw [ht, qd6, hr, Option.bind_some, q1] at a2
    injection a2 with a2
    injection a2 with _ a2
    exact a2.symm
  refine ⟨e, st, i, n0, he, hst, a1.trans b3, b3, b4, a2, a3, a4, q2, fun hk => ?_, fun hk => ?_⟩
  · obtain ⟨b, r1, r2, r3⟩ := q3 hk
    rw [hnew]
    exact ⟨b, r1, qeq b1 b (List.mem_of_getElem? r1), r2, r3⟩
  · rw [hnew]
    exact q4 hk
theorem qee {N : Nat} {L c : List qm} {ss : List StateT} (h : Rel N c ss) (hi : qcd N L c) (hc : c.length ≤ 1000) (hN : 2000 < N) (hM : N < 4611686018427387904) (n b : Str) : ∀ (m j : Nat), j + m = c.length → ∀ (d : Int) (l : List qh), qbd N (c.take j) = some ⟨d, l⟩ → Asc l → l.length ≤ j → bat l n = some b → ∃ d' l', qbd N c = some ⟨d', l'⟩ ∧ bat l' n = some b
  | 0, j, hj, d, l, hr, _, _, hb => by
    rw [show j = c.length by omega, List.take_length] at hr
    exact ⟨d, l, hr, hb⟩
  | m + 1, j, hj, d, l, hr, ha, hl, hb => by
    obtain ⟨e, st, i, n0, S⟩ := qgh h hi hc hN hM n (show j < c.length by omega) hr ha hl
    refine qee h hi hc hN hM n b m (j + 1) (by omega) _ _ S.reg S.asc S.len ?_
    cases hk : e.Kind == jA with
    | false => rw [S.other hk, hb]
    | true =>
      obtain ⟨b', _, _, r1, r2⟩ := S.make hk
      by_cases hn : n0 = n
      · rw [(r1 hn).1] at hb; cases hb
      · rw [r2 hn, hb]
theorem qgj {N : Nat} {L c : List qm} {ss : List StateT} (h : Rel N c ss) (hi : qcd N L c) (hc : c.length ≤ 1000) (hL : L.length ≤ 1000) (hN : 2000 < N) (hM : N < 4611686018427387904) (n sF : Str) (hF : ∀ d' l' b, qbd N c = some ⟨d', l'⟩ → bat l' n = some b → b = sF) :
    ∀ (K j : Nat) (acc : List Int) (d : Int) (l : List qh), j ≤ c.length → c.length < K + j → qbd N (c.take j) = some ⟨d, l⟩ → Asc l → l.length ≤ j → (∀ b, bat l n = some b → b ≠ []) → acc.length ≤ j →
      ∃ out, qV N n L sF ss (ss.length : Int) K acc (j : Int) = some out ∧ zn n (c, 0, 0) K acc (j : Int) ((bat l n).getD []) = some out ∧ out.length ≤ 1000
  | 0, j, _, _, _, h1, h2, _, _, _, _, _ => by omega
  | K + 1, j, acc, d, l, hj1, hK, hr, ha, hl, hne, hacc => by
    have hlen := h.len
    unfold qV zn
    by_cases hj : j < c.length
    · obtain ⟨e, st, i, n0, S⟩ := qgh h hi hc hN hM n hj hr ha hl
      have hiL : i < L.length := (List.getElem?_eq_some_iff.1 S.at_).1
      have happ : app 8 acc [e.Number] = some (acc ++ [e.Number]) := vV (by simp; omega) (by simp; omega)
      have hfind : qX N (⟨st.register.Day, st.register.Slings⟩ : zA) n = some ((zH st.register.Slings n : Int), zV st.register.Slings n) := qbY (by have := S.len; omega) (by have := S.len; omega) _ _
      have hnum : st.number = e.Number := S.snum.trans S.enum.symm
      have hw : w64 (e.Number - 1) = ((i : Nat) : Int) := by rw [S.enum, qeI (by omega) (by omega)]; rfl
      have go := fun (acc' : List Int) (ha' : acc'.length ≤ j + 1) (hne' : ∀ b, bat st.register.Slings n = some b → b ≠ []) => qgj h hi hc hL hN hM n sF hF K (j + 1) acc' _ _ (by omega) (by omega) S.reg S.asc S.len hne' ha'
      rw [if_pos (by omega), if_pos (show (j : Int) < (c.length : Int) by omega), ku, S.state, Option.bind_some, hnum, hw, ku, S.at_, Option.bind_some]
      rw [show idx (c, (0 : Int), (0 : Int)).1 (j : Int) = some e from (ku c j).trans S.ev, Option.bind_some, zP (by omega)]
      simp only [yB, qbl, S.name, Option.bind_some, happ, hfind]
      by_cases hk : (e.Kind == [114, 101, 99, 97, 108, 108]) = true
      · have hk0 : e.Kind = zl := beq_iff_eq.1 hk
        have hm : (e.Kind == jA) = false := by rw [hk0]; decide
        have hb := S.other hm
        simp only [hk, Bool.not_true, Bool.false_eq_true, if_false, if_true, Option.bind_some]
        cases hq : bat l n with
        | none =>
          rw [hq] at hb
          have hh : zV st.register.Slings n = false := by
            cases hh : zV st.register.Slings n with
            | false => rfl
            | true =>
              obtain ⟨x, hx, _⟩ := qa3 hh
              rw [qgi S.asc hh hx] at hb
              cases hb
          have := go acc (by omega) (fun b hb' => by rw [hb] at hb'; cases hb')
          rw [hb] at this
          by_cases hn : (n0 == sF) = true
          · simpa [hn, hh] using this
          · simpa [hn, hh] using this
        | some b =>
          rw [hq] at hb
          have hbF : b = sF := by
            obtain ⟨d', l', f1, f2⟩ := qee h hi hc hN hM n b (c.length - j) j (by omega) d l hr ha hl hq
            exact hF d' l' b f1 f2
          have hb0 := hne b hq
          have hh : zV st.register.Slings n = true := by
            cases hh : zV st.register.Slings n with
            | true => rfl
            | false => rw [qfa S.asc hh] at hb; cases hb
          subst hbF
          have hbe : (b == ([] : Str)) = false := by cases b with | nil => exact absurd rfl hb0 | cons => rfl
          simp only [Option.getD_some, hbe, Bool.not_false, if_true, Option.bind_some]
          by_cases hn : (n0 == b) = true
          · have := go (acc ++ [e.Number]) (by simp; omega) (fun b' hb' => by rw [hb] at hb'; injection hb' with hb'; rw [← hb']; exact hb0)
            rw [hb] at this
            simpa [hn, hh] using this
          · have := go acc (by omega) (fun b' hb' => by rw [hb] at hb'; injection hb' with hb'; rw [← hb']; exact hb0)
            rw [hb] at this
            simpa [hn, hh] using this
      · simp only [hk, Bool.not_false, Bool.false_eq_true, if_false, if_true, Option.bind_some]
        have hkm : (e.Kind == [109, 97, 107, 101]) = (e.Kind == jA) := rfl
        rw [hkm]
        by_cases hn : (n0 == n) = true
        · have hn' : n0 = n := beq_iff_eq.1 hn
          cases hm : e.Kind == jA with
          | false =>
            have hb := S.other hm
            have := go (acc ++ [e.Number]) (by simp; omega) (fun b' hb' => hne b' (hb ▸ hb'))
            rw [hb] at this
            simpa [hn] using this
          | true =>
            obtain ⟨b, r0, r1, r2, _⟩ := S.make hm
            have hb := (r2 hn').2
            have := go (acc ++ [e.Number]) (by simp; omega) (fun b' hb' => by rw [hb] at hb'; injection hb' with hb'; rw [← hb']; exact r1)
            rw [hb] at this
            simpa [hn, r0] using this
        · have hn' : n0 ≠ n := fun e => hn (beq_iff_eq.2 e)
          have hb : bat st.register.Slings n = bat l n := by
            cases hm : e.Kind == jA with
            | false => exact S.other hm
            | true => obtain ⟨b, _, _, _, r3⟩ := S.make hm; exact r3 hn'
          have := go acc (by omega) (fun b' hb' => hne b' (hb ▸ hb'))
          rw [hb] at this
          simpa [hn] using this
    · rw [if_neg (by omega), if_neg (show ¬ (j : Int) < (c.length : Int) by omega)]
      exact ⟨acc, rfl, rfl, by omega⟩
end Go.Av
