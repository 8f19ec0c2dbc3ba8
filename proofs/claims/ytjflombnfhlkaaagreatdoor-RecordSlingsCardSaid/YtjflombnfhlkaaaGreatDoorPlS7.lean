/-
  Chapter 10: the story of events, and those that count.
-/
import Derived.Test.YtjflombnfhlkaaaGreatDoorPlS6
noncomputable section
namespace Go.Av
set_option linter.unusedSimpArgs false
set_option linter.unusedVariables false
def qbd (N : Nat) (c : List qm) : Option qC := c.foldlM (fun r e => ze N r e) ⟨0, []⟩
theorem qcD {N : Nat} (c : List qm) (hc : c.length ≤ 1000) : ∀ (K k : Nat) (d : Int) (l : List qh), k ≤ c.length → c.length < K + k → kP N c K d l (k : Int) = ((c.drop k).foldlM (fun r e => ze N r e) (⟨d, l⟩ : qC)).map fun r => (r.Day, r.Slings)
  | 0, k, d, l, h, hK => by omega
  | K + 1, k, d, l, h, hK => by
    unfold kP
    by_cases hk : k < c.length
    · rw [if_pos (by omega), ku, List.getElem?_eq_getElem hk, Option.bind_some, List.drop_eq_getElem_cons hk, List.foldlM_cons, zP (by omega)]
      cases ze N ⟨d, l⟩ c[k] with
      | none => rfl
      | some r =>
        simp only [Option.bind_some]
        rw [qcD c hc K (k + 1) _ _ (by omega) (by omega)]
        rfl
    · rw [if_neg (by omega), List.drop_of_length_le (by omega)]
      rfl
theorem xH {N : Nat} {c : List qm} (hc : c.length ≤ 1000) (hN : 2000 < N) : qW N c = qbd N c := by
  unfold qW
  rw [show kP N c N 0 [] 0 = kP N c N 0 [] ((0 : Nat) : Int) from rfl, qcD c hc N 0 0 [] (by omega) (by omega), List.drop_zero]
  unfold qbd
  cases c.foldlM (fun r e => ze N r e) (⟨0, []⟩ : qC) <;> rfl
theorem qd6 (N : Nat) (c : List qm) (e : qm) : qbd N (c ++ [e]) = (qbd N c).bind fun r => ze N r e := by
  unfold qbd
  rw [List.foldlM_append]
  cases c.foldlM (fun r e => ze N r e) (⟨0, []⟩ : qC) with
  | none => rfl
  | some r => simp [List.foldlM]
structure Rel (N : Nat) (c : List qm) (ss : List StateT) : Prop where
  len : ss.length = c.length
  at_ : ∀ (j : Nat) (s : StateT) (e : qm), ss[j]? = some s → c[j]? = some e → s.number = e.Number ∧ qbd N (c.take (j + 1)) = some ⟨s.register.Day, s.register.Slings⟩ ∧ Asc s.register.Slings ∧ s.register.Slings.length ≤ j + 1
theorem Rel.nil (N : Nat) : Rel N [] [] := ⟨rfl, by simp⟩
theorem Rel.last {N : Nat} {c : List qm} {ss : List StateT} (h : Rel N c ss) : (ss = [] ∧ c = []) ∨ ∃ s, ss[ss.length - 1]? = some s ∧ 0 < ss.length ∧ qbd N c = some ⟨s.register.Day, s.register.Slings⟩ ∧ Asc s.register.Slings ∧ s.register.Slings.length ≤ c.length := by
  rcases Nat.eq_zero_or_pos ss.length with h0 | h0
  · have h1 := h.len
    exact .inl ⟨List.length_eq_zero_iff.1 h0, List.length_eq_zero_iff.1 (by omega)⟩
  · have hlt : ss.length - 1 < ss.length := by omega
    have hlc : ss.length - 1 < c.length := by have := h.len; omega
    obtain ⟨_, h2, h3, h4⟩ := h.at_ _ _ _ (List.getElem?_eq_getElem hlt) (List.getElem?_eq_getElem hlc)
    rw [show ss.length - 1 + 1 = c.length by have := h.len; omega, List.take_length] at h2
    exact .inr ⟨_, List.getElem?_eq_getElem hlt, h0, h2, h3, by omega⟩
theorem Rel.pop {N : Nat} {c : List qm} {ss : List StateT} (h : Rel N c ss) : Rel N c.dropLast (ss.take (ss.length - 1)) := by
  refine ⟨by rw [List.length_take, List.length_dropLast, h.len]; omega, fun j s e hs he => ?_⟩
  rw [List.getElem?_take] at hs
  rw [List.getElem?_dropLast] at he
  split at hs
  · rename_i hj
    split at he
    · rename_i hj2
      obtain ⟨h1, h2, h3, h4⟩ := h.at_ j s e hs he
      refine ⟨h1, ?_, h3, h4⟩
      rw [List.dropLast_eq_take, List.take_take, Nat.min_eq_left (by omega)]
      exact h2
    · cases he
  · cases hs
theorem Rel.push {N : Nat} {c : List qm} {ss : List StateT} (h : Rel N c ss) {e : qm} {d : Int} {l : List qh} (hr : qbd N (c ++ [e]) = some ⟨d, l⟩) (ha : Asc l) (hl : l.length ≤ c.length + 1) : Rel N (c ++ [e]) (ss ++ [⟨e.Number, ⟨d, l⟩⟩]) := by
  have hlen := h.len
  refine ⟨by simp [hlen], fun j s e' hs he => ?_⟩
  rcases Nat.lt_or_ge j ss.length with hj | hj
  · rw [List.getElem?_append_left hj] at hs
    rw [List.getElem?_append_left (by omega)] at he
    obtain ⟨h1, h2, h3, h4⟩ := h.at_ j s e' hs he
    refine ⟨h1, ?_, h3, h4⟩
    rw [List.take_append_of_le_length (by omega)]
    exact h2
  · rw [List.getElem?_append_right hj] at hs
    rw [List.getElem?_append_right (by omega)] at he
    have hj0 : j - ss.length = 0 := by
      have := (List.getElem?_eq_some_iff.1 hs).1
      simp at this
      omega
    rw [hj0] at hs
    rw [show j - c.length = 0 by omega] at he
    simp only [List.getElem?_cons_zero, Option.some.injEq] at hs he
    subst hs he
    refine ⟨rfl, ?_, ha, by simp only; omega⟩
    rw [List.take_of_length_le (by simp; omega)]
    exact hr
def xB (N : Nat) (c : List qm) (k : Nat) (e : qm) : Int :=
  if jB e ≠ 0 then jB e else if e.Number ≠ ((k + 1 : Nat) : Int) then 11 else if (e.Kind == yU) = true then (if c = [] then 12 else 0) else ((qW N c).bind fun r => kC N r e).getD 0
def qch (c : List qm) (e : qm) : List qm := if (e.Kind == yU) = true then c.dropLast else c ++ [e]
structure Pre (N : Nat) (c : List qm) (ss : List StateT) (k : Nat) (e : qm) : Prop where
  rel : Rel N c ss
  ck : c.length ≤ k
  k1 : k < 1000
  big : 2000 < N
  max : N < 4611686018427387904
  short : qbE N e
theorem jO {evs : List qm} {o : Option (List StateT)} {N : Nat} {c : List qm} (h : Rel N c (hof o)) (hc : c.length ≤ 1000) (hN : 2000 < N) : ∃ o' d l, qG evs o = some (o', d, l) ∧ hof o' = hof o ∧ qW N c = some ⟨d, l⟩ ∧ Asc l ∧ l.length ≤ c.length := by
  rw [xH hc hN]
  rcases h.last with ⟨h1, rfl⟩ | ⟨s, h1, h2, h3, h4, h5⟩
  · cases o with
    | none => exact ⟨none, 0, [], by simp [qG], rfl, rfl, List.Pairwise.nil, by simp⟩
    | some l =>
      have : l = [] := h1
      subst this
      exact ⟨some [], 0, [], by simp [qG], rfl, rfl, List.Pairwise.nil, by simp⟩
  · cases o with
    | none => simp [hof] at h2
    | some l =>
      have h1 : l[l.length - 1]? = some s := h1
      have h2 : 0 < l.length := h2
      have hlen : l.length = c.length := h.len
      refine ⟨some l, s.register.Day, s.register.Slings, ?_, rfl, h3, h4, h5⟩
      have : ¬ ((l.length : Int) = 0) := by omega
      simp only [qG, this, decide_false, Option.bind_some, Bool.false_eq_true, if_false]
      rw [qeI (by omega) h2, ku, h1]
      rfl
theorem qdE {e : qm} (hn : e.Names.length ≤ 1000) (hv : e.Values.length ≤ 1000) : zm e = some e := by
  have e1 : slices_Clone_string e.Names = some e.Names := by
    cases hq : e.Names with
    | nil =>
      simp only [slices_Clone_string, jy, qek]
      rw [vV (by simp) (by simp)]
      simp
    | cons x xs =>
      rw [hq] at hn
      simp only [slices_Clone_string, jw]
      rw [vV (by simp only [List.length_nil]; omega) (by simp only [List.length_nil]; omega)]
      rfl
  have e2 : slices_Clone_int e.Values = some e.Values := by
    cases hq : e.Values with
    | nil =>
      simp only [slices_Clone_int, j4, qek]
      rw [vV (by simp) (by simp)]
      simp
    | cons x xs =>
      rw [hq] at hv
      simp only [slices_Clone_int, j5]
      rw [vV (by simp only [List.length_nil]; omega) (by simp only [List.length_nil]; omega)]
      rfl
  unfold zm
  rw [e1, e2]
  rfl
theorem qgR {N : Nat} {c : List qm} {k : Nat} {e : qm} {evs : List qm} {o : Option (List StateT)} (h : Pre N c (hof o) k e) (hk : evs.length = k) (hc : jB e = 0) :
    ∃ evs' o', zw N evs o e.Number e.Kind e.Names e.Values e.Text = some (evs', o', xB N c k e) ∧ (xB N c k e = 0 → evs' = evs ++ [e] ∧ Rel N (qch c e) (hof o') ∧ (qch c e).length ≤ k + 1) := by
  obtain ⟨hrel, hck, hk1, hN, hM, hs⟩ := h
  have hv := qam hc
  have hlen : (e.Names.length ≤ 3) ∧ (e.Values.length ≤ 3) := by
    have h1 := hv.names
    have h2 := hv.values
    have h3 : (ve e.Kind).1 ≤ 2 ∧ (ve e.Kind).2.1 ≤ 3 := by
      unfold ve
      repeat' split
      all_goals decide
    omega
  have hcopy : zm (⟨e.Number, e.Kind, e.Names, e.Values, e.Text⟩ : qm) = some e := qdE (e := e) (by omega) (by omega)
  have happ : app 88 evs [e] = some (evs ++ [e]) := vV (by simp; omega) (by simp; omega)
  unfold zw
  have hw : w64 ((evs.length : Int) + 1) = ((k + 1 : Nat) : Int) := by rw [zP (by omega), hk]
  rw [hw]
  rw [show ([117, 110, 100, 111] : Str) = yU from rfl]
  have c0 : (jB e ≠ 0) = False := by simp [hc]
  unfold xB
  simp only [c0, if_false]
  by_cases h1 : e.Number = ((k + 1 : Nat) : Int)
  · have c1 : ((!decide (e.Number = ((k + 1 : Nat) : Int))) = true) = False := by simp [h1]
    have c2 : (e.Number ≠ ((k + 1 : Nat) : Int)) = False := by simp [h1]
    simp only [c1, c2, if_false]
    by_cases hu : (e.Kind == yU) = true
    · simp only [hu, if_true]
      cases o with
      | none =>
        have hc0 : c = [] := by have := hrel.len; simp [hof] at this; exact List.length_eq_zero_iff.1 this.symm
        rw [if_pos hc0]
        exact ⟨evs, none, by simp, fun h => by cases h⟩
      | some l =>
        have hl : l.length = c.length := hrel.len
        by_cases hl0 : l.length = 0
        · have hc0 : c = [] := List.length_eq_zero_iff.1 (by omega)
          rw [if_pos hc0]
          exact ⟨evs, some l, by simp [hl0], fun h => by cases h⟩
        · have hc0 : ¬ c = [] := fun e => hl0 (by rw [hl, e]; rfl)
          rw [if_neg hc0]
          have : ¬ ((l.length : Int) = 0) := by omega
          refine ⟨evs ++ [e], some (l.take (l.length - 1)), ?_, fun _ => ⟨rfl, ?_, ?_⟩⟩
          · simp only [this, decide_false, Option.bind_some, Bool.false_eq_true, if_false]
            rw [qeI (by omega) (by omega), qdD (by omega)]
            simp only [Option.bind_some]
            rw [hcopy, Option.bind_some, happ]
            rfl
          · unfold qch
            rw [if_pos hu]
            exact hrel.pop
          · unfold qch
            rw [if_pos hu, List.length_dropLast]
            omega
    · simp only [hu, if_false, Bool.false_eq_true]
      obtain ⟨o', d, l, e1, e2, e3, e4, e5⟩ := jO (evs := evs) hrel (by omega) hN
      obtain ⟨err, day, new, hP, hR, hA⟩ := qeN (d := d) (⟨e4, by omega, hN, hM⟩ : yA N l) hv (by simpa using hu)
      obtain ⟨x, l', hP1, hP2⟩ := hP
      rw [e1, Option.bind_some]
      simp only
      rw [hP1, Option.bind_some, e3, Option.bind_some, hR.ref, Option.getD_some]
      simp only
      by_cases h0 : err = 0
      · obtain ⟨rfl, rfl⟩ := hP2 h0
        rw [if_neg (by simp [h0])]
        obtain ⟨hA1, hA2⟩ := hA h0
        have hreg : qbd N (c ++ [e]) = some ⟨x, l'⟩ := by
          rw [qd6, ← xH (by omega) hN, e3, Option.bind_some]
          exact hR.aft h0
        have hrel' : Rel N (c ++ [e]) (hof o' ++ [⟨e.Number, ⟨x, l'⟩⟩]) := by
          rw [e2]
          exact hrel.push hreg hA1 (by omega)
        have hlo : (hof o').length ≤ 1000 := by rw [e2, hrel.len]; omega
        have fin : ∀ o2 : Option (List StateT), hof o2 = hof o' ++ [⟨e.Number, ⟨x, l'⟩⟩] → err = 0 → (evs ++ [e] = evs ++ [e] ∧ Rel N (qch c e) (hof o2) ∧ (qch c e).length ≤ k + 1) := by
          intro o2 ho2 _
          unfold qch
          rw [if_neg hu, ho2]
          exact ⟨rfl, hrel', by simp; omega⟩
        cases o' with
        | none =>
          simp only [Option.bind_some]
          rw [hcopy, Option.bind_some, happ, Option.bind_some]
          exact ⟨_, _, by rw [h0], fin (some [⟨e.Number, ⟨x, l'⟩⟩]) rfl⟩
        | some l2 =>
          have hlo : l2.length ≤ 1000 := hlo
          simp only
          rw [vV (by simp; omega) (by simp; omega)]
          simp only [Option.bind_some]
          rw [hcopy, Option.bind_some, happ, Option.bind_some]
          exact ⟨_, _, by rw [h0], fin (some (l2 ++ [⟨e.Number, ⟨x, l'⟩⟩])) rfl⟩
      · rw [if_pos (by simp [h0])]
        exact ⟨evs, o', rfl, fun h => absurd h h0⟩
  · have c1 : ((!decide (e.Number = ((k + 1 : Nat) : Int))) = true) = True := by simp only [h1, decide_false, Bool.not_false]
    have c2 : (e.Number ≠ ((k + 1 : Nat) : Int)) = True := eq_true h1
    simp only [c1, c2, if_true]
    exact ⟨evs, o, rfl, fun h => by cases h⟩
theorem qhL {N : Nat} {c : List qm} {k : Nat} {e : qm} {evs : List qm} {o : Option (List StateT)} (h : Pre N c (hof o) k e) (hk : evs.length = k) :
    ∃ evs' o', je N evs o e.Number e.Kind e.Names e.Values e.Text = some (evs', o', xB N c k e) ∧ (xB N c k e = 0 → evs' = evs ++ [e] ∧ Rel N (qch c e) (hof o') ∧ (qch c e).length ≤ k + 1) := by
  unfold je
  have hN := h.big
  rw [show (⟨e.Number, e.Kind, e.Names, e.Values, e.Text⟩ : qm) = e from rfl, qdP h.max (by omega) h.short, Option.bind_some]
  by_cases hc : jB e = 0
  · rw [if_neg (by simp [hc])]
    obtain ⟨evs', o', h1, h2⟩ := qgR h hk hc
    rw [h1]
    exact ⟨evs', o', rfl, h2⟩
  · rw [if_pos (by simp [hc])]
    have : xB N c k e = jB e := by unfold xB; rw [if_pos hc]
    rw [this]
    exact ⟨evs, o, rfl, fun h => absurd h hc⟩
def jR (N : Nat) : List qm → Nat → List qm → Int × Int × List qm
  | [], _, c => (0, 0, c)
  | e :: es, k, c => if xB N c k e = 0 then jR N es (k + 1) (qch c e) else (((k + 1 : Nat) : Int), xB N c k e, [])
theorem qd0 {N : Nat} (hN : 2000 < N) (hM : N < 4611686018427387904) {l : List qm} (hl : l.length ≤ 1000) (hs : ∀ e ∈ l, qbE N e) : ∀ (K k : Nat) (c : List qm) (o : Option (List StateT)), k ≤ l.length → l.length < K + k → Rel N c (hof o) → c.length ≤ k →
    (((jR N (l.drop k) k c).2.1 ≠ 0 ∧ qP N l K (l.take k) o (k : Int) = some (.inr ([], none, false, (jR N (l.drop k) k c).1, (jR N (l.drop k) k c).2.1))) ∨
    ((jR N (l.drop k) k c).2.1 = 0 ∧ ∃ o', qP N l K (l.take k) o (k : Int) = some (.inl (l, o')) ∧ Rel N (jR N (l.drop k) k c).2.2 (hof o') ∧ (jR N (l.drop k) k c).2.2.length ≤ l.length))
  | 0, k, c, o, h, hK, _, _ => by omega
  | K + 1, k, c, o, h, hK, hr, hc => by
    unfold qP
    by_cases hk : k < l.length
    · rw [if_pos (by omega), ku, List.getElem?_eq_getElem hk, Option.bind_some, zP (by omega), List.drop_eq_getElem_cons hk]
      unfold jR
      have pre : Pre N c (hof o) k l[k] := ⟨hr, hc, by omega, hN, hM, hs _ (List.getElem_mem hk)⟩
      obtain ⟨evs', o', h1, h2⟩ := qhL (evs := l.take k) pre (by rw [List.length_take]; omega)
      rw [h1, Option.bind_some]
      simp only
      by_cases h0 : xB N c k l[k] = 0
      · obtain ⟨rfl, g2, g3⟩ := h2 h0
        rw [if_neg (show ¬ ((!decide (xB N c k l[k] = 0)) = true) by simp [h0]), if_pos h0]
        have ht : l.take k ++ [l[k]] = l.take (k + 1) := by
          rw [List.take_add_one, List.getElem?_eq_getElem hk]; rfl
        rw [ht]
        exact qd0 hN hM hl hs K (k + 1) _ o' (by omega) (by omega) g2 g3
      · rw [if_pos (show ((!decide (xB N c k l[k] = 0)) = true) by simp [h0]), if_neg h0]
        exact .inl ⟨h0, rfl⟩
    · rw [if_neg (by omega), List.drop_of_length_le (by omega), List.take_of_length_le (by omega)]
      unfold jR
      exact .inr ⟨rfl, o, rfl, hr, by simp only; omega⟩
theorem qdg {N : Nat} (hN : 2000 < N) (hM : N < 4611686018427387904) {l : List qm} (hl : l.length ≤ 1000) (hs : ∀ e ∈ l, qbE N e) : ∀ (K k : Nat) (c : List qm) (ss : List StateT), k ≤ l.length → l.length < K + k → Rel N c ss → c.length ≤ k →
    kX N l K c (k : Int) = some (if (jR N (l.drop k) k c).2.1 = 0 then .inl (jR N (l.drop k) k c).2.2 else .inr ([], (jR N (l.drop k) k c).1, (jR N (l.drop k) k c).2.1))
  | 0, k, c, ss, h, hK, _, _ => by omega
  | K + 1, k, c, ss, h, hK, hr, hc => by
    unfold kX
    by_cases hk : k < l.length
    · have hsh := hs _ (List.getElem_mem hk)
      rw [if_pos (by omega), ku, List.getElem?_eq_getElem hk, Option.bind_some, qdN hM hsh, Option.bind_some, zP (by omega), List.drop_eq_getElem_cons hk]
      unfold jR
      generalize he : l[k] = e at *
      obtain ⟨o, rfl⟩ : ∃ o : Option (List StateT), hof o = ss := ⟨some ss, rfl⟩
      have pre : Pre N c (hof o) k e := ⟨hr, hc, by omega, hN, hM, hsh⟩
      obtain ⟨evs', o', _, h2⟩ := qhL (evs := l.take k) pre (by rw [List.length_take]; omega)
      have key : ((if jB e = 0 then some (!decide (e.Number = ((k + 1 : Nat) : Int))) else some false : Option Bool).bind fun b13 => ((if b13 = true then some 11 else some (jB e) : Option Int)).bind fun e_15 =>
          (if e_15 = 0 then if (e.Kind == [117, 110, 100, 111]) = true then some (decide ((c.length : Int) = 0)) else some false else some false : Option Bool).bind fun b20 => ((if b20 = true then some 12 else some e_15 : Option Int)).bind fun e_22 =>
          (if e_22 = 0 then some (!(e.Kind == [117, 110, 100, 111])) else some false : Option Bool).bind fun b26 => ((if b26 = true then (qW N c).bind fun r31 => (kC N r31 e).bind fun r32 => some r32 else some e_22 : Option Int))) = some (xB N c k e) := by
        unfold xB
        have hku : ([117, 110, 100, 111] : Str) = yU := rfl
        rw [hku]
        by_cases a1 : jB e = 0
        · by_cases a2 : e.Number = ((k + 1 : Nat) : Int)
          · by_cases a3 : (e.Kind == yU) = true
            · by_cases a4 : c = []
              · simp [a1, a2, a3, a4]
              · have : ¬ c.length = 0 := fun h => a4 (List.length_eq_zero_iff.1 h)
                simp [a1, a2, a3, a4, this]
            · obtain ⟨_, d, l2, _, _, e3, e4, e5⟩ := jO (evs := []) hr (by omega) hN
              obtain ⟨err, day, new, _, hR, _⟩ := qeN (d := d) (⟨e4, by omega, hN, hM⟩ : yA N l2) (qam a1) (by simpa using a3)
              simp [a1, a2, a3, e3, hR.ref]
          · have a2' : ¬ e.Number = (k : Int) + 1 := by simpa using a2
            simp [a1, a2']
        · simp [a1]
      have key2 : ∀ F : Int → Option (List qm ⊕ (List qm × Int × Int)), ((if jB e = 0 then some (!decide (e.Number = ((k + 1 : Nat) : Int))) else some false : Option Bool).bind fun b13 => ((if b13 = true then some 11 else some (jB e) : Option Int)).bind fun e_15 =>
          (if e_15 = 0 then if (e.Kind == [117, 110, 100, 111]) = true then some (decide ((c.length : Int) = 0)) else some false else some false : Option Bool).bind fun b20 => ((if b20 = true then some 12 else some e_15 : Option Int)).bind fun e_22 =>
          (if e_22 = 0 then some (!(e.Kind == [117, 110, 100, 111])) else some false : Option Bool).bind fun b26 => ((if b26 = true then (qW N c).bind fun r31 => (kC N r31 e).bind fun r32 => some r32 else some e_22 : Option Int)).bind F) = F (xB N c k e) := by
        intro F
        have := congrArg (fun x => Option.bind x F) key
        simp only [Option.bind_some, Option.bind_assoc] at this
        exact this
      rw [key2]
      by_cases h0 : xB N c k e = 0
      · obtain ⟨_, g2, g3⟩ := h2 h0
        rw [if_neg (show ¬ ((!decide (xB N c k e = 0)) = true) by simp [h0]), if_pos h0, ← qdg hN hM hl hs K (k + 1) _ (hof o') (by omega) (by omega) g2 g3]
        unfold qch
        by_cases hu : (e.Kind == yU) = true
        · have hu' : (e.Kind == [117, 110, 100, 111]) = true := hu
          rw [if_pos hu', if_pos hu]
          have hc0 : c ≠ [] := by
            intro hc0
            unfold xB at h0
            by_cases a1 : jB e = 0
            · rw [if_neg (by simp [a1])] at h0
              by_cases a2 : e.Number = ((k + 1 : Nat) : Int)
              · rw [if_neg (by simp [a2]), if_pos hu, if_pos hc0] at h0; cases h0
              · rw [if_pos a2] at h0; cases h0
            · rw [if_pos a1] at h0; exact a1 h0
          have hcl : 0 < c.length := List.length_pos_iff.2 hc0
          rw [qeI (by omega) hcl, qdD (by omega), List.dropLast_eq_take]
          rfl
        · have hu' : ¬ (e.Kind == [117, 110, 100, 111]) = true := hu
          rw [if_neg hu', if_neg hu, vV (by simp; omega) (by simp; omega), Option.bind_some, vV (by simp; omega) (by simp; omega)]
          rfl
      · rw [if_pos (show ((!decide (xB N c k e = 0)) = true) by simp [h0]), if_neg h0]
        simp [h0]
    · rw [if_neg (by omega), List.drop_of_length_le (by omega)]
      rfl
end Go.Av
