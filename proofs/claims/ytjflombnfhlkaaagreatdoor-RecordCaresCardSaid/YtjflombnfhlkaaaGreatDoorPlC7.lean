/-
  Chapter 10: the story of events, and those that count.
-/
import Derived.Test.YtjflombnfhlkaaaGreatDoorPlC6
noncomputable section
namespace Go.Av
set_option linter.unusedSimpArgs false
set_option linter.unusedVariables false
def qar (N : Nat) (c : List ql) : Option qI := c.foldlM (fun r e => zA N r e) ⟨0, []⟩
theorem qc7 {N : Nat} (c : List ql) (hc : c.length ≤ 1000) : ∀ (K k : Nat) (d : Int) (l : List qf), k ≤ c.length → c.length < K + k → ze N c K d l (k : Int) = ((c.drop k).foldlM (fun r e => zA N r e) (⟨d, l⟩ : qI)).map fun r => (r.Day, r.Slings)
  | 0, k, d, l, h, hK => by omega
  | K + 1, k, d, l, h, hK => by
    unfold ze
    by_cases hk : k < c.length
    · rw [if_pos (by omega), qO, List.getElem?_eq_getElem hk, Option.bind_some, List.drop_eq_getElem_cons hk, List.foldlM_cons, zm (by omega)]
      cases zA N ⟨d, l⟩ c[k] with
      | none => rfl
      | some r =>
        simp only [Option.bind_some]
        rw [qc7 c hc K (k + 1) _ _ (by omega) (by omega)]
        rfl
    · rw [if_neg (by omega), List.drop_of_length_le (by omega)]
      rfl
theorem vo {N : Nat} {c : List ql} (hc : c.length ≤ 1000) (hN : 2000 < N) : ko N c = qar N c := by
  unfold ko
  rw [show ze N c N 0 [] 0 = ze N c N 0 [] ((0 : Nat) : Int) from rfl, qc7 c hc N 0 0 [] (by omega) (by omega), List.drop_zero]
  unfold qar
  cases c.foldlM (fun r e => zA N r e) (⟨0, []⟩ : qI) <;> rfl
theorem qcL (N : Nat) (c : List ql) (e : ql) : qar N (c ++ [e]) = (qar N c).bind fun r => zA N r e := by
  unfold qar
  rw [List.foldlM_append]
  cases c.foldlM (fun r e => zA N r e) (⟨0, []⟩ : qI) with
  | none => rfl
  | some r => simp [List.foldlM]
structure Rel (N : Nat) (c : List ql) (ss : List StateT) : Prop where
  len : ss.length = c.length
  at_ : ∀ (j : Nat) (s : StateT) (e : ql), ss[j]? = some s → c[j]? = some e → s.number = e.Number ∧ qar N (c.take (j + 1)) = some ⟨s.register.Day, s.register.Slings⟩ ∧ Asc s.register.Slings ∧ s.register.Slings.length ≤ j + 1
theorem Rel.nil (N : Nat) : Rel N [] [] := ⟨rfl, by simp⟩
theorem Rel.last {N : Nat} {c : List ql} {ss : List StateT} (h : Rel N c ss) : (ss = [] ∧ c = []) ∨ ∃ s, ss[ss.length - 1]? = some s ∧ 0 < ss.length ∧ qar N c = some ⟨s.register.Day, s.register.Slings⟩ ∧ Asc s.register.Slings ∧ s.register.Slings.length ≤ c.length := by
  rcases Nat.eq_zero_or_pos ss.length with h0 | h0
  · have h1 := h.len
    exact .inl ⟨List.length_eq_zero_iff.1 h0, List.length_eq_zero_iff.1 (by omega)⟩
  · have hlt : ss.length - 1 < ss.length := by omega
    have hlc : ss.length - 1 < c.length := by have := h.len; omega
    obtain ⟨_, h2, h3, h4⟩ := h.at_ _ _ _ (List.getElem?_eq_getElem hlt) (List.getElem?_eq_getElem hlc)
    rw [show ss.length - 1 + 1 = c.length by have := h.len; omega, List.take_length] at h2
    exact .inr ⟨_, List.getElem?_eq_getElem hlt, h0, h2, h3, by omega⟩
theorem Rel.pop {N : Nat} {c : List ql} {ss : List StateT} (h : Rel N c ss) : Rel N c.dropLast (ss.take (ss.length - 1)) := by
  refine ⟨by rw [List.length_take, List.length_dropLast, h.len]; omega, fun j s e hs he => ?_⟩
  rw [List.getElem?_take] at hs
  rw [List.getElem?_dropLast] at he
  split at hs
  · rename_i hj
    split at he
    · rename_i hj2
      obtain ⟨h1, h2, h3, h4⟩ := h.at_ j s e hs he
      refine ⟨h1, ?_, h3, h4⟩
      rw [List.dropLast_eq_take, List.take_take, Nat.min_eq_left (by omega)]
      exact h2
    · cases he
  · cases hs
theorem Rel.push {N : Nat} {c : List ql} {ss : List StateT} (h : Rel N c ss) {e : ql} {d : Int} {l : List qf} (hr : qar N (c ++ [e]) = some ⟨d, l⟩) (ha : Asc l) (hl : l.length ≤ c.length + 1) : Rel N (c ++ [e]) (ss ++ [⟨e.Number, ⟨d, l⟩⟩]) := by
  have hlen := h.len
  refine ⟨by simp [hlen], fun j s e' hs he => ?_⟩
  rcases Nat.lt_or_ge j ss.length with hj | hj
  · rw [List.getElem?_append_left hj] at hs
    rw [List.getElem?_append_left (by omega)] at he
    obtain ⟨h1, h2, h3, h4⟩ := h.at_ j s e' hs he
    refine ⟨h1, ?_, h3, h4⟩
    rw [List.take_append_of_le_length (by omega)]
    exact h2
  · rw [List.getElem?_append_right hj] at hs
    rw [List.getElem?_append_right (by omega)] at he
    have hj0 : j - ss.length = 0 := by
      have := (List.getElem?_eq_some_iff.1 hs).1
      simp at this
      omega
    rw [hj0] at hs
    rw [show j - c.length = 0 by omega] at he
    simp only [List.getElem?_cons_zero, Option.some.injEq] at hs he
    subst hs he
    refine ⟨rfl, ?_, ha, by simp only; omega⟩
    rw [List.take_of_length_le (by simp; omega)]
    exact hr
def yz (N : Nat) (c : List ql) (k : Nat) (e : ql) : Int :=
  if zS e ≠ 0 then zS e else if e.Number ≠ ((k + 1 : Nat) : Int) then 11 else if (e.Kind == xh) = true then (if c = [] then 12 else 0) else ((ko N c).bind fun r => kM N r e).getD 0
def qaM (c : List ql) (e : ql) : List ql := if (e.Kind == xh) = true then c.dropLast else c ++ [e]
structure Pre (N : Nat) (c : List ql) (ss : List StateT) (k : Nat) (e : ql) : Prop where
  rel : Rel N c ss
  ck : c.length ≤ k
  k1 : k < 1000
  big : 2000 < N
  max : N < 4611686018427387904
  short : qaJ N e
theorem zO {evs : List ql} {o : Option (List StateT)} {N : Nat} {c : List ql} (h : Rel N c (hof o)) (hc : c.length ≤ 1000) (hN : 2000 < N) : ∃ o' d l, qC evs o = some (o', d, l) ∧ hof o' = hof o ∧ ko N c = some ⟨d, l⟩ ∧ Asc l ∧ l.length ≤ c.length := by
  rw [vo hc hN]
  rcases h.last with ⟨h1, rfl⟩ | ⟨s, h1, h2, h3, h4, h5⟩
  · cases o with
    | none => exact ⟨none, 0, [], by simp [qC], rfl, rfl, List.Pairwise.nil, by simp⟩
    | some l =>
      have : l = [] := h1
      subst this
      exact ⟨some [], 0, [], by simp [qC], rfl, rfl, List.Pairwise.nil, by simp⟩
  · cases o with
    | none => simp [hof] at h2
    | some l =>
      have h1 : l[l.length - 1]? = some s := h1
      have h2 : 0 < l.length := h2
      have hlen : l.length = c.length := h.len
      refine ⟨some l, s.register.Day, s.register.Slings, ?_, rfl, h3, h4, h5⟩
      have : ¬ ((l.length : Int) = 0) := by omega
      simp only [qC, this, decide_false, Option.bind_some, Bool.false_eq_true, if_false]
      rw [qbX (by omega) h2, qO, h1]
      rfl
theorem qdJ {e : ql} (hn : e.Names.length ≤ 1000) (hv : e.Values.length ≤ 1000) : zI e = some e := by
  have e1 : slices_Clone_string e.Names = some e.Names := by
    cases hq : e.Names with
    | nil =>
      simp only [slices_Clone_string, jP, qez]
      rw [vC (by simp) (by simp)]
      simp
    | cons x xs =>
      rw [hq] at hn
      simp only [slices_Clone_string, jR]
      rw [vC (by simp only [List.length_nil]; omega) (by simp only [List.length_nil]; omega)]
      rfl
  have e2 : slices_Clone_int e.Values = some e.Values := by
    cases hq : e.Values with
    | nil =>
      simp only [slices_Clone_int, vF, qez]
      rw [vC (by simp) (by simp)]
      simp
    | cons x xs =>
      rw [hq] at hv
      simp only [slices_Clone_int, vz]
      rw [vC (by simp only [List.length_nil]; omega) (by simp only [List.length_nil]; omega)]
      rfl
  unfold zI
  rw [e1, e2]
  rfl
theorem qeJ {N : Nat} {c : List ql} {k : Nat} {e : ql} {evs : List ql} {o : Option (List StateT)} (h : Pre N c (hof o) k e) (hk : evs.length = k) (hc : zS e = 0) :
    ∃ evs' o', zq N evs o e.Number e.Kind e.Names e.Values e.Text = some (evs', o', yz N c k e) ∧ (yz N c k e = 0 → evs' = evs ++ [e] ∧ Rel N (qaM c e) (hof o') ∧ (qaM c e).length ≤ k + 1) := by
  obtain ⟨hrel, hck, hk1, hN, hM, hs⟩ := h
  have hv := qaD hc
  have hlen : (e.Names.length ≤ 3) ∧ (e.Values.length ≤ 3) := by
    have h1 := hv.names
    have h2 := hv.values
    have h3 : (jW e.Kind).1 ≤ 2 ∧ (jW e.Kind).2.1 ≤ 3 := by
      unfold jW
      repeat' split
      all_goals decide
    omega
  have hcopy : zI (⟨e.Number, e.Kind, e.Names, e.Values, e.Text⟩ : ql) = some e := qdJ (e := e) (by omega) (by omega)
  have happ : app 88 evs [e] = some (evs ++ [e]) := vC (by simp; omega) (by simp; omega)
  unfold zq
  have hw : w64 ((evs.length : Int) + 1) = ((k + 1 : Nat) : Int) := by rw [zm (by omega), hk]
  rw [hw]
  rw [show ([117, 110, 100, 111] : Str) = xh from rfl]
  have c0 : (zS e ≠ 0) = False := by simp [hc]
  unfold yz
  simp only [c0, if_false]
  by_cases h1 : e.Number = ((k + 1 : Nat) : Int)
  · have c1 : ((!decide (e.Number = ((k + 1 : Nat) : Int))) = true) = False := by simp [h1]
    have c2 : (e.Number ≠ ((k + 1 : Nat) : Int)) = False := by simp [h1]
    simp only [c1, c2, if_false]
    by_cases hu : (e.Kind == xh) = true
    · simp only [hu, if_true]
      cases o with
      | none =>
        have hc0 : c = [] := by have := hrel.len; simp [hof] at this; exact List.length_eq_zero_iff.1 this.symm
        rw [if_pos hc0]
        exact ⟨evs, none, by simp, fun h => by cases h⟩
      | some l =>
        have hl : l.length = c.length := hrel.len
        by_cases hl0 : l.length = 0
        · have hc0 : c = [] := List.length_eq_zero_iff.1 (by omega)
          rw [if_pos hc0]
          exact ⟨evs, some l, by simp [hl0], fun h => by cases h⟩
        · have hc0 : ¬ c = [] := fun e => hl0 (by rw [hl, e]; rfl)
          rw [if_neg hc0]
          have : ¬ ((l.length : Int) = 0) := by omega
          refine ⟨evs ++ [e], some (l.take (l.length - 1)), ?_, fun _ => ⟨rfl, ?_, ?_⟩⟩
          · simp only [this, decide_false, Option.bind_some, Bool.false_eq_true, if_false]
            rw [qbX (by omega) (by omega), qdQ (by omega)]
            simp only [Option.bind_some]
            rw [hcopy, Option.bind_some, happ]
            rfl
          · unfold qaM
            rw [if_pos hu]
            exact hrel.pop
          · unfold qaM
            rw [if_pos hu, List.length_dropLast]
            omega
    · simp only [hu, if_false, Bool.false_eq_true]
      obtain ⟨o', d, l, e1, e2, e3, e4, e5⟩ := zO (evs := evs) hrel (by omega) hN
      obtain ⟨err, day, new, hP, hR, hA⟩ := qe3 (d := d) (⟨e4, by omega, hN, hM⟩ : yM N l) hv (by simpa using hu)
      obtain ⟨x, l', hP1, hP2⟩ := hP
      rw [e1, Option.bind_some]
      simp only
      rw [hP1, Option.bind_some, e3, Option.bind_some, hR.ref, Option.getD_some]
      simp only
      by_cases h0 : err = 0
      · obtain ⟨rfl, rfl⟩ := hP2 h0
        rw [if_neg (by simp [h0])]
        obtain ⟨hA1, hA2⟩ := hA h0
        have hreg : qar N (c ++ [e]) = some ⟨x, l'⟩ := by
          rw [qcL, ← vo (by omega) hN, e3, Option.bind_some]
          exact hR.aft h0
        have hrel' : Rel N (c ++ [e]) (hof o' ++ [⟨e.Number, ⟨x, l'⟩⟩]) := by
          rw [e2]
          exact hrel.push hreg hA1 (by omega)
        have hlo : (hof o').length ≤ 1000 := by rw [e2, hrel.len]; omega
        have fin : ∀ o2 : Option (List StateT), hof o2 = hof o' ++ [⟨e.Number, ⟨x, l'⟩⟩] → err = 0 → (evs ++ [e] = evs ++ [e] ∧ Rel N (qaM c e) (hof o2) ∧ (qaM c e).length ≤ k + 1) := by
          intro o2 ho2 _
          unfold qaM
          rw [if_neg hu, ho2]
          exact ⟨rfl, hrel', by simp; omega⟩
        cases o' with
        | none =>
          simp only [Option.bind_some]
          rw [hcopy, Option.bind_some, happ, Option.bind_some]
          exact ⟨_, _, by rw [h0], fin (some [⟨e.Number, ⟨x, l'⟩⟩]) rfl⟩
        | some l2 =>
          have hlo : l2.length ≤ 1000 := hlo
          simp only
          rw [vC (by simp; omega) (by simp; omega)]
          simp only [Option.bind_some]
          rw [hcopy, Option.bind_some, happ, Option.bind_some]
          exact ⟨_, _, by rw [h0], fin (some (l2 ++ [⟨e.Number, ⟨x, l'⟩⟩])) rfl⟩
      · rw [if_pos (by simp [h0])]
        exact ⟨evs, o', rfl, fun h => absurd h h0⟩
  · have c1 : ((!decide (e.Number = ((k + 1 : Nat) : Int))) = true) = True := by simp only [h1, decide_false, Bool.not_false]
    have c2 : (e.Number ≠ ((k + 1 : Nat) : Int)) = True := eq_true h1
    simp only [c1, c2, if_true]
    exact ⟨evs, o, rfl, fun h => by cases h⟩
theorem qhV {N : Nat} {c : List ql} {k : Nat} {e : ql} {evs : List ql} {o : Option (List StateT)} (h : Pre N c (hof o) k e) (hk : evs.length = k) :
    ∃ evs' o', jE N evs o e.Number e.Kind e.Names e.Values e.Text = some (evs', o', yz N c k e) ∧ (yz N c k e = 0 → evs' = evs ++ [e] ∧ Rel N (qaM c e) (hof o') ∧ (qaM c e).length ≤ k + 1) := by
  unfold jE
  have hN := h.big
  rw [show (⟨e.Number, e.Kind, e.Names, e.Values, e.Text⟩ : ql) = e from rfl, qbK h.max (by omega) h.short, Option.bind_some]
  by_cases hc : zS e = 0
  · rw [if_neg (by simp [hc])]
    obtain ⟨evs', o', h1, h2⟩ := qeJ h hk hc
    rw [h1]
    exact ⟨evs', o', rfl, h2⟩
  · rw [if_pos (by simp [hc])]
    have : yz N c k e = zS e := by unfold yz; rw [if_pos hc]
    rw [this]
    exact ⟨evs, o, rfl, fun h => absurd h hc⟩
def jG (N : Nat) : List ql → Nat → List ql → Int × Int × List ql
  | [], _, c => (0, 0, c)
  | e :: es, k, c => if yz N c k e = 0 then jG N es (k + 1) (qaM c e) else (((k + 1 : Nat) : Int), yz N c k e, [])
theorem qeL {N : Nat} (hN : 2000 < N) (hM : N < 4611686018427387904) {l : List ql} (hl : l.length ≤ 1000) (hs : ∀ e ∈ l, qaJ N e) : ∀ (K k : Nat) (c : List ql) (o : Option (List StateT)), k ≤ l.length → l.length < K + k → Rel N c (hof o) → c.length ≤ k →
    (((jG N (l.drop k) k c).2.1 ≠ 0 ∧ qW N l K (l.take k) o (k : Int) = some (.inr ([], none, false, (jG N (l.drop k) k c).1, (jG N (l.drop k) k c).2.1))) ∨
    ((jG N (l.drop k) k c).2.1 = 0 ∧ ∃ o', qW N l K (l.take k) o (k : Int) = some (.inl (l, o')) ∧ Rel N (jG N (l.drop k) k c).2.2 (hof o') ∧ (jG N (l.drop k) k c).2.2.length ≤ l.length))
  | 0, k, c, o, h, hK, _, _ => by omega
  | K + 1, k, c, o, h, hK, hr, hc => by
    unfold qW
    by_cases hk : k < l.length
    · rw [if_pos (by omega), qO, List.getElem?_eq_getElem hk, Option.bind_some, zm (by omega), List.drop_eq_getElem_cons hk]
      unfold jG
      have pre : Pre N c (hof o) k l[k] := ⟨hr, hc, by omega, hN, hM, hs _ (List.getElem_mem hk)⟩
      obtain ⟨evs', o', h1, h2⟩ := qhV (evs := l.take k) pre (by rw [List.length_take]; omega)
      rw [h1, Option.bind_some]
      simp only
      by_cases h0 : yz N c k l[k] = 0
      · obtain ⟨rfl, g2, g3⟩ := h2 h0
        rw [if_neg (show ¬ ((!decide (yz N c k l[k] = 0)) = true) by simp [h0]), if_pos h0]
        have ht : l.take k ++ [l[k]] = l.take (k + 1) := by
          rw [List.take_add_one, List.getElem?_eq_getElem hk]; rfl
        rw [ht]
        exact qeL hN hM hl hs K (k + 1) _ o' (by omega) (by omega) g2 g3
      · rw [if_pos (show ((!decide (yz N c k l[k] = 0)) = true) by simp [h0]), if_neg h0]
        exact .inl ⟨h0, rfl⟩
    · rw [if_neg (by omega), List.drop_of_length_le (by omega), List.take_of_length_le (by omega)]
      unfold jG
      exact .inr ⟨rfl, o, rfl, hr, by simp only; omega⟩
theorem qdz {N : Nat} (hN : 2000 < N) (hM : N < 4611686018427387904) {l : List ql} (hl : l.length ≤ 1000) (hs : ∀ e ∈ l, qaJ N e) : ∀ (K k : Nat) (c : List ql) (ss : List StateT), k ≤ l.length → l.length < K + k → Rel N c ss → c.length ≤ k →
    zn N l K c (k : Int) = some (if (jG N (l.drop k) k c).2.1 = 0 then .inl (jG N (l.drop k) k c).2.2 else .inr ([], (jG N (l.drop k) k c).1, (jG N (l.drop k) k c).2.1))
  | 0, k, c, ss, h, hK, _, _ => by omega
  | K + 1, k, c, ss, h, hK, hr, hc => by
    unfold zn
    by_cases hk : k < l.length
    · have hsh := hs _ (List.getElem_mem hk)
      rw [if_pos (by omega), qO, List.getElem?_eq_getElem hk, Option.bind_some, qdS hM hsh, Option.bind_some, zm (by omega), List.drop_eq_getElem_cons hk]
      unfold jG
      generalize he : l[k] = e at *
      obtain ⟨o, rfl⟩ : ∃ o : Option (List StateT), hof o = ss := ⟨some ss, rfl⟩
      have pre : Pre N c (hof o) k e := ⟨hr, hc, by omega, hN, hM, hsh⟩
      obtain ⟨evs', o', _, h2⟩ := qhV (evs := l.take k) pre (by rw [List.length_take]; omega)
      have key : ((if zS e = 0 then some (!decide (e.Number = ((k + 1 : Nat) : Int))) else some false : Option Bool).bind fun b13 => ((if b13 = true then some 11 else some (zS e) : Option Int)).bind fun e_15 =>
          (if e_15 = 0 then if (e.Kind == [117, 110, 100, 111]) = true then some (decide ((c.length : Int) = 0)) else some false else some false : Option Bool).bind fun b20 => ((if b20 = true then some 12 else some e_15 : Option Int)).bind fun e_22 =>
          (if e_22 = 0 then some (!(e.Kind == [117, 110, 100, 111])) else some false : Option Bool).bind fun b26 => ((if b26 = true then (ko N c).bind fun r31 => (kM N r31 e).bind fun r32 => some r32 else some e_22 : Option Int))) = some (yz N c k e) := by
        unfold yz
        have hku : ([117, 110, 100, 111] : Str) = xh := rfl
        rw [hku]
        by_cases a1 : zS e = 0
        · by_cases a2 : e.Number = ((k + 1 : Nat) : Int)
          · by_cases a3 : (e.Kind == xh) = true
            · by_cases a4 : c = []
              · simp [a1, a2, a3, a4]
              · have : ¬ c.length = 0 := fun h => a4 (List.length_eq_zero_iff.1 h)
                simp [a1, a2, a3, a4, this]
            · obtain ⟨_, d, l2, _, _, e3, e4, e5⟩ := zO (evs := []) hr (by omega) hN
              obtain ⟨err, day, new, _, hR, _⟩ := qe3 (d := d) (⟨e4, by omega, hN, hM⟩ : yM N l2) (qaD a1) (by simpa using a3)
              simp [a1, a2, a3, e3, hR.ref]
          · have a2' : ¬ e.Number = (k : Int) + 1 := by simpa using a2
            simp [a1, a2']
        · simp [a1]
      have key2 : ∀ F : Int → Option (List ql ⊕ (List ql × Int × Int)), ((if zS e = 0 then some (!decide (e.Number = ((k + 1 : Nat) : Int))) else some false : Option Bool).bind fun b13 => ((if b13 = true then some 11 else some (zS e) : Option Int)).bind fun e_15 =>
          (if e_15 = 0 then if (e.Kind == [117, 110, 100, 111]) = true then some (decide ((c.length : Int) = 0)) else some false else some false : Option Bool).bind fun b20 => ((if b20 = true then some 12 else some e_15 : Option Int)).bind fun e_22 =>
          (if e_22 = 0 then some (!(e.Kind == [117, 110, 100, 111])) else some false : Option Bool).bind fun b26 => ((if b26 = true then (ko N c).bind fun r31 => (kM N r31 e).bind fun r32 => some r32 else some e_22 : Option Int)).bind F) = F (yz N c k e) := by
        intro F
        have := congrArg (fun x => Option.bind x F) key
        simp only [Option.bind_some, Option.bind_assoc] at this
        exact this
      rw [key2]
      by_cases h0 : yz N c k e = 0
      · obtain ⟨_, g2, g3⟩ := h2 h0
        rw [if_neg (show ¬ ((!decide (yz N c k e = 0)) = true) by simp [h0]), if_pos h0, ← qdz hN hM hl hs K (k + 1) _ (hof o') (by omega) (by omega) g2 g3]
        unfold qaM
        by_cases hu : (e.Kind == xh) = true
        · have hu' : (e.Kind == [117, 110, 100, 111]) = true := hu
          rw [if_pos hu', if_pos hu]
          have hc0 : c ≠ [] := by
            intro hc0
            unfold yz at h0
            by_cases a1 : zS e = 0
            · rw [if_neg (by simp [a1])] at h0
              by_cases a2 : e.Number = ((k + 1 : Nat) : Int)
              · rw [if_neg (by simp [a2]), if_pos hu, if_pos hc0] at h0; cases h0
              · rw [if_pos a2] at h0; cases h0
            · rw [if_pos a1] at h0; exact a1 h0
          have hcl : 0 < c.length := List.length_pos_iff.2 hc0
          rw [qbX (by omega) hcl, qdQ (by omega), List.dropLast_eq_take]
          rfl
        · have hu' : ¬ (e.Kind == [117, 110, 100, 111]) = true := hu
          rw [if_neg hu', if_neg hu, vC (by simp; omega) (by simp; omega), Option.bind_some, vC (by simp; omega) (by simp; omega)]
          rfl
      · rw [if_pos (show ((!decide (yz N c k e = 0)) = true) by simp [h0]), if_neg h0]
        simp [h0]
    · rw [if_neg (by omega), List.drop_of_length_le (by omega)]
      rfl
end Go.Av
