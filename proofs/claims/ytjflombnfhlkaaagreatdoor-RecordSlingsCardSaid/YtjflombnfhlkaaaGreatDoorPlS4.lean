/-
  Chapter 10: what events do with a register: make, test, use, fail.
-/
import Derived.Test.YtjflombnfhlkaaaGreatDoorPlS3
noncomputable section
namespace Go.Av
set_option linter.unusedSimpArgs false
set_option linter.unusedVariables false
def vT (d day : Int) : Int := if day > 99999 then 3 else if day < d then 19 else 0
theorem qgx {N : Nat} (hN : 2 < N) {d day : Int} (h : 0 ≤ day) : kY N [if ji day 0 99999 = true then 3 else 0, if decide (day < d) = true then 19 else 0] = some (vT d day) := by
  rw [jr (by simp) (by simpa using hN)]
  unfold ji vT
  by_cases h1 : day > 99999
  · simp [h1, qE]
  · have : ¬ day < 0 := by omega
    by_cases h2 : day < d <;> simp [h1, h2, this, qE]
theorem qaK (n : Int) : zD n = some (if ji n 0 99999 = true then 3 else 0) := by
  unfold zD; rw [xX]; rfl
structure yA (N : Nat) (l : List qh) : Prop where
  asc : Asc l
  len : l.length ≤ 1000
  big : 2000 < N
  max : N < 4611686018427387904
def qbX (r : Option (Int × List qh × Int)) (err day : Int) (new : List qh) : Prop := ∃ x l', r = some (x, l', err) ∧ (err = 0 → x = day ∧ l' = new)
structure qg5 (N : Nat) (d : Int) (l : List qh) (e : qm) (err day : Int) (new : List qh) : Prop where
  ref : kC N ⟨d, l⟩ e = some err
  aft : err = 0 → ze N ⟨d, l⟩ e = some ⟨day, new⟩
theorem qbX.day {N : Nat} (hN : 2000 < N) {d : Int} {l new : List qh} {num : Int} {k : Str} {ns : List Str} {vs : List Int} {t : Str} {day err err2 : Int} (hv : vs[0]? = some day) (h0 : 0 ≤ day) (he : err = if vT d day = 0 then err2 else vT d day)
    (hk : vT d day = 0 → ∃ l', (((zk).bind fun r9 =>
        if (k == [109, 97, 107, 101]) = true then (qy d l).bind fun l12 => (vH N d l12 num k ns vs t).bind fun (l14, e_15) => some (l14, e_15)
        else if (k == [116, 101, 115, 116]) = true then (qy d l).bind fun l18 => (jP N d l18 num k ns vs t).bind fun (l20, e_21) => some (l20, e_21)
        else if (k == [117, 115, 101]) = true then (qy d l).bind fun l24 => (vD N d l24 num k ns vs t).bind fun (l26, e_27) => some (l26, e_27)
        else if (k == [102, 97, 105, 108]) = true then (qy d l).bind fun l30 => (jJ N d l30 num k ns vs t).bind fun (l32, e_33) => some (l32, e_33)
        else if (k == [114, 101, 99, 97, 108, 108]) = true then (qy d l).bind fun l36 => (jm N d l36 num k ns vs t).bind fun (l38, e_39) => some (l38, e_39)
        else if (k == [117, 110, 100, 111]) = true then none else none : Option (List qh × Int)) = some (l', err2)) ∧ (err2 = 0 → l' = new)) :
    qbX (qA N d l num k ns vs t) err day new := by
  unfold qbX qA
  rw [yB, hv, Option.bind_some, qaK, Option.bind_some, vK, Option.bind_some, qgx (by omega) h0, Option.bind_some]
  by_cases hd : vT d day = 0
  · obtain ⟨l', h1, h2⟩ := hk hd
    rw [if_pos hd] at he
    subst he
    rw [if_neg (by simp [hd]), h1, Option.bind_some]
    exact ⟨day, l', rfl, fun h => ⟨rfl, h2 h⟩⟩
  · rw [if_neg hd] at he
    subst he
    rw [if_pos (by simp [hd])]
    exact ⟨0, [], rfl, fun h => absurd h hd⟩
def qcC (l : List qh) (n : Str) (day life uses : Int) : Int :=
  if zV l n = true then 9 else if ji life 1 9999 = true then 3 else if ji uses 1 9999 = true then 3 else if w64 (day + life) > 99999 then 3 else if l.length ≥ 256 then 5 else 0
theorem qjq {N : Nat} {d : Int} {l : List qh} (h : yA N l) {num day life uses : Int} {n b t : Str} (h0 : 0 ≤ day ∧ day ≤ 999999999) (h1 : 0 ≤ life ∧ life ≤ 999999999) :
    qbX (qA N d l num jA [n, b] [day, life, uses] t) (if vT d day = 0 then qcC l n day life uses else vT d day) day (qbJ l ⟨n, b, day, w64 (day + life), uses, 0, 0, 0, false⟩) := by
  obtain ⟨ha, hl, hN, hM⟩ := h
  refine qbX.day hN rfl h0.1 rfl fun hd => ?_
  simp only [zk, Option.bind_some, show (jA == [109, 97, 107, 101]) = true by decide, if_true, qaa hl, vH, yB, qbl, qg9, List.getElem?_cons_zero, List.getElem?_cons_succ, qbY (N := N) (l := l) (by omega) (by omega), vK, xX, qaK]
  rw [jr (by simp) (by simp; omega), Option.bind_some]
  have e : qE [if zV l n = true then 9 else 0, if ji life 1 9999 = true then 3 else 0, if ji uses 1 9999 = true then 3 else 0, if ji (w64 (day + life)) 0 99999 = true then 3 else 0, if decide ((l.length : Int) ≥ 256) = true then 5 else 0] = qcC l n day life uses := by
    have hw : w64 (day + life) = day + life := qen (by omega) (by omega)
    rw [hw]
    unfold qcC
    rw [hw]
    by_cases a1 : zV l n = true
    · simp [a1, qE]
    · by_cases a2 : ji life 1 9999 = true
      · simp [a1, a2, qE]
      · by_cases a3 : ji uses 1 9999 = true
        · simp [a1, a2, a3, qE]
        · by_cases a4 : day + life > 99999
          · have : ji (day + life) 0 99999 = true := by simp [ji]; omega
            simp [a1, a2, a3, a4, this, qE]
          · have : ji (day + life) 0 99999 = false := by simp [ji]; omega
            by_cases a5 : l.length ≥ 256
            · have : (l.length : Int) ≥ 256 := by omega
              simp [a1, a2, a3, a4, a5, this, qE, *]
            · have : ¬ (l.length : Int) ≥ 256 := by omega
              simp [a1, a2, a3, a4, a5, this, qE, *]
  rw [e]
  by_cases hz : qcC l n day life uses = 0
  · rw [if_neg (by simp [hz])]
    simp only [qgV hl (qbM l n), Option.bind_some]
    exact ⟨_, by rw [hz]; rfl, fun _ => rfl⟩
  · rw [if_pos (by simp [hz])]
    exact ⟨_, rfl, fun h => absurd h hz⟩
theorem qe1 (l : List qh) (hl : l.length ≤ 1000) (n : Str) (x : Int) : ∀ (K k : Nat), k ≤ l.length → l.length < K + k → zx l n K x (k : Int) = some (x, ((k + zH (l.drop k) n : Nat) : Int))
  | 0, k, h, hK => by omega
  | K + 1, k, h, hK => by
    unfold zx
    by_cases hk : k < l.length
    · rw [if_pos (by omega), ku, List.getElem?_eq_getElem hk, List.drop_eq_getElem_cons hk, zP (by omega), qe1 l hl n x K (k + 1) (by omega) (by omega)]
      simp only [Option.bind_some, zH]
      by_cases hc : ltL (l[k]).Name n = true
      · simp only [hc, if_true, Option.some.injEq, Prod.mk.injEq, true_and]
        omega
      · simp [hc]
    · rw [if_neg (by omega), List.drop_of_length_le (by omega)]
      simp [zH]
theorem qhl {N : Nat} {d : Int} {l : List qh} (h : yA N l) {num day life uses : Int} {n b t : Str} :
    qg5 N d l ⟨num, jA, [n, b], [day, life, uses], t⟩ (if vT d day = 0 then qcC l n day life uses else vT d day) day (qbJ l ⟨n, b, day, w64 (day + life), uses, 0, 0, 0, false⟩) := by
  obtain ⟨ha, hl, hN, hM⟩ := h
  constructor
  · unfold kC
    simp only [yB, qbl, qg9, List.getElem?_cons_zero, List.getElem?_cons_succ, Option.bind_some, qfk (N := N) (r := ⟨d, l⟩) (show l.length < _ by omega) (show l.length < N by omega) ha, xm, show (jA == [109, 97, 107, 101]) = true by decide, if_true]
    unfold vT qcC
    by_cases a1 : day > 99999
    · simp [a1]
    by_cases a2 : day < d
    · simp [a1, a2]
    simp only [a1, a2, if_false, if_true]
    by_cases a3 : zV l n = true
    · simp [a3]
    · have : ¬ ((-1 : Int) ≥ 0) := by omega
      simp only [a3, this, if_false, Bool.false_eq_true]
      by_cases a4 : ji life 1 9999 = true
      · simp [a4]
      · by_cases a5 : ji uses 1 9999 = true
        · simp [a4, a5]
        · by_cases a6 : w64 (day + life) > 99999
          · simp [a4, a5, a6]
          · by_cases a7 : l.length ≥ 256
            · have : (l.length : Int) ≥ 256 := by omega
              simp [a4, a5, a6, a7, this]
            · have : ¬ (l.length : Int) ≥ 256 := by omega
              simp [a4, a5, a6, a7, this]
  · intro hz
    unfold ze
    have e0 : (0 : Int) = ((0 : Nat) : Int) := rfl
    simp only [yB, qbl, qg9, List.getElem?_cons_zero, List.getElem?_cons_succ, Option.bind_some, show (jA == [109, 97, 107, 101]) = true by decide, if_true]
    rw [vV (by simp; omega) (by simp; omega), Option.bind_some, List.nil_append]
    rw [show (zx l n N (w64 (day + life)) 0) = zx l n N (w64 (day + life)) ((0 : Nat) : Int) from rfl, qe1 l hl n _ N 0 (by omega) (by omega), List.drop_zero, Option.bind_some]
    have hp := qbM l n
    simp only [Nat.zero_add]
    rw [qdD hp, Option.bind_some, vV (by simp; omega) (by simp; omega), Option.bind_some, List.nil_append, vV (by simp; omega) (by simp; omega), Option.bind_some, qhf hp, Option.bind_some, vV (by simp; omega) (by simp; omega), Option.bind_some]
    simp [qbJ]
def qcH (l : List qh) (n : Str) (f : qh → qh) : List qh := l.map fun s => if (s.Name == n) = true then f s else s
theorem Asc.set {l : List qh} (h : Asc l) {i : Nat} {s : qh} {n : Str} (hi : l[i]? = some s) (hs : s.Name = n) (f : qh → qh) : qcH l n f = l.set i (f s) := by
  refine List.ext_getElem? fun j => ?_
  have hlt := (List.getElem?_eq_some_iff.1 hi).1
  unfold qcH
  rw [List.getElem?_map, List.getElem?_set]
  by_cases hj : i = j
  · subst hj
    rw [if_pos rfl, hi]
    simp [hs, hlt]
  · rw [if_neg hj]
    cases hq : l[j]? with
    | none => rfl
    | some t =>
      have : ¬ (t.Name == n) = true := fun e => hj ((h.uniq hi hs).2.symm.trans (h.uniq hq (beq_iff_eq.1 e)).2)
      simp only [Option.map_some, this, if_false, Bool.false_eq_true]
def xS (l : List qh) (n : Str) (day : Int) (more : qh → Int) : Int := match l[zH l n]? with
  | some s => if zV l n = true then if xA s day = true then 20 else more s else 10
  | none => 10
theorem qex {N : Nat} {d : Int} {l : List qh} (h : yA N l) (n : Str) (day : Int) : ky N d l n day = match l[zH l n]? with
    | some s => if zV l n = true then some ((zH l n : Int), true, if xA s day = true then 20 else 0) else some (0, false, 10)
    | none => some (0, false, 10) := by
  obtain ⟨ha, hl, hN, hM⟩ := h
  unfold ky
  rw [qbY (by omega) (by omega), Option.bind_some]
  cases hq : l[zH l n]? with
  | none =>
    have : zV l n = false := by
      cases hh : zV l n with
      | false => rfl
      | true => have := qa8 hh; rw [List.getElem?_eq_getElem this] at hq; cases hq
    simp [this]
  | some s =>
    by_cases hh : zV l n = true
    · simp only [hh, Bool.not_true, Bool.false_eq_true, if_false, if_true, ku, hq, Option.bind_some, vC, vK]
    · simp [hh]
end Go.Av
