/-
  Chapter 10: what events do with a register: make, test, use, fail.
-/
import Derived.Test.YtjflombnfhlkaaaGreatDoorPlC3
noncomputable section
namespace Go.Av
set_option linter.unusedSimpArgs false
set_option linter.unusedVariables false
def yl (d day : Int) : Int := if day > 99999 then 3 else if day < d then 19 else 0
theorem qhq {N : Nat} (hN : 2 < N) {d day : Int} (h : 0 ≤ day) : kG N [if jS day 0 99999 = true then 3 else 0, if decide (day < d) = true then 19 else 0] = some (yl d day) := by
  rw [vH (by simp) (by simpa using hN)]
  unfold jS yl
  by_cases h1 : day > 99999
  · simp [h1, qN]
  · have : ¬ day < 0 := by omega
    by_cases h2 : day < d <;> simp [h1, h2, this, qN]
theorem y9 (n : Int) : zG n = some (if jS n 0 99999 = true then 3 else 0) := by
  unfold zG; rw [qaq]; rfl
structure yM (N : Nat) (l : List qf) : Prop where
  asc : Asc l
  len : l.length ≤ 1000
  big : 2000 < N
  max : N < 4611686018427387904
def qcg (r : Option (Int × List qf × Int)) (err day : Int) (new : List qf) : Prop := ∃ x l', r = some (x, l', err) ∧ (err = 0 → x = day ∧ l' = new)
structure qhr (N : Nat) (d : Int) (l : List qf) (e : ql) (err day : Int) (new : List qf) : Prop where
  ref : kM N ⟨d, l⟩ e = some err
  aft : err = 0 → zA N ⟨d, l⟩ e = some ⟨day, new⟩
theorem qcg.day {N : Nat} (hN : 2000 < N) {d : Int} {l new : List qf} {num : Int} {k : Str} {ns : List Str} {vs : List Int} {t : Str} {day err err2 : Int} (hv : vs[0]? = some day) (h0 : 0 ≤ day) (he : err = if yl d day = 0 then err2 else yl d day)
    (hk : yl d day = 0 → ∃ l', (((zH).bind fun r9 =>
        if (k == [109, 97, 107, 101]) = true then (qz d l).bind fun l12 => (vS N d l12 num k ns vs t).bind fun (l14, e_15) => some (l14, e_15)
        else if (k == [116, 101, 115, 116]) = true then (qz d l).bind fun l18 => (j3 N d l18 num k ns vs t).bind fun (l20, e_21) => some (l20, e_21)
        else if (k == [117, 115, 101]) = true then (qz d l).bind fun l24 => (vU N d l24 num k ns vs t).bind fun (l26, e_27) => some (l26, e_27)
        else if (k == [102, 97, 105, 108]) = true then (qz d l).bind fun l30 => (jZ N d l30 num k ns vs t).bind fun (l32, e_33) => some (l32, e_33)
        else if (k == [114, 101, 99, 97, 108, 108]) = true then (qz d l).bind fun l36 => (jJ N d l36 num k ns vs t).bind fun (l38, e_39) => some (l38, e_39)
        else if (k == [117, 110, 100, 111]) = true then none else none : Option (List qf × Int)) = some (l', err2)) ∧ (err2 = 0 → l' = new)) :
    qcg (qD N d l num k ns vs t) err day new := by
  unfold qcg qD
  rw [yw, hv, Option.bind_some, y9, Option.bind_some, y8, Option.bind_some, qhq (by omega) h0, Option.bind_some]
  by_cases hd : yl d day = 0
  · obtain ⟨l', h1, h2⟩ := hk hd
    rw [if_pos hd] at he
    subst he
    rw [if_neg (by simp [hd]), h1, Option.bind_some]
    exact ⟨day, l', rfl, fun h => ⟨rfl, h2 h⟩⟩
  · rw [if_neg hd] at he
    subst he
    rw [if_pos (by simp [hd])]
    exact ⟨0, [], rfl, fun h => absurd h hd⟩
def qcW (l : List qf) (n : Str) (day life uses : Int) : Int :=
  if zX l n = true then 9 else if jS life 1 9999 = true then 3 else if jS uses 1 9999 = true then 3 else if w64 (day + life) > 99999 then 3 else if l.length ≥ 256 then 5 else 0
theorem qj7 {N : Nat} {d : Int} {l : List qf} (h : yM N l) {num day life uses : Int} {n b t : Str} (h0 : 0 ≤ day ∧ day ≤ 999999999) (h1 : 0 ≤ life ∧ life ≤ 999999999) :
    qcg (qD N d l num jr [n, b] [day, life, uses] t) (if yl d day = 0 then qcW l n day life uses else yl d day) day (qcd l ⟨n, b, day, w64 (day + life), uses, 0, 0, 0, false⟩) := by
  obtain ⟨ha, hl, hN, hM⟩ := h
  refine qcg.day hN rfl h0.1 rfl fun hd => ?_
  simp only [zH, Option.bind_some, show (jr == [109, 97, 107, 101]) = true by decide, if_true, xE hl, vS, yw, qa9, qgP, List.getElem?_cons_zero, List.getElem?_cons_succ, qcA (N := N) (l := l) (by omega) (by omega), y8, qaq, y9]
  rw [vH (by simp) (by simp; omega), Option.bind_some]
  have e : qN [if zX l n = true then 9 else 0, if jS life 1 9999 = true then 3 else 0, if jS uses 1 9999 = true then 3 else 0, if jS (w64 (day + life)) 0 99999 = true then 3 else 0, if decide ((l.length : Int) ≥ 256) = true then 5 else 0] = qcW l n day life uses := by
    have hw : w64 (day + life) = day + life := qfk (by omega) (by omega)
    rw [hw]
    unfold qcW
    rw [hw]
    by_cases a1 : zX l n = true
    · simp [a1, qN]
    · by_cases a2 : jS life 1 9999 = true
      · simp [a1, a2, qN]
      · by_cases a3 : jS uses 1 9999 = true
        · simp [a1, a2, a3, qN]
        · by_cases a4 : day + life > 99999
          · have : jS (day + life) 0 99999 = true := by simp [jS]; omega
            simp [a1, a2, a3, a4, this, qN]
          · have : jS (day + life) 0 99999 = false := by simp [jS]; omega
            by_cases a5 : l.length ≥ 256
            · have : (l.length : Int) ≥ 256 := by omega
              simp [a1, a2, a3, a4, a5, this, qN, *]
            · have : ¬ (l.length : Int) ≥ 256 := by omega
              simp [a1, a2, a3, a4, a5, this, qN, *]
  rw [e]
  by_cases hz : qcW l n day life uses = 0
  · rw [if_neg (by simp [hz])]
    simp only [qhl hl (qcl l n), Option.bind_some]
    exact ⟨_, by rw [hz]; rfl, fun _ => rfl⟩
  · rw [if_pos (by simp [hz])]
    exact ⟨_, rfl, fun h => absurd h hz⟩
theorem qfo (l : List qf) (hl : l.length ≤ 1000) (n : Str) (x : Int) : ∀ (K k : Nat), k ≤ l.length → l.length < K + k → zU l n K x (k : Int) = some (x, ((k + zT (l.drop k) n : Nat) : Int))
  | 0, k, h, hK => by omega
  | K + 1, k, h, hK => by
    unfold zU
    by_cases hk : k < l.length
    · rw [if_pos (by omega), qO, List.getElem?_eq_getElem hk, List.drop_eq_getElem_cons hk, zm (by omega), qfo l hl n x K (k + 1) (by omega) (by omega)]
      simp only [Option.bind_some, zT]
      by_cases hc : ltL (l[k]).Name n = true
      · simp only [hc, if_true, Option.some.injEq, Prod.mk.injEq, true_and]
        omega
      · simp [hc]
    · rw [if_neg (by omega), List.drop_of_length_le (by omega)]
      simp [zT]
theorem qiI {N : Nat} {d : Int} {l : List qf} (h : yM N l) {num day life uses : Int} {n b t : Str} :
    qhr N d l ⟨num, jr, [n, b], [day, life, uses], t⟩ (if yl d day = 0 then qcW l n day life uses else yl d day) day (qcd l ⟨n, b, day, w64 (day + life), uses, 0, 0, 0, false⟩) := by
  obtain ⟨ha, hl, hN, hM⟩ := h
  constructor
  · unfold kM
    simp only [yw, qa9, qgP, List.getElem?_cons_zero, List.getElem?_cons_succ, Option.bind_some, qh5 (N := N) (r := ⟨d, l⟩) (show l.length < _ by omega) (show l.length < N by omega) ha, xI, show (jr == [109, 97, 107, 101]) = true by decide, if_true]
    unfold yl qcW
    by_cases a1 : day > 99999
    · simp [a1]
    by_cases a2 : day < d
    · simp [a1, a2]
    simp only [a1, a2, if_false, if_true]
    by_cases a3 : zX l n = true
    · simp [a3]
    · have : ¬ ((-1 : Int) ≥ 0) := by omega
      simp only [a3, this, if_false, Bool.false_eq_true]
      by_cases a4 : jS life 1 9999 = true
      · simp [a4]
      · by_cases a5 : jS uses 1 9999 = true
        · simp [a4, a5]
        · by_cases a6 : w64 (day + life) > 99999
          · simp [a4, a5, a6]
          · by_cases a7 : l.length ≥ 256
            · have : (l.length : Int) ≥ 256 := by omega
              simp [a4, a5, a6, a7, this]
            · have : ¬ (l.length : Int) ≥ 256 := by omega
              simp [a4, a5, a6, a7, this]
  · intro hz
    unfold zA
    have e0 : (0 : Int) = ((0 : Nat) : Int) := rfl
    simp only [yw, qa9, qgP, List.getElem?_cons_zero, List.getElem?_cons_succ, Option.bind_some, show (jr == [109, 97, 107, 101]) = true by decide, if_true]
    rw [vC (by simp; omega) (by simp; omega), Option.bind_some, List.nil_append]
    rw [show (zU l n N (w64 (day + life)) 0) = zU l n N (w64 (day + life)) ((0 : Nat) : Int) from rfl, qfo l hl n _ N 0 (by omega) (by omega), List.drop_zero, Option.bind_some]
    have hp := qcl l n
    simp only [Nat.zero_add]
    rw [qdQ hp, Option.bind_some, vC (by simp; omega) (by simp; omega), Option.bind_some, List.nil_append, vC (by simp; omega) (by simp; omega), Option.bind_some, qh3 hp, Option.bind_some, vC (by simp; omega) (by simp; omega), Option.bind_some]
    simp [qcd]
def qde (l : List qf) (n : Str) (f : qf → qf) : List qf := l.map fun s => if (s.Name == n) = true then f s else s
theorem Asc.set {l : List qf} (h : Asc l) {i : Nat} {s : qf} {n : Str} (hi : l[i]? = some s) (hs : s.Name = n) (f : qf → qf) : qde l n f = l.set i (f s) := by
  refine List.ext_getElem? fun j => ?_
  have hlt := (List.getElem?_eq_some_iff.1 hi).1
  unfold qde
  rw [List.getElem?_map, List.getElem?_set]
  by_cases hj : i = j
  · subst hj
    rw [if_pos rfl, hi]
    simp [hs, hlt]
  · rw [if_neg hj]
    cases hq : l[j]? with
    | none => rfl
    | some t =>
      have : ¬ (t.Name == n) = true := fun e => hj ((h.uniq hi hs).2.symm.trans (h.uniq hq (beq_iff_eq.1 e)).2)
      simp only [Option.map_some, this, if_false, Bool.false_eq_true]
def qan (l : List qf) (n : Str) (day : Int) (more : qf → Int) : Int := match l[zT l n]? with
  | some s => if zX l n = true then if yN s day = true then 20 else more s else 10
  | none => 10
theorem qfg {N : Nat} {d : Int} {l : List qf} (h : yM N l) (n : Str) (day : Int) : kK N d l n day = match l[zT l n]? with
    | some s => if zX l n = true then some ((zT l n : Int), true, if yN s day = true then 20 else 0) else some (0, false, 10)
    | none => some (0, false, 10) := by
  obtain ⟨ha, hl, hN, hM⟩ := h
  unfold kK
  rw [qcA (by omega) (by omega), Option.bind_some]
  cases hq : l[zT l n]? with
  | none =>
    have : zX l n = false := by
      cases hh : zX l n with
      | false => rfl
      | true => have := qbp hh; rw [List.getElem?_eq_getElem this] at hq; cases hq
    simp [this]
  | some s =>
    by_cases hh : zX l n = true
    · simp only [hh, Bool.not_true, Bool.false_eq_true, if_false, if_true, qO, hq, Option.bind_some, xP, y8]
    · simp [hh]
end Go.Av
