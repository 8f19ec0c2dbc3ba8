/-
  Chapter 10: what events do with a register: make, test, use, fail.
-/
import Derived.Test.YtjflombnfhlkaaaGreatDoorPlL3
noncomputable section
namespace Go.Av
set_option linter.unusedSimpArgs false
set_option linter.unusedVariables false
def dayE (d day : Int) : Int := if day > 99999 then 3 else if day < d then 19 else 0
theorem day_first {N : Nat} (hN : 2 < N) {d day : Int} (h : 0 ≤ day) : record_first N [if outE day 0 99999 = true then 3 else 0, if decide (day < d) = true then 19 else 0] = some (dayE d day) := by
  rw [first_eq (by simp) (by simpa using hN)]
  unfold outE dayE
  by_cases h1 : day > 99999
  · simp [h1, firstE]
  · have : ¬ day < 0 := by omega
    by_cases h2 : day < d <;> simp [h1, h2, this, firstE]
theorem checkDay_eq (n : Int) : record_checkDay n = some (if outE n 0 99999 = true then 3 else 0) := by
  unfold record_checkDay; rw [within_eq]; rfl
structure RegOK (N : Nat) (l : List SlingT) : Prop where
  asc : Asc l
  len : l.length ≤ 1000
  big : 2000 < N
  max : N < 4611686018427387904
def AftP (r : Option (Int × List SlingT × Int)) (err day : Int) (new : List SlingT) : Prop := ∃ x l', r = some (x, l', err) ∧ (err = 0 → x = day ∧ l' = new)
structure AftR (N : Nat) (d : Int) (l : List SlingT) (e : EventT) (err day : Int) (new : List SlingT) : Prop where
  ref : ref10_refused N ⟨d, l⟩ e = some err
  aft : err = 0 → ref10_after N ⟨d, l⟩ e = some ⟨day, new⟩
theorem AftP.day {N : Nat} (hN : 2000 < N) {d : Int} {l new : List SlingT} {num : Int} {k : Str} {ns : List Str} {vs : List Int} {t : Str} {day err err2 : Int} (hv : vs[0]? = some day) (h0 : 0 ≤ day) (he : err = if dayE d day = 0 then err2 else dayE d day)
    (hk : dayE d day = 0 → ∃ l', (((record_kinds).bind fun r9 =>
        if (k == [109, 97, 107, 101]) = true then (record_Register_copied_h1 d l).bind fun l12 => (record_made_h1 N d l12 num k ns vs t).bind fun (l14, e_15) => some (l14, e_15)
        else if (k == [116, 101, 115, 116]) = true then (record_Register_copied_h1 d l).bind fun l18 => (record_tested_h1 N d l18 num k ns vs t).bind fun (l20, e_21) => some (l20, e_21)
        else if (k == [117, 115, 101]) = true then (record_Register_copied_h1 d l).bind fun l24 => (record_used_h1 N d l24 num k ns vs t).bind fun (l26, e_27) => some (l26, e_27)
        else if (k == [102, 97, 105, 108]) = true then (record_Register_copied_h1 d l).bind fun l30 => (record_failed_h1 N d l30 num k ns vs t).bind fun (l32, e_33) => some (l32, e_33)
        else if (k == [114, 101, 99, 97, 108, 108]) = true then (record_Register_copied_h1 d l).bind fun l36 => (record_recalled_h1 N d l36 num k ns vs t).bind fun (l38, e_39) => some (l38, e_39)
        else if (k == [117, 110, 100, 111]) = true then none else none : Option (List SlingT × Int)) = some (l', err2)) ∧ (err2 = 0 → l' = new)) :
    AftP (record_Register_after_h1 N d l num k ns vs t) err day new := by
  unfold AftP record_Register_after_h1
  rw [idx_0, hv, Option.bind_some, checkDay_eq, Option.bind_some, when_eq, Option.bind_some, day_first (by omega) h0, Option.bind_some]
  by_cases hd : dayE d day = 0
  · obtain ⟨l', h1, h2⟩ := hk hd
    rw [if_pos hd] at he
    subst he
    rw [if_neg (by simp [hd]), h1, Option.bind_some]
    exact ⟨day, l', rfl, fun h => ⟨rfl, h2 h⟩⟩
  · rw [if_neg hd] at he
    subst he
    rw [if_pos (by simp [hd])]
    exact ⟨0, [], rfl, fun h => absurd h hd⟩
def mkErr (l : List SlingT) (n : Str) (day life uses : Int) : Int :=
  if hasE l n = true then 9 else if outE life 1 9999 = true then 3 else if outE uses 1 9999 = true then 3 else if w64 (day + life) > 99999 then 3 else if l.length ≥ 256 then 5 else 0
theorem made_P {N : Nat} {d : Int} {l : List SlingT} (h : RegOK N l) {num day life uses : Int} {n b t : Str} (h0 : 0 ≤ day ∧ day ≤ 999999999) (h1 : 0 ≤ life ∧ life ≤ 999999999) :
    AftP (record_Register_after_h1 N d l num kMake [n, b] [day, life, uses] t) (if dayE d day = 0 then mkErr l n day life uses else dayE d day) day (insE l ⟨n, b, day, w64 (day + life), uses, 0, 0, 0, false⟩) := by
  obtain ⟨ha, hl, hN, hM⟩ := h
  refine AftP.day hN rfl h0.1 rfl fun hd => ?_
  simp only [record_kinds, Option.bind_some, show (kMake == [109, 97, 107, 101]) = true by decide, if_true, copied_eq hl, record_made_h1, idx_0, idx_1, idx_2, List.getElem?_cons_zero, List.getElem?_cons_succ, find_eq (N := N) (l := l) (by omega) (by omega), when_eq, within_eq, checkDay_eq]
  rw [first_eq (by simp) (by simp; omega), Option.bind_some]
  have e : firstE [if hasE l n = true then 9 else 0, if outE life 1 9999 = true then 3 else 0, if outE uses 1 9999 = true then 3 else 0, if outE (w64 (day + life)) 0 99999 = true then 3 else 0, if decide ((l.length : Int) ≥ 256) = true then 5 else 0] = mkErr l n day life uses := by
    have hw : w64 (day + life) = day + life := w64_id (by omega) (by omega)
    rw [hw]
    unfold mkErr
    rw [hw]
    by_cases a1 : hasE l n = true
    · simp [a1, firstE]
    · by_cases a2 : outE life 1 9999 = true
      · simp [a1, a2, firstE]
      · by_cases a3 : outE uses 1 9999 = true
        · simp [a1, a2, a3, firstE]
        · by_cases a4 : day + life > 99999
          · have : outE (day + life) 0 99999 = true := by simp [outE]; omega
            simp [a1, a2, a3, a4, this, firstE]
          · have : outE (day + life) 0 99999 = false := by simp [outE]; omega
            by_cases a5 : l.length ≥ 256
            · have : (l.length : Int) ≥ 256 := by omega
              simp [a1, a2, a3, a4, a5, this, firstE, *]
            · have : ¬ (l.length : Int) ≥ 256 := by omega
              simp [a1, a2, a3, a4, a5, this, firstE, *]
  rw [e]
  by_cases hz : mkErr l n day life uses = 0
  · rw [if_neg (by simp [hz])]
    simp only [Insert_eq hl (posE_le l n), Option.bind_some]
    exact ⟨_, by rw [hz]; rfl, fun _ => rfl⟩
  · rw [if_pos (by simp [hz])]
    exact ⟨_, rfl, fun h => absurd h hz⟩
theorem after_L0 (l : List SlingT) (hl : l.length ≤ 1000) (n : Str) (x : Int) : ∀ (K k : Nat), k ≤ l.length → l.length < K + k → ref10_after_L0 l n K x (k : Int) = some (x, ((k + posE (l.drop k) n : Nat) : Int))
  | 0, k, h, hK => by omega
  | K + 1, k, h, hK => by
    unfold ref10_after_L0
    by_cases hk : k < l.length
    · rw [if_pos (by omega), idx_nat, List.getElem?_eq_getElem hk, List.drop_eq_getElem_cons hk, w64_up (by omega), after_L0 l hl n x K (k + 1) (by omega) (by omega)]
      simp only [Option.bind_some, posE]
      by_cases hc : ltL (l[k]).Name n = true
      · simp only [hc, if_true, Option.some.injEq, Prod.mk.injEq, true_and]
        omega
      · simp [hc]
    · rw [if_neg (by omega), List.drop_of_length_le (by omega)]
      simp [posE]
theorem made_R {N : Nat} {d : Int} {l : List SlingT} (h : RegOK N l) {num day life uses : Int} {n b t : Str} :
    AftR N d l ⟨num, kMake, [n, b], [day, life, uses], t⟩ (if dayE d day = 0 then mkErr l n day life uses else dayE d day) day (insE l ⟨n, b, day, w64 (day + life), uses, 0, 0, 0, false⟩) := by
  obtain ⟨ha, hl, hN, hM⟩ := h
  constructor
  · unfold ref10_refused
    simp only [idx_0, idx_1, idx_2, List.getElem?_cons_zero, List.getElem?_cons_succ, Option.bind_some, At_eq (N := N) (r := ⟨d, l⟩) (show l.length < _ by omega) (show l.length < N by omega) ha, Outside_eq, show (kMake == [109, 97, 107, 101]) = true by decide, if_true]
    unfold dayE mkErr
    by_cases a1 : day > 99999
    · simp [a1]
    by_cases a2 : day < d
    · simp [a1, a2]
    simp only [a1, a2, if_false, if_true]
    by_cases a3 : hasE l n = true
    · simp [a3]
    · have : ¬ ((-1 : Int) ≥ 0) := by omega
      simp only [a3, this, if_false, Bool.false_eq_true]
      by_cases a4 : outE life 1 9999 = true
      · simp [a4]
      · by_cases a5 : outE uses 1 9999 = true
        · simp [a4, a5]
        · by_cases a6 : w64 (day + life) > 99999
          · simp [a4, a5, a6]
          · by_cases a7 : l.length ≥ 256
            · have : (l.length : Int) ≥ 256 := by omega
              simp [a4, a5, a6, a7, this]
            · have : ¬ (l.length : Int) ≥ 256 := by omega
              simp [a4, a5, a6, a7, this]
  · intro hz
    unfold ref10_after
    have e0 : (0 : Int) = ((0 : Nat) : Int) := rfl
    simp only [idx_0, idx_1, idx_2, List.getElem?_cons_zero, List.getElem?_cons_succ, Option.bind_some, show (kMake == [109, 97, 107, 101]) = true by decide, if_true]
    rw [app_ok (by simp; omega) (by simp; omega), Option.bind_some, List.nil_append]
    rw [show (ref10_after_L0 l n N (w64 (day + life)) 0) = ref10_after_L0 l n N (w64 (day + life)) ((0 : Nat) : Int) from rfl, after_L0 l hl n _ N 0 (by omega) (by omega), List.drop_zero, Option.bind_some]
    have hp := posE_le l n
    simp only [Nat.zero_add]
    rw [cut_take hp, Option.bind_some, app_ok (by simp; omega) (by simp; omega), Option.bind_some, List.nil_append, app_ok (by simp; omega) (by simp; omega), Option.bind_some, cut_drop hp, Option.bind_some, app_ok (by simp; omega) (by simp; omega), Option.bind_some]
    simp [insE]
def setE (l : List SlingT) (n : Str) (f : SlingT → SlingT) : List SlingT := l.map fun s => if (s.Name == n) = true then f s else s
theorem Asc.set {l : List SlingT} (h : Asc l) {i : Nat} {s : SlingT} {n : Str} (hi : l[i]? = some s) (hs : s.Name = n) (f : SlingT → SlingT) : setE l n f = l.set i (f s) := by
  refine List.ext_getElem? fun j => ?_
  have hlt := (List.getElem?_eq_some_iff.1 hi).1
  unfold setE
  rw [List.getElem?_map, List.getElem?_set]
  by_cases hj : i = j
  · subst hj
    rw [if_pos rfl, hi]
    simp [hs, hlt]
  · rw [if_neg hj]
    cases hq : l[j]? with
    | none => rfl
    | some t =>
      have : ¬ (t.Name == n) = true := fun e => hj ((h.uniq hi hs).2.symm.trans (h.uniq hq (beq_iff_eq.1 e)).2)
      simp only [Option.map_some, this, if_false, Bool.false_eq_true]
def opErr (l : List SlingT) (n : Str) (day : Int) (more : SlingT → Int) : Int := match l[posE l n]? with
  | some s => if hasE l n = true then if retE s day = true then 20 else more s else 10
  | none => 10
theorem open_eq {N : Nat} {d : Int} {l : List SlingT} (h : RegOK N l) (n : Str) (day : Int) : record_Register_open_h1 N d l n day = match l[posE l n]? with
    | some s => if hasE l n = true then some ((posE l n : Int), true, if retE s day = true then 20 else 0) else some (0, false, 10)
    | none => some (0, false, 10) := by
  obtain ⟨ha, hl, hN, hM⟩ := h
  unfold record_Register_open_h1
  rw [find_eq (by omega) (by omega), Option.bind_some]
  cases hq : l[posE l n]? with
  | none =>
    have : hasE l n = false := by
      cases hh : hasE l n with
      | false => rfl
      | true => have := hasE_lt hh; rw [List.getElem?_eq_getElem this] at hq; cases hq
    simp [this]
  | some s =>
    by_cases hh : hasE l n = true
    · simp only [hh, Bool.not_true, Bool.false_eq_true, if_false, if_true, idx_nat, hq, Option.bind_some, retired_eq, when_eq]
    · simp [hh]
end Go.Av
