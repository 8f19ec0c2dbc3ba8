/-
  Chapter 10: what events do with a register: test, use, fail, recall; the step of all kinds.
-/
import Derived.Test.YtjflombnfhlkaaaGreatDoorPlS4
noncomputable section
namespace Go.Av
set_option linter.unusedSimpArgs false
set_option linter.unusedVariables false
theorem qcS {l : List qh} {n : Str} {s : qh} (hq : l[zH l n]? = some s) (hh : zV l n = true) : s.Name = n := by
  have := qbO hq
  rw [hh] at this
  exact beq_iff_eq.1 this.symm
theorem vU {l : List qh} {n : Str} {day : Int} {m : qh → Int} (h : zV l n = false) : xS l n day m = 10 := by
  unfold xS
  cases l[zH l n]? with
  | none => rfl
  | some s => simp [h]
theorem qa3 {l : List qh} {n : Str} (h : zV l n = true) : ∃ s, l[zH l n]? = some s ∧ zH l n < l.length := ⟨_, List.getElem?_eq_getElem (qa8 h), qa8 h⟩
theorem qbt {N : Nat} {d : Int} {l : List qh} (h : yA N l) {e : qm} {n : Str} {day : Int} (hn : e.Names[0]? = some n) (hv : e.Values[0]? = some day) (h1 : (e.Kind == jA) = false) (h5 : (e.Kind == zl) = false) {m : qh → Int}
    (hm : ∀ s : qh, (((if (e.Kind == [116, 101, 115, 116]) = true then (idx e.Values 1).bind fun x43 => (zf x43 2 999999999).bind fun r44 => some r44 else some false : Option Bool).bind fun b45 =>
        if b45 = true then some 3 else ((if (e.Kind == [117, 115, 101]) = true then (vI s day).bind fun r51 => if (!r51) = true then some (.inr 24) else (idx e.Values 1).bind fun x53 => if x53 > s.Limit then some (.inr 31) else some (.inl ()) else some (.inl ()) : Option (Unit ⊕ Int))).bind (fun
          | (.inl ()) => some 0
          | (.inr q55) => some q55)) : Option Int) = some (m s)) :
    kC N ⟨d, l⟩ e = some (if vT d day = 0 then xS l n day m else vT d day) := by
  obtain ⟨ha, hl, hN, hM⟩ := h
  unfold kC
  simp only [yB, hv, hn, Option.bind_some, qfk (N := N) (r := ⟨d, l⟩) (show l.length < _ by omega) (show l.length < N by omega) ha]
  have h1' : ¬ (e.Kind == [109, 97, 107, 101]) = true := by rw [show ([109, 97, 107, 101] : Str) = jA from rfl, h1]; simp
  have h5' : ¬ (e.Kind == [114, 101, 99, 97, 108, 108]) = true := by rw [show ([114, 101, 99, 97, 108, 108] : Str) = zl from rfl, h5]; simp
  rw [if_neg h1', if_neg h5']
  unfold vT
  by_cases a1 : day > 99999
  · simp [a1]
  by_cases a2 : day < d
  · simp [a1, a2]
  simp only [a1, a2, if_false, if_true]
  cases hh : zV l n with
  | false => rw [vU hh]; rfl
  | true =>
    obtain ⟨s, hs, hlt⟩ := qa3 hh
    rw [if_pos rfl, if_neg (by omega), ku, hs, Option.bind_some, qaT, Option.bind_some]
    unfold xS
    rw [hs]
    simp only [hh, if_true]
    by_cases hr : xA s day = true
    · simp [hr]
    · rw [if_neg hr, if_neg hr]
      exact hm s
theorem qaU {e : qm} {day : Int} {n : Str} (hn : e.Names[0]? = some n) (f : qh → qh) (hf : ∀ (s : qh) (l : List qh) (k : Nat), l[k]? = some s → (((if (e.Kind == [116, 101, 115, 116]) = true then some (s.Name == n) else some false : Option Bool).bind fun b33 =>
      if b33 = true then (idx e.Values 1).bind fun x36 => (put l k (⟨s.Name, s.Batch, s.Born, s.Last, s.Uses, s.Used, w64 (x36.tdiv 2), s.Until, s.Gone⟩ : qh)).bind fun l37 => (idx l37 k).bind fun x38 =>
        (put l37 k (⟨x38.Name, x38.Batch, x38.Born, x38.Last, x38.Uses, x38.Used, x38.Limit, (if x38.Last < (w64 (day + 365)) then x38.Last else (w64 (day + 365))), x38.Gone⟩ : qh)).bind fun l39 => some l39
      else (if (e.Kind == [117, 115, 101]) = true then some (s.Name == n) else some false : Option Bool).bind fun b41 =>
      if b41 = true then (put l k (⟨s.Name, s.Batch, s.Born, s.Last, s.Uses, w64 (s.Used + 1), s.Limit, s.Until, s.Gone⟩ : qh)).bind fun l44 => some l44
      else (if (e.Kind == [102, 97, 105, 108]) = true then some (s.Name == n) else some false : Option Bool).bind fun b46 =>
      ((if b46 = true then some b46 else (if (e.Kind == [114, 101, 99, 97, 108, 108]) = true then some (s.Batch == n) else some false : Option Bool).bind fun b52 => some b52 : Option Bool)).bind fun b48 =>
      if b48 = true then (put l k (⟨s.Name, s.Batch, s.Born, s.Last, s.Uses, s.Used, s.Limit, s.Until, true⟩ : qh)).bind fun l55 => some l55 else some l) : Option (List qh)) = some (l.set k (f s))) :
    ∀ (K : Nat) (l : List qh) (k : Nat), l.length ≤ 1000 → k ≤ l.length → l.length < K + k → zh e day K l (k : Int) = some (l.take k ++ (l.drop k).map f)
  | 0, l, k, hl, h, hK => by omega
  | K + 1, l, k, hl, h, hK => by
    unfold zh
    by_cases hk : k < l.length
    · have hg : l[k]? = some l[k] := List.getElem?_eq_getElem hk
      rw [if_pos (by omega), ku, hg, Option.bind_some, yB, hn, Option.bind_some]
      have := hf l[k] l k hg
      rw [this, Option.bind_some, zP (by omega), qaU hn f hf K (l.set k (f l[k])) (k + 1) (by simp; omega) (by simp; omega) (by simp; omega)]
      congr 1
      rw [List.drop_eq_getElem_cons hk, List.drop_set, if_pos (by omega), List.map_cons, List.take_add_one, List.getElem?_set_self hk, List.take_set, List.set_eq_of_length_le (by simp; exact Nat.min_le_left _ _)]
      simp
    · rw [if_neg (by omega), List.take_of_length_le (by omega), List.drop_of_length_le (by omega)]
      simp
theorem qa2 {N : Nat} {d : Int} {l : List qh} (h : yA N l) {e : qm} {day : Int} {n : Str} (hn : e.Names[0]? = some n) (hv : e.Values[0]? = some day) (h1 : (e.Kind == jA) = false) (f : qh → qh)
    (hK : ∀ (K : Nat) (l : List qh) (k : Nat), l.length ≤ 1000 → k ≤ l.length → l.length < K + k → zh e day K l (k : Int) = some (l.take k ++ (l.drop k).map f)) : ze N ⟨d, l⟩ e = some ⟨day, l.map f⟩ := by
  obtain ⟨ha, hl, hN, hM⟩ := h
  unfold ze
  rw [yB, hv, Option.bind_some]
  have h1' : ¬ (e.Kind == [109, 97, 107, 101]) = true := by rw [show ([109, 97, 107, 101] : Str) = jA from rfl, h1]; simp
  simp only
  rw [vV (by simp; omega) (by simp; omega), Option.bind_some, List.nil_append, if_neg h1']
  rw [show zh e day N l 0 = zh e day N l ((0 : Nat) : Int) from rfl, hK N l 0 hl (by omega) (by omega)]
  simp
def qgc (load : Int) (_ : qh) : Int := if ji load 2 999999999 = true then 3 else 0
def qhT (day load : Int) (s : qh) : qh := ⟨s.Name, s.Batch, s.Born, s.Last, s.Uses, s.Used, w64 (load.tdiv 2), (if s.Last < w64 (day + 365) then s.Last else w64 (day + 365)), s.Gone⟩
theorem qhD {N : Nat} {d : Int} {l : List qh} (h : yA N l) {num day load : Int} {n t : Str} (h0 : 0 ≤ day) :
    qbX (qA N d l num yw [n] [day, load] t) (if vT d day = 0 then xS l n day (qgc load) else vT d day) day (qcH l n (qhT day load)) := by
  have h' := h
  obtain ⟨ha, hl, hN, hM⟩ := h
  refine qbX.day hN rfl h0 rfl fun hd => ?_
  simp only [zk, Option.bind_some, show (yw == [109, 97, 107, 101]) = false by decide, show (yw == [116, 101, 115, 116]) = true by decide, Bool.false_eq_true, if_false, if_true, qaa hl, jP, yB, qbl, List.getElem?_cons_zero, List.getElem?_cons_succ, xX]
  rw [qex h']
  cases hh : zV l n with
  | false =>
    refine ⟨l, ?_, fun h => ?_⟩
    · rw [vU hh]
      cases hq : l[zH l n]? with
      | none =>
        simp only [Option.bind_some]
        rw [jr (by simp) (by simp; omega)]
        simp [qE]
      | some s =>
        simp only [hh, Bool.false_eq_true, if_false, Option.bind_some]
        rw [jr (by simp) (by simp; omega)]
        simp [qE]
    · rw [vU hh] at h; cases h
  | true =>
    obtain ⟨s, hs, hlt⟩ := qa3 hh
    have hname := qcS hs hh
    unfold xS
    rw [hs]
    simp only [hh, if_true, Option.bind_some]
    rw [jr (by simp) (by simp; omega)]
    unfold qgc
    by_cases hr : xA s day = true
    · exact ⟨l, by simp [hr, qE], fun h => by rw [if_pos hr] at h; cases h⟩
    · by_cases ho : ji load 2 999999999 = true
      · exact ⟨l, by simp [hr, ho, qE], fun h => by rw [if_neg hr, if_pos ho] at h; cases h⟩
      · refine ⟨l.set (zH l n) (qhT day load s), ?_, fun _ => (ha.set hs hname _).symm⟩
        have hlen : zH l n < (l.set (zH l n) (⟨s.Name, s.Batch, s.Born, s.Last, s.Uses, s.Used, w64 (load.tdiv 2), s.Until, s.Gone⟩ : qh)).length := by simpa using hlt
        simp only [hr, ho, if_false, qE, if_true, Bool.false_eq_true, Option.bind_some, decide_true, Bool.not_true, ku, hs, yK hlt, List.getElem?_set_self hlt, yK hlen, List.set_set]
        rfl
theorem qfd {N : Nat} {d : Int} {l : List qh} (h : yA N l) {num day load : Int} {n t : Str} :
    qg5 N d l ⟨num, yw, [n], [day, load], t⟩ (if vT d day = 0 then xS l n day (qgc load) else vT d day) day (qcH l n (qhT day load)) := by
  constructor
  · refine qbt h rfl rfl (by show (yw == jA) = false; decide) (by show (yw == zl) = false; decide) fun s => ?_
    simp only [show (yw == [116, 101, 115, 116]) = true by decide, show (yw == [117, 115, 101]) = false by decide, if_true, if_false, Bool.false_eq_true, qbl, List.getElem?_cons_succ, List.getElem?_cons_zero, Option.bind_some, xm, qgc]
    by_cases ho : ji load 2 999999999 = true <;> simp [ho]
  · intro _
    refine qa2 h rfl rfl (by show (yw == jA) = false; decide) _ (qaU (n := n) rfl _ fun s l k hk => ?_)
    have hlt := (List.getElem?_eq_some_iff.1 hk).1
    simp only [show (yw == [116, 101, 115, 116]) = true by decide, show (yw == [117, 115, 101]) = false by decide, show (yw == [102, 97, 105, 108]) = false by decide, show (yw == [114, 101, 99, 97, 108, 108]) = false by decide, if_true, if_false, Bool.false_eq_true, qbl, List.getElem?_cons_succ, List.getElem?_cons_zero, Option.bind_some]
    by_cases hb : (s.Name == n) = true
    · simp only [hb, if_true, yK hlt, Option.bind_some, ku, List.getElem?_set_self hlt]
      rw [yK (by simpa using hlt), List.set_set]
      rfl
    · simp only [hb, if_false, Bool.false_eq_true]
      rw [show l.set k s = l from by
        have e : l[k] = s := by rw [List.getElem?_eq_getElem hlt] at hk; injection hk
        rw [← e, List.set_getElem_self]]
def useM (day load : Int) (s : qh) : Int := if qce s day = false then 24 else if load > s.Limit then 31 else 0
def useF (s : qh) : qh := ⟨s.Name, s.Batch, s.Born, s.Last, s.Uses, w64 (s.Used + 1), s.Limit, s.Until, s.Gone⟩
theorem qjt {N : Nat} {d : Int} {l : List qh} (h : yA N l) {num day load : Int} {n t : Str} (h0 : 0 ≤ day) :
    qbX (qA N d l num qai [n] [day, load] t) (if vT d day = 0 then xS l n day (useM day load) else vT d day) day (qcH l n useF) := by
  have h' := h
  obtain ⟨ha, hl, hN, hM⟩ := h
  refine qbX.day hN rfl h0 rfl fun hd => ?_
  simp only [zk, Option.bind_some, show (qai == [109, 97, 107, 101]) = false by decide, show (qai == [116, 101, 115, 116]) = false by decide, show (qai == [117, 115, 101]) = true by decide, Bool.false_eq_true, if_false, if_true, qaa hl, vD, yB, qbl, List.getElem?_cons_zero, List.getElem?_cons_succ]
  rw [qex h']
  cases hh : zV l n with
  | false =>
    refine ⟨l, ?_, fun h => by rw [vU hh] at h; cases h⟩
    rw [vU hh]
    cases hq : l[zH l n]? with
    | none => simp
    | some s => simp [hh]
  | true =>
    obtain ⟨s, hs, hlt⟩ := qa3 hh
    have hname := qcS hs hh
    unfold xS
    rw [hs]
    simp only [hh, if_true, Option.bind_some]
    by_cases hr : xA s day = true
    · exact ⟨l, by simp [hr], fun h => by rw [if_pos hr] at h; cases h⟩
    · simp only [hr, if_false, Bool.false_eq_true, decide_true, Bool.not_true, ku, hs, Option.bind_some, xw, vK]
      rw [jr (by simp) (by simp; omega)]
      unfold useM
      simp only [Option.bind_some]
      by_cases hH : qce s day = true
      · by_cases hL : load > s.Limit
        · exact ⟨l, by simp [hH, hL, qE], fun h => by simp [hH, hL] at h⟩
        · refine ⟨l.set (zH l n) (useF s), ?_, fun _ => (ha.set hs hname _).symm⟩
          simp only [hH, hL, qE, Bool.not_true, Bool.false_eq_true, if_false, if_true, decide_false, decide_true, yK hlt, Option.bind_some]
          rfl
      · exact ⟨l, by simp [hH, qE], fun h => by simp [hH] at h⟩
theorem qhv {N : Nat} {d : Int} {l : List qh} (h : yA N l) {num day load : Int} {n t : Str} :
    qg5 N d l ⟨num, qai, [n], [day, load], t⟩ (if vT d day = 0 then xS l n day (useM day load) else vT d day) day (qcH l n useF) := by
  constructor
  · refine qbt h rfl rfl (by show (qai == jA) = false; decide) (by show (qai == zl) = false; decide) fun s => ?_
    simp only [show (qai == [116, 101, 115, 116]) = false by decide, show (qai == [117, 115, 101]) = true by decide, if_true, if_false, Bool.false_eq_true, qbl, List.getElem?_cons_succ, List.getElem?_cons_zero, Option.bind_some, qd8, useM]
    by_cases hH : qce s day = true
    · by_cases hL : load > s.Limit <;> simp [hH, hL]
    · simp [hH]
  · intro _
    refine qa2 h rfl rfl (by show (qai == jA) = false; decide) _ (qaU (n := n) rfl _ fun s l k hk => ?_)
    have hlt := (List.getElem?_eq_some_iff.1 hk).1
    simp only [show (qai == [116, 101, 115, 116]) = false by decide, show (qai == [117, 115, 101]) = true by decide, show (qai == [102, 97, 105, 108]) = false by decide, show (qai == [114, 101, 99, 97, 108, 108]) = false by decide, if_true, if_false, Bool.false_eq_true, Option.bind_some]
    by_cases hb : (s.Name == n) = true
    · simp only [hb, if_true, yK hlt, Option.bind_some]
      rfl
    · simp only [hb, if_false, Bool.false_eq_true]
      rw [show l.set k s = l from by
        have e : l[k] = s := by rw [List.getElem?_eq_getElem hlt] at hk; injection hk
        rw [← e, List.set_getElem_self]]
def qgr (s : qh) : qh := ⟨s.Name, s.Batch, s.Born, s.Last, s.Uses, s.Used, s.Limit, s.Until, true⟩
theorem qia {N : Nat} {d : Int} {l : List qh} (h : yA N l) {num day : Int} {n t : Str} (h0 : 0 ≤ day) :
    qbX (qA N d l num vY [n] [day] t) (if vT d day = 0 then xS l n day (fun _ => 0) else vT d day) day (qcH l n qgr) := by
  have h' := h
  obtain ⟨ha, hl, hN, hM⟩ := h
  refine qbX.day hN rfl h0 rfl fun hd => ?_
  simp only [zk, Option.bind_some, show (vY == [109, 97, 107, 101]) = false by decide, show (vY == [116, 101, 115, 116]) = false by decide, show (vY == [117, 115, 101]) = false by decide, show (vY == [102, 97, 105, 108]) = true by decide, Bool.false_eq_true, if_false, if_true, qaa hl, jJ, yB, qbl, List.getElem?_cons_zero, List.getElem?_cons_succ]
  rw [qex h']
  cases hh : zV l n with
  | false =>
    refine ⟨l, ?_, fun h => by rw [vU hh] at h; cases h⟩
    rw [vU hh]
    cases hq : l[zH l n]? with
    | none => simp
    | some s => simp [hh]
  | true =>
    obtain ⟨s, hs, hlt⟩ := qa3 hh
    have hname := qcS hs hh
    unfold xS
    rw [hs]
    simp only [hh, if_true, Option.bind_some]
    by_cases hr : xA s day = true
    · exact ⟨l, by simp [hr], fun h => by rw [if_pos hr] at h; cases h⟩
    · refine ⟨l.set (zH l n) (qgr s), ?_, fun _ => (ha.set hs hname _).symm⟩
      simp only [hr, if_false, Bool.false_eq_true, decide_true, Bool.not_true, ku, hs, Option.bind_some, yK hlt]
      rfl
theorem qe0 {N : Nat} {d : Int} {l : List qh} (h : yA N l) {num day : Int} {n t : Str} :
    qg5 N d l ⟨num, vY, [n], [day], t⟩ (if vT d day = 0 then xS l n day (fun _ => 0) else vT d day) day (qcH l n qgr) := by
  constructor
  · refine qbt h rfl rfl (by show (vY == jA) = false; decide) (by show (vY == zl) = false; decide) fun s => ?_
    simp only [show (vY == [116, 101, 115, 116]) = false by decide, show (vY == [117, 115, 101]) = false by decide, if_true, if_false, Bool.false_eq_true, Option.bind_some]
  · intro _
    refine qa2 h rfl rfl (by show (vY == jA) = false; decide) _ (qaU (n := n) rfl _ fun s l k hk => ?_)
    have hlt := (List.getElem?_eq_some_iff.1 hk).1
    simp only [show (vY == [116, 101, 115, 116]) = false by decide, show (vY == [117, 115, 101]) = false by decide, show (vY == [102, 97, 105, 108]) = true by decide, show (vY == [114, 101, 99, 97, 108, 108]) = false by decide, if_true, if_false, Bool.false_eq_true, Option.bind_some]
    by_cases hb : (s.Name == n) = true
    · simp only [hb, if_true, yK hlt, Option.bind_some]
      rfl
    · simp only [hb, if_false, Bool.false_eq_true, Option.bind_some]
      rw [show l.set k s = l from by
        have e : l[k] = s := by rw [List.getElem?_eq_getElem hlt] at hk; injection hk
        rw [← e, List.set_getElem_self]]
end Go.Av
