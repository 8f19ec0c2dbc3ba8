/-
  Chapter 10: what events do with a register: test, use, fail, recall; the step of all kinds.
-/
import Derived.Test.YtjflombnfhlkaaaGreatDoorPlC4
noncomputable section
namespace Go.Av
set_option linter.unusedSimpArgs false
set_option linter.unusedVariables false
theorem qdp {l : List qf} {n : Str} {s : qf} (hq : l[zT l n]? = some s) (hh : zX l n = true) : s.Name = n := by
  have := qb8 hq
  rw [hh] at this
  exact beq_iff_eq.1 this.symm
theorem jV {l : List qf} {n : Str} {day : Int} {m : qf → Int} (h : zX l n = false) : qan l n day m = 10 := by
  unfold qan
  cases l[zT l n]? with
  | none => rfl
  | some s => simp [h]
theorem qbt {l : List qf} {n : Str} (h : zX l n = true) : ∃ s, l[zT l n]? = some s ∧ zT l n < l.length := ⟨_, List.getElem?_eq_getElem (qbp h), qbp h⟩
theorem qbQ {N : Nat} {d : Int} {l : List qf} (h : yM N l) {e : ql} {n : Str} {day : Int} (hn : e.Names[0]? = some n) (hv : e.Values[0]? = some day) (h1 : (e.Kind == jr) = false) (h5 : (e.Kind == kE) = false) {m : qf → Int}
    (hm : ∀ s : qf, (((if (e.Kind == [116, 101, 115, 116]) = true then (idx e.Values 1).bind fun x43 => (zD x43 2 999999999).bind fun r44 => some r44 else some false : Option Bool).bind fun b45 =>
        if b45 = true then some 3 else ((if (e.Kind == [117, 115, 101]) = true then (yE s day).bind fun r51 => if (!r51) = true then some (.inr 24) else (idx e.Values 1).bind fun x53 => if x53 > s.Limit then some (.inr 31) else some (.inl ()) else some (.inl ()) : Option (Unit ⊕ Int))).bind (fun
          | (.inl ()) => some 0
          | (.inr q55) => some q55)) : Option Int) = some (m s)) :
    kM N ⟨d, l⟩ e = some (if yl d day = 0 then qan l n day m else yl d day) := by
  obtain ⟨ha, hl, hN, hM⟩ := h
  unfold kM
  simp only [yw, hv, hn, Option.bind_some, qh5 (N := N) (r := ⟨d, l⟩) (show l.length < _ by omega) (show l.length < N by omega) ha]
  have h1' : ¬ (e.Kind == [109, 97, 107, 101]) = true := by rw [show ([109, 97, 107, 101] : Str) = jr from rfl, h1]; simp
  have h5' : ¬ (e.Kind == [114, 101, 99, 97, 108, 108]) = true := by rw [show ([114, 101, 99, 97, 108, 108] : Str) = kE from rfl, h5]; simp
  rw [if_neg h1', if_neg h5']
  unfold yl
  by_cases a1 : day > 99999
  · simp [a1]
  by_cases a2 : day < d
  · simp [a1, a2]
  simp only [a1, a2, if_false, if_true]
  cases hh : zX l n with
  | false => rw [jV hh]; rfl
  | true =>
    obtain ⟨s, hs, hlt⟩ := qbt hh
    rw [if_pos rfl, if_neg (by omega), qO, hs, Option.bind_some, qc8, Option.bind_some]
    unfold qan
    rw [hs]
    simp only [hh, if_true]
    by_cases hr : yN s day = true
    · simp [hr]
    · rw [if_neg hr, if_neg hr]
      exact hm s
theorem qa3 {e : ql} {day : Int} {n : Str} (hn : e.Names[0]? = some n) (f : qf → qf) (hf : ∀ (s : qf) (l : List qf) (k : Nat), l[k]? = some s → (((if (e.Kind == [116, 101, 115, 116]) = true then some (s.Name == n) else some false : Option Bool).bind fun b33 =>
      if b33 = true then (idx e.Values 1).bind fun x36 => (put l k (⟨s.Name, s.Batch, s.Born, s.Last, s.Uses, s.Used, w64 (x36.tdiv 2), s.Until, s.Gone⟩ : qf)).bind fun l37 => (idx l37 k).bind fun x38 =>
        (put l37 k (⟨x38.Name, x38.Batch, x38.Born, x38.Last, x38.Uses, x38.Used, x38.Limit, (if x38.Last < (w64 (day + 365)) then x38.Last else (w64 (day + 365))), x38.Gone⟩ : qf)).bind fun l39 => some l39
      else (if (e.Kind == [117, 115, 101]) = true then some (s.Name == n) else some false : Option Bool).bind fun b41 =>
      if b41 = true then (put l k (⟨s.Name, s.Batch, s.Born, s.Last, s.Uses, w64 (s.Used + 1), s.Limit, s.Until, s.Gone⟩ : qf)).bind fun l44 => some l44
      else (if (e.Kind == [102, 97, 105, 108]) = true then some (s.Name == n) else some false : Option Bool).bind fun b46 =>
      ((if b46 = true then some b46 else (if (e.Kind == [114, 101, 99, 97, 108, 108]) = true then some (s.Batch == n) else some false : Option Bool).bind fun b52 => some b52 : Option Bool)).bind fun b48 =>
      if b48 = true then (put l k (⟨s.Name, s.Batch, s.Born, s.Last, s.Uses, s.Used, s.Limit, s.Until, true⟩ : qf)).bind fun l55 => some l55 else some l) : Option (List qf)) = some (l.set k (f s))) :
    ∀ (K : Nat) (l : List qf) (k : Nat), l.length ≤ 1000 → k ≤ l.length → l.length < K + k → zC e day K l (k : Int) = some (l.take k ++ (l.drop k).map f)
  | 0, l, k, hl, h, hK => by omega
  | K + 1, l, k, hl, h, hK => by
    unfold zC
    by_cases hk : k < l.length
    · have hg : l[k]? = some l[k] := List.getElem?_eq_getElem hk
      rw [if_pos (by omega), qO, hg, Option.bind_some, yw, hn, Option.bind_some]
      have := hf l[k] l k hg
      rw [this, Option.bind_some, zm (by omega), qa3 hn f hf K (l.set k (f l[k])) (k + 1) (by simp; omega) (by simp; omega) (by simp; omega)]
      congr 1
      rw [List.drop_eq_getElem_cons hk, List.drop_set, if_pos (by omega), List.map_cons, List.take_add_one, List.getElem?_set_self hk, List.take_set, List.set_eq_of_length_le (by simp; exact Nat.min_le_left _ _)]
      simp
    · rw [if_neg (by omega), List.take_of_length_le (by omega), List.drop_of_length_le (by omega)]
      simp
theorem qbo {N : Nat} {d : Int} {l : List qf} (h : yM N l) {e : ql} {day : Int} {n : Str} (hn : e.Names[0]? = some n) (hv : e.Values[0]? = some day) (h1 : (e.Kind == jr) = false) (f : qf → qf)
    (hK : ∀ (K : Nat) (l : List qf) (k : Nat), l.length ≤ 1000 → k ≤ l.length → l.length < K + k → zC e day K l (k : Int) = some (l.take k ++ (l.drop k).map f)) : zA N ⟨d, l⟩ e = some ⟨day, l.map f⟩ := by
  obtain ⟨ha, hl, hN, hM⟩ := h
  unfold zA
  rw [yw, hv, Option.bind_some]
  have h1' : ¬ (e.Kind == [109, 97, 107, 101]) = true := by rw [show ([109, 97, 107, 101] : Str) = jr from rfl, h1]; simp
  simp only
  rw [vC (by simp; omega) (by simp; omega), Option.bind_some, List.nil_append, if_neg h1']
  rw [show zC e day N l 0 = zC e day N l ((0 : Nat) : Int) from rfl, hK N l 0 hl (by omega) (by omega)]
  simp
def qgX (load : Int) (_ : qf) : Int := if jS load 2 999999999 = true then 3 else 0
def qiO (day load : Int) (s : qf) : qf := ⟨s.Name, s.Batch, s.Born, s.Last, s.Uses, s.Used, w64 (load.tdiv 2), (if s.Last < w64 (day + 365) then s.Last else w64 (day + 365)), s.Gone⟩
theorem qhC {N : Nat} {d : Int} {l : List qf} (h : yM N l) {num day load : Int} {n t : Str} (h0 : 0 ≤ day) :
    qcg (qD N d l num yP [n] [day, load] t) (if yl d day = 0 then qan l n day (qgX load) else yl d day) day (qde l n (qiO day load)) := by
  have h' := h
  obtain ⟨ha, hl, hN, hM⟩ := h
  refine qcg.day hN rfl h0 rfl fun hd => ?_
  simp only [zH, Option.bind_some, show (yP == [109, 97, 107, 101]) = false by decide, show (yP == [116, 101, 115, 116]) = true by decide, Bool.false_eq_true, if_false, if_true, xE hl, j3, yw, qa9, List.getElem?_cons_zero, List.getElem?_cons_succ, qaq]
  rw [qfg h']
  cases hh : zX l n with
  | false =>
    refine ⟨l, ?_, fun h => ?_⟩
    · rw [jV hh]
      cases hq : l[zT l n]? with
      | none =>
        simp only [Option.bind_some]
        rw [vH (by simp) (by simp; omega)]
        simp [qN]
      | some s =>
        simp only [hh, Bool.false_eq_true, if_false, Option.bind_some]
        rw [vH (by simp) (by simp; omega)]
        simp [qN]
    · rw [jV hh] at h; cases h
  | true =>
    obtain ⟨s, hs, hlt⟩ := qbt hh
    have hname := qdp hs hh
    unfold qan
    rw [hs]
    simp only [hh, if_true, Option.bind_some]
    rw [vH (by simp) (by simp; omega)]
    unfold qgX
    by_cases hr : yN s day = true
    · exact ⟨l, by simp [hr, qN], fun h => by rw [if_pos hr] at h; cases h⟩
    · by_cases ho : jS load 2 999999999 = true
      · exact ⟨l, by simp [hr, ho, qN], fun h => by rw [if_neg hr, if_pos ho] at h; cases h⟩
      · refine ⟨l.set (zT l n) (qiO day load s), ?_, fun _ => (ha.set hs hname _).symm⟩
        have hlen : zT l n < (l.set (zT l n) (⟨s.Name, s.Batch, s.Born, s.Last, s.Uses, s.Used, w64 (load.tdiv 2), s.Until, s.Gone⟩ : qf)).length := by simpa using hlt
        simp only [hr, ho, if_false, qN, if_true, Bool.false_eq_true, Option.bind_some, decide_true, Bool.not_true, qO, hs, y7 hlt, List.getElem?_set_self hlt, y7 hlen, List.set_set]
        rfl
theorem qfH {N : Nat} {d : Int} {l : List qf} (h : yM N l) {num day load : Int} {n t : Str} :
    qhr N d l ⟨num, yP, [n], [day, load], t⟩ (if yl d day = 0 then qan l n day (qgX load) else yl d day) day (qde l n (qiO day load)) := by
  constructor
  · refine qbQ h rfl rfl (by show (yP == jr) = false; decide) (by show (yP == kE) = false; decide) fun s => ?_
    simp only [show (yP == [116, 101, 115, 116]) = true by decide, show (yP == [117, 115, 101]) = false by decide, if_true, if_false, Bool.false_eq_true, qa9, List.getElem?_cons_succ, List.getElem?_cons_zero, Option.bind_some, xI, qgX]
    by_cases ho : jS load 2 999999999 = true <;> simp [ho]
  · intro _
    refine qbo h rfl rfl (by show (yP == jr) = false; decide) _ (qa3 (n := n) rfl _ fun s l k hk => ?_)
    have hlt := (List.getElem?_eq_some_iff.1 hk).1
    simp only [show (yP == [116, 101, 115, 116]) = true by decide, show (yP == [117, 115, 101]) = false by decide, show (yP == [102, 97, 105, 108]) = false by decide, show (yP == [114, 101, 99, 97, 108, 108]) = false by decide, if_true, if_false, Bool.false_eq_true, qa9, List.getElem?_cons_succ, List.getElem?_cons_zero, Option.bind_some]
    by_cases hb : (s.Name == n) = true
    · simp only [hb, if_true, y7 hlt, Option.bind_some, qO, List.getElem?_set_self hlt]
      rw [y7 (by simpa using hlt), List.set_set]
      rfl
    · simp only [hb, if_false, Bool.false_eq_true]
      rw [show l.set k s = l from by
        have e : l[k] = s := by rw [List.getElem?_eq_getElem hlt] at hk; injection hk
        rw [← e, List.set_getElem_self]]
def useM (day load : Int) (s : qf) : Int := if qas s day = false then 24 else if load > s.Limit then 31 else 0
def useF (s : qf) : qf := ⟨s.Name, s.Batch, s.Born, s.Last, s.Uses, w64 (s.Used + 1), s.Limit, s.Until, s.Gone⟩
theorem qjN {N : Nat} {d : Int} {l : List qf} (h : yM N l) {num day load : Int} {n t : Str} (h0 : 0 ≤ day) :
    qcg (qD N d l num qaH [n] [day, load] t) (if yl d day = 0 then qan l n day (useM day load) else yl d day) day (qde l n useF) := by
  have h' := h
  obtain ⟨ha, hl, hN, hM⟩ := h
  refine qcg.day hN rfl h0 rfl fun hd => ?_
  simp only [zH, Option.bind_some, show (qaH == [109, 97, 107, 101]) = false by decide, show (qaH == [116, 101, 115, 116]) = false by decide, show (qaH == [117, 115, 101]) = true by decide, Bool.false_eq_true, if_false, if_true, xE hl, vU, yw, qa9, List.getElem?_cons_zero, List.getElem?_cons_succ]
  rw [qfg h']
  cases hh : zX l n with
  | false =>
    refine ⟨l, ?_, fun h => by rw [jV hh] at h; cases h⟩
    rw [jV hh]
    cases hq : l[zT l n]? with
    | none => simp
    | some s => simp [hh]
  | true =>
    obtain ⟨s, hs, hlt⟩ := qbt hh
    have hname := qdp hs hh
    unfold qan
    rw [hs]
    simp only [hh, if_true, Option.bind_some]
    by_cases hr : yN s day = true
    · exact ⟨l, by simp [hr], fun h => by rw [if_pos hr] at h; cases h⟩
    · simp only [hr, if_false, Bool.false_eq_true, decide_true, Bool.not_true, qO, hs, Option.bind_some, qd5, y8]
      rw [vH (by simp) (by simp; omega)]
      unfold useM
      simp only [Option.bind_some]
      by_cases hH : qas s day = true
      · by_cases hL : load > s.Limit
        · exact ⟨l, by simp [hH, hL, qN], fun h => by simp [hH, hL] at h⟩
        · refine ⟨l.set (zT l n) (useF s), ?_, fun _ => (ha.set hs hname _).symm⟩
          simp only [hH, hL, qN, Bool.not_true, Bool.false_eq_true, if_false, if_true, decide_false, decide_true, y7 hlt, Option.bind_some]
          rfl
      · exact ⟨l, by simp [hH, qN], fun h => by simp [hH] at h⟩
theorem qhH {N : Nat} {d : Int} {l : List qf} (h : yM N l) {num day load : Int} {n t : Str} :
    qhr N d l ⟨num, qaH, [n], [day, load], t⟩ (if yl d day = 0 then qan l n day (useM day load) else yl d day) day (qde l n useF) := by
  constructor
  · refine qbQ h rfl rfl (by show (qaH == jr) = false; decide) (by show (qaH == kE) = false; decide) fun s => ?_
    simp only [show (qaH == [116, 101, 115, 116]) = false by decide, show (qaH == [117, 115, 101]) = true by decide, if_true, if_false, Bool.false_eq_true, qa9, List.getElem?_cons_succ, List.getElem?_cons_zero, Option.bind_some, qhA, useM]
    by_cases hH : qas s day = true
    · by_cases hL : load > s.Limit <;> simp [hH, hL]
    · simp [hH]
  · intro _
    refine qbo h rfl rfl (by show (qaH == jr) = false; decide) _ (qa3 (n := n) rfl _ fun s l k hk => ?_)
    have hlt := (List.getElem?_eq_some_iff.1 hk).1
    simp only [show (qaH == [116, 101, 115, 116]) = false by decide, show (qaH == [117, 115, 101]) = true by decide, show (qaH == [102, 97, 105, 108]) = false by decide, show (qaH == [114, 101, 99, 97, 108, 108]) = false by decide, if_true, if_false, Bool.false_eq_true, Option.bind_some]
    by_cases hb : (s.Name == n) = true
    · simp only [hb, if_true, y7 hlt, Option.bind_some]
      rfl
    · simp only [hb, if_false, Bool.false_eq_true]
      rw [show l.set k s = l from by
        have e : l[k] = s := by rw [List.getElem?_eq_getElem hlt] at hk; injection hk
        rw [← e, List.set_getElem_self]]
def qdZ (s : qf) : qf := ⟨s.Name, s.Batch, s.Born, s.Last, s.Uses, s.Used, s.Limit, s.Until, true⟩
theorem qhS {N : Nat} {d : Int} {l : List qf} (h : yM N l) {num day : Int} {n t : Str} (h0 : 0 ≤ day) :
    qcg (qD N d l num yC [n] [day] t) (if yl d day = 0 then qan l n day (fun _ => 0) else yl d day) day (qde l n qdZ) := by
  have h' := h
  obtain ⟨ha, hl, hN, hM⟩ := h
  refine qcg.day hN rfl h0 rfl fun hd => ?_
  simp only [zH, Option.bind_some, show (yC == [109, 97, 107, 101]) = false by decide, show (yC == [116, 101, 115, 116]) = false by decide, show (yC == [117, 115, 101]) = false by decide, show (yC == [102, 97, 105, 108]) = true by decide, Bool.false_eq_true, if_false, if_true, xE hl, jZ, yw, qa9, List.getElem?_cons_zero, List.getElem?_cons_succ]
  rw [qfg h']
  cases hh : zX l n with
  | false =>
    refine ⟨l, ?_, fun h => by rw [jV hh] at h; cases h⟩
    rw [jV hh]
    cases hq : l[zT l n]? with
    | none => simp
    | some s => simp [hh]
  | true =>
    obtain ⟨s, hs, hlt⟩ := qbt hh
    have hname := qdp hs hh
    unfold qan
    rw [hs]
    simp only [hh, if_true, Option.bind_some]
    by_cases hr : yN s day = true
    · exact ⟨l, by simp [hr], fun h => by rw [if_pos hr] at h; cases h⟩
    · refine ⟨l.set (zT l n) (qdZ s), ?_, fun _ => (ha.set hs hname _).symm⟩
      simp only [hr, if_false, Bool.false_eq_true, decide_true, Bool.not_true, qO, hs, Option.bind_some, y7 hlt]
      rfl
theorem qf8 {N : Nat} {d : Int} {l : List qf} (h : yM N l) {num day : Int} {n t : Str} :
    qhr N d l ⟨num, yC, [n], [day], t⟩ (if yl d day = 0 then qan l n day (fun _ => 0) else yl d day) day (qde l n qdZ) := by
  constructor
  · refine qbQ h rfl rfl (by show (yC == jr) = false; decide) (by show (yC == kE) = false; decide) fun s => ?_
    simp only [show (yC == [116, 101, 115, 116]) = false by decide, show (yC == [117, 115, 101]) = false by decide, if_true, if_false, Bool.false_eq_true, Option.bind_some]
  · intro _
    refine qbo h rfl rfl (by show (yC == jr) = false; decide) _ (qa3 (n := n) rfl _ fun s l k hk => ?_)
    have hlt := (List.getElem?_eq_some_iff.1 hk).1
    simp only [show (yC == [116, 101, 115, 116]) = false by decide, show (yC == [117, 115, 101]) = false by decide, show (yC == [102, 97, 105, 108]) = true by decide, show (yC == [114, 101, 99, 97, 108, 108]) = false by decide, if_true, if_false, Bool.false_eq_true, Option.bind_some]
    by_cases hb : (s.Name == n) = true
    · simp only [hb, if_true, y7 hlt, Option.bind_some]
      rfl
    · simp only [hb, if_false, Bool.false_eq_true, Option.bind_some]
      rw [show l.set k s = l from by
        have e : l[k] = s := by rw [List.getElem?_eq_getElem hlt] at hk; injection hk
        rw [← e, List.set_getElem_self]]
end Go.Av
