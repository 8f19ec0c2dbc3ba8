/-
  Chapter 10: what events do with a register: test, use, fail, recall; the step of all kinds.
-/
import Derived.Test.YtjflombnfhlkaaaGreatDoorPlL4
noncomputable section
namespace Go.Av
set_option linter.unusedSimpArgs false
set_option linter.unusedVariables false
theorem get_has {l : List SlingT} {n : Str} {s : SlingT} (hq : l[posE l n]? = some s) (hh : hasE l n = true) : s.Name = n := by
  have := posE_get hq
  rw [hh] at this
  exact beq_iff_eq.1 this.symm
theorem opErr_none {l : List SlingT} {n : Str} {day : Int} {m : SlingT → Int} (h : hasE l n = false) : opErr l n day m = 10 := by
  unfold opErr
  cases l[posE l n]? with
  | none => rfl
  | some s => simp [h]
theorem has_get {l : List SlingT} {n : Str} (h : hasE l n = true) : ∃ s, l[posE l n]? = some s ∧ posE l n < l.length := ⟨_, List.getElem?_eq_getElem (hasE_lt h), hasE_lt h⟩
theorem refused_op {N : Nat} {d : Int} {l : List SlingT} (h : RegOK N l) {e : EventT} {n : Str} {day : Int} (hn : e.Names[0]? = some n) (hv : e.Values[0]? = some day) (h1 : (e.Kind == kMake) = false) (h5 : (e.Kind == kRecall) = false) {m : SlingT → Int}
    (hm : ∀ s : SlingT, (((if (e.Kind == [116, 101, 115, 116]) = true then (idx e.Values 1).bind fun x43 => (ref10_Outside x43 2 999999999).bind fun r44 => some r44 else some false : Option Bool).bind fun b45 =>
        if b45 = true then some 3 else ((if (e.Kind == [117, 115, 101]) = true then (ref10_Holds s day).bind fun r51 => if (!r51) = true then some (.inr 24) else (idx e.Values 1).bind fun x53 => if x53 > s.Limit then some (.inr 31) else some (.inl ()) else some (.inl ()) : Option (Unit ⊕ Int))).bind (fun
          | (.inl ()) => some 0
          | (.inr q55) => some q55)) : Option Int) = some (m s)) :
    ref10_refused N ⟨d, l⟩ e = some (if dayE d day = 0 then opErr l n day m else dayE d day) := by
  obtain ⟨ha, hl, hN, hM⟩ := h
  unfold ref10_refused
  simp only [idx_0, hv, hn, Option.bind_some, At_eq (N := N) (r := ⟨d, l⟩) (show l.length < _ by omega) (show l.length < N by omega) ha]
  have h1' : ¬ (e.Kind == [109, 97, 107, 101]) = true := by rw [show ([109, 97, 107, 101] : Str) = kMake from rfl, h1]; simp
  have h5' : ¬ (e.Kind == [114, 101, 99, 97, 108, 108]) = true := by rw [show ([114, 101, 99, 97, 108, 108] : Str) = kRecall from rfl, h5]; simp
  rw [if_neg h1', if_neg h5']
  unfold dayE
  by_cases a1 : day > 99999
  · simp [a1]
  by_cases a2 : day < d
  · simp [a1, a2]
  simp only [a1, a2, if_false, if_true]
  cases hh : hasE l n with
  | false => rw [opErr_none hh]; rfl
  | true =>
    obtain ⟨s, hs, hlt⟩ := has_get hh
    rw [if_pos rfl, if_neg (by omega), idx_nat, hs, Option.bind_some, rRetired_eq, Option.bind_some]
    unfold opErr
    rw [hs]
    simp only [hh, if_true]
    by_cases hr : retE s day = true
    · simp [hr]
    · rw [if_neg hr, if_neg hr]
      exact hm s
theorem after_L1 {e : EventT} {day : Int} {n : Str} (hn : e.Names[0]? = some n) (f : SlingT → SlingT) (hf : ∀ (s : SlingT) (l : List SlingT) (k : Nat), l[k]? = some s → (((if (e.Kind == [116, 101, 115, 116]) = true then some (s.Name == n) else some false : Option Bool).bind fun b33 =>
      if b33 = true then (idx e.Values 1).bind fun x36 => (put l k (⟨s.Name, s.Batch, s.Born, s.Last, s.Uses, s.Used, w64 (x36.tdiv 2), s.Until, s.Gone⟩ : SlingT)).bind fun l37 => (idx l37 k).bind fun x38 =>
        (put l37 k (⟨x38.Name, x38.Batch, x38.Born, x38.Last, x38.Uses, x38.Used, x38.Limit, (if x38.Last < (w64 (day + 365)) then x38.Last else (w64 (day + 365))), x38.Gone⟩ : SlingT)).bind fun l39 => some l39
      else (if (e.Kind == [117, 115, 101]) = true then some (s.Name == n) else some false : Option Bool).bind fun b41 =>
      if b41 = true then (put l k (⟨s.Name, s.Batch, s.Born, s.Last, s.Uses, w64 (s.Used + 1), s.Limit, s.Until, s.Gone⟩ : SlingT)).bind fun l44 => some l44
      else (if (e.Kind == [102, 97, 105, 108]) = true then some (s.Name == n) else some false : Option Bool).bind fun b46 =>
      ((if b46 = true then some b46 else (if (e.Kind == [114, 101, 99, 97, 108, 108]) = true then some (s.Batch == n) else some false : Option Bool).bind fun b52 => some b52 : Option Bool)).bind fun b48 =>
      if b48 = true then (put l k (⟨s.Name, s.Batch, s.Born, s.Last, s.Uses, s.Used, s.Limit, s.Until, true⟩ : SlingT)).bind fun l55 => some l55 else some l) : Option (List SlingT)) = some (l.set k (f s))) :
    ∀ (K : Nat) (l : List SlingT) (k : Nat), l.length ≤ 1000 → k ≤ l.length → l.length < K + k → ref10_after_L1 e day K l (k : Int) = some (l.take k ++ (l.drop k).map f)
  | 0, l, k, hl, h, hK => by omega
  | K + 1, l, k, hl, h, hK => by
    unfold ref10_after_L1
    by_cases hk : k < l.length
    · have hg : l[k]? = some l[k] := List.getElem?_eq_getElem hk
      rw [if_pos (by omega), idx_nat, hg, Option.bind_some, idx_0, hn, Option.bind_some]
      have := hf l[k] l k hg
      rw [this, Option.bind_some, w64_up (by omega), after_L1 hn f hf K (l.set k (f l[k])) (k + 1) (by simp; omega) (by simp; omega) (by simp; omega)]
      congr 1
      rw [List.drop_eq_getElem_cons hk, List.drop_set, if_pos (by omega), List.map_cons, List.take_add_one, List.getElem?_set_self hk, List.take_set, List.set_eq_of_length_le (by simp; exact Nat.min_le_left _ _)]
      simp
    · rw [if_neg (by omega), List.take_of_length_le (by omega), List.drop_of_length_le (by omega)]
      simp
theorem after_map {N : Nat} {d : Int} {l : List SlingT} (h : RegOK N l) {e : EventT} {day : Int} {n : Str} (hn : e.Names[0]? = some n) (hv : e.Values[0]? = some day) (h1 : (e.Kind == kMake) = false) (f : SlingT → SlingT)
    (hK : ∀ (K : Nat) (l : List SlingT) (k : Nat), l.length ≤ 1000 → k ≤ l.length → l.length < K + k → ref10_after_L1 e day K l (k : Int) = some (l.take k ++ (l.drop k).map f)) : ref10_after N ⟨d, l⟩ e = some ⟨day, l.map f⟩ := by
  obtain ⟨ha, hl, hN, hM⟩ := h
  unfold ref10_after
  rw [idx_0, hv, Option.bind_some]
  have h1' : ¬ (e.Kind == [109, 97, 107, 101]) = true := by rw [show ([109, 97, 107, 101] : Str) = kMake from rfl, h1]; simp
  simp only
  rw [app_ok (by simp; omega) (by simp; omega), Option.bind_some, List.nil_append, if_neg h1']
  rw [show ref10_after_L1 e day N l 0 = ref10_after_L1 e day N l ((0 : Nat) : Int) from rfl, hK N l 0 hl (by omega) (by omega)]
  simp
def testM (load : Int) (_ : SlingT) : Int := if outE load 2 999999999 = true then 3 else 0
def testF (day load : Int) (s : SlingT) : SlingT := ⟨s.Name, s.Batch, s.Born, s.Last, s.Uses, s.Used, w64 (load.tdiv 2), (if s.Last < w64 (day + 365) then s.Last else w64 (day + 365)), s.Gone⟩
theorem tested_P {N : Nat} {d : Int} {l : List SlingT} (h : RegOK N l) {num day load : Int} {n t : Str} (h0 : 0 ≤ day) :
    AftP (record_Register_after_h1 N d l num kTest [n] [day, load] t) (if dayE d day = 0 then opErr l n day (testM load) else dayE d day) day (setE l n (testF day load)) := by
  have h' := h
  obtain ⟨ha, hl, hN, hM⟩ := h
  refine AftP.day hN rfl h0 rfl fun hd => ?_
  simp only [record_kinds, Option.bind_some, show (kTest == [109, 97, 107, 101]) = false by decide, show (kTest == [116, 101, 115, 116]) = true by decide, Bool.false_eq_true, if_false, if_true, copied_eq hl, record_tested_h1, idx_0, idx_1, List.getElem?_cons_zero, List.getElem?_cons_succ, within_eq]
  rw [open_eq h']
  cases hh : hasE l n with
  | false =>
    refine ⟨l, ?_, fun h => ?_⟩
    · rw [opErr_none hh]
      cases hq : l[posE l n]? with
      | none =>
        simp only [Option.bind_some]
        rw [first_eq (by simp) (by simp; omega)]
        simp [firstE]
      | some s =>
        simp only [hh, Bool.false_eq_true, if_false, Option.bind_some]
        rw [first_eq (by simp) (by simp; omega)]
        simp [firstE]
    · rw [opErr_none hh] at h; cases h
  | true =>
    obtain ⟨s, hs, hlt⟩ := has_get hh
    have hname := get_has hs hh
    unfold opErr
    rw [hs]
    simp only [hh, if_true, Option.bind_some]
    rw [first_eq (by simp) (by simp; omega)]
    unfold testM
    by_cases hr : retE s day = true
    · exact ⟨l, by simp [hr, firstE], fun h => by rw [if_pos hr] at h; cases h⟩
    · by_cases ho : outE load 2 999999999 = true
      · exact ⟨l, by simp [hr, ho, firstE], fun h => by rw [if_neg hr, if_pos ho] at h; cases h⟩
      · refine ⟨l.set (posE l n) (testF day load s), ?_, fun _ => (ha.set hs hname _).symm⟩
        have hlen : posE l n < (l.set (posE l n) (⟨s.Name, s.Batch, s.Born, s.Last, s.Uses, s.Used, w64 (load.tdiv 2), s.Until, s.Gone⟩ : SlingT)).length := by simpa using hlt
        simp only [hr, ho, if_false, firstE, if_true, Bool.false_eq_true, Option.bind_some, decide_true, Bool.not_true, idx_nat, hs, put_nat hlt, List.getElem?_set_self hlt, put_nat hlen, List.set_set]
        rfl
theorem tested_R {N : Nat} {d : Int} {l : List SlingT} (h : RegOK N l) {num day load : Int} {n t : Str} :
    AftR N d l ⟨num, kTest, [n], [day, load], t⟩ (if dayE d day = 0 then opErr l n day (testM load) else dayE d day) day (setE l n (testF day load)) := by
  constructor
  · refine refused_op h rfl rfl (by show (kTest == kMake) = false; decide) (by show (kTest == kRecall) = false; decide) fun s => ?_
    simp only [show (kTest == [116, 101, 115, 116]) = true by decide, show (kTest == [117, 115, 101]) = false by decide, if_true, if_false, Bool.false_eq_true, idx_1, List.getElem?_cons_succ, List.getElem?_cons_zero, Option.bind_some, Outside_eq, testM]
    by_cases ho : outE load 2 999999999 = true <;> simp [ho]
  · intro _
    refine after_map h rfl rfl (by show (kTest == kMake) = false; decide) _ (after_L1 (n := n) rfl _ fun s l k hk => ?_)
    have hlt := (List.getElem?_eq_some_iff.1 hk).1
    simp only [show (kTest == [116, 101, 115, 116]) = true by decide, show (kTest == [117, 115, 101]) = false by decide, show (kTest == [102, 97, 105, 108]) = false by decide, show (kTest == [114, 101, 99, 97, 108, 108]) = false by decide, if_true, if_false, Bool.false_eq_true, idx_1, List.getElem?_cons_succ, List.getElem?_cons_zero, Option.bind_some]
    by_cases hb : (s.Name == n) = true
    · simp only [hb, if_true, put_nat hlt, Option.bind_some, idx_nat, List.getElem?_set_self hlt]
      rw [put_nat (by simpa using hlt), List.set_set]
      rfl
    · simp only [hb, if_false, Bool.false_eq_true]
      rw [show l.set k s = l from by
        have e : l[k] = s := by rw [List.getElem?_eq_getElem hlt] at hk; injection hk
        rw [← e, List.set_getElem_self]]
def useM (day load : Int) (s : SlingT) : Int := if holdE s day = false then 24 else if load > s.Limit then 31 else 0
def useF (s : SlingT) : SlingT := ⟨s.Name, s.Batch, s.Born, s.Last, s.Uses, w64 (s.Used + 1), s.Limit, s.Until, s.Gone⟩
theorem used_P {N : Nat} {d : Int} {l : List SlingT} (h : RegOK N l) {num day load : Int} {n t : Str} (h0 : 0 ≤ day) :
    AftP (record_Register_after_h1 N d l num kUse [n] [day, load] t) (if dayE d day = 0 then opErr l n day (useM day load) else dayE d day) day (setE l n useF) := by
  have h' := h
  obtain ⟨ha, hl, hN, hM⟩ := h
  refine AftP.day hN rfl h0 rfl fun hd => ?_
  simp only [record_kinds, Option.bind_some, show (kUse == [109, 97, 107, 101]) = false by decide, show (kUse == [116, 101, 115, 116]) = false by decide, show (kUse == [117, 115, 101]) = true by decide, Bool.false_eq_true, if_false, if_true, copied_eq hl, record_used_h1, idx_0, idx_1, List.getElem?_cons_zero, List.getElem?_cons_succ]
  rw [open_eq h']
  cases hh : hasE l n with
  | false =>
    refine ⟨l, ?_, fun h => by rw [opErr_none hh] at h; cases h⟩
    rw [opErr_none hh]
    cases hq : l[posE l n]? with
    | none => simp
    | some s => simp [hh]
  | true =>
    obtain ⟨s, hs, hlt⟩ := has_get hh
    have hname := get_has hs hh
    unfold opErr
    rw [hs]
    simp only [hh, if_true, Option.bind_some]
    by_cases hr : retE s day = true
    · exact ⟨l, by simp [hr], fun h => by rw [if_pos hr] at h; cases h⟩
    · simp only [hr, if_false, Bool.false_eq_true, decide_true, Bool.not_true, idx_nat, hs, Option.bind_some, holds_eq, when_eq]
      rw [first_eq (by simp) (by simp; omega)]
      unfold useM
      simp only [Option.bind_some]
      by_cases hH : holdE s day = true
      · by_cases hL : load > s.Limit
        · exact ⟨l, by simp [hH, hL, firstE], fun h => by simp [hH, hL] at h⟩
        · refine ⟨l.set (posE l n) (useF s), ?_, fun _ => (ha.set hs hname _).symm⟩
          simp only [hH, hL, firstE, Bool.not_true, Bool.false_eq_true, if_false, if_true, decide_false, decide_true, put_nat hlt, Option.bind_some]
          rfl
      · exact ⟨l, by simp [hH, firstE], fun h => by simp [hH] at h⟩
theorem used_R {N : Nat} {d : Int} {l : List SlingT} (h : RegOK N l) {num day load : Int} {n t : Str} :
    AftR N d l ⟨num, kUse, [n], [day, load], t⟩ (if dayE d day = 0 then opErr l n day (useM day load) else dayE d day) day (setE l n useF) := by
  constructor
  · refine refused_op h rfl rfl (by show (kUse == kMake) = false; decide) (by show (kUse == kRecall) = false; decide) fun s => ?_
    simp only [show (kUse == [116, 101, 115, 116]) = false by decide, show (kUse == [117, 115, 101]) = true by decide, if_true, if_false, Bool.false_eq_true, idx_1, List.getElem?_cons_succ, List.getElem?_cons_zero, Option.bind_some, rHolds_eq, useM]
    by_cases hH : holdE s day = true
    · by_cases hL : load > s.Limit <;> simp [hH, hL]
    · simp [hH]
  · intro _
    refine after_map h rfl rfl (by show (kUse == kMake) = false; decide) _ (after_L1 (n := n) rfl _ fun s l k hk => ?_)
    have hlt := (List.getElem?_eq_some_iff.1 hk).1
    simp only [show (kUse == [116, 101, 115, 116]) = false by decide, show (kUse == [117, 115, 101]) = true by decide, show (kUse == [102, 97, 105, 108]) = false by decide, show (kUse == [114, 101, 99, 97, 108, 108]) = false by decide, if_true, if_false, Bool.false_eq_true, Option.bind_some]
    by_cases hb : (s.Name == n) = true
    · simp only [hb, if_true, put_nat hlt, Option.bind_some]
      rfl
    · simp only [hb, if_false, Bool.false_eq_true]
      rw [show l.set k s = l from by
        have e : l[k] = s := by rw [List.getElem?_eq_getElem hlt] at hk; injection hk
        rw [← e, List.set_getElem_self]]
def failF (s : SlingT) : SlingT := ⟨s.Name, s.Batch, s.Born, s.Last, s.Uses, s.Used, s.Limit, s.Until, true⟩
theorem failed_P {N : Nat} {d : Int} {l : List SlingT} (h : RegOK N l) {num day : Int} {n t : Str} (h0 : 0 ≤ day) :
    AftP (record_Register_after_h1 N d l num kFail [n] [day] t) (if dayE d day = 0 then opErr l n day (fun _ => 0) else dayE d day) day (setE l n failF) := by
  have h' := h
  obtain ⟨ha, hl, hN, hM⟩ := h
  refine AftP.day hN rfl h0 rfl fun hd => ?_
  simp only [record_kinds, Option.bind_some, show (kFail == [109, 97, 107, 101]) = false by decide, show (kFail == [116, 101, 115, 116]) = false by decide, show (kFail == [117, 115, 101]) = false by decide, show (kFail == [102, 97, 105, 108]) = true by decide, Bool.false_eq_true, if_false, if_true, copied_eq hl, record_failed_h1, idx_0, idx_1, List.getElem?_cons_zero, List.getElem?_cons_succ]
  rw [open_eq h']
  cases hh : hasE l n with
  | false =>
    refine ⟨l, ?_, fun h => by rw [opErr_none hh] at h; cases h⟩
    rw [opErr_none hh]
    cases hq : l[posE l n]? with
    | none => simp
    | some s => simp [hh]
  | true =>
    obtain ⟨s, hs, hlt⟩ := has_get hh
    have hname := get_has hs hh
    unfold opErr
    rw [hs]
    simp only [hh, if_true, Option.bind_some]
    by_cases hr : retE s day = true
    · exact ⟨l, by simp [hr], fun h => by rw [if_pos hr] at h; cases h⟩
    · refine ⟨l.set (posE l n) (failF s), ?_, fun _ => (ha.set hs hname _).symm⟩
      simp only [hr, if_false, Bool.false_eq_true, decide_true, Bool.not_true, idx_nat, hs, Option.bind_some, put_nat hlt]
      rfl
theorem failed_R {N : Nat} {d : Int} {l : List SlingT} (h : RegOK N l) {num day : Int} {n t : Str} :
    AftR N d l ⟨num, kFail, [n], [day], t⟩ (if dayE d day = 0 then opErr l n day (fun _ => 0) else dayE d day) day (setE l n failF) := by
  constructor
  · refine refused_op h rfl rfl (by show (kFail == kMake) = false; decide) (by show (kFail == kRecall) = false; decide) fun s => ?_
    simp only [show (kFail == [116, 101, 115, 116]) = false by decide, show (kFail == [117, 115, 101]) = false by decide, if_true, if_false, Bool.false_eq_true, Option.bind_some]
  · intro _
    refine after_map h rfl rfl (by show (kFail == kMake) = false; decide) _ (after_L1 (n := n) rfl _ fun s l k hk => ?_)
    have hlt := (List.getElem?_eq_some_iff.1 hk).1
    simp only [show (kFail == [116, 101, 115, 116]) = false by decide, show (kFail == [117, 115, 101]) = false by decide, show (kFail == [102, 97, 105, 108]) = true by decide, show (kFail == [114, 101, 99, 97, 108, 108]) = false by decide, if_true, if_false, Bool.false_eq_true, Option.bind_some]
    by_cases hb : (s.Name == n) = true
    · simp only [hb, if_true, put_nat hlt, Option.bind_some]
      rfl
    · simp only [hb, if_false, Bool.false_eq_true, Option.bind_some]
      rw [show l.set k s = l from by
        have e : l[k] = s := by rw [List.getElem?_eq_getElem hlt] at hk; injection hk
        rw [← e, List.set_getElem_self]]
end Go.Av
