/-
  A map of the program's own, told by a list of keys and what they have.
-/
import Derived.Test.YtjflombnfhlkaaaGreatDoorAvPk
noncomputable section
namespace Go.Av
set_option linter.unusedSectionVars false
variable {α κ : Type} [BEq κ] {P : Program}
def qw (m : List (κ × α)) (k : κ) : Option α := (m.find? fun p => k == p.1).map (·.2)
def zL : List (κ × α) → κ → α → List (κ × α)
  | [], k, v => [(k, v)]
  | p :: m, k, v => if (k == p.1) = true then (p.1, v) :: m else p :: zL m k v
abbrev mpB (K : κ → AV) (f : α → AV) (m : List (κ × α)) : Blk := .map (m.map fun p => K p.1) (m.map fun p => f p.2)
structure qfZ (K : κ → AV) (d : TypeDesc) : Prop where
  eq : ∀ a b, qew (K a) (K b) = some (a == b)
  plain : ∀ a, plainKey d (K a) = true
theorem kz : qfZ (κ := Str) AV.str .string := ⟨fun _ _ => rfl, fun _ => rfl⟩
structure MpT (P : Program) (t kt et : TypeId) (d : TypeDesc) (z : AV) : Prop where
  und : P.underlying t = some (.map kt et)
  key : P.underlying kt = some d
  zero : ((P.info? et).bind (·.zero)).map (yG 3) = some z
theorem qah {K : κ → AV} {d : TypeDesc} (hK : qfZ K d) (k : κ) : ∀ (m : List (κ × α)) (i : Nat), qaB (K k) (m.map fun p => K p.1) i = some ((m.findIdx? fun p => k == p.1).map (· + i))
  | [], _ => rfl
  | p :: m, i => by
    simp only [List.map_cons, qaB, hK.eq, List.findIdx?_cons]
    cases h : k == p.1 with
    | true => simp
    | false =>
      simp only [Bool.false_eq_true, if_false]
      rw [qah hK k m (i + 1)]
      cases m.findIdx? fun p => k == p.1 with
      | none => rfl
      | some j => simp only [Option.map_some]; rw [show j + (i + 1) = j + 1 + i by omega]
theorem qfg {m : List (κ × α)} {k : κ} {v : α} (h : qw m k = some v) : ∃ j p, (m.findIdx? fun p => k == p.1) = some j ∧ m[j]? = some p ∧ p.2 = v := by
  unfold qw at h
  obtain ⟨p, hp, rfl⟩ := Option.map_eq_some_iff.1 h
  obtain ⟨j, hj⟩ := List.find?_eq_some_iff_getElem.1 hp |>.2
  obtain ⟨hlt, he, hn⟩ := hj
  refine ⟨j, p, ?_, by rw [List.getElem?_eq_getElem hlt, he], rfl⟩
  rw [List.findIdx?_eq_some_iff_getElem]
  exact ⟨hlt, by rw [he]; exact (List.find?_eq_some_iff_getElem.1 hp).1, fun i hi => by simpa using hn i hi⟩
theorem qeg {m : List (κ × α)} {k : κ} (h : qw m k = none) : (m.findIdx? fun p => k == p.1) = none := by
  unfold qw at h
  rw [Option.map_eq_none_iff, List.find?_eq_none] at h
  rw [List.findIdx?_eq_none_iff]
  exact fun x hx => by simpa using h x hx
theorem qcc : ∀ {m : List (κ × α)} {k : κ} {v : α}, (match m.findIdx? fun p => k == p.1 with
    | some j => (zL m k v).map (·.1) = m.map (·.1) ∧ (zL m k v).map (·.2) = (m.map (·.2)).set j v
    | none => zL m k v = m ++ [(k, v)])
  | [], _, _ => rfl
  | p :: m, k, v => by
    rw [List.findIdx?_cons]
    unfold zL
    cases h : k == p.1 with
    | true => simp
    | false =>
      have ih := qcc (m := m) (k := k) (v := v)
      cases hf : m.findIdx? fun p => k == p.1 with
      | none => rw [hf] at ih; simp only [Bool.false_eq_true, if_false, Option.map_none]; simpa using ih
      | some j => rw [hf] at ih; simp only [Bool.false_eq_true, if_false, Option.map_some]; simpa using ih
def qbw (m : List (κ × α)) (k : κ) : Nat := (m.findIdx? fun p => k == p.1).getD m.length
theorem qdm [ReflBEq κ] : ∀ (m : List (κ × α)) (k : κ) (v : α), ((zL m k v).findIdx? fun p => k == p.1) = some (qbw m k)
  | [], k, v => by simp [zL, qbw, List.findIdx?_cons]
  | p :: m, k, v => by
    unfold zL qbw
    cases h : k == p.1 with
    | true => simp [List.findIdx?_cons, h]
    | false =>
      have ih := qdm m k v
      simp only [Bool.false_eq_true, if_false, List.findIdx?_cons, h, ih, Option.map_some]
      unfold qbw
      cases m.findIdx? fun p => k == p.1 <;> simp
theorem qh6 (m : List (κ × α)) (k : κ) (v : α) [ReflBEq κ] : qbw m k < (zL m k v).length := by
  have := qdm m k v
  rw [List.findIdx?_eq_some_iff_getElem] at this
  exact this.1
theorem mpN [Glob] {β : Type} {g : β → AV} (h : ∀ p, qC (g p)) {m : List β} : qg (m.map g) := by
  induction m with
  | nil => exact qg.nil
  | cons x xs ih => exact qg.cons (h x) ih
theorem isS {β : Type} {o : Option (List β)} (h : o.isSome = true) : o = some (o.getD []) := by cases o with | none => cases h | some x => rfl
theorem isN {β : Type} {o : Option β} (h : o.isSome = false) : o = none := by cases o with | none => rfl | some x => cases h
theorem z8 [Glob] {t kt et : TypeId} {d : TypeDesc} {z : AV} (T : MpT P t kt et d z) {K : κ → AV} (hK : qfZ K d) (f : α → AV) {A : Heap} {o : Nat} {m : List (κ × α)} (hb : A[o]? = some (mpB K f m)) {k : κ} {v : α} (h : qw m k = some v) (ok : Bool) :
    (Obl.run [o] (qp P t (.map o) (K k) ok) A (if ok then .tuple [f v, .bool true] else f v) A false).Holds P := by
  obtain ⟨zv, h1, h2⟩ := Option.map_eq_some_iff.1 T.zero
  obtain ⟨j, p, e1, e2, e3⟩ := qfg h
  refine ⟨[(o, false)], ?_, rfl⟩
  simp only [qp, T.und, T.key, h1, hK.plain, if_true, entriesOf]
  rw [j5 (by simp) hb]
  simp only [qah hK, e1, Option.map_some, Nat.add_zero, List.getElem?_map, e2, e3]
  rfl
theorem zo [Glob] {t kt et : TypeId} {d : TypeDesc} {z : AV} (T : MpT P t kt et d z) {K : κ → AV} (hK : qfZ K d) (f : α → AV) {A : Heap} {o : Nat} {m : List (κ × α)} (hb : A[o]? = some (mpB K f m)) {k : κ} (h : qw m k = none) (ok : Bool) :
    (Obl.run [o] (qp P t (.map o) (K k) ok) A (if ok then .tuple [z, .bool false] else z) A false).Holds P := by
  obtain ⟨zv, h1, h2⟩ := Option.map_eq_some_iff.1 T.zero
  refine ⟨[(o, false)], ?_, rfl⟩
  simp only [qp, T.und, T.key, h1, hK.plain, if_true, entriesOf]
  rw [j5 (by simp) hb]
  simp only [qah hK, qeg h, Option.map_none, h2]
  rfl
theorem qJ [Glob] {t kt et : TypeId} {d : TypeDesc} {z : α} {f : α → AV} (T : MpT P t kt et d (f z)) {K : κ → AV} (hK : qfZ K d) {A : Heap} {o : Nat} {m : List (κ × α)} (hb : A[o]? = some (mpB K f m)) (k : κ) :
    (Obl.run [o] (qp P t (.map o) (K k) false) A (f ((qw m k).getD z)) A false).Holds P := by
  cases h : qw m k with
  | none => exact zo T hK f hb h false
  | some v => exact z8 T hK f hb h false
theorem upm [Glob] {t kt et : TypeId} {d : TypeDesc} {z : AV} (T : MpT P t kt et d z) {K : κ → AV} (hK : qfZ K d) (f : α → AV) {A A' : Heap} {o : Nat} {m : List (κ × α)} (hb : A[o]? = some (mpB K f m)) (k : κ) (v : α) {r : List (κ × α)} (hr : some (zL m k v) = some r) (hA : A' = A.set o (mpB K f r)) :
    (Obl.run [o] (jZ P t (.map o) (K k) (f v)) A .undef A' true).Holds P := by
  obtain rfl := si hr
  subst hA
  have hm := qcc (m := m) (k := k) (v := v)
  refine ⟨[(o, true), (o, false)], ?_, rfl⟩
  simp only [jZ, T.und, T.key, hK.plain, if_true]
  rw [j5 (by simp) hb]
  simp only [qah hK]
  cases hf : m.findIdx? fun p => k == p.1 with
  | none =>
    rw [hf] at hm
    simp only [Option.map_none]
    rw [y7 (by simp) (y8 hb)]
    have hm : zL m k v = m ++ [(k, v)] := hm
    rw [hm]
    simp only [mpB, List.map_append, List.map_cons, List.map_nil]
    rfl
  | some j =>
    rw [hf] at hm
    obtain ⟨h1, h2⟩ : (zL m k v).map (·.1) = m.map (·.1) ∧ (zL m k v).map (·.2) = (m.map (·.2)).set j v := hm
    simp only [Option.map_some, Nat.add_zero]
    rw [y7 (by simp) (y8 hb)]
    have e1 : ((zL m k v).map fun p => K p.1) = m.map fun p => K p.1 := by
      have := congrArg (List.map K) h1
      simpa [List.map_map, Function.comp_def] using this
    have e2 : ((zL m k v).map fun p => f p.2) = (m.map fun p => f p.2).set j (f v) := by
      have := congrArg (List.map f) h2
      simpa [List.map_map, Function.comp_def, List.map_set] using this
    simp only [mpB, e1, e2]
    rfl
theorem ent [Glob] {t kt et : TypeId} {d : TypeDesc} {z : α} {f : α → AV} (T : MpT P t kt et d (f z)) {K : κ → AV} (hK : qfZ K d) {A A' : Heap} {o : Nat} {m : List (κ × α)} (hb : A[o]? = some (mpB K f m)) (k : κ) {r : List (κ × α)} (hr : some (zL m k ((qw m k).getD z)) = some r) (hA : A' = A.set o (mpB K f r)) :
    (Obl.run [o] (yN P t (.map o) (K k)) A (.tuple [f ((qw m k).getD z), .int .i64 (qbw m k)]) A' true).Holds P := by
  obtain rfl := si hr
  subst hA
  obtain ⟨zv, h1, h2⟩ := Option.map_eq_some_iff.1 T.zero
  have hm := qcc (m := m) (k := k) (v := (qw m k).getD z)
  refine ⟨[(o, true), (o, false)], ?_, rfl⟩
  simp only [yN, T.und, T.key, h1, hK.plain, if_true]
  rw [j5 (by simp) hb]
  simp only [qah hK]
  cases hg : qw m k with
  | none =>
    have hf := qeg hg
    rw [hf] at hm
    rw [hg] at hm
    have hm : zL m k z = m ++ [(k, z)] := hm
    simp only [hf, Option.map_none, Option.getD_none]
    rw [y7 (by simp) (y8 hb), hm]
    simp only [mpB, List.map_append, List.map_cons, List.map_nil, qbw, hf, Option.getD_none, List.length_map, h2]
    rfl
  | some v =>
    obtain ⟨j, p, e1, e2, e3⟩ := qfg hg
    rw [e1, hg] at hm
    obtain ⟨h3, h4⟩ : (zL m k v).map (·.1) = m.map (·.1) ∧ (zL m k v).map (·.2) = (m.map (·.2)).set j v := hm
    have h4 : (zL m k v).map (·.2) = m.map (·.2) := by
      rw [h4]
      refine List.ext_getElem? fun i => ?_
      rw [List.getElem?_set]
      by_cases hi : j = i
      · subst hi
        have hlt := (List.getElem?_eq_some_iff.1 e2).1
        have e4 : m[j] = p := by rw [List.getElem?_eq_getElem hlt] at e2; exact si e2
        simp [hlt, e4, e3]
      · rw [if_neg hi]
    have a1 : ((zL m k v).map fun p => K p.1) = m.map fun p => K p.1 := by
      have := congrArg (List.map K) h3
      simpa [List.map_map, Function.comp_def] using this
    have a2 : ((zL m k v).map fun p => f p.2) = m.map fun p => f p.2 := by
      have := congrArg (List.map f) h4
      simpa [List.map_map, Function.comp_def] using this
    simp only [e1, Option.map_some, Nat.add_zero, Option.getD_some, List.getElem?_map, e2, e3]
    rw [y7 (by simp) (y8 hb)]
    simp only [mpB, a1, a2, qbw, e1, Option.getD_some]
    rfl
theorem est [Glob] [ReflBEq κ] {f : α → AV} {K : κ → AV} {A A' : Heap} {o : Nat} {m m1 : List (κ × α)} {k : κ} {v0 : α} (h1 : some (zL m k v0) = some m1) (hb : A[o]? = some (mpB K f m1)) (v : α) {r : List (κ × α)} (hr : some (zL m1 k v) = some r) (hA : A' = A.set o (mpB K f r)) :
    (Obl.run [o] (vM (.map o) (.int .i64 (qbw m k)) (f v)) A .undef A' true).Holds P := by
  obtain rfl := si hr
  obtain rfl := si h1
  subst hA
  have hp := qdm m k v0
  have hl := qh6 m k v0
  have hm := qcc (m := zL m k v0) (k := k) (v := v)
  rw [hp] at hm
  obtain ⟨h3, h4⟩ : (zL (zL m k v0) k v).map (·.1) = (zL m k v0).map (·.1) ∧ (zL (zL m k v0) k v).map (·.2) = ((zL m k v0).map (·.2)).set (qbw m k) v := hm
  refine ⟨[(o, true), (o, false)], ?_, rfl⟩
  simp only [vM]
  rw [j5 (by simp) hb]
  have a1 : ((zL (zL m k v0) k v).map fun p => K p.1) = (zL m k v0).map fun p => K p.1 := by
    have := congrArg (List.map K) h3
    simpa [List.map_map, Function.comp_def] using this
  have a2 : ((zL (zL m k v0) k v).map fun p => f p.2) = ((zL m k v0).map fun p => f p.2).set (qbw m k) (f v) := by
    have := congrArg (List.map f) h4
    simpa [List.map_map, Function.comp_def, List.map_set] using this
  simp only [List.length_map]
  rw [if_pos ⟨by omega, by omega⟩, y7 (by simp) (y8 hb)]
  simp only [mpB, a1, a2, Int.toNat_natCast]
  rfl
abbrev fI : Int → AV := fun v => AV.int .i64 v
abbrev fO : Bool → AV := fun v => AV.bool v
abbrev fL [Glob] : List Int → AV := fun v => vl encI v
abbrev mI (m : List (Str × Int)) : Blk := mpB AV.str fI m
abbrev mO (m : List (Str × Bool)) : Blk := mpB AV.str fO m
abbrev mL [Glob] (m : List (Str × List Int)) : Blk := mpB AV.str fL m
end Go.Av
