/-
  Chapter 10: the law of wears, plain: what is common.
-/
import Derived.Test.YtjflombnfhlkaaaGreatDoorPwA
noncomputable section
namespace Go.Av
set_option linter.unusedSimpArgs false
set_option linter.unusedVariables false
def bat (l : List qc) (n : Str) : Option Str := (l.find? fun s => s.Name == n).map (·.Batch)
theorem qac (s : qc) (l : List qc) (n : Str) : bat (s :: l) n = if (s.Name == n) = true then some s.Batch else bat l n := by
  unfold bat
  rw [List.find?_cons]
  by_cases h : (s.Name == n) = true <;> simp [h]
theorem qbP {f : qc → qc} (hf : ∀ s, (f s).Name = s.Name ∧ (f s).Batch = s.Batch) (n : Str) : ∀ l, bat (l.map f) n = bat l n
  | [] => rfl
  | s :: l => by rw [List.map_cons, qac, qac, (hf s).1, (hf s).2, qbP hf n l]
theorem qeV (s : qc) (n : Str) : ∀ l, bat (qbK l s) n = if (s.Name == n) = true then some s.Batch else bat l n
  | [] => by rw [show qbK [] s = [s] by simp [qbK, zM], qac]
  | t :: l => by
    rw [qbh]
    split
    · rename_i hc
      rw [qac, qeV s n l, qac]
      by_cases h1 : (t.Name == n) = true
      · have : ¬ (s.Name == n) = true := fun h2 => by
          have := qdr hc
          rw [beq_iff_eq.1 h1, beq_iff_eq.1 h2] at this
          exact this rfl
        rw [if_pos h1, if_neg this, if_pos h1]
      · rw [if_neg h1, if_neg h1]
    · rw [qac]
theorem qi9 {l : List qc} (ha : Asc l) {n : Str} (h : zS l n = true) {x : qc} (hx : l[zM l n]? = some x) : bat l n = some x.Batch := by
  unfold bat
  cases hf : l.find? fun s => s.Name == n with
  | none => exact absurd (beq_iff_eq.2 (qbU hx h)) (List.find?_eq_none.1 hf x (List.mem_of_getElem? hx))
  | some t =>
    have hn : (t.Name == n) = true := by have := List.find?_some hf; exact this
    have hn : t.Name = n := beq_iff_eq.1 hn
    obtain ⟨i, hi⟩ := List.getElem?_of_mem (List.mem_of_find?_eq_some hf)
    have := (ha.uniq hi hn).2
    rw [this, hi] at hx
    injection hx with hx
    rw [hx]
    rfl
theorem qh2 {l : List qc} (ha : Asc l) {n : Str} (h : zS l n = false) : bat l n = none := by
  unfold bat
  cases hf : l.find? fun s => s.Name == n with
  | none => rfl
  | some t =>
    have hn : (t.Name == n) = true := by have := List.find?_some hf; exact this
    have hn : t.Name = n := beq_iff_eq.1 hn
    obtain ⟨i, hi⟩ := List.getElem?_of_mem (List.mem_of_find?_eq_some hf)
    rw [(ha.uniq hi hn).1] at h
    cases h
theorem qho {N : Nat} {d : Int} {l : List qc} (h : vW N l) {e : ql} (hv : qgB e) (hu : (e.Kind == vR) = false) (h0 : qV N ⟨d, l⟩ e = some 0) (n : Str) :
    ∃ day new, kW N ⟨d, l⟩ e = some ⟨day, new⟩ ∧ ∃ n0, e.Names[0]? = some n0 ∧ ((e.Kind == jL) = true → ∃ b, e.Names[1]? = some b ∧ (n0 = n → bat l n = none ∧ bat new n = some b) ∧ (n0 ≠ n → bat new n = bat l n)) ∧ ((e.Kind == jL) = false → bat new n = bat l n ∧ ((e.Kind == ze) = false → zS l n0 = true)) := by
  obtain ⟨num, k, ns, vs, t⟩ := e
  obtain ⟨_, hf, hn, hs, hr, _⟩ := hv
  simp only at hf hn hs hr hu
  have ha := h.asc
  rcases qdQ hf with rfl | rfl | rfl | rfl | rfl | rfl
  · obtain ⟨m, b, rfl⟩ := qb4 (show (ns.length : Int) = 2 from hn)
    obtain ⟨day, life, uses, rfl⟩ := qir (show (vs.length : Int) = 3 from hs)
    have hR := qgn (d := d) h (num := num) (day := day) (life := life) (uses := uses) (n := m) (b := b) (t := t)
    have hz := Option.some.inj (hR.ref.symm.trans h0)
    have hh : zS l m = false := by
      cases hq : zS l m with
      | false => rfl
      | true =>
        split at hz
        · simp [qbq, hq] at hz
        · rename_i hd; exact absurd hz hd
    refine ⟨_, _, hR.aft hz, m, rfl, fun _ => ⟨b, rfl, fun e => ?_, fun e => ?_⟩, fun e => by simp at e⟩
    · subst e
      refine ⟨qh2 ha hh, ?_⟩
      rw [qeV]
      simp
    · rw [qeV, if_neg (by simpa using e)]
  · obtain ⟨m, rfl⟩ := yI (show (ns.length : Int) = 1 from hn)
    obtain ⟨day, load, rfl⟩ := qb4 (show (vs.length : Int) = 2 from hs)
    have hR := qdF (d := d) h (num := num) (day := day) (load := load) (n := m) (t := t)
    have hz := Option.some.inj (hR.ref.symm.trans h0)
    refine ⟨_, _, hR.aft hz, m, rfl, fun e => absurd e (by simp only; decide), fun _ => ⟨?_, fun _ => ?_⟩⟩
    · rw [vZ]
      exact qbP (fun s => by split <;> exact ⟨rfl, rfl⟩) n l
    · cases hq : zS l m with
      | true => rfl
      | false =>
        rw [jF hq] at hz
        split at hz
        · cases hz
        · rename_i hd; exact absurd hz hd
  · obtain ⟨m, rfl⟩ := yI (show (ns.length : Int) = 1 from hn)
    obtain ⟨day, load, rfl⟩ := qb4 (show (vs.length : Int) = 2 from hs)
    have hR := qfX (d := d) h (num := num) (day := day) (load := load) (n := m) (t := t)
    have hz := Option.some.inj (hR.ref.symm.trans h0)
    refine ⟨_, _, hR.aft hz, m, rfl, fun e => absurd e (by simp only; decide), fun _ => ⟨?_, fun _ => ?_⟩⟩
    · rw [vZ]
      exact qbP (fun s => by split <;> exact ⟨rfl, rfl⟩) n l
    · cases hq : zS l m with
      | true => rfl
      | false =>
        rw [jF hq] at hz
        split at hz
        · cases hz
        · rename_i hd; exact absurd hz hd
  · obtain ⟨m, rfl⟩ := yI (show (ns.length : Int) = 1 from hn)
    obtain ⟨day, rfl⟩ := yI (show (vs.length : Int) = 1 from hs)
    have hR := qdj (d := d) h (num := num) (day := day) (n := m) (t := t)
    have hz := Option.some.inj (hR.ref.symm.trans h0)
    refine ⟨_, _, hR.aft hz, m, rfl, fun e => absurd e (by simp only; decide), fun _ => ⟨?_, fun _ => ?_⟩⟩
    · rw [vZ]
      exact qbP (fun s => by split <;> exact ⟨rfl, rfl⟩) n l
    · cases hq : zS l m with
      | true => rfl
      | false =>
        rw [jF hq] at hz
        split at hz
        · cases hz
        · rename_i hd; exact absurd hz hd
  · obtain ⟨m, rfl⟩ := yI (show (ns.length : Int) = 1 from hn)
    obtain ⟨day, rfl⟩ := yI (show (vs.length : Int) = 1 from hs)
    have hR := qbx (d := d) h (num := num) (day := day) (n := m) (t := t)
    refine ⟨_, _, hR.aft (Option.some.inj (hR.ref.symm.trans h0)), m, rfl, fun e => absurd e (by simp only; decide), fun _ => ⟨?_, fun h => absurd h (by simp)⟩⟩
    exact qbP (fun s => by unfold xm; split <;> exact ⟨rfl, rfl⟩) n l
  · simp at hu
def qcG (N : Nat) (L c : List ql) : Prop := ∀ (j : Nat) (e : ql), c[j]? = some e → jf e = 0 ∧ (e.Kind == vR) = false ∧ (∃ i : Nat, e.Number = ((i + 1 : Nat) : Int) ∧ L[i]? = some e) ∧ ((kr N (c.take j)).bind fun r => qV N r e).getD 0 = 0
theorem qcG.next {N : Nat} {L c : List ql} {k : Nat} {e : ql} (h : qcG N L c) (hL : L[k]? = some e) (h0 : yg N c k e = 0) : qcG N L (qbk c e) := by
  unfold yg at h0
  by_cases a1 : jf e = 0
  · rw [if_neg (by simp [a1])] at h0
    by_cases a2 : e.Number = ((k + 1 : Nat) : Int)
    · rw [if_neg (by simp [a2])] at h0
      unfold qbk
      by_cases a3 : (e.Kind == vR) = true
      · rw [if_pos a3]
        intro j f hf
        rw [List.getElem?_dropLast] at hf
        split at hf
        · rename_i hj
          obtain ⟨b1, b2, b3, b4⟩ := h j f hf
          refine ⟨b1, b2, b3, ?_⟩
          rw [List.dropLast_eq_take, List.take_take, Nat.min_eq_left (by omega)]
          exact b4
        · cases hf
      · rw [if_neg a3]
        rw [if_neg a3] at h0
        intro j f hf
        rcases Nat.lt_or_ge j c.length with hj | hj
        · rw [List.getElem?_append_left hj] at hf
          obtain ⟨b1, b2, b3, b4⟩ := h j f hf
          refine ⟨b1, b2, b3, ?_⟩
          rw [List.take_append_of_le_length (by omega)]
          exact b4
        · rw [List.getElem?_append_right hj] at hf
          have hj0 : j - c.length = 0 := by
            have := (List.getElem?_eq_some_iff.1 hf).1
            simp at this
            omega
          rw [hj0] at hf
          simp only [List.getElem?_cons_zero, Option.some.injEq] at hf
          subst hf
          refine ⟨a1, by simpa using a3, ⟨k, a2, hL⟩, ?_⟩
          rw [show j = c.length by omega, List.take_left]
          exact h0
    · rw [if_pos a2] at h0; cases h0
  · rw [if_pos a1] at h0; exact absurd h0 a1
theorem qfJ {N : Nat} {L : List ql} : ∀ (es : List ql) (k : Nat) (c : List ql), qcG N L c → (∀ (i : Nat) e, es[i]? = some e → L[k + i]? = some e) → (jm N es k c).2.1 = 0 → qcG N L (jm N es k c).2.2
  | [], _, _, h, _, _ => h
  | e :: es, k, c, h, hL, h0 => by
    unfold jm at h0 ⊢
    by_cases hc : yg N c k e = 0
    · rw [if_pos hc] at h0 ⊢
      exact qfJ es (k + 1) _ (h.next (hL 0 e rfl) hc) (fun i f hf => by rw [show k + 1 + i = k + (i + 1) by omega]; exact hL (i + 1) f hf) h0
    · rw [if_neg hc] at h0
      exact absurd h0 hc
theorem qfv {e : ql} (h : jf e = 0) : ∀ s ∈ e.Names, jN s = true := by
  unfold jf at h
  by_cases h1 : zB e.Number 1 1000 = true
  · rw [if_pos h1] at h; cases h
  rw [if_neg h1] at h
  by_cases h2 : (jM e.Kind).2.2 = false
  · rw [if_pos h2] at h; cases h
  rw [if_neg h2] at h
  by_cases h3 : ((e.Names.length : Int) = (jM e.Kind).1 ∧ (e.Values.length : Int) = (jM e.Kind).2.1)
  · rw [if_neg (by simpa using h3)] at h
    by_cases h4 : e.Names.all jN = false
    · rw [if_pos h4] at h; cases h
    have h4 : e.Names.all jN = true := by simpa using h4
    exact fun s hs => List.all_eq_true.1 h4 s hs
  · rw [if_pos h3] at h; cases h
theorem qeM {e : ql} (h : jf e = 0) : ∀ s ∈ e.Names, s ≠ [] := by
  unfold jf at h
  by_cases h1 : zB e.Number 1 1000 = true
  · rw [if_pos h1] at h; cases h
  rw [if_neg h1] at h
  by_cases h2 : (jM e.Kind).2.2 = false
  · rw [if_pos h2] at h; cases h
  rw [if_neg h2] at h
  by_cases h3 : ((e.Names.length : Int) = (jM e.Kind).1 ∧ (e.Values.length : Int) = (jM e.Kind).2.1)
  · rw [if_neg (by simpa using h3)] at h
    by_cases h4 : e.Names.all jN = false
    · rw [if_pos h4] at h; cases h
    have h4 : e.Names.all jN = true := by simpa using h4
    intro s hs hq
    have := List.all_eq_true.1 h4 s hs
    rw [hq] at this
    exact absurd this (by decide)
  · rw [if_pos h3] at h; cases h
structure qjA (N : Nat) (L c : List ql) (ss : List StateT) (n : Str) (j : Nat) (l : List qc) (e : ql) (st : StateT) (i : Nat) (n0 : Str) : Prop where
  ev : c[j]? = some e
  state : ss[j]? = some st
  snum : st.number = ((i + 1 : Nat) : Int)
  enum : e.Number = ((i + 1 : Nat) : Int)
  at_ : L[i]? = some e
  reg : qca N (c.take (j + 1)) = some ⟨st.register.Day, st.register.Slings⟩
  asc : Asc st.register.Slings
  len : st.register.Slings.length ≤ j + 1
  name : e.Names[0]? = some n0
  make : (e.Kind == jL) = true → ∃ b, e.Names[1]? = some b ∧ b ≠ [] ∧ (n0 = n → bat l n = none ∧ bat st.register.Slings n = some b) ∧ (n0 ≠ n → bat st.register.Slings n = bat l n)
  other : (e.Kind == jL) = false → bat st.register.Slings n = bat l n
  old : (e.Kind == jL) = false → (e.Kind == ze) = false → zS l n0 = true
  good : jN n0 = true
theorem qi1 {N : Nat} {L c : List ql} {ss : List StateT} (h : Rel N c ss) (hi : qcG N L c) (hc : c.length ≤ 1000) (hN : 2000 < N) (hM : N < 4611686018427387904) (n : Str) {j : Nat} (hj : j < c.length) {d : Int} {l : List qc} (hr : qca N (c.take j) = some ⟨d, l⟩) (ha : Asc l) (hl : l.length ≤ j) :
    ∃ e st i n0, qjA N L c ss n j l e st i n0 := by
  have hlen := h.len
  have hjs : j < ss.length := by omega
  have he : c[j]? = some c[j] := List.getElem?_eq_getElem hj
  have hst : ss[j]? = some ss[j] := List.getElem?_eq_getElem hjs
  obtain ⟨a1, a2, a3, a4⟩ := h.at_ j _ _ hst he
  obtain ⟨b1, b2, ⟨i, b3, b4⟩, b5⟩ := hi j _ he
  generalize c[j] = e at *
  generalize ss[j] = st at *
  have hv := yD b1
  have hok : vW N l := ⟨ha, by omega, hN, hM⟩
  obtain ⟨err, _, _, _, hR, _⟩ := qcT (d := d) hok hv b2
  rw [yl (by rw [List.length_take]; omega) hN, hr, Option.bind_some, hR.ref, Option.getD_some] at b5
  have h0 : qV N ⟨d, l⟩ e = some 0 := by rw [hR.ref, b5]
  obtain ⟨day, new, q1, n0, q2, q3, q4⟩ := qho hok hv b2 h0 n
  have ht : c.take (j + 1) = c.take j ++ [e] := by rw [List.take_add_one, he]; rfl
  have hnew : st.register.Slings = new := by
    rw [ht, qct, hr, Option.bind_some, q1] at a2
    injection a2 with a2
    injection a2 with _ a2
    exact a2.symm
  refine ⟨e, st, i, n0, he, hst, a1.trans b3, b3, b4, a2, a3, a4, q2, fun hk => ?_, fun hk => ?_, fun hk => (q4 hk).2, qfv b1 n0 (List.mem_of_getElem? q2)⟩
  · obtain ⟨b, r1, r2, r3⟩ := q3 hk
    rw [hnew]
    exact ⟨b, r1, qeM b1 b (List.mem_of_getElem? r1), r2, r3⟩
  · rw [hnew]
    exact (q4 hk).1
theorem qes {N : Nat} {L c : List ql} {ss : List StateT} (h : Rel N c ss) (hi : qcG N L c) (hc : c.length ≤ 1000) (hN : 2000 < N) (hM : N < 4611686018427387904) (n : Str) : ∀ (j : Nat), j ≤ c.length → ∃ d l, qca N (c.take j) = some ⟨d, l⟩ ∧ Asc l ∧ l.length ≤ j ∧ (bat l n ≠ none → jN n = true)
  | 0, _ => ⟨0, [], rfl, List.Pairwise.nil, by simp, fun h => absurd rfl h⟩
  | j + 1, hj => by
    obtain ⟨d, l, h1, h2, h3, h4⟩ := qes h hi hc hN hM n j (by omega)
    obtain ⟨e, st, i, n0, S⟩ := qi1 h hi hc hN hM n (show j < c.length by omega) h1 h2 h3
    refine ⟨_, _, S.reg, S.asc, S.len, fun hb => ?_⟩
    cases hm : e.Kind == jL with
    | false => rw [S.other hm] at hb; exact h4 hb
    | true =>
      obtain ⟨b, _, _, _, r3⟩ := S.make hm
      by_cases hn : n0 = n
      · rw [← hn]; exact S.good
      · rw [r3 hn] at hb; exact h4 hb
def nmE (n : Str) : Int := if jN n = true then 0 else 8
theorem qdc {N : Nat} {l : List ql} (hE : Evs N l) {o' : Option (List StateT)} {c : List ql} (hr : Rel N c (hof o')) (hc : c.length ≤ 1000) {d : Int} {s : List qc} (hreg : kr N c = some ⟨d, s⟩) (hs : s.length ≤ 1000) (g1 : zh N l = some (l, o', true, 0, 0)) {n : Str} (hn : n.length < N) (a : Int) :
    (kw [nmE n, a] ≠ 0 → za N l n a = some ([], none, false, [], [], 0, 0, 0, 0, 0, 0, false, kw [nmE n, a])) ∧
    (kw [nmE n, a] = 0 → zS s n = false → za N l n a = some ([], none, false, [], [], 0, 0, 0, 0, 0, 0, false, 10)) ∧
    (kw [nmE n, a] = 0 → zS s n = true → ∀ x, s[zM s n]? = some x → ∃ o3, hof o3 = hof o' ∧ za N l n a = some (l, o3, true, x.Name, x.Batch, x.Born, x.Last, x.Uses, x.Used, x.Limit, x.Until, x.Gone, 0)) := by
  have hN := hE.big
  obtain ⟨o2, d2, s2, f1, f2, f3, _, _⟩ := jA (evs := l) hr hc hN
  rw [hreg] at f3
  injection f3 with f3
  injection f3 with fd fs
  subst fd fs
  obtain ⟨o3, d3, s3, k1, k2, k3, _, _⟩ := jA (evs := l) (o := o2) (f2 ▸ hr) hc hN
  rw [hreg] at k3
  injection k3 with k3
  injection k3 with kd ks
  subst kd ks
  have e0 : kw [0, if jN n = true then 0 else 8, a] = kw [nmE n, a] := rfl
  have key : za N l n a = za N l n a := rfl
  conv at key => rhs; unfold za
  rw [g1, Option.bind_some] at key
  simp only [qfp hn, Option.bind_some] at key
  rw [yo (by simp) (by simp; omega), Option.bind_some, e0] at key
  refine ⟨fun h => ?_, fun h hh => ?_, fun h hh x hx => ⟨o3, k2.trans f2, ?_⟩⟩
  · rw [key, if_pos (by simp [h])]
  · rw [key, if_neg (by simp [h])]
    simp only [f1, Option.bind_some, qcX (show s.length < 4611686018427387904 by omega) (show s.length < N by omega), hh, Bool.not_false, if_true]
  · rw [key, if_neg (by simp [h])]
    simp only [f1, Option.bind_some, qcX (show s.length < 4611686018427387904 by omega) (show s.length < N by omega), hh, Bool.not_true, Bool.false_eq_true, if_false, k1, kT, hx]
structure Ctx (N : Nat) (l c : List ql) (o : Option (List StateT)) (d : Int) (s : List qc) : Prop where
  ev : Evs N l
  rel : Rel N c (hof o)
  cl : c.length ≤ 1000
  reg : kr N c = some ⟨d, s⟩
  sl : s.length ≤ 1000
  asc : Asc s
  rep : zh N l = some (l, o, true, 0, 0)
  cnt : qcG N l c
theorem qjW {N : Nat} {l : List ql} (h : Evs N l) (h0 : (jm N l 0 []).2.1 = 0) : ∃ o d s, Ctx N l (jm N l 0 []).2.2 o d s := by
  have hl := h.len
  have hN := h.big
  rcases qch h with ⟨g1, _⟩ | ⟨_, o', g2, g3, g4, g5⟩
  · exact absurd h0 g1
  · obtain ⟨_, d, s, _, _, f3, f4, f5⟩ := jA (evs := l) g4 (by omega) hN
    exact ⟨o', d, s, h, g4, by omega, f3, by omega, f4, g2, qfJ l 0 [] (fun _ _ h => by simp at h) (fun i e h => by simpa using h) h0⟩
theorem qcm {s : Str} (h : jN s = true) : s.length ≤ 24 := by
  unfold jN at h
  simp only [Bool.and_eq_true, decide_eq_true_eq] at h
  exact h.1.2
theorem Ctx.at_ {N : Nat} {l c : List ql} {o : Option (List StateT)} {d : Int} {s : List qc} (C : Ctx N l c o d s) {k : Nat} {x : qc} (hx : s[k]? = some x) : zS s x.Name = true ∧ s[zM s x.Name]? = some x ∧ jN x.Name = true ∧ x.Name.length < N := by
  obtain ⟨h1, h2⟩ := C.asc.uniq hx rfl
  have hN := C.ev.big
  have hb := qi9 C.asc h1 (by rw [h2]; exact hx)
  obtain ⟨d', l', e1, e2, e3, e4⟩ := qes C.rel C.cnt C.cl C.ev.big C.ev.max x.Name c.length (Nat.le_refl _)
  rw [List.take_length, ← yl C.cl C.ev.big, C.reg] at e1
  injection e1 with e1
  injection e1 with _ e1
  subst e1
  have hn := e4 (by rw [hb]; simp)
  have := qcm hn
  exact ⟨h1, by rw [h2]; exact hx, hn, by omega⟩
theorem Ctx.retired {N : Nat} {l c : List ql} {o : Option (List StateT)} {d : Int} {s : List qc} (C : Ctx N l c o d s) {n : Str} {x : qc} (h1 : zS s n = true) (h2 : s[zM s n]? = some x) (h3 : jN n = true) {day : Int} (hd : zB day 0 99999 = false) : jT N l n day = some (jw x day, 0) := by
  have hN := C.ev.big
  have hlen := qcm h3
  obtain ⟨_, _, a3⟩ := qdc C.ev C.rel C.cl C.reg C.sl C.rep (n := n) (by omega) 0
  have z0 : kw [nmE n, 0] = 0 := by unfold nmE; rw [if_pos h3]; rfl
  obtain ⟨o3, _, k⟩ := a3 z0 h1 x h2
  unfold jT
  rw [xU, hd, if_neg (by simp), Option.bind_some, k, Option.bind_some]
  simp only [decide_true, Bool.not_true, Bool.false_eq_true, if_false, qak, Option.bind_some]
theorem Ctx.replay {N : Nat} {l c : List ql} {o : Option (List StateT)} {d : Int} {s : List qc} (C : Ctx N l c o d s) : vV N l = some (⟨d, s⟩, 0, 0) := by
  obtain ⟨o2, d', s', f1, _, f3, _, _⟩ := jA (evs := l) C.rel C.cl C.ev.big
  rw [C.reg] at f3
  injection f3 with f3
  injection f3 with fd fs
  subst fd fs
  unfold vV
  rw [C.rep, Option.bind_some]
  simp only
  rw [if_neg (by simp), f1, Option.bind_some]
  simp only
  rw [xq C.sl]
  rfl
theorem qaf {α κ : Type} [BEq κ] (p : κ × α) (m : List (κ × α)) (k : κ) : qw (p :: m) k = if (k == p.1) = true then some p.2 else qw m k := by
  unfold qw
  rw [List.find?_cons]
  cases h : k == p.1 <;> simp
theorem yB {α κ : Type} [BEq κ] [LawfulBEq κ] (v : α) (k k' : κ) : ∀ m : List (κ × α), qw (zL m k v) k' = if (k' == k) = true then some v else qw m k'
  | [] => by
    show qw [(k, v)] k' = _
    rw [qaf]
  | p :: m => by
    unfold zL
    by_cases h : (k == p.1) = true
    · rw [if_pos h, qaf, qaf]
      have e : k = p.1 := eq_of_beq h
      by_cases h2 : (k' == p.1) = true
      · have : (k' == k) = true := by rw [e]; exact h2
        rw [if_pos h2, if_pos this]
      · have : ¬ (k' == k) = true := by rw [e]; exact h2
        rw [if_neg h2, if_neg this, if_neg h2]
    · rw [if_neg h, qaf, yB v k k' m, qaf]
      by_cases h2 : (k' == p.1) = true
      · have e : k' = p.1 := eq_of_beq h2
        have : ¬ (k' == k) = true := fun h3 => h (by rw [← eq_of_beq h3, e]; exact beq_self_eq_true _)
        rw [if_pos h2, if_neg this, if_pos h2]
      · rw [if_neg h2, if_neg h2]
structure SI (te lo us : List (Str × Int)) (ma : List (Str × List Int)) (x : qc) : Prop where
  made : ∃ b lf : Int, qw ma x.Name = some [b, lf, x.Uses] ∧ x.Last = b + lf ∧ 0 ≤ b ∧ b ≤ 999999999 ∧ 0 ≤ lf ∧ lf ≤ 999999999
  used : x.Used = (qw us x.Name).getD 0 ∧ 0 ≤ x.Used ∧ x.Used ≤ x.Uses ∧ x.Uses ≤ 9999
  load : x.Limit = 0 ∨ ∃ ld td : Int, qw lo x.Name = some ld ∧ 2 ≤ ld ∧ ld ≤ 999999999 ∧ x.Limit = ld.tdiv 2 ∧ qw te x.Name = some td ∧ 0 ≤ td ∧ td ≤ 999999999 ∧ x.Until ≤ td + 365
theorem qdl {d day : Int} (h : vG d day = 0) : day ≤ 99999 ∧ d ≤ day := by
  unfold vG at h
  by_cases h1 : day > 99999
  · rw [if_pos h1] at h; cases h
  · rw [if_neg h1] at h
    by_cases h2 : day < d
    · rw [if_pos h2] at h; cases h
    · omega
theorem qh8 {d day err : Int} (h : (if vG d day = 0 then err else vG d day) = 0) : vG d day = 0 ∧ err = 0 := by
  split at h
  · rename_i h1; exact ⟨h1, h⟩
  · rename_i h1; exact absurd h h1
theorem qiU {l : List qc} {n : Str} {day life uses : Int} (h : qbq l n day life uses = 0) : zS l n = false ∧ zB life 1 9999 = false ∧ zB uses 1 9999 = false ∧ w64 (day + life) ≤ 99999 := by
  unfold qbq at h
  by_cases h1 : zS l n = true
  · rw [if_pos h1] at h; cases h
  rw [if_neg h1] at h
  by_cases h2 : zB life 1 9999 = true
  · rw [if_pos h2] at h; cases h
  rw [if_neg h2] at h
  by_cases h3 : zB uses 1 9999 = true
  · rw [if_pos h3] at h; cases h
  rw [if_neg h3] at h
  by_cases h4 : w64 (day + life) > 99999
  · rw [if_pos h4] at h; cases h
  exact ⟨by simpa using h1, by simpa using h2, by simpa using h3, by omega⟩
theorem qgA {l : List qc} {n : Str} {day : Int} {m : qc → Int} (h : xE l n day m = 0) : ∃ s, l[zM l n]? = some s ∧ zS l n = true ∧ s.Name = n ∧ jw s day = false ∧ m s = 0 := by
  cases hh : zS l n with
  | false => rw [jF hh] at h; cases h
  | true =>
    obtain ⟨s, hs, _⟩ := qbX hh
    unfold xE at h
    rw [hs] at h
    simp only [hh, if_true] at h
    by_cases hr : jw s day = true
    · rw [if_pos hr] at h; cases h
    · rw [if_neg hr] at h
      exact ⟨s, hs, rfl, qbU hs hh, by simpa using hr, h⟩
theorem SI.congr {te lo us te' lo' us' : List (Str × Int)} {ma ma' : List (Str × List Int)} {x : qc} (h : SI te lo us ma x) (h1 : qw te' x.Name = qw te x.Name) (h2 : qw lo' x.Name = qw lo x.Name) (h3 : qw us' x.Name = qw us x.Name) (h4 : qw ma' x.Name = qw ma x.Name) : SI te' lo' us' ma' x := by
  obtain ⟨a, b, c⟩ := h
  exact ⟨by rw [h4]; exact a, by rw [h3]; exact b, by rw [h1, h2]; exact c⟩
theorem SI.gone {te lo us : List (Str × Int)} {ma : List (Str × List Int)} {x : qc} (h : SI te lo us ma x) : SI te lo us ma (qdw x) := ⟨h.made, h.used, h.load⟩
theorem SI.tested {te lo us te' lo' us' : List (Str × Int)} {ma ma' : List (Str × List Int)} {x : qc} (h : SI te lo us ma x) {day load : Int} (hd : 0 ≤ day ∧ day ≤ 999999999) (hl : 2 ≤ load ∧ load ≤ 999999999) (h1 : qw te' x.Name = some day) (h2 : qw lo' x.Name = some load) (h3 : qw us' x.Name = qw us x.Name) (h4 : qw ma' x.Name = qw ma x.Name) : SI te' lo' us' ma' (qfD day load x) := by
  obtain ⟨a, b, c⟩ := h
  refine ⟨?_, ?_, .inr ⟨load, day, h2, hl.1, hl.2, ?_, h1, hd.1, hd.2, ?_⟩⟩
  · show ∃ b lf : Int, qw ma' x.Name = some [b, lf, x.Uses] ∧ _
    rw [h4]; exact a
  · show x.Used = (qw us' x.Name).getD 0 ∧ _
    rw [h3]; exact b
  · show w64 (load.tdiv 2) = load.tdiv 2
    have : 0 ≤ load.tdiv 2 ∧ load.tdiv 2 ≤ load := by
      rw [Int.tdiv_eq_ediv_of_nonneg (by omega)]
      omega
    exact yM (by omega) (by omega)
  · show (if x.Last < w64 (day + 365) then x.Last else w64 (day + 365)) ≤ day + 365
    have : w64 (day + 365) = day + 365 := yM (by omega) (by omega)
    rw [this]
    split <;> omega
theorem SI.use {te lo us te' lo' us' : List (Str × Int)} {ma ma' : List (Str × List Int)} {x : qc} (h : SI te lo us ma x) {day : Int} (hr : jw x day = false) (h1 : qw te' x.Name = qw te x.Name) (h2 : qw lo' x.Name = qw lo x.Name) (h3 : qw us' x.Name = some (w64 ((qw us x.Name).getD 0 + 1))) (h4 : qw ma' x.Name = qw ma x.Name) : SI te' lo' us' ma' (qiD x) := by
  obtain ⟨a, ⟨b1, b2, b3, b4⟩, c⟩ := h
  have hne : ¬ x.Used = x.Uses := by
    unfold jw at hr
    simp only [Bool.or_eq_false_iff, decide_eq_false_iff_not] at hr
    exact hr.2.2
  have hw : w64 (x.Used + 1) = x.Used + 1 := yM (by omega) (by omega)
  refine ⟨?_, ?_, ?_⟩
  · show ∃ b lf : Int, qw ma' x.Name = some [b, lf, x.Uses] ∧ _
    rw [h4]; exact a
  · show w64 (x.Used + 1) = (qw us' x.Name).getD 0 ∧ 0 ≤ w64 (x.Used + 1) ∧ w64 (x.Used + 1) ≤ x.Uses ∧ x.Uses ≤ 9999
    rw [h3, ← b1, hw]
    exact ⟨rfl, by omega, by omega, b4⟩
  · rw [← h1, ← h2] at c
    exact c
theorem SI.new {te lo us te' lo' us' : List (Str × Int)} {ma ma' : List (Str × List Int)} {n b : Str} {day life uses : Int} (hd : 0 ≤ day ∧ day ≤ 999999999) (hl : zB life 1 9999 = false) (hu : zB uses 1 9999 = false) (h3 : qw us' n = none) (h4 : qw ma' n = some [day, life, uses]) : SI te' lo' us' ma' (⟨n, b, day, w64 (day + life), uses, 0, 0, 0, false⟩ : qc) := by
  simp only [zB, Bool.or_eq_false_iff, decide_eq_false_iff_not] at hl hu
  refine ⟨⟨day, life, h4, yM (by omega) (by omega), hd.1, hd.2, by omega, by omega⟩, ⟨?_, by simp, ?_, ?_⟩, .inl rfl⟩
  · show (0 : Int) = (qw us' n).getD 0
    rw [h3]; rfl
  · show (0 : Int) ≤ uses
    omega
  · show uses ≤ 9999
    omega
theorem qgZ {x : qc} {a b : Int} (h : jw x a = true) (hab : a ≤ b) : jw x b = true := by
  unfold jw at h ⊢
  simp only [Bool.or_eq_true, decide_eq_true_eq] at h ⊢
  rcases h with h | h | h
  · exact .inl h
  · exact .inr (.inl (by omega))
  · exact .inr (.inr h)
theorem qiq {x : qc} {day load a : Int} (h : jw x a = true) : jw (qfD day load x) a = true := h
theorem qfn {x : qc} {a : Int} : jw (qdw x) a = true := by simp [jw, qdw]
theorem qi8 {x : qc} {a day : Int} (h : jw x a = true) (hr : jw x day = false) : jw (qiD x) a = true := by
  unfold jw at h hr ⊢
  simp only [Bool.or_eq_true, Bool.or_eq_false_iff, decide_eq_true_eq, decide_eq_false_iff_not] at h hr ⊢
  rcases h with h | h | h
  · exact .inl h
  · exact .inr (.inl h)
  · exact absurd h hr.2.2
theorem qck {x s : qc} : ∀ {l : List qc}, x ∈ l → x ∈ qbK l s
  | t :: l, h => by
    rw [qbh]
    split
    · rcases List.mem_cons.1 h with rfl | h
      · exact List.mem_cons_self
      · exact List.mem_cons_of_mem _ (qck h)
    · exact List.mem_cons_of_mem _ h
theorem qgq {l : List qc} (ha : Asc l) {n : Str} (h : zS l n = false) {x : qc} (hx : x ∈ l) : x.Name ≠ n := by
  intro e
  obtain ⟨i, hi⟩ := List.getElem?_of_mem hx
  rw [(ha.uniq hi e).1] at h
  cases h
theorem qeT {l : List qc} (ha : Asc l) {n : Str} {s x : qc} (hs : l[zM l n]? = some s) (hx : x ∈ l) (e : x.Name = n) : x = s := by
  obtain ⟨i, hi⟩ := List.getElem?_of_mem hx
  rw [(ha.uniq hi e).2, hi] at hs
  exact Option.some.inj hs
structure WI (te lo us : List (Str × Int)) (ma : List (Str × List Int)) (l : List qc) : Prop where
  si : ∀ x ∈ l, SI te lo us ma x
  un : ∀ n, (∀ x ∈ l, x.Name ≠ n) → qw us n = none
theorem WI.map {te' lo' us' : List (Str × Int)} {ma' : List (Str × List Int)} {l : List qc} {f : qc → qc} (hf : ∀ s, (f s).Name = s.Name) (h1 : ∀ x ∈ l, SI te' lo' us' ma' (f x)) (h2 : ∀ n, (∀ x ∈ l, x.Name ≠ n) → qw us' n = none) : WI te' lo' us' ma' (l.map f) := by
  refine ⟨fun x hx => ?_, fun n hn => h2 n fun x hx => ?_⟩
  · obtain ⟨y, hy, rfl⟩ := List.mem_map.1 hx
    exact h1 y hy
  · rw [← hf]
    exact hn _ (List.mem_map.2 ⟨x, hx, rfl⟩)
def qfc (l new : List qc) : Prop := ∀ x ∈ l, ∃ y ∈ new, y.Name = x.Name ∧ ∀ a, jw x a = true → jw y a = true
theorem qfc.map {l : List qc} {f : qc → qc} (hf : ∀ s, (f s).Name = s.Name) (h : ∀ x ∈ l, ∀ a, jw x a = true → jw (f x) a = true) : qfc l (l.map f) := fun x hx => ⟨f x, List.mem_map.2 ⟨x, hx, rfl⟩, hf x, h x hx⟩
theorem qa8 {α : Type} (w v : α) (n k : Str) (m : List (Str × α)) : qw (zL (zL m n w) n v) k = if (k == n) = true then some v else qw m k := by
  rw [yB, yB]
  split <;> rfl
inductive WStep (e : ql) (n : Str) (te lo us : List (Str × Int)) (ma : List (Str × List Int)) (new : List qc) : Prop where
  | make (hk : e.Kind = jL) (W : WI te lo us (zL ma n e.Values) new)
  | test (hk : e.Kind = vT) (day load : Int) (hv : e.Values = [day, load]) (W : WI (zL (zL te n ((qw te n).getD 0)) n day) (zL (zL lo n ((qw lo n).getD 0)) n load) us ma new)
  | use (hk : e.Kind = xA) (day load b lf u : Int) (hv : e.Values = [day, load]) (hm : qw ma n = some [b, lf, u]) (h1 : ¬ day > w64 (b + lf)) (h2 : ¬ ((qw (zL us n (w64 ((qw us n).getD 0 + 1))) n).getD 0) > u) (h3 : ¬ (qw lo n).getD 0 = 0) (h4 : ¬ day > w64 ((qw te n).getD 0 + 365)) (h5 : ¬ w64 (2 * load) > (qw lo n).getD 0) (W : WI te lo (zL us n (w64 ((qw us n).getD 0 + 1))) ma new)
  | rest (hk : e.Kind = vX ∨ e.Kind = ze) (W : WI te lo us ma new)
theorem qg6 {N : Nat} {d : Int} {l : List qc} (h : vW N l) {te lo us : List (Str × Int)} {ma : List (Str × List Int)} (W : WI te lo us ma l) {e : ql} (hv : qgB e) (hu : (e.Kind == vR) = false) (h0 : qV N ⟨d, l⟩ e = some 0) :
    ∃ day new n, kW N ⟨d, l⟩ e = some ⟨day, new⟩ ∧ e.Values[0]? = some day ∧ 0 ≤ day ∧ day ≤ 99999 ∧ e.Names[0]? = some n ∧ qfc l new ∧ WStep e n te lo us ma new := by
  obtain ⟨num, k, ns, vs, t⟩ := e
  obtain ⟨_, hf, hn, hs, hr, _⟩ := hv
  simp only at hf hn hs hr hu
  have ha := h.asc
  rcases qdQ hf with rfl | rfl | rfl | rfl | rfl | rfl
  · obtain ⟨m, b, rfl⟩ := qb4 (show (ns.length : Int) = 2 from hn)
    obtain ⟨day, life, uses, rfl⟩ := qir (show (vs.length : Int) = 3 from hs)
    have hR := qgn (d := d) h (num := num) (day := day) (life := life) (uses := uses) (n := m) (b := b) (t := t)
    have hz := Option.some.inj (hR.ref.symm.trans h0)
    obtain ⟨z1, z2⟩ := qh8 hz
    obtain ⟨y1, y2⟩ := qdl z1
    obtain ⟨m1, m2, m3, _⟩ := qiU z2
    have r0 := hr day (by simp)
    refine ⟨day, _, m, hR.aft hz, rfl, r0.1, y1, rfl, fun x hx => ⟨x, qck hx, rfl, fun _ h => h⟩, .make rfl ⟨fun x hx => ?_, fun n hn => W.un n fun x hx => hn x (qck hx)⟩⟩
    rcases qdZ hx with rfl | hx
    · exact SI.new (te := te) (lo := lo) (us := us) (ma := ma) r0 m2 m3 (W.un m fun x hx => qgq ha m1 hx) (by rw [yB]; simp)
    · refine (W.si x hx).congr rfl rfl rfl ?_
      rw [yB, if_neg (by simpa using qgq ha m1 hx)]
  · obtain ⟨m, rfl⟩ := yI (show (ns.length : Int) = 1 from hn)
    obtain ⟨day, load, rfl⟩ := qb4 (show (vs.length : Int) = 2 from hs)
    have hR := qdF (d := d) h (num := num) (day := day) (load := load) (n := m) (t := t)
    have hz := Option.some.inj (hR.ref.symm.trans h0)
    obtain ⟨z1, z2⟩ := qh8 hz
    obtain ⟨y1, y2⟩ := qdl z1
    obtain ⟨s, o1, o2, o3, o4, o5⟩ := qgA z2
    have r0 := hr day (by simp)
    have r1 := hr load (by simp)
    have hload : 2 ≤ load := by
      unfold qfi at o5
      by_cases hq : zB load 2 999999999 = true
      · rw [if_pos hq] at o5; cases o5
      · simp only [zB, Bool.or_eq_true, decide_eq_true_eq, not_or] at hq
        omega
    refine ⟨day, _, m, hR.aft hz, rfl, r0.1, y1, rfl, ?_, .test rfl day load rfl ?_⟩
    · rw [vZ]
      refine qfc.map (fun s => by split <;> rfl) fun x hx a hxa => ?_
      split
      · exact qiq hxa
      · exact hxa
    · rw [vZ]
      refine WI.map (fun s => by split <;> rfl) (fun x hx => ?_) W.un
      by_cases hq : (x.Name == m) = true
      · rw [if_pos hq]
        exact (W.si x hx).tested r0 ⟨hload, r1.2⟩ (by rw [qa8, if_pos hq]) (by rw [qa8, if_pos hq]) rfl rfl
      · rw [if_neg hq]
        exact (W.si x hx).congr (by rw [qa8, if_neg hq]) (by rw [qa8, if_neg hq]) rfl rfl
  · obtain ⟨m, rfl⟩ := yI (show (ns.length : Int) = 1 from hn)
    obtain ⟨day, load, rfl⟩ := qb4 (show (vs.length : Int) = 2 from hs)
    have hR := qfX (d := d) h (num := num) (day := day) (load := load) (n := m) (t := t)
    have hz := Option.some.inj (hR.ref.symm.trans h0)
    obtain ⟨z1, z2⟩ := qh8 hz
    obtain ⟨y1, y2⟩ := qdl z1
    obtain ⟨s, o1, o2, o3, o4, o5⟩ := qgA z2
    have r0 := hr day (by simp)
    have r1 := hr load (by simp)
    have hsl : s ∈ l := List.mem_of_getElem? o1
    have hself : ∀ v : Int, qw (zL us m v) m = some v := fun v => by rw [yB]; simp
    obtain ⟨⟨b, lf, a1, a2, a3, a4, a5, a6⟩, ⟨b1, b2, b3, b4⟩, c⟩ := W.si s hsl
    rw [o3] at a1 b1 c
    have o4' := o4
    unfold jw at o4
    simp only [Bool.or_eq_false_iff, decide_eq_false_iff_not] at o4
    unfold qhT at o5
    have hH : qaQ s day = true := by
      cases hq : qaQ s day with
      | true => rfl
      | false => rw [hq, if_pos rfl] at o5; cases o5
    rw [hH, if_neg (by simp)] at o5
    have hL : ¬ load > s.Limit := by
      intro hq
      rw [if_pos hq] at o5
      cases o5
    unfold qaQ at hH
    simp only [Bool.and_eq_true, decide_eq_true_eq] at hH
    obtain ⟨ld, td, c1, c2, c3, c4, c5, c6, c7, c8⟩ : ∃ ld td : Int, qw lo m = some ld ∧ 2 ≤ ld ∧ ld ≤ 999999999 ∧ s.Limit = ld.tdiv 2 ∧ qw te m = some td ∧ 0 ≤ td ∧ td ≤ 999999999 ∧ s.Until ≤ td + 365 := by
      rcases c with c | c
      · omega
      · exact c
    have hdiv : 2 * s.Limit ≤ ld := by
      rw [c4, Int.tdiv_eq_ediv_of_nonneg (by omega)]
      omega
    have w1 : w64 (b + lf) = b + lf := yM (by omega) (by omega)
    have w2 : w64 ((qw us m).getD 0 + 1) = s.Used + 1 := by rw [← b1]; exact yM (by omega) (by omega)
    have w3 : w64 (td + 365) = td + 365 := yM (by omega) (by omega)
    have w4 : w64 (2 * load) = 2 * load := yM (by omega) (by omega)
    refine ⟨day, _, m, hR.aft hz, rfl, r0.1, y1, rfl, ?_, .use rfl day load b lf s.Uses rfl a1 ?_ ?_ ?_ ?_ ?_ ?_⟩
    · rw [vZ]
      refine qfc.map (fun s => by split <;> rfl) fun x hx a hxa => ?_
      split
      · rename_i hq
        rw [qeT ha o1 hx (beq_iff_eq.1 hq)] at hxa ⊢
        exact qi8 hxa o4'
      · exact hxa
    · rw [w1]; omega
    · rw [hself, Option.getD_some, w2]; omega
    · rw [c1, Option.getD_some]; omega
    · rw [c5, Option.getD_some, w3]; omega
    · rw [c1, Option.getD_some, w4]; omega
    · rw [vZ]
      refine WI.map (fun s => by split <;> rfl) (fun x hx => ?_) fun n hn => ?_
      · by_cases hq : (x.Name == m) = true
        · have e := qeT ha o1 hx (beq_iff_eq.1 hq)
          subst e
          rw [if_pos hq]
          exact (W.si x hx).use o4' rfl rfl (by rw [o3, hself]) rfl
        · rw [if_neg hq]
          exact (W.si x hx).congr rfl rfl (by rw [yB, if_neg hq]) rfl
      · have hne : ¬ (n == m) = true := fun e => hn s hsl (by rw [o3]; exact (beq_iff_eq.1 e).symm)
        rw [yB, if_neg hne]
        exact W.un n hn
  · obtain ⟨m, rfl⟩ := yI (show (ns.length : Int) = 1 from hn)
    obtain ⟨day, rfl⟩ := yI (show (vs.length : Int) = 1 from hs)
    have hR := qdj (d := d) h (num := num) (day := day) (n := m) (t := t)
    have hz := Option.some.inj (hR.ref.symm.trans h0)
    obtain ⟨z1, z2⟩ := qh8 hz
    obtain ⟨y1, y2⟩ := qdl z1
    have r0 := hr day (by simp)
    refine ⟨day, _, m, hR.aft hz, rfl, r0.1, y1, rfl, ?_, .rest (.inl rfl) ?_⟩
    · rw [vZ]
      refine qfc.map (fun s => by split <;> rfl) fun x hx a hxa => ?_
      split
      · exact qfn
      · exact hxa
    · rw [vZ]
      refine WI.map (fun s => by split <;> rfl) (fun x hx => ?_) W.un
      split
      · exact (W.si x hx).gone
      · exact W.si x hx
  · obtain ⟨m, rfl⟩ := yI (show (ns.length : Int) = 1 from hn)
    obtain ⟨day, rfl⟩ := yI (show (vs.length : Int) = 1 from hs)
    have hR := qbx (d := d) h (num := num) (day := day) (n := m) (t := t)
    have hz := Option.some.inj (hR.ref.symm.trans h0)
    obtain ⟨z1, z2⟩ := qh8 hz
    obtain ⟨y1, y2⟩ := qdl z1
    have r0 := hr day (by simp)
    refine ⟨day, _, m, hR.aft hz, rfl, r0.1, y1, rfl, ?_, .rest (.inr rfl) ?_⟩
    · refine qfc.map (fun s => by unfold xm; split <;> rfl) fun x hx a hxa => ?_
      unfold xm
      split
      · exact qfn
      · exact hxa
    · refine WI.map (fun s => by unfold xm; split <;> rfl) (fun x hx => ?_) W.un
      unfold xm
      split
      · exact (W.si x hx).gone
      · exact W.si x hx
  · simp at hu
theorem Ctx.cert2 {N : Nat} {l c : List ql} {o : Option (List StateT)} {d : Int} {s : List qc} (C : Ctx N l c o d s) {n : Str} {x : qc} (h1 : zS s n = true) (h2 : s[zM s n]? = some x) (h3 : jN n = true) {day : Int} (hd : zB day 0 99999 = false) : ∃ a e, jE N l n day = some (a, e) ∧ (jw x day = true → e = 20) ∧ (jw x day = false → e = 0 ∨ e = 24) := by
  have hN := C.ev.big
  have hlen := qcm h3
  obtain ⟨_, _, a3⟩ := qdc C.ev C.rel C.cl C.reg C.sl C.rep (n := n) (by omega) 0
  have z0 : kw [nmE n, 0] = 0 := by unfold nmE; rw [if_pos h3]; rfl
  obtain ⟨o3, _, k⟩ := a3 z0 h1 x h2
  unfold jE
  rw [xU, hd, if_neg (by simp), Option.bind_some, k, Option.bind_some]
  simp only [qak, qe0, xQ, Option.bind_some]
  rw [yo (by simp) (by simp; omega), Option.bind_some]
  rw [show (⟨x.Name, x.Batch, x.Born, x.Last, x.Uses, x.Used, x.Limit, x.Until, x.Gone⟩ : qc) = x from rfl]
  by_cases c4 : jw x day = true <;> by_cases c5 : qaQ x day = true
  · exact ⟨0, 20, by simp [kw, c4, c5], by simp [c4, c5]⟩
  · exact ⟨0, 20, by simp [kw, c4, c5], by simp [c4, c5]⟩
  · exact ⟨x.Limit, 0, by simp [kw, c4, c5], by simp [c4, c5]⟩
  · exact ⟨0, 24, by simp [kw, c4, c5], by simp [c4, c5]⟩
def Gn (day : Int) (s : List qc) (g : List (Str × Bool)) : Prop := ∀ n, qw g n = some true → ∃ x ∈ s, x.Name = n ∧ jw x day = true
theorem Gn.stay {day : Int} {s new : List qc} {g : List (Str × Bool)} (h : Gn day s g) (hs : qfc s new) : Gn day new g := fun n hn => by
  obtain ⟨x, hx, e, hr⟩ := h n hn
  obtain ⟨y, hy, e2, hr2⟩ := hs x hx
  exact ⟨y, hy, e2.trans e, hr2 day hr⟩
theorem Gn.set {day : Int} {s : List qc} {g : List (Str × Bool)} (h : Gn day s g) {x : qc} (hx : x ∈ s) : Gn day s (zL g x.Name (jw x day)) := fun n hn => by
  rw [yB] at hn
  by_cases hq : (n == x.Name) = true
  · rw [if_pos hq] at hn
    exact ⟨x, hx, (beq_iff_eq.1 hq).symm, Option.some.inj hn⟩
  · rw [if_neg hq] at hn
    exact h n hn
theorem qhV {N : Nat} {l c : List ql} {o : Option (List StateT)} {d day : Int} {s : List qc} {i : Nat} (hi : i < l.length) (hl : l.length ≤ 1000) (C : Ctx N (l.take (i + 1)) c o d s) (hd : zB day 0 99999 = false) : ∀ (K k : Nat) (g : List (Str × Bool)), k ≤ s.length → s.length < K + k → Gn day s g → ∃ g', kF N l day (i : Int) (⟨d, s⟩, 0, 0) K g (k : Int) = some (.inl g') ∧ Gn day s g'
  | 0, k, g, h, hK, _ => by omega
  | K + 1, k, g, h, hK, hg => by
    unfold kF
    have hsl := C.sl
    by_cases hk : k < s.length
    · have hx : s[k]? = some s[k] := List.getElem?_eq_getElem hk
      have hm : s[k] ∈ s := List.getElem_mem hk
      obtain ⟨a1, a2, a3, _⟩ := C.at_ hx
      generalize s[k] = x at *
      rw [if_pos (show (k : Int) < ((⟨d, s⟩ : kU).Slings.length : Int) by simp only; omega)]
      have hw : w64 ((i : Int) + 1) = ((i + 1 : Nat) : Int) := zW (by omega)
      have hw2 : w64 ((k : Int) + 1) = ((k + 1 : Nat) : Int) := zW (by omega)
      have hd' := hd
      simp only [zB, Bool.or_eq_false_iff, decide_eq_false_iff_not] at hd'
      have hw3 : w64 (day + 100) = day + 100 := yM (by omega) (by omega)
      obtain ⟨lt, hlt⟩ : ∃ lt : Int, lt = if 99999 < day + 100 then 99999 else day + 100 := ⟨_, rfl⟩
      have h1 : day ≤ lt := by rw [hlt]; split <;> omega
      have h2 : zB lt 0 99999 = false := by
        simp only [zB, Bool.or_eq_false_iff, decide_eq_false_iff_not]
        rw [hlt]
        split <;> omega
      obtain ⟨ca, ce, c1, c2, c3⟩ := C.cert2 a1 a2 a3 hd
      obtain ⟨g', r1, r2⟩ := qhV hi hl C hd K (k + 1) (zL g x.Name (jw x day)) (by omega) (by omega) (hg.set hm)
      refine ⟨g', ?_, r2⟩
      simp only [kT, hx, Option.bind_some, hw, hw2, hw3, qa7 (show i + 1 ≤ l.length by omega), C.retired a1 a2 a3 hd, C.retired a1 a2 a3 h2, c1, ← hlt, decide_true, Bool.not_true, Bool.false_eq_true, if_false, r1]
      by_cases hr : jw x day = true
      · have hr2 := qgZ hr h1
        have e := c2 hr
        subst e
        by_cases hgg : (qw g x.Name).getD false = true <;> simp [hr, hr2, hgg, ← r1]
      · have hr' : jw x day = false := by simpa using hr
        have hgg : ¬ (qw g x.Name).getD false = true := by
          intro hq
          have : qw g x.Name = some true := by
            cases hq2 : qw g x.Name with
            | none => rw [hq2] at hq; cases hq
            | some b => rw [hq2] at hq; rw [show b = true from hq]
          obtain ⟨y, hy, e, hry⟩ := hg _ this
          rw [qeT C.asc a2 hy e] at hry
          exact hr hry
        rcases c3 hr' with e | e <;> subst e <;> simp [hr', hgg, ← r1]
    · refine ⟨g, ?_, hg⟩
      rw [if_neg (show ¬ (k : Int) < ((⟨d, s⟩ : kU).Slings.length : Int) by simp only; omega)]
theorem qd9 (N : Nat) (e : ql) (es : List ql) (k : Nat) (c : List ql) : jm N (e :: es) k c = if yg N c k e = 0 then jm N es (k + 1) (qbk c e) else (((k + 1 : Nat) : Int), yg N c k e, []) := rfl
theorem qds {N : Nat} (b : List ql) : ∀ (a : List ql) (k : Nat) (c : List ql), jm N (a ++ b) k c = if (jm N a k c).2.1 = 0 then jm N b (k + a.length) (jm N a k c).2.2 else jm N a k c
  | [], k, c => by
    show jm N b k c = if (0 : Int) = 0 then jm N b (k + 0) c else _
    rw [if_pos rfl]
    rfl
  | x :: a, k, c => by
    rw [List.cons_append, qd9 N x (a ++ b), qd9 N x a]
    by_cases h : yg N c k x = 0
    · rw [if_pos h, if_pos h, qds b a (k + 1) (qbk c x), List.length_cons, show k + 1 + a.length = k + (a.length + 1) by omega]
    · rw [if_neg h, if_neg h, if_neg h]
theorem qhE {N : Nat} {e : ql} {k : Nat} {c : List ql} (h : yg N c k e = 0) (hu : (e.Kind == vR) = false) : jm N [e] k c = (0, 0, c ++ [e]) := by
  unfold jm
  rw [if_pos h]
  unfold jm qbk
  rw [hu]
  rfl
theorem qg7 {N : Nat} {l : List ql} (h0 : (jm N l 0 []).2.1 = 0) {i : Nat} {e : ql} (he : l[i]? = some e) (hc : jm N (l.take i) 0 [] = (0, 0, l.take i)) : yg N (l.take i) i e = 0 ∧ ((e.Kind == vR) = false → jm N (l.take (i + 1)) 0 [] = (0, 0, l.take (i + 1))) := by
  have hi := (List.getElem?_eq_some_iff.1 he).1
  have ht : l.take (i + 1) = l.take i ++ [e] := by rw [List.take_add_one, he]; rfl
  have hlen : (l.take i).length = i := by rw [List.length_take]; omega
  have h1 : yg N (l.take i) i e = 0 := by
    have hsplit : l = l.take i ++ e :: l.drop (i + 1) := by
      have e2 : l[i] = e := by rw [List.getElem?_eq_getElem hi] at he; exact Option.some.inj he
      rw [← e2, ← List.drop_eq_getElem_cons hi, List.take_append_drop]
    rw [hsplit, qds, hc, if_pos rfl, hlen, Nat.zero_add] at h0
    unfold jm at h0
    by_cases hq : yg N (l.take i) i e = 0
    · exact hq
    · rw [if_neg hq] at h0
      exact h0
  refine ⟨h1, fun hu => ?_⟩
  rw [ht, qds, hc, if_pos rfl, hlen, Nat.zero_add]
  exact qhE h1 hu
theorem qhq {N : Nat} {l : List ql} (hE : Evs N l) (h0 : (jm N l 0 []).2.1 = 0) {day : Int} (hd : zB day 0 99999 = false) : ∀ (K i : Nat) (te lo us : List (Str × Int)) (ma : List (Str × List Int)) (g : List (Str × Bool)) (d : Int) (s : List qc), i ≤ l.length → l.length < K + i → jm N (l.take i) 0 [] = (0, 0, l.take i) → qca N (l.take i) = some ⟨d, s⟩ → vW N s → WI te lo us ma s → Gn day s g →
    qO N l day K te lo us ma g (i : Int) = some (.inl ()) ∨ qO N l day K te lo us ma g (i : Int) = some (.inr true)
  | 0, i, _, _, _, _, _, _, _, h, hK, _, _, _, _, _ => by omega
  | K + 1, i, te, lo, us, ma, g, d, s, h, hK, hrun, hreg, hok, W, hg => by
    unfold qO
    have hl := hE.len
    have hN := hE.big
    by_cases hi : i < l.length
    · rw [if_pos (by omega)]
      have he : l[i]? = some l[i] := List.getElem?_eq_getElem hi
      generalize l[i] = e at he
      rw [kT, he, Option.bind_some]
      obtain ⟨q1, q2⟩ := qg7 h0 he hrun
      by_cases hu : (e.Kind == vR) = true
      · right
        rw [if_pos (show (e.Kind == [117, 110, 100, 111]) = true from hu)]
        rfl
      · rw [if_neg (show ¬ (e.Kind == [117, 110, 100, 111]) = true from hu)]
        have hu : (e.Kind == vR) = false := by simpa using hu
        have hrun2 := q2 hu
        have hlt : (l.take i).length ≤ 1000 := by rw [List.length_take]; omega
        have hck : jf e = 0 := by
          by_cases a1 : jf e = 0
          · exact a1
          · unfold yg at q1; rw [if_pos a1] at q1; exact q1
        obtain ⟨err, _, _, _, hR, _⟩ := qcT (d := d) hok (yD hck) hu
        have href : qV N ⟨d, s⟩ e = some 0 := by
          unfold yg at q1
          rw [if_neg (by simp [hck])] at q1
          by_cases a2 : e.Number = ((i + 1 : Nat) : Int)
          · rw [if_neg (by simp [a2]), hu, if_neg (by simp), yl hlt hN, hreg, Option.bind_some, hR.ref, Option.getD_some] at q1
            rw [hR.ref, q1]
          · rw [if_pos a2] at q1; cases q1
        obtain ⟨dy, new, n, s1, s2, s3, s4, s5, s6, s7⟩ := qg6 hok W (yD hck) hu href
        have ht : l.take (i + 1) = l.take i ++ [e] := by rw [List.take_add_one, he]; rfl
        have hreg2 : qca N (l.take (i + 1)) = some ⟨dy, new⟩ := by rw [ht, qct, hreg, Option.bind_some, s1]
        have hE2 : Evs N (l.take (i + 1)) := ⟨by rw [List.length_take]; omega, fun x hx => hE.short x (List.mem_of_mem_take hx), hN, hE.max⟩
        obtain ⟨o, d2, s2', C⟩ := qjW hE2 (by rw [hrun2])
        rw [hrun2] at C
        have C : Ctx N (l.take (i + 1)) (l.take (i + 1)) o d2 s2' := C
        have hq := C.reg
        rw [yl C.cl hN, hreg2] at hq
        injection hq with hq
        injection hq with hq1 hq2
        subst hq1 hq2
        have hok2 : vW N new := ⟨C.asc, C.sl, hN, hE.max⟩
        have hout : zB dy 0 99999 = false := by
          simp only [zB, Bool.or_eq_false_iff, decide_eq_false_iff_not]
          omega
        have hw : w64 ((i : Int) + 1) = ((i + 1 : Nat) : Int) := zW (by omega)
        obtain ⟨g', r1, r2⟩ := qhV hi hl C hd N 0 g (by omega) (by have := C.sl; omega) (hg.stay s6)
        have r1 : kF N l day (i : Int) (⟨dy, new⟩, 0, 0) N g 0 = some (.inl g') := r1
        have again := fun te' lo' us' ma' W' => qhq hE h0 hd K (i + 1) te' lo' us' ma' g' dy new (by omega) (by omega) hrun2 hreg2 hok2 W' r2
        rw [hw, qa7 (show i + 1 ≤ l.length by omega), Option.bind_some, C.replay, Option.bind_some]
        simp only [decide_true, Bool.not_true, Bool.false_eq_true, if_false, yE, s2, s5, Option.bind_some, yR, hout]
        rcases s7 with ⟨hk, W'⟩ | ⟨hk, dy', load, hv, W'⟩ | ⟨hk, dy', load, b, lf, u, hv, hm, c1, c2, c3, c4, c5, W'⟩ | ⟨hk, W'⟩
        · simp only [hk, show (jL == [109, 97, 107, 101]) = true by decide, if_true, Option.bind_some, r1]
          exact again _ _ _ _ W'
        · rw [hv] at s2 ⊢
          have s2 : dy' = dy := Option.some.inj s2
          subst s2
          simp only [hk, show (vT == [109, 97, 107, 101]) = false by decide, show (vT == [116, 101, 115, 116]) = true by decide, if_true, if_false, Bool.false_eq_true, qaX, List.getElem?_cons_zero, List.getElem?_cons_succ, Option.bind_some, r1]
          exact again _ _ _ _ W'
        · rw [hv] at s2 ⊢
          have s2 : dy' = dy := Option.some.inj s2
          subst s2
          simp only [hk, show (xA == [109, 97, 107, 101]) = false by decide, show (xA == [116, 101, 115, 116]) = false by decide, show (xA == [117, 115, 101]) = true by decide, if_true, if_false, Bool.false_eq_true, yE, qaX, qgr, List.getElem?_cons_zero, List.getElem?_cons_succ, Option.bind_some, hm, Option.isSome_some, Option.getD_some, List.length_cons, List.length_nil, c1, c2, c3, c4, c5, decide_false, r1]
          exact again _ _ _ _ W'
        · have k1 : (e.Kind == [109, 97, 107, 101]) = false := by rcases hk with hk | hk <;> rw [hk] <;> decide
          have k2 : (e.Kind == [116, 101, 115, 116]) = false := by rcases hk with hk | hk <;> rw [hk] <;> decide
          have k3 : (e.Kind == [117, 115, 101]) = false := by rcases hk with hk | hk <;> rw [hk] <;> decide
          simp only [k1, k2, k3, if_false, Bool.false_eq_true, Option.bind_some, r1]
          exact again _ _ _ _ W'
    · left
      rw [if_neg (by omega)]
theorem qb2 (l : List ql) (day : Int) : vD 3000 l day = some true := by
  have hN : 2000 < 3000 := by omega
  have hM : 3000 < 4611686018427387904 := by omega
  unfold vD
  have e1 : jh 3000 l 20 = some (decide (l.length ≤ 20) && l.all qa4) := qdO (n := 20) hN (by omega)
  rw [e1, Option.bind_some]
  by_cases h1 : l.length ≤ 20
  · by_cases h2 : l.all qa4 = true
    · have hE : Evs 3000 l := ⟨by omega, fun x hx => qim hN (List.all_eq_true.1 h2 x hx), hN, hM⟩
      simp only [h1, h2, decide_true, Bool.and_self, Bool.not_true, Bool.false_eq_true, if_false]
      rcases qf1 hE with ⟨e0, r⟩ | ⟨e0, d, s, r1, r2, r3⟩
      · rw [r]
        simp [e0, awk]
      · rw [r3]
        simp only [yR, Option.bind_some, decide_true, Bool.not_true, Bool.false_eq_true, if_false]
        by_cases h3 : zB day 0 99999 = true
        · simp [h3, awk]
        · have hday : zB day 0 99999 = false := by simpa using h3
          have hL := qhq hE e0 hday 3000 0 [] [] [] [] [] 0 [] (by omega) (by omega) rfl rfl ⟨List.Pairwise.nil, by simp, hN, hM⟩ ⟨fun x hx => by simp at hx, fun _ _ => rfl⟩ (fun n hn => by simp [qw] at hn)
          have e2 : qO 3000 l day 3000 [] [] [] [] [] 0 = qO 3000 l day 3000 [] [] [] [] [] ((0 : Nat) : Int) := rfl
          simp only [h3, Bool.false_eq_true, if_false]
          rw [e2]
          rcases hL with hL | hL <;> rw [hL] <;> simp [awk]
    · simp [h1, h2, awk]
  · simp [h1, awk]
end Go.Av
