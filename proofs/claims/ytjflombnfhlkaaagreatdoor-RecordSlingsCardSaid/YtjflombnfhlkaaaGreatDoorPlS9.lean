/-
  Chapter 10: the law of slings, plain: what is common, and the batch of a sling.
-/
import Derived.Test.YtjflombnfhlkaaaGreatDoorPlS8
noncomputable section
namespace Go.Av
set_option linter.unusedSimpArgs false
set_option linter.unusedVariables false
theorem qeg (l : List Int) (hl : l.length < 4611686018427387904) : ∀ (K k : Nat), k ≤ l.length → l.length < K + k → jk l K (k : Int) = some (if qE (l.drop k) = 0 then .inl () else .inr (qE (l.drop k)))
  | 0, k, h, hK => by omega
  | K + 1, k, h, hK => by
    unfold jk
    by_cases hk : k < l.length
    · rw [if_pos (by omega), ku, List.getElem?_eq_getElem hk, List.drop_eq_getElem_cons hk, zP (by omega), qeg l hl K (k + 1) (by omega) (by omega)]
      simp only [Option.bind_some, qE]
      by_cases h0 : l[k] = 0
      · simp [h0]
      · simp [h0]
    · rw [if_neg (by omega), List.drop_of_length_le (by omega)]
      rfl
theorem xU {N : Nat} {l : List Int} (hl : l.length < 4611686018427387904) (h : l.length < N) : vE N l = some (qE l) := by
  unfold vE
  rw [show (0 : Int) = ((0 : Nat) : Int) from rfl, qeg l hl N 0 (Nat.zero_le _) (by omega), List.drop_zero]
  by_cases h0 : qE l = 0
  · simp [h0]
  · simp [h0]
theorem qdG (b : Bool) (e : Int) : jG b e = some (if b = true then e else 0) := by
  unfold jG; split <;> rfl
theorem qg3 {N : Nat} {s : Str} (h : s.length < N) (hs : s.length < 4611686018427387904) : vZ N s = some (if vQ s = true then 0 else 8) := by
  unfold vZ
  simp only [qdp h hs, qdG, Option.bind_some]
  cases vQ s <;> rfl
theorem qg0 (n : Int) : yO n = some (if ji n 0 99999 = true then 3 else 0) := by
  unfold yO
  simp only [xm, qdG, Option.bind_some]
theorem qcu (a : List Int) (hl : a.length ≤ 1000) : ∀ (K k : Nat), k ≤ a.length → a.length < K + k → kM a a K (k : Int) = some (.inl ())
  | 0, k, h, hK => by omega
  | K + 1, k, h, hK => by
    unfold kM
    by_cases hk : k < a.length
    · rw [if_pos (by omega), ku, List.getElem?_eq_getElem hk, Option.bind_some, Option.bind_some, zP (by omega), if_neg (by simp)]
      exact qcu a hl K (k + 1) (by omega) (by omega)
    · rw [if_neg (by omega)]
theorem jU {N : Nat} (hN : 2000 < N) {a : List Int} (hl : a.length ≤ 1000) : vG N a a = some true := by
  unfold vG
  rw [if_neg (by simp), show kM a a N 0 = kM a a N ((0 : Nat) : Int) from rfl, qcu a hl N 0 (by omega) (by omega)]
  rfl
theorem qfY {N : Nat} {l : List qm} (h : Evs N l) :
    (∃ p err, err ≠ 0 ∧ kK N l = some ([], none, false, p, err) ∧ jD N l = some (⟨0, []⟩, p, err)) ∨
    (∃ o' d s, kK N l = some (l, o', true, 0, 0) ∧ jD N l = some (⟨d, s⟩, 0, 0) ∧ s.length ≤ 1000 ∧ Asc s ∧ Rel N (jR N l 0 []).2.2 (hof o') ∧ (jR N l 0 []).2.2.length ≤ l.length ∧ jh N l = some ((jR N l 0 []).2.2, 0, 0) ∧ qW N (jR N l 0 []).2.2 = some ⟨d, s⟩ ∧ (jR N l 0 []).2.1 = 0) := by
  have hl := h.len
  have hN := h.big
  rcases qbT h with ⟨g1, g2, g3⟩ | ⟨g1, o', g2, g3, g4, g5⟩
  · rcases qdM h with ⟨_, e⟩ | ⟨e0, _⟩
    · exact .inl ⟨_, _, g1, g2, e⟩
    · exact absurd e0 g1
  · rcases qdM h with ⟨e0, _⟩ | ⟨_, d, s, e1, e2, e3⟩
    · exact absurd g1 e0
    · obtain ⟨o2, d', s', f1, f2, f3, f4, f5⟩ := jO (evs := l) g4 (by omega) hN
      rw [e1] at f3
      injection f3 with f3
      injection f3 with fd fs
      subst fd fs
      exact .inr ⟨o', d, s, g2, e3, e2, f4, g4, g5, g3, e1, g1⟩
def bat (l : List qh) (n : Str) : Option Str := (l.find? fun s => s.Name == n).map (·.Batch)
theorem qac (s : qh) (l : List qh) (n : Str) : bat (s :: l) n = if (s.Name == n) = true then some s.Batch else bat l n := by
  unfold bat
  rw [List.find?_cons]
  by_cases h : (s.Name == n) = true <;> simp [h]
theorem qbL {f : qh → qh} (hf : ∀ s, (f s).Name = s.Name ∧ (f s).Batch = s.Batch) (n : Str) : ∀ l, bat (l.map f) n = bat l n
  | [] => rfl
  | s :: l => by rw [List.map_cons, qac, qac, (hf s).1, (hf s).2, qbL hf n l]
theorem qeK (s : qh) (n : Str) : ∀ l, bat (qbJ l s) n = if (s.Name == n) = true then some s.Batch else bat l n
  | [] => by rw [show qbJ [] s = [s] by simp [qbJ, zH], qac]
  | t :: l => by
    rw [qcr]
    split
    · rename_i hc
      rw [qac, qeK s n l, qac]
      by_cases h1 : (t.Name == n) = true
      · have : ¬ (s.Name == n) = true := fun h2 => by
          have := qdL hc
          rw [beq_iff_eq.1 h1, beq_iff_eq.1 h2] at this
          exact this rfl
        rw [if_pos h1, if_neg this, if_pos h1]
      · rw [if_neg h1, if_neg h1]
    · rw [qac]
theorem qgi {l : List qh} (ha : Asc l) {n : Str} (h : zV l n = true) {x : qh} (hx : l[zH l n]? = some x) : bat l n = some x.Batch := by
  unfold bat
  cases hf : l.find? fun s => s.Name == n with
  | none => exact absurd (beq_iff_eq.2 (qcS hx h)) (List.find?_eq_none.1 hf x (List.mem_of_getElem? hx))
  | some t =>
    have hn : (t.Name == n) = true := by have := List.find?_some hf; exact this
    have hn : t.Name = n := beq_iff_eq.1 hn
    obtain ⟨i, hi⟩ := List.getElem?_of_mem (List.mem_of_find?_eq_some hf)
    have := (ha.uniq hi hn).2
    rw [this, hi] at hx
    injection hx with hx
    rw [hx]
    rfl
theorem qfa {l : List qh} (ha : Asc l) {n : Str} (h : zV l n = false) : bat l n = none := by
  unfold bat
  cases hf : l.find? fun s => s.Name == n with
  | none => rfl
  | some t =>
    have hn : (t.Name == n) = true := by have := List.find?_some hf; exact this
    have hn : t.Name = n := beq_iff_eq.1 hn
    obtain ⟨i, hi⟩ := List.getElem?_of_mem (List.mem_of_find?_eq_some hf)
    rw [(ha.uniq hi hn).1] at h
    cases h
theorem qh8 {N : Nat} {d : Int} {l : List qh} (h : yA N l) {e : qm} (hv : qhQ e) (hu : (e.Kind == yU) = false) (h0 : kC N ⟨d, l⟩ e = some 0) (n : Str) :
    ∃ day new, ze N ⟨d, l⟩ e = some ⟨day, new⟩ ∧ ∃ n0, e.Names[0]? = some n0 ∧ ((e.Kind == jA) = true → ∃ b, e.Names[1]? = some b ∧ (n0 = n → bat l n = none ∧ bat new n = some b) ∧ (n0 ≠ n → bat new n = bat l n)) ∧ ((e.Kind == jA) = false → bat new n = bat l n) := by
  obtain ⟨num, k, ns, vs, t⟩ := e
  obtain ⟨_, hf, hn, hs, hr, _⟩ := hv
  simp only at hf hn hs hr hu
  have ha := h.asc
  rcases qfv hf with rfl | rfl | rfl | rfl | rfl | rfl
  · obtain ⟨m, b, rfl⟩ := qd7 (show (ns.length : Int) = 2 from hn)
    obtain ⟨day, life, uses, rfl⟩ := qiY (show (vs.length : Int) = 3 from hs)
    have hR := qhl (d := d) h (num := num) (day := day) (life := life) (uses := uses) (n := m) (b := b) (t := t)
    have hz := Option.some.inj (hR.ref.symm.trans h0)
    have hh : zV l m = false := by
      cases hq : zV l m with
      | false => rfl
      | true =>
        split at hz
        · simp [qcC, hq] at hz
        · rename_i hd; exact absurd hz hd
    refine ⟨_, _, hR.aft hz, m, rfl, fun _ => ⟨b, rfl, fun e => ?_, fun e => ?_⟩, fun e => by simp at e⟩
    · subst e
      refine ⟨qfa ha hh, ?_⟩
      rw [qeK]
      simp
    · rw [qeK, if_neg (by simpa using e)]
  · obtain ⟨m, rfl⟩ := qaz (show (ns.length : Int) = 1 from hn)
    obtain ⟨day, load, rfl⟩ := qd7 (show (vs.length : Int) = 2 from hs)
    have hR := qfd (d := d) h (num := num) (day := day) (load := load) (n := m) (t := t)
    refine ⟨_, _, hR.aft (Option.some.inj (hR.ref.symm.trans h0)), m, rfl, fun e => absurd e (by simp only; decide), fun _ => ?_⟩
    rw [qa1]
    exact qbL (fun s => by split <;> exact ⟨rfl, rfl⟩) n l
  · obtain ⟨m, rfl⟩ := qaz (show (ns.length : Int) = 1 from hn)
    obtain ⟨day, load, rfl⟩ := qd7 (show (vs.length : Int) = 2 from hs)
    have hR := qhv (d := d) h (num := num) (day := day) (load := load) (n := m) (t := t)
    refine ⟨_, _, hR.aft (Option.some.inj (hR.ref.symm.trans h0)), m, rfl, fun e => absurd e (by simp only; decide), fun _ => ?_⟩
    rw [qa1]
    exact qbL (fun s => by split <;> exact ⟨rfl, rfl⟩) n l
  · obtain ⟨m, rfl⟩ := qaz (show (ns.length : Int) = 1 from hn)
    obtain ⟨day, rfl⟩ := qaz (show (vs.length : Int) = 1 from hs)
    have hR := qe0 (d := d) h (num := num) (day := day) (n := m) (t := t)
    refine ⟨_, _, hR.aft (Option.some.inj (hR.ref.symm.trans h0)), m, rfl, fun e => absurd e (by simp only; decide), fun _ => ?_⟩
    rw [qa1]
    exact qbL (fun s => by split <;> exact ⟨rfl, rfl⟩) n l
  · obtain ⟨m, rfl⟩ := qaz (show (ns.length : Int) = 1 from hn)
    obtain ⟨day, rfl⟩ := qaz (show (vs.length : Int) = 1 from hs)
    have hR := qdn (d := d) h (num := num) (day := day) (n := m) (t := t)
    refine ⟨_, _, hR.aft (Option.some.inj (hR.ref.symm.trans h0)), m, rfl, fun e => absurd e (by simp only; decide), fun _ => ?_⟩
    exact qbL (fun s => by unfold xV; split <;> exact ⟨rfl, rfl⟩) n l
  · simp at hu
def qcd (N : Nat) (L c : List qm) : Prop := ∀ (j : Nat) (e : qm), c[j]? = some e → jB e = 0 ∧ (e.Kind == yU) = false ∧ (∃ i : Nat, e.Number = ((i + 1 : Nat) : Int) ∧ L[i]? = some e) ∧ ((qW N (c.take j)).bind fun r => kC N r e).getD 0 = 0
theorem qcd.next {N : Nat} {L c : List qm} {k : Nat} {e : qm} (h : qcd N L c) (hL : L[k]? = some e) (h0 : xB N c k e = 0) : qcd N L (qch c e) := by
  unfold xB at h0
  by_cases a1 : jB e = 0
  · rw [if_neg (by simp [a1])] at h0
    by_cases a2 : e.Number = ((k + 1 : Nat) : Int)
    · rw [if_neg (by simp [a2])] at h0
      unfold qch
      by_cases a3 : (e.Kind == yU) = true
      · rw [if_pos a3]
        intro j f hf
        rw [List.getElem?_dropLast] at hf
        split at hf
        · rename_i hj
          obtain ⟨b1, b2, b3, b4⟩ := h j f hf
          refine ⟨b1, b2, b3, ?_⟩
          rw [List.dropLast_eq_take, List.take_take, Nat.min_eq_left (by omega)]
          exact b4
        · cases hf
      · rw [if_neg a3]
        rw [if_neg a3] at h0
        intro j f hf
        rcases Nat.lt_or_ge j c.length with hj | hj
        · rw [List.getElem?_append_left hj] at hf
          obtain ⟨b1, b2, b3, b4⟩ := h j f hf
          refine ⟨b1, b2, b3, ?_⟩
          rw [List.take_append_of_le_length (by omega)]
          exact b4
        · rw [List.getElem?_append_right hj] at hf
          have hj0 : j - c.length = 0 := by
            have := (List.getElem?_eq_some_iff.1 hf).1
            simp at this
            omega
          rw [hj0] at hf
          simp only [List.getElem?_cons_zero, Option.some.injEq] at hf
          subst hf
          refine ⟨a1, by simpa using a3, ⟨k, a2, hL⟩, ?_⟩
          rw [show j = c.length by omega, List.take_left]
          exact h0
    · rw [if_pos a2] at h0; cases h0
  · rw [if_pos a1] at h0; exact absurd h0 a1
theorem qfm {N : Nat} {L : List qm} : ∀ (es : List qm) (k : Nat) (c : List qm), qcd N L c → (∀ (i : Nat) e, es[i]? = some e → L[k + i]? = some e) → (jR N es k c).2.1 = 0 → qcd N L (jR N es k c).2.2
  | [], _, _, h, _, _ => h
  | e :: es, k, c, h, hL, h0 => by
    unfold jR at h0 ⊢
    by_cases hc : xB N c k e = 0
    · rw [if_pos hc] at h0 ⊢
      exact qfm es (k + 1) _ (h.next (hL 0 e rfl) hc) (fun i f hf => by rw [show k + 1 + i = k + (i + 1) by omega]; exact hL (i + 1) f hf) h0
    · rw [if_neg hc] at h0
      exact absurd h0 hc
end Go.Av
