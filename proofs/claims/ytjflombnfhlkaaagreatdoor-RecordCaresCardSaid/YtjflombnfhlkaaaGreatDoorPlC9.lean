/-
  Chapter 10: the law of cares, plain: what is common.
-/
import Derived.Test.YtjflombnfhlkaaaGreatDoorPlC8
noncomputable section
namespace Go.Av
set_option linter.unusedSimpArgs false
set_option linter.unusedVariables false
def qY (p : qf → Bool) (s : List qf) : List Str := (s.filter p).map (·.Name)
theorem qbv (p : qf → Bool) (s : List qf) : (qY p s).length ≤ s.length := by
  unfold qY; rw [List.length_map]; exact List.length_filter_le _ _
theorem qda (p : qf → Bool) (x : qf) (s : List qf) : qY p (x :: s) = if p x = true then x.Name :: qY p s else qY p s := by
  unfold qY; rw [List.filter_cons]; split <;> simp
def xz (d : Int) (s : qf) : Bool := !yN s d && !qas s d
def yj (b : Str) (s : qf) : Bool := s.Batch == b
theorem qb0 (s : List qf) (hs : s.length ≤ 1000) (d : Int) : ∀ (K k : Nat) (acc : List Str), k ≤ s.length → s.length < K + k → acc.length ≤ k → qJ s d K acc (k : Int) = some (acc ++ qY (xz d) (s.drop k))
  | 0, k, _, h, hK, _ => by omega
  | K + 1, k, acc, h, hK, ha => by
    unfold qJ
    by_cases hk : k < s.length
    · rw [if_pos (by omega), qO, List.getElem?_eq_getElem hk, Option.bind_some, zm (by omega), List.drop_eq_getElem_cons hk, qda]
      have e : (if (!yN s[k] d) = true then some (!qas s[k] d) else some false : Option Bool) = some (xz d s[k]) := by
        unfold xz
        cases yN s[k] d <;> rfl
      simp only [yf, vY, jy, xP, qd5, Option.bind_some, e]
      by_cases hp : xz d s[k] = true
      · rw [if_pos hp, if_pos hp, vC (by simp; omega) (by simp; omega), Option.bind_some, Option.bind_some, qb0 s hs d K (k + 1) _ (by omega) (by omega) (by simp; omega)]
        simp
      · rw [if_neg hp, if_neg hp, Option.bind_some, qb0 s hs d K (k + 1) _ (by omega) (by omega) (by omega)]
    · rw [if_neg (by omega), List.drop_of_length_le (by omega)]
      simp [qY]
theorem qgc {N : Nat} (hN : 2000 < N) {s : List qf} (hs : s.length ≤ 1000) (d : Int) : zL N s d = some (qY (xz d) s) := by
  unfold zL
  rw [show qJ s d N [] 0 = qJ s d N [] ((0 : Nat) : Int) from rfl, qb0 s hs d N 0 [] (by omega) (by omega) (by simp), List.drop_zero]
  rfl
theorem qbS (s : List qf) (hs : s.length ≤ 1000) (d : Str) : ∀ (K k : Nat) (acc : List Str), k ≤ s.length → s.length < K + k → acc.length ≤ k → qH s d K acc (k : Int) = some (acc ++ qY (yj d) (s.drop k))
  | 0, k, _, h, hK, _ => by omega
  | K + 1, k, acc, h, hK, ha => by
    unfold qH
    by_cases hk : k < s.length
    · rw [if_pos (by omega), qO, List.getElem?_eq_getElem hk, Option.bind_some, zm (by omega), List.drop_eq_getElem_cons hk, qda]
      have e : ((s[k]).Batch == d) = yj d s[k] := rfl
      simp only [vB, jy, Option.bind_some, e]
      by_cases hp : yj d s[k] = true
      · rw [if_pos hp, if_pos hp, vC (by simp; omega) (by simp; omega), Option.bind_some, Option.bind_some, qbS s hs d K (k + 1) _ (by omega) (by omega) (by simp; omega)]
        simp
      · rw [if_neg hp, if_neg hp, Option.bind_some, qbS s hs d K (k + 1) _ (by omega) (by omega) (by omega)]
    · rw [if_neg (by omega), List.drop_of_length_le (by omega)]
      simp [qY]
theorem qgE {N : Nat} (hN : 2000 < N) {s : List qf} (hs : s.length ≤ 1000) (d : Str) : zK N s d = some (qY (yj d) s) := by
  unfold zK
  rw [show qH s d N [] 0 = qH s d N [] ((0 : Nat) : Int) from rfl, qbS s hs d N 0 [] (by omega) (by omega) (by simp), List.drop_zero]
  rfl
def bat (l : List qf) (n : Str) : Option Str := (l.find? fun s => s.Name == n).map (·.Batch)
theorem qao (s : qf) (l : List qf) (n : Str) : bat (s :: l) n = if (s.Name == n) = true then some s.Batch else bat l n := by
  unfold bat
  rw [List.find?_cons]
  by_cases h : (s.Name == n) = true <;> simp [h]
theorem qce {f : qf → qf} (hf : ∀ s, (f s).Name = s.Name ∧ (f s).Batch = s.Batch) (n : Str) : ∀ l, bat (l.map f) n = bat l n
  | [] => rfl
  | s :: l => by rw [List.map_cons, qao, qao, (hf s).1, (hf s).2, qce hf n l]
theorem qe5 (s : qf) (n : Str) : ∀ l, bat (qcd l s) n = if (s.Name == n) = true then some s.Batch else bat l n
  | [] => by rw [show qcd [] s = [s] by simp [qcd, zT], qao]
  | t :: l => by
    rw [qcD]
    split
    · rename_i hc
      rw [qao, qe5 s n l, qao]
      by_cases h1 : (t.Name == n) = true
      · have : ¬ (s.Name == n) = true := fun h2 => by
          have := qdA hc
          rw [beq_iff_eq.1 h1, beq_iff_eq.1 h2] at this
          exact this rfl
        rw [if_pos h1, if_neg this, if_pos h1]
      · rw [if_neg h1, if_neg h1]
    · rw [qao]
theorem qdu {l : List qf} (ha : Asc l) {n : Str} (h : zX l n = true) {x : qf} (hx : l[zT l n]? = some x) : bat l n = some x.Batch := by
  unfold bat
  cases hf : l.find? fun s => s.Name == n with
  | none => exact absurd (beq_iff_eq.2 (qdp hx h)) (List.find?_eq_none.1 hf x (List.mem_of_getElem? hx))
  | some t =>
    have hn : (t.Name == n) = true := by have := List.find?_some hf; exact this
    have hn : t.Name = n := beq_iff_eq.1 hn
    obtain ⟨i, hi⟩ := List.getElem?_of_mem (List.mem_of_find?_eq_some hf)
    have := (ha.uniq hi hn).2
    rw [this, hi] at hx
    injection hx with hx
    rw [hx]
    rfl
theorem qfX {l : List qf} (ha : Asc l) {n : Str} (h : zX l n = false) : bat l n = none := by
  unfold bat
  cases hf : l.find? fun s => s.Name == n with
  | none => rfl
  | some t =>
    have hn : (t.Name == n) = true := by have := List.find?_some hf; exact this
    have hn : t.Name = n := beq_iff_eq.1 hn
    obtain ⟨i, hi⟩ := List.getElem?_of_mem (List.mem_of_find?_eq_some hf)
    rw [(ha.uniq hi hn).1] at h
    cases h
theorem qiw {N : Nat} {d : Int} {l : List qf} (h : yM N l) {e : ql} (hv : qik e) (hu : (e.Kind == xh) = false) (h0 : kM N ⟨d, l⟩ e = some 0) (n : Str) :
    ∃ day new, zA N ⟨d, l⟩ e = some ⟨day, new⟩ ∧ ∃ n0, e.Names[0]? = some n0 ∧ ((e.Kind == jr) = true → ∃ b, e.Names[1]? = some b ∧ (n0 = n → bat l n = none ∧ bat new n = some b) ∧ (n0 ≠ n → bat new n = bat l n)) ∧ ((e.Kind == jr) = false → bat new n = bat l n ∧ ((e.Kind == kE) = false → zX l n0 = true)) := by
  obtain ⟨num, k, ns, vs, t⟩ := e
  obtain ⟨_, hf, hn, hs, hr, _⟩ := hv
  simp only at hf hn hs hr hu
  have ha := h.asc
  rcases qfO hf with rfl | rfl | rfl | rfl | rfl | rfl
  · obtain ⟨m, b, rfl⟩ := qeM (show (ns.length : Int) = 2 from hn)
    obtain ⟨day, life, uses, rfl⟩ := qjt (show (vs.length : Int) = 3 from hs)
    have hR := qiI (d := d) h (num := num) (day := day) (life := life) (uses := uses) (n := m) (b := b) (t := t)
    have hz := Option.some.inj (hR.ref.symm.trans h0)
    have hh : zX l m = false := by
      cases hq : zX l m with
      | false => rfl
      | true =>
        split at hz
        · simp [qcW, hq] at hz
        · rename_i hd; exact absurd hz hd
    refine ⟨_, _, hR.aft hz, m, rfl, fun _ => ⟨b, rfl, fun e => ?_, fun e => ?_⟩, fun e => by simp at e⟩
    · subst e
      refine ⟨qfX ha hh, ?_⟩
      rw [qe5]
      simp
    · rw [qe5, if_neg (by simpa using e)]
  · obtain ⟨m, rfl⟩ := qaT (show (ns.length : Int) = 1 from hn)
    obtain ⟨day, load, rfl⟩ := qeM (show (vs.length : Int) = 2 from hs)
    have hR := qfH (d := d) h (num := num) (day := day) (load := load) (n := m) (t := t)
    have hz := Option.some.inj (hR.ref.symm.trans h0)
    refine ⟨_, _, hR.aft hz, m, rfl, fun e => absurd e (by simp only; decide), fun _ => ⟨?_, fun _ => ?_⟩⟩
    · rw [qbu]
      exact qce (fun s => by split <;> exact ⟨rfl, rfl⟩) n l
    · cases hq : zX l m with
      | true => rfl
      | false =>
        rw [jV hq] at hz
        split at hz
        · cases hz
        · rename_i hd; exact absurd hz hd
  · obtain ⟨m, rfl⟩ := qaT (show (ns.length : Int) = 1 from hn)
    obtain ⟨day, load, rfl⟩ := qeM (show (vs.length : Int) = 2 from hs)
    have hR := qhH (d := d) h (num := num) (day := day) (load := load) (n := m) (t := t)
    have hz := Option.some.inj (hR.ref.symm.trans h0)
    refine ⟨_, _, hR.aft hz, m, rfl, fun e => absurd e (by simp only; decide), fun _ => ⟨?_, fun _ => ?_⟩⟩
    · rw [qbu]
      exact qce (fun s => by split <;> exact ⟨rfl, rfl⟩) n l
    · cases hq : zX l m with
      | true => rfl
      | false =>
        rw [jV hq] at hz
        split at hz
        · cases hz
        · rename_i hd; exact absurd hz hd
  · obtain ⟨m, rfl⟩ := qaT (show (ns.length : Int) = 1 from hn)
    obtain ⟨day, rfl⟩ := qaT (show (vs.length : Int) = 1 from hs)
    have hR := qf8 (d := d) h (num := num) (day := day) (n := m) (t := t)
    have hz := Option.some.inj (hR.ref.symm.trans h0)
    refine ⟨_, _, hR.aft hz, m, rfl, fun e => absurd e (by simp only; decide), fun _ => ⟨?_, fun _ => ?_⟩⟩
    · rw [qbu]
      exact qce (fun s => by split <;> exact ⟨rfl, rfl⟩) n l
    · cases hq : zX l m with
      | true => rfl
      | false =>
        rw [jV hq] at hz
        split at hz
        · cases hz
        · rename_i hd; exact absurd hz hd
  · obtain ⟨m, rfl⟩ := qaT (show (ns.length : Int) = 1 from hn)
    obtain ⟨day, rfl⟩ := qaT (show (vs.length : Int) = 1 from hs)
    have hR := qbR (d := d) h (num := num) (day := day) (n := m) (t := t)
    refine ⟨_, _, hR.aft (Option.some.inj (hR.ref.symm.trans h0)), m, rfl, fun e => absurd e (by simp only; decide), fun _ => ⟨?_, fun h => absurd h (by simp)⟩⟩
    exact qce (fun s => by unfold xY; split <;> exact ⟨rfl, rfl⟩) n l
  · simp at hu
def qbJ (N : Nat) (L c : List ql) : Prop := ∀ (j : Nat) (e : ql), c[j]? = some e → zS e = 0 ∧ (e.Kind == xh) = false ∧ (∃ i : Nat, e.Number = ((i + 1 : Nat) : Int) ∧ L[i]? = some e) ∧ ((ko N (c.take j)).bind fun r => kM N r e).getD 0 = 0
theorem qbJ.next {N : Nat} {L c : List ql} {k : Nat} {e : ql} (h : qbJ N L c) (hL : L[k]? = some e) (h0 : yz N c k e = 0) : qbJ N L (qaM c e) := by
  unfold yz at h0
  by_cases a1 : zS e = 0
  · rw [if_neg (by simp [a1])] at h0
    by_cases a2 : e.Number = ((k + 1 : Nat) : Int)
    · rw [if_neg (by simp [a2])] at h0
      unfold qaM
      by_cases a3 : (e.Kind == xh) = true
      · rw [if_pos a3]
        intro j f hf
        rw [List.getElem?_dropLast] at hf
        split at hf
        · rename_i hj
          obtain ⟨b1, b2, b3, b4⟩ := h j f hf
          refine ⟨b1, b2, b3, ?_⟩
          rw [List.dropLast_eq_take, List.take_take, Nat.min_eq_left (by omega)]
          exact b4
        · cases hf
      · rw [if_neg a3]
        rw [if_neg a3] at h0
        intro j f hf
        rcases Nat.lt_or_ge j c.length with hj | hj
        · rw [List.getElem?_append_left hj] at hf
          obtain ⟨b1, b2, b3, b4⟩ := h j f hf
          refine ⟨b1, b2, b3, ?_⟩
          rw [List.take_append_of_le_length (by omega)]
          exact b4
        · rw [List.getElem?_append_right hj] at hf
          have hj0 : j - c.length = 0 := by
            have := (List.getElem?_eq_some_iff.1 hf).1
            simp at this
            omega
          rw [hj0] at hf
          simp only [List.getElem?_cons_zero, Option.some.injEq] at hf
          subst hf
          refine ⟨a1, by simpa using a3, ⟨k, a2, hL⟩, ?_⟩
          rw [show j = c.length by omega, List.take_left]
          exact h0
    · rw [if_pos a2] at h0; cases h0
  · rw [if_pos a1] at h0; exact absurd h0 a1
theorem qfN {N : Nat} {L : List ql} : ∀ (es : List ql) (k : Nat) (c : List ql), qbJ N L c → (∀ (i : Nat) e, es[i]? = some e → L[k + i]? = some e) → (jG N es k c).2.1 = 0 → qbJ N L (jG N es k c).2.2
  | [], _, _, h, _, _ => h
  | e :: es, k, c, h, hL, h0 => by
    unfold jG at h0 ⊢
    by_cases hc : yz N c k e = 0
    · rw [if_pos hc] at h0 ⊢
      exact qfN es (k + 1) _ (h.next (hL 0 e rfl) hc) (fun i f hf => by rw [show k + 1 + i = k + (i + 1) by omega]; exact hL (i + 1) f hf) h0
    · rw [if_neg hc] at h0
      exact absurd h0 hc
def UpTo (c : List ql) (k : Nat) : Prop := c.Pairwise (fun a b => a.Number < b.Number) ∧ ∀ e ∈ c, e.Number ≤ (k : Int)
theorem UpTo.next {N : Nat} {c : List ql} {k : Nat} {e : ql} (h : UpTo c k) (h0 : yz N c k e = 0) : UpTo (qaM c e) (k + 1) := by
  have hn : e.Number = ((k + 1 : Nat) : Int) := by
    unfold yz at h0
    by_cases a1 : zS e = 0
    · rw [if_neg (by simp [a1])] at h0
      by_cases a2 : e.Number = ((k + 1 : Nat) : Int)
      · exact a2
      · rw [if_pos a2] at h0; cases h0
    · rw [if_pos a1] at h0; exact absurd h0 a1
  obtain ⟨h1, h2⟩ := h
  unfold qaM
  split
  · exact ⟨h1.sublist (List.dropLast_sublist c), fun f hf => by have := h2 f (List.dropLast_subset c hf); omega⟩
  · refine ⟨List.pairwise_append.2 ⟨h1, List.pairwise_singleton _ _, fun a ha b hb => ?_⟩, fun f hf => ?_⟩
    · have := h2 a ha
      simp at hb
      subst hb
      omega
    · rcases List.mem_append.1 hf with hf | hf
      · have := h2 f hf; omega
      · simp at hf
        subst hf
        omega
theorem qg0 {N : Nat} : ∀ (es : List ql) (k : Nat) (c : List ql), UpTo c k → (jG N es k c).2.1 = 0 → (jG N es k c).2.2.Pairwise (fun a b => a.Number < b.Number)
  | [], _, _, h, _ => h.1
  | e :: es, k, c, h, h0 => by
    unfold jG at h0 ⊢
    by_cases hc : yz N c k e = 0
    · rw [if_pos hc] at h0 ⊢
      exact qg0 es (k + 1) _ (h.next hc) h0
    · rw [if_neg hc] at h0
      exact absurd h0 hc
theorem qdM (l : List Str) (n : Str) (hl : l.length ≤ 1000) : ∀ (K k : Nat), k ≤ l.length → l.length < K + k → zo l n K (k : Int) = some (if n ∈ l.drop k then .inr true else .inl ())
  | 0, k, h, hK => by omega
  | K + 1, k, h, hK => by
    unfold zo
    by_cases hk : k < l.length
    · rw [if_pos (by omega), qO, List.getElem?_eq_getElem hk, Option.bind_some, zm (by omega), qdM l n hl K (k + 1) (by omega) (by omega), List.drop_eq_getElem_cons hk]
      by_cases hq : (l[k] == n) = true
      · have : n = l[k] := (beq_iff_eq.1 hq).symm
        rw [if_pos hq, if_pos (by rw [this]; exact List.mem_cons_self)]
      · have hne : n ≠ l[k] := fun e => hq (beq_iff_eq.2 e.symm)
        rw [if_neg hq]
        by_cases hm : n ∈ l.drop (k + 1)
        · rw [if_pos hm, if_pos (List.mem_cons_of_mem _ hm)]
        · rw [if_neg hm, if_neg (by rw [List.mem_cons]; exact fun h => h.elim hne hm)]
    · rw [if_neg (by omega), List.drop_of_length_le (by omega)]
      simp
theorem qdW {N : Nat} (hN : 2000 < N) {l : List Str} (hl : l.length ≤ 1000) (n : Str) : jh N l n = some (decide (n ∈ l)) := by
  unfold jh
  rw [show zo l n N 0 = zo l n N ((0 : Nat) : Int) from rfl, qdM l n hl N 0 (by omega) (by omega), List.drop_zero]
  by_cases h : n ∈ l <;> simp [h]
theorem qcQ {l : List qf} (ha : Asc l) (p : qf → Bool) {x : qf} (hx : x ∈ l) : x.Name ∈ qY p l ↔ p x = true := by
  unfold qY
  rw [List.mem_map]
  constructor
  · rintro ⟨y, hy, he⟩
    obtain ⟨hy1, hy2⟩ := List.mem_filter.1 hy
    obtain ⟨i, hi⟩ := List.getElem?_of_mem hx
    obtain ⟨j, hj⟩ := List.getElem?_of_mem hy1
    have h1 := (ha.uniq hi rfl).2
    have h2 := (ha.uniq hj he).2
    rw [← h1, h2, hj] at hi
    injection hi with hi
    rw [← hi]
    exact hy2
  · intro h
    exact ⟨x, List.mem_filter.2 ⟨hx, h⟩, rfl⟩
end Go.Av
