/-
  Chapter 10: slings in a register: where they stand; the event that makes one.
-/
import Derived.Test.YtjflombnfhlkaaaGreatDoorPlC2
noncomputable section
namespace Go.Av
set_option linter.unusedSimpArgs false
def yN (s : qf) (d : Int) : Bool := s.Gone || (decide (d > s.Last) || decide (s.Used = s.Uses))
def qas (s : qf) (d : Int) : Bool := decide (s.Limit > 0) && decide (d ≤ s.Until)
theorem xP (s : qf) (d : Int) : kw s d = some (yN s d) := by
  unfold kw yN
  by_cases h : s.Gone = true
  · simp [h]
  · by_cases h2 : d > s.Last <;> simp [h, h2]
theorem qc8 (s : qf) (d : Int) : vL s d = some (yN s d) := by
  unfold vL yN
  by_cases h : s.Gone = true
  · simp [h]
  · by_cases h2 : d > s.Last <;> simp [h, h2]
theorem qd5 (s : qf) (d : Int) : zJ s d = some (qas s d) := by
  unfold zJ qas
  by_cases h : s.Limit > 0 <;> simp [h]
theorem qhA (s : qf) (d : Int) : yE s d = some (qas s d) := by
  unfold yE qas
  by_cases h : s.Limit > 0 <;> simp [h]
def zT : List qf → Str → Nat
  | [], _ => 0
  | s :: l, n => if ltL s.Name n = true then zT l n + 1 else 0
def zX : List qf → Str → Bool
  | [], _ => false
  | s :: l, n => if ltL s.Name n = true then zX l n else s.Name == n
theorem qcl : ∀ (l : List qf) (n : Str), zT l n ≤ l.length
  | [], _ => Nat.le_refl _
  | s :: l, n => by
    unfold zT
    split
    · have := qcl l n; simp only [List.length_cons]; omega
    · simp
theorem qbp : ∀ {l : List qf} {n : Str}, zX l n = true → zT l n < l.length
  | [], _, h => by simp [zX] at h
  | s :: l, n, h => by
    unfold zX at h
    unfold zT
    by_cases hc : ltL s.Name n = true
    · rw [if_pos hc] at h ⊢
      have := qbp h
      simp only [List.length_cons]; omega
    · rw [if_neg hc]; simp
theorem qb8 : ∀ {l : List qf} {n : Str} {s : qf}, l[zT l n]? = some s → zX l n = (s.Name == n)
  | [], _, _, h => by simp at h
  | t :: l, n, s, h => by
    unfold zT at h
    unfold zX
    by_cases hc : ltL t.Name n = true
    · rw [if_pos hc] at h ⊢
      exact qb8 (by simpa using h)
    · rw [if_neg hc] at h ⊢
      simp only [List.getElem?_cons_zero, Option.some.injEq] at h
      rw [h]
theorem qci (l : List qf) (hl : l.length < 4611686018427387904) (n : Str) : ∀ (K k : Nat), k ≤ l.length → l.length < K + k → qM l n K (k : Int) = some (if zT (l.drop k) n < (l.drop k).length then .inr ((k + zT (l.drop k) n : Nat) : Int) else .inl ())
  | 0, k, h, hK => by omega
  | K + 1, k, h, hK => by
    unfold qM
    by_cases hk : k < l.length
    · rw [if_pos (by omega), qO, List.getElem?_eq_getElem hk, List.drop_eq_getElem_cons hk, zm (by omega), qci l hl n K (k + 1) (by omega) (by omega)]
      simp only [Option.bind_some, zP, zT, List.length_cons]
      by_cases hc : ltL (l[k]).Name n = true
      · simp only [hc, Bool.not_true, Bool.false_eq_true, if_false, if_true, Nat.add_lt_add_iff_right]
        split
        · rw [show k + 1 + zT (List.drop (k + 1) l) n = k + (zT (List.drop (k + 1) l) n + 1) by omega]
        · rfl
      · simp [hc]
    · rw [if_neg (by omega), List.drop_of_length_le (by omega)]
      rfl
theorem qcA {N : Nat} {l : List qf} (hl : l.length < 4611686018427387904) (hN : l.length < N) (d : Int) (n : Str) : ky N ⟨d, l⟩ n = some ((zT l n : Int), zX l n) := by
  unfold ky zY
  rw [show (0 : Int) = ((0 : Nat) : Int) from rfl, qci l hl n N 0 (by omega) (by omega), List.drop_zero]
  by_cases h : zT l n < l.length
  · have hg : l[zT l n]? = some (l[zT l n]) := List.getElem?_eq_getElem h
    have h2 : ¬ ((zT l n : Nat) : Int) < 0 := by omega
    simp only [h, if_true, Nat.zero_add, Option.bind_some]
    rw [if_neg (by omega), qO, hg, Option.bind_some, qb8 hg]
  · have h0 : zX l n = false := by
      cases hq : zX l n with
      | false => rfl
      | true => exact absurd (qbp hq) h
    have h1 : zT l n = l.length := by have := qcl l n; omega
    simp [h, h0, h1]
def Asc (l : List qf) : Prop := l.Pairwise fun a b => ltL a.Name b.Name = true
theorem Asc.find : ∀ {l : List qf}, Asc l → ∀ n : Str, l.findIdx? (fun s => s.Name == n) = if zX l n = true then some (zT l n) else none
  | [], _, n => by simp [zX]
  | s :: l, h, n => by
    have h1 := (List.pairwise_cons.1 h).1
    have h2 := Asc.find (List.pairwise_cons.1 h).2 n
    rw [List.findIdx?_cons]
    unfold zX zT
    by_cases hc : ltL s.Name n = true
    · have : (s.Name == n) = false := beq_eq_false_iff_ne.2 (qdA hc)
      rw [if_pos hc, if_pos hc, this, h2]
      simp only [Bool.false_eq_true, if_false]
      split <;> rfl
    · rw [if_neg hc, if_neg hc]
      by_cases he : (s.Name == n) = true
      · simp [he]
      · simp only [he, if_false, Bool.false_eq_true]
        have hgt : ltL n s.Name = true := by
          cases hq : ltL n s.Name with
          | true => rfl
          | false => exact absurd (beq_iff_eq.2 (qfa _ _ (by simpa using hc) hq)) he
        have : l.findIdx? (fun s => s.Name == n) = none := by
          rw [List.findIdx?_eq_none_iff]
          intro x hx
          exact beq_eq_false_iff_ne.2 fun e => qdA (qcP hgt (h1 x hx)) e.symm
        rw [this]; rfl
theorem qjx (r : qI) (hl : r.Slings.length < 4611686018427387904) (n : Str) : ∀ (K k : Nat), k ≤ r.Slings.length → r.Slings.length < K + k → vQ r n K (k : Int) = some (match (r.Slings.drop k).findIdx? (fun s => s.Name == n) with | some j => .inr ((k + j : Nat) : Int) | none => .inl ())
  | 0, k, h, hK => by omega
  | K + 1, k, h, hK => by
    unfold vQ
    by_cases hk : k < r.Slings.length
    · rw [if_pos (by omega), qO, List.getElem?_eq_getElem hk, List.drop_eq_getElem_cons hk, zm (by omega), qjx r hl n K (k + 1) (by omega) (by omega), List.findIdx?_cons]
      simp only [Option.bind_some]
      by_cases he : ((r.Slings[k]).Name == n) = true
      · simp [he]
      · simp only [he, if_false, Bool.false_eq_true]
        cases (r.Slings.drop (k + 1)).findIdx? (fun s => s.Name == n) with
        | none => rfl
        | some j => simp only [Option.map_some]; rw [show k + 1 + j = k + (j + 1) by omega]
    · rw [if_neg (by omega), List.drop_of_length_le (by omega)]
      rfl
theorem qh5 {N : Nat} {r : qI} (hl : r.Slings.length < 4611686018427387904) (hN : r.Slings.length < N) (ha : Asc r.Slings) (n : Str) : qa7 N r n = some (if zX r.Slings n = true then (zT r.Slings n : Int) else -1) := by
  unfold qa7
  rw [show (0 : Int) = ((0 : Nat) : Int) from rfl, qjx r hl n N 0 (by omega) (by omega), List.drop_zero, ha.find n]
  by_cases h : zX r.Slings n = true <;> simp [h]
theorem Asc.uniq {l : List qf} (h : Asc l) {i : Nat} {s : qf} {n : Str} (hi : l[i]? = some s) (hs : s.Name = n) : zX l n = true ∧ zT l n = i := by
  have hf := h.find n
  have hlt := (List.getElem?_eq_some_iff.1 hi).1
  cases hq : zX l n with
  | false =>
    rw [hq, if_neg (by simp), List.findIdx?_eq_none_iff] at hf
    have := hf s (List.mem_of_getElem? hi)
    simp [hs] at this
  | true =>
    refine ⟨rfl, ?_⟩
    have hp := qbp hq
    have hg : l[zT l n]? = some (l[zT l n]) := List.getElem?_eq_getElem hp
    have hn := qb8 hg
    rw [hq] at hn
    have hn : (l[zT l n]).Name = n := (beq_iff_eq.1 hn.symm)
    have he : l[i] = s := by
      rw [List.getElem?_eq_getElem hlt] at hi
      injection hi
    rcases Nat.lt_trichotomy (zT l n) i with hlt2 | e | hgt
    · have := List.pairwise_iff_getElem.1 h _ _ hp hlt hlt2
      rw [he, hn, hs] at this
      exact absurd rfl (qdA this)
    · exact e
    · have := List.pairwise_iff_getElem.1 h _ _ hlt hp hgt
      rw [he, hn, hs] at this
      exact absurd rfl (qdA this)
def qcd (l : List qf) (s : qf) : List qf := l.take (zT l s.Name) ++ s :: l.drop (zT l s.Name)
theorem xE {d : Int} {l : List qf} (h : l.length ≤ 1000) : qz d l = some l := by
  unfold qz
  have e : mk 88 (l.length : Int) (⟨[], [], 0, 0, 0, 0, 0, 0, false⟩ : qf) = some (List.replicate l.length ⟨[], [], 0, 0, 0, 0, 0, 0, false⟩) := by
    unfold mk
    rw [if_pos ⟨by omega, by omega, by omega⟩, Int.toNat_natCast]
  rw [e, Option.bind_some, qfr (by simp)]
  rfl
theorem qhl {l : List qf} (h : l.length ≤ 1000) {p : Nat} (hp : p ≤ l.length) (a b : Str) (c d e f g i : Int) (j : Bool) : zQ l (p : Int) a b c d e f g i j = some (l.take p ++ ⟨a, b, c, d, e, f, g, i, j⟩ :: l.drop p) := by
  unfold zQ
  generalize hs : (⟨a, b, c, d, e, f, g, i, j⟩ : qf) = s
  rw [qgI hp, Option.bind_some, if_neg (by decide)]
  by_cases he : p = l.length
  · rw [if_pos (by omega), he, List.take_length, List.drop_length]
    cases l with
    | nil => rfl
    | cons x xs =>
      simp only [List.length_cons] at h
      simp only [vC (b := 88) (l := x :: xs) (xs := [s]) (by simp; omega) (by simp; omega), Option.bind_some]
  · rw [if_neg (by omega)]
    have w1 : w64 ((l.length : Int) + 1) = ((l.length + 1 : Nat) : Int) := zm (by omega)
    have w2 : w64 (((l.length + 1 : Nat) : Int) - (p : Int)) = ((l.length + 1 - p : Nat) : Int) := by rw [qfk (by omega) (by omega)]; omega
    have w3 : w64 ((p : Int) + 1) = ((p + 1 : Nat) : Int) := zm (by omega)
    rw [w1, if_pos (by omega), w2, w3]
    have e1 : qhv 88 l p ((l.length + 1 - p : Nat) : Int) (⟨[], [], 0, 0, 0, 0, 0, 0, false⟩ : qf) = some (l.take p ++ List.replicate (l.length + 1 - p) ⟨[], [], 0, 0, 0, 0, 0, 0, false⟩) := by
      unfold qhv
      rw [if_pos ⟨by omega, by omega, by omega, by omega, hp, by simp only [Int.toNat_natCast]; omega, by simp only [Int.toNat_natCast]; omega, by simp only [Int.toNat_natCast]; omega⟩, Int.toNat_natCast]
    rw [e1, Option.bind_some]
    obtain ⟨z, hz⟩ : ∃ z : qf, z = ⟨[], [], 0, 0, 0, 0, 0, 0, false⟩ := ⟨_, rfl⟩
    rw [← hz]
    have e2 : List.replicate (l.length + 1 - p) z = z :: List.replicate (l.length - p) z := by
      rw [show l.length + 1 - p = (l.length - p) + 1 by omega]; rfl
    have lt : (l.take p).length = p := by rw [List.length_take]; omega
    have e3 : (if (p : Int) = 0 then (some (cpy (l.take p ++ List.replicate (l.length + 1 - p) z) [s])).bind fun l13 => some l13
        else (at' (l.take p ++ List.replicate (l.length + 1 - p) z) (p : Int)).bind fun j14 => ((if j14 < (l.take p ++ List.replicate (l.length + 1 - p) z).length then some () else none : Option Unit)).bind fun u15 =>
          (some (qcp (l.take p ++ List.replicate (l.length + 1 - p) z) j14 [s])).bind fun l16 => some l16 : Option (List qf)) = some (l.take p ++ s :: List.replicate (l.length - p) z) := by
      by_cases h0 : p = 0
      · subst h0
        rw [if_pos (by rfl)]
        simp only [Option.bind_some, List.take_zero, List.nil_append, e2]
        simp [cpy]
      · rw [if_neg (by omega), qgI (by simp; omega), Option.bind_some, if_pos (by simp; omega), Option.bind_some, Option.bind_some]
        simp only [qcp, List.take_append, List.drop_append, lt, Nat.sub_self, List.take_zero, List.append_nil, List.drop_zero]
        rw [List.take_of_length_le (by omega), List.drop_of_length_le (by omega), List.nil_append, e2]
        simp [cpy]
    rw [e3, Option.bind_some, if_neg (by omega), qgI (by simp; omega), Option.bind_some, if_pos (by simp; omega), Option.bind_some, Option.bind_some]
    have e4 : (l.take p ++ s :: List.replicate (l.length - p) z).take (p + 1) = l.take p ++ [s] := by
      rw [List.take_append, lt, List.take_of_length_le (by omega), show p + 1 - p = 1 by omega]; rfl
    have e5 : (l.take p ++ s :: List.replicate (l.length - p) z).drop (p + 1) = List.replicate (l.length - p) z := by
      rw [List.drop_append, lt, List.drop_of_length_le (by omega), show p + 1 - p = 1 by omega]; rfl
    simp only [qcp, e4, e5]
    rw [qfr (by simp), List.append_assoc]
    rfl
end Go.Av
