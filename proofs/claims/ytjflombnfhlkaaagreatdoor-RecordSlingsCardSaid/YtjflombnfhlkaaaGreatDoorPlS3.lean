/-
  Chapter 10: slings in a register: where they stand; the event that makes one.
-/
import Derived.Test.YtjflombnfhlkaaaGreatDoorPlS2
noncomputable section
namespace Go.Av
set_option linter.unusedSimpArgs false
def xA (s : qh) (d : Int) : Bool := s.Gone || (decide (d > s.Last) || decide (s.Used = s.Uses))
def qce (s : qh) (d : Int) : Bool := decide (s.Limit > 0) && decide (d ≤ s.Until)
theorem vC (s : qh) (d : Int) : kE s d = some (xA s d) := by
  unfold kE xA
  by_cases h : s.Gone = true
  · simp [h]
  · by_cases h2 : d > s.Last <;> simp [h, h2]
theorem qaT (s : qh) (d : Int) : jH s d = some (xA s d) := by
  unfold jH xA
  by_cases h : s.Gone = true
  · simp [h]
  · by_cases h2 : d > s.Last <;> simp [h, h2]
theorem xw (s : qh) (d : Int) : zL s d = some (qce s d) := by
  unfold zL qce
  by_cases h : s.Limit > 0 <;> simp [h]
theorem qd8 (s : qh) (d : Int) : vI s d = some (qce s d) := by
  unfold vI qce
  by_cases h : s.Limit > 0 <;> simp [h]
def zH : List qh → Str → Nat
  | [], _ => 0
  | s :: l, n => if ltL s.Name n = true then zH l n + 1 else 0
def zV : List qh → Str → Bool
  | [], _ => false
  | s :: l, n => if ltL s.Name n = true then zV l n else s.Name == n
theorem qbM : ∀ (l : List qh) (n : Str), zH l n ≤ l.length
  | [], _ => Nat.le_refl _
  | s :: l, n => by
    unfold zH
    split
    · have := qbM l n; simp only [List.length_cons]; omega
    · simp
theorem qa8 : ∀ {l : List qh} {n : Str}, zV l n = true → zH l n < l.length
  | [], _, h => by simp [zV] at h
  | s :: l, n, h => by
    unfold zV at h
    unfold zH
    by_cases hc : ltL s.Name n = true
    · rw [if_pos hc] at h ⊢
      have := qa8 h
      simp only [List.length_cons]; omega
    · rw [if_neg hc]; simp
theorem qbO : ∀ {l : List qh} {n : Str} {s : qh}, l[zH l n]? = some s → zV l n = (s.Name == n)
  | [], _, _, h => by simp at h
  | t :: l, n, s, h => by
    unfold zH at h
    unfold zV
    by_cases hc : ltL t.Name n = true
    · rw [if_pos hc] at h ⊢
      exact qbO (by simpa using h)
    · rw [if_neg hc] at h ⊢
      simp only [List.getElem?_cons_zero, Option.some.injEq] at h
      rw [h]
theorem qca (l : List qh) (hl : l.length < 4611686018427387904) (n : Str) : ∀ (K k : Nat), k ≤ l.length → l.length < K + k → qH l n K (k : Int) = some (if zH (l.drop k) n < (l.drop k).length then .inr ((k + zH (l.drop k) n : Nat) : Int) else .inl ())
  | 0, k, h, hK => by omega
  | K + 1, k, h, hK => by
    unfold qH
    by_cases hk : k < l.length
    · rw [if_pos (by omega), ku, List.getElem?_eq_getElem hk, List.drop_eq_getElem_cons hk, zP (by omega), qca l hl n K (k + 1) (by omega) (by omega)]
      simp only [Option.bind_some, zy, zH, List.length_cons]
      by_cases hc : ltL (l[k]).Name n = true
      · simp only [hc, Bool.not_true, Bool.false_eq_true, if_false, if_true, Nat.add_lt_add_iff_right]
        split
        · rw [show k + 1 + zH (List.drop (k + 1) l) n = k + (zH (List.drop (k + 1) l) n + 1) by omega]
        · rfl
      · simp [hc]
    · rw [if_neg (by omega), List.drop_of_length_le (by omega)]
      rfl
theorem qbY {N : Nat} {l : List qh} (hl : l.length < 4611686018427387904) (hN : l.length < N) (d : Int) (n : Str) : qX N ⟨d, l⟩ n = some ((zH l n : Int), zV l n) := by
  unfold qX zF
  rw [show (0 : Int) = ((0 : Nat) : Int) from rfl, qca l hl n N 0 (by omega) (by omega), List.drop_zero]
  by_cases h : zH l n < l.length
  · have hg : l[zH l n]? = some (l[zH l n]) := List.getElem?_eq_getElem h
    have h2 : ¬ ((zH l n : Nat) : Int) < 0 := by omega
    simp only [h, if_true, Nat.zero_add, Option.bind_some]
    rw [if_neg (by omega), ku, hg, Option.bind_some, qbO hg]
  · have h0 : zV l n = false := by
      cases hq : zV l n with
      | false => rfl
      | true => exact absurd (qa8 hq) h
    have h1 : zH l n = l.length := by have := qbM l n; omega
    simp [h, h0, h1]
def Asc (l : List qh) : Prop := l.Pairwise fun a b => ltL a.Name b.Name = true
theorem Asc.find : ∀ {l : List qh}, Asc l → ∀ n : Str, l.findIdx? (fun s => s.Name == n) = if zV l n = true then some (zH l n) else none
  | [], _, n => by simp [zV]
  | s :: l, h, n => by
    have h1 := (List.pairwise_cons.1 h).1
    have h2 := Asc.find (List.pairwise_cons.1 h).2 n
    rw [List.findIdx?_cons]
    unfold zV zH
    by_cases hc : ltL s.Name n = true
    · have : (s.Name == n) = false := beq_eq_false_iff_ne.2 (qdL hc)
      rw [if_pos hc, if_pos hc, this, h2]
      simp only [Bool.false_eq_true, if_false]
      split <;> rfl
    · rw [if_neg hc, if_neg hc]
      by_cases he : (s.Name == n) = true
      · simp [he]
      · simp only [he, if_false, Bool.false_eq_true]
        have hgt : ltL n s.Name = true := by
          cases hq : ltL n s.Name with
          | true => rfl
          | false => exact absurd (beq_iff_eq.2 (qet _ _ (by simpa using hc) hq)) he
        have : l.findIdx? (fun s => s.Name == n) = none := by
          rw [List.findIdx?_eq_none_iff]
          intro x hx
          exact beq_eq_false_iff_ne.2 fun e => qdL (qcf hgt (h1 x hx)) e.symm
        rw [this]; rfl
theorem qiX (r : qC) (hl : r.Slings.length < 4611686018427387904) (n : Str) : ∀ (K k : Nat), k ≤ r.Slings.length → r.Slings.length < K + k → vF r n K (k : Int) = some (match (r.Slings.drop k).findIdx? (fun s => s.Name == n) with | some j => .inr ((k + j : Nat) : Int) | none => .inl ())
  | 0, k, h, hK => by omega
  | K + 1, k, h, hK => by
    unfold vF
    by_cases hk : k < r.Slings.length
    · rw [if_pos (by omega), ku, List.getElem?_eq_getElem hk, List.drop_eq_getElem_cons hk, zP (by omega), qiX r hl n K (k + 1) (by omega) (by omega), List.findIdx?_cons]
      simp only [Option.bind_some]
      by_cases he : ((r.Slings[k]).Name == n) = true
      · simp [he]
      · simp only [he, if_false, Bool.false_eq_true]
        cases (r.Slings.drop (k + 1)).findIdx? (fun s => s.Name == n) with
        | none => rfl
        | some j => simp only [Option.map_some]; rw [show k + 1 + j = k + (j + 1) by omega]
    · rw [if_neg (by omega), List.drop_of_length_le (by omega)]
      rfl
theorem qfk {N : Nat} {r : qC} (hl : r.Slings.length < 4611686018427387904) (hN : r.Slings.length < N) (ha : Asc r.Slings) (n : Str) : yP N r n = some (if zV r.Slings n = true then (zH r.Slings n : Int) else -1) := by
  unfold yP
  rw [show (0 : Int) = ((0 : Nat) : Int) from rfl, qiX r hl n N 0 (by omega) (by omega), List.drop_zero, ha.find n]
  by_cases h : zV r.Slings n = true <;> simp [h]
theorem Asc.uniq {l : List qh} (h : Asc l) {i : Nat} {s : qh} {n : Str} (hi : l[i]? = some s) (hs : s.Name = n) : zV l n = true ∧ zH l n = i := by
  have hf := h.find n
  have hlt := (List.getElem?_eq_some_iff.1 hi).1
  cases hq : zV l n with
  | false =>
    rw [hq, if_neg (by simp), List.findIdx?_eq_none_iff] at hf
    have := hf s (List.mem_of_getElem? hi)
    simp [hs] at this
  | true =>
    refine ⟨rfl, ?_⟩
    have hp := qa8 hq
    have hg : l[zH l n]? = some (l[zH l n]) := List.getElem?_eq_getElem hp
    have hn := qbO hg
    rw [hq] at hn
    have hn : (l[zH l n]).Name = n := (beq_iff_eq.1 hn.symm)
    have he : l[i] = s := by
      rw [List.getElem?_eq_getElem hlt] at hi
      injection hi
    rcases Nat.lt_trichotomy (zH l n) i with hlt2 | e | hgt
    · have := List.pairwise_iff_getElem.1 h _ _ hp hlt hlt2
      rw [he, hn, hs] at this
      exact absurd rfl (qdL this)
    · exact e
    · have := List.pairwise_iff_getElem.1 h _ _ hlt hp hgt
      rw [he, hn, hs] at this
      exact absurd rfl (qdL this)
def qbJ (l : List qh) (s : qh) : List qh := l.take (zH l s.Name) ++ s :: l.drop (zH l s.Name)
theorem qaa {d : Int} {l : List qh} (h : l.length ≤ 1000) : qy d l = some l := by
  unfold qy
  have e : mk 88 (l.length : Int) (⟨[], [], 0, 0, 0, 0, 0, 0, false⟩ : qh) = some (List.replicate l.length ⟨[], [], 0, 0, 0, 0, 0, 0, false⟩) := by
    unfold mk
    rw [if_pos ⟨by omega, by omega, by omega⟩, Int.toNat_natCast]
  rw [e, Option.bind_some, qfl (by simp)]
  rfl
theorem qgV {l : List qh} (h : l.length ≤ 1000) {p : Nat} (hp : p ≤ l.length) (a b : Str) (c d e f g i : Int) (j : Bool) : zt l (p : Int) a b c d e f g i j = some (l.take p ++ ⟨a, b, c, d, e, f, g, i, j⟩ :: l.drop p) := by
  unfold zt
  generalize hs : (⟨a, b, c, d, e, f, g, i, j⟩ : qh) = s
  rw [qfE hp, Option.bind_some, if_neg (by decide)]
  by_cases he : p = l.length
  · rw [if_pos (by omega), he, List.take_length, List.drop_length]
    cases l with
    | nil => rfl
    | cons x xs =>
      simp only [List.length_cons] at h
      simp only [vV (b := 88) (l := x :: xs) (xs := [s]) (by simp; omega) (by simp; omega), Option.bind_some]
  · rw [if_neg (by omega)]
    have w1 : w64 ((l.length : Int) + 1) = ((l.length + 1 : Nat) : Int) := zP (by omega)
    have w2 : w64 (((l.length + 1 : Nat) : Int) - (p : Int)) = ((l.length + 1 - p : Nat) : Int) := by rw [qen (by omega) (by omega)]; omega
    have w3 : w64 ((p : Int) + 1) = ((p + 1 : Nat) : Int) := zP (by omega)
    rw [w1, if_pos (by omega), w2, w3]
    have e1 : qgZ 88 l p ((l.length + 1 - p : Nat) : Int) (⟨[], [], 0, 0, 0, 0, 0, 0, false⟩ : qh) = some (l.take p ++ List.replicate (l.length + 1 - p) ⟨[], [], 0, 0, 0, 0, 0, 0, false⟩) := by
      unfold qgZ
      rw [if_pos ⟨by omega, by omega, by omega, by omega, hp, by simp only [Int.toNat_natCast]; omega, by simp only [Int.toNat_natCast]; omega, by simp only [Int.toNat_natCast]; omega⟩, Int.toNat_natCast]
    rw [e1, Option.bind_some]
    obtain ⟨z, hz⟩ : ∃ z : qh, z = ⟨[], [], 0, 0, 0, 0, 0, 0, false⟩ := ⟨_, rfl⟩
    rw [← hz]
    have e2 : List.replicate (l.length + 1 - p) z = z :: List.replicate (l.length - p) z := by
      rw [show l.length + 1 - p = (l.length - p) + 1 by omega]; rfl
    have lt : (l.take p).length = p := by rw [List.length_take]; omega
    have e3 : (if (p : Int) = 0 then (some (cpy (l.take p ++ List.replicate (l.length + 1 - p) z) [s])).bind fun l13 => some l13
        else (at' (l.take p ++ List.replicate (l.length + 1 - p) z) (p : Int)).bind fun j14 => ((if j14 < (l.take p ++ List.replicate (l.length + 1 - p) z).length then some () else none : Option Unit)).bind fun u15 =>
          (some (qbZ (l.take p ++ List.replicate (l.length + 1 - p) z) j14 [s])).bind fun l16 => some l16 : Option (List qh)) = some (l.take p ++ s :: List.replicate (l.length - p) z) := by
      by_cases h0 : p = 0
      · subst h0
        rw [if_pos (by rfl)]
        simp only [Option.bind_some, List.take_zero, List.nil_append, e2]
        simp [cpy]
      · rw [if_neg (by omega), qfE (by simp; omega), Option.bind_some, if_pos (by simp; omega), Option.bind_some, Option.bind_some]
        simp only [qbZ, List.take_append, List.drop_append, lt, Nat.sub_self, List.take_zero, List.append_nil, List.drop_zero]
        rw [List.take_of_length_le (by omega), List.drop_of_length_le (by omega), List.nil_append, e2]
        simp [cpy]
    rw [e3, Option.bind_some, if_neg (by omega), qfE (by simp; omega), Option.bind_some, if_pos (by simp; omega), Option.bind_some, Option.bind_some]
    have e4 : (l.take p ++ s :: List.replicate (l.length - p) z).take (p + 1) = l.take p ++ [s] := by
      rw [List.take_append, lt, List.take_of_length_le (by omega), show p + 1 - p = 1 by omega]; rfl
    have e5 : (l.take p ++ s :: List.replicate (l.length - p) z).drop (p + 1) = List.replicate (l.length - p) z := by
      rw [List.drop_append, lt, List.drop_of_length_le (by omega), show p + 1 - p = 1 by omega]; rfl
    simp only [qbZ, e4, e5]
    rw [qfl (by simp), List.append_assoc]
    rfl
end Go.Av
