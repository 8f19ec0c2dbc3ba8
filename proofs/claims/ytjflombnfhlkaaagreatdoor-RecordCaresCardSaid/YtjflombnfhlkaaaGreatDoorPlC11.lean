/-
  Chapter 10: the law of cares, plain.
-/
import Derived.Test.YtjflombnfhlkaaaGreatDoorPlC10
noncomputable section
namespace Go.Av
set_option linter.unusedSimpArgs false
set_option linter.unusedVariables false
structure Ctx (N : Nat) (l c : List ql) (o : Option (List StateT)) (d : Int) (s : List qf) : Prop where
  ev : Evs N l
  rel : Rel N c (hof o)
  cl : c.length ≤ 1000
  reg : ko N c = some ⟨d, s⟩
  sl : s.length ≤ 1000
  asc : Asc s
  rep : kg N l = some (l, o, true, 0, 0)
  cnt : qbJ N l c
  up : c.Pairwise fun a b => a.Number < b.Number
theorem qhT {N : Nat} {l : List ql} (h : Evs N l) (h0 : (jG N l 0 []).2.1 = 0) : ∃ o d s, Ctx N l (jG N l 0 []).2.2 o d s := by
  have hl := h.len
  have hN := h.big
  rcases qaF h with ⟨g1, _⟩ | ⟨_, o', g2, g3, g4, g5⟩
  · exact absurd h0 g1
  · obtain ⟨_, d, s, _, _, f3, f4, f5⟩ := zO (evs := l) g4 (by omega) hN
    exact ⟨o', d, s, h, g4, by omega, f3, by omega, f4, g2, qfN l 0 [] (fun _ _ h => by simp at h) (fun i e h => by simpa using h) h0, qg0 l 0 [] ⟨List.Pairwise.nil, by simp⟩ h0⟩
theorem qat {s : Str} (h : jN s = true) : s.length ≤ 24 := by
  unfold jN at h
  simp only [Bool.and_eq_true, decide_eq_true_eq] at h
  exact h.1.2
theorem Ctx.at_ {N : Nat} {l c : List ql} {o : Option (List StateT)} {d : Int} {s : List qf} (C : Ctx N l c o d s) {k : Nat} {x : qf} (hx : s[k]? = some x) : zX s x.Name = true ∧ s[zT s x.Name]? = some x ∧ jN x.Name = true ∧ x.Name.length < N := by
  obtain ⟨h1, h2⟩ := C.asc.uniq hx rfl
  have hN := C.ev.big
  have hb := qdu C.asc h1 (by rw [h2]; exact hx)
  obtain ⟨d', l', e1, e2, e3, e4⟩ := qeI C.rel C.cnt C.cl C.ev.big C.ev.max x.Name c.length (Nat.le_refl _)
  rw [List.take_length, ← vo C.cl C.ev.big, C.reg] at e1
  injection e1 with e1
  injection e1 with _ e1
  subst e1
  have hn := e4 (by rw [hb]; simp)
  have := qat hn
  exact ⟨h1, by rw [h2]; exact hx, hn, by omega⟩
theorem Ctx.retired {N : Nat} {l c : List ql} {o : Option (List StateT)} {d : Int} {s : List qf} (C : Ctx N l c o d s) {n : Str} {x : qf} (h1 : zX s n = true) (h2 : s[zT s n]? = some x) (h3 : jN n = true) {day : Int} (hd : jS day 0 99999 = false) : jl N l n day = some (yN x day, 0) := by
  have hN := C.ev.big
  have hlen := qat h3
  obtain ⟨_, _, a3⟩ := qbY C.ev C.rel C.cl C.reg C.sl C.rep (n := n) (by omega) 0
  have z0 : qN [nmE n, 0] = 0 := by unfold nmE; rw [if_pos h3]; rfl
  obtain ⟨o3, _, k⟩ := a3 z0 h1 x h2
  unfold jl
  rw [y9, hd, if_neg (by simp), Option.bind_some, k, Option.bind_some]
  simp only [decide_true, Bool.not_true, Bool.false_eq_true, if_false, xP, Option.bind_some]
theorem Ctx.cert {N : Nat} {l c : List ql} {o : Option (List StateT)} {d : Int} {s : List qf} (C : Ctx N l c o d s) {n : Str} {x : qf} (h1 : zX s n = true) (h2 : s[zT s n]? = some x) (h3 : jN n = true) {day : Int} (hd : jS day 0 99999 = false) : ∃ a e, jM N l n day = some (a, e) ∧ decide (e = 0) = (!yN x day && qas x day) := by
  have hN := C.ev.big
  have hlen := qat h3
  obtain ⟨_, _, a3⟩ := qbY C.ev C.rel C.cl C.reg C.sl C.rep (n := n) (by omega) 0
  have z0 : qN [nmE n, 0] = 0 := by unfold nmE; rw [if_pos h3]; rfl
  obtain ⟨o3, _, k⟩ := a3 z0 h1 x h2
  unfold jM
  rw [y9, hd, if_neg (by simp), Option.bind_some, k, Option.bind_some]
  simp only [xP, qd5, y8, Option.bind_some]
  rw [vH (by simp) (by simp; omega), Option.bind_some]
  rw [show (⟨x.Name, x.Batch, x.Born, x.Last, x.Uses, x.Used, x.Limit, x.Until, x.Gone⟩ : qf) = x from rfl]
  by_cases c4 : yN x day = true <;> by_cases c5 : qas x day = true
  · exact ⟨0, 20, by simp [qN, c4, c5], by simp [c4, c5]⟩
  · exact ⟨0, 20, by simp [qN, c4, c5], by simp [c4, c5]⟩
  · exact ⟨x.Limit, 0, by simp [qN, c4, c5], by simp [c4, c5]⟩
  · exact ⟨0, 24, by simp [qN, c4, c5], by simp [c4, c5]⟩
theorem Ctx.hist {N : Nat} {l c : List ql} {o : Option (List StateT)} {d : Int} {s : List qf} (C : Ctx N l c o d s) {n : Str} {x : qf} (h1 : zX s n = true) (h2 : s[zT s n]? = some x) (h3 : jN n = true) : ∃ out, vR N l n = some (out, 0) ∧ HP l n x.Batch out ∧ out.length ≤ 1000 ∧ yF l out := by
  have hN := C.ev.big
  have hlen := qat h3
  have hb := qdu C.asc h1 h2
  have hF : ∀ d' l' b, qar N c = some ⟨d', l'⟩ → bat l' n = some b → b = x.Batch := by
    intro d' l' b q1 q2
    rw [← vo C.cl hN, C.reg] at q1
    injection q1 with q1
    injection q1 with _ q1
    subst q1
    rw [hb] at q2
    injection q2 with q2
    exact q2.symm
  obtain ⟨_, _, a3⟩ := qbY C.ev C.rel C.cl C.reg C.sl C.rep (n := n) (by omega) 0
  have z0 : qN [nmE n, 0] = 0 := by unfold nmE; rw [if_pos h3]; rfl
  obtain ⟨o3, ho, k⟩ := a3 z0 h1 x h2
  obtain ⟨out, m1, m2, m3, m4⟩ := qd4 (ho ▸ C.rel : Rel N c (hof o3)) C.cnt C.up C.cl C.ev.len hN C.ev.max n x.Batch hF N 0 [] 0 [] (by omega) (by have := C.cl; omega) (by rfl) List.Pairwise.nil (by simp) (by simp) ⟨List.Pairwise.nil, by simp⟩ (by simp) (fun _ => rfl) (fun h => absurd rfl h)
  refine ⟨out, ?_, m2, m3, m4 d s (by rw [← vo C.cl hN, C.reg]) (by rw [hb]; simp)⟩
  unfold vR
  rw [k, Option.bind_some]
  have m1 : qU N n l x.Batch (hof o3) ((hof o3).length : Int) N [] 0 = some out := m1
  simp only [decide_true, Bool.not_true, Bool.false_eq_true, if_false]
  cases o3 with
  | none => simp only [Option.bind_some]; rw [show qU N n l x.Batch [] 0 N [] 0 = some out from m1]; rfl
  | some l16 => simp only [Option.bind_some]; rw [show qU N n l x.Batch l16 (l16.length : Int) N [] 0 = some out from m1]; rfl
theorem Ctx.replay {N : Nat} {l c : List ql} {o : Option (List StateT)} {d : Int} {s : List qf} (C : Ctx N l c o d s) : yu N l = some (⟨d, s⟩, 0, 0) := by
  obtain ⟨o2, d', s', f1, _, f3, _, _⟩ := zO (evs := l) C.rel C.cl C.ev.big
  rw [C.reg] at f3
  injection f3 with f3
  injection f3 with fd fs
  subst fd fs
  unfold yu
  rw [C.rep, Option.bind_some]
  simp only
  rw [if_neg (by simp), f1, Option.bind_some]
  simp only
  rw [xE C.sl]
  rfl
theorem Ctx.due {N : Nat} {l c : List ql} {o : Option (List StateT)} {d : Int} {s : List qf} (C : Ctx N l c o d s) {day : Int} (hd : jS day 0 99999 = false) : xL N l day = some (qY (xz day) s, 0) := by
  have hN := C.ev.big
  obtain ⟨o2, d', s', f1, _, f3, _, _⟩ := zO (evs := l) C.rel C.cl C.ev.big
  rw [C.reg] at f3
  injection f3 with f3
  injection f3 with fd fs
  subst fd fs
  unfold xL
  rw [C.rep, Option.bind_some]
  simp only [y9, hd, Bool.false_eq_true, if_false, Option.bind_some]
  rw [vH (by simp) (by simp; omega)]
  simp only [qN, if_true, Option.bind_some, decide_true, Bool.not_true, Bool.false_eq_true, if_false, f1, qgc hN C.sl]
theorem Ctx.batch {N : Nat} {l c : List ql} {o : Option (List StateT)} {d : Int} {s : List qf} (C : Ctx N l c o d s) {b : Str} (hb : jN b = true) : yG N l b = some (qY (yj b) s, if (qY (yj b) s).length = 0 then 10 else 0) := by
  have hN := C.ev.big
  have hlen := qat hb
  obtain ⟨o2, d', s', f1, _, f3, _, _⟩ := zO (evs := l) C.rel C.cl C.ev.big
  rw [C.reg] at f3
  injection f3 with f3
  injection f3 with fd fs
  subst fd fs
  unfold yG
  rw [C.rep, Option.bind_some]
  simp only [qdF (show b.length < N by omega), hb, if_true, Option.bind_some]
  rw [vH (by simp) (by simp; omega)]
  simp only [qN, if_true, Option.bind_some, decide_true, Bool.not_true, Bool.false_eq_true, if_false, f1, qgE hN C.sl, y8]
  by_cases h : (qY (yj b) s).length = 0 <;> simp [h]
theorem qke {N : Nat} (hN : 2000 < N) (a c : Bool) (x y z : Int) : zi (a, x) (y, z) c N 0 0 = some ((if a = true then 1 else 0) + (if decide (z = 0) = true then 1 else 0) + (if c = true then 1 else 0)) := by
  obtain ⟨K, rfl⟩ : ∃ K, N = K + 4 := ⟨N - 4, by omega⟩
  have w0 : w64 1 = 1 := by decide
  have w1 : w64 2 = 2 := by decide
  have w2 : w64 3 = 3 := by decide
  generalize hb : decide (z = 0) = b
  cases a <;> cases b <;> cases c <;> simp [zi, yw, qa9, qgP, w0, w1, w2, hb]
theorem qhQ {l : List ql} {x : qf} {out : List Int} (h : HP l x.Name x.Batch out) (hl : l.length ≤ 1000) (ho : out.length ≤ 1000) : ∀ (K k : Nat), k ≤ out.length → out.length < K + k → kR l x (out, 0) K (k : Int) = some (.inl ())
  | 0, k, h1, h2 => by omega
  | K + 1, k, h1, h2 => by
    unfold kR
    by_cases hk : k < out.length
    · obtain ⟨i, e, n0, g1, g2, g3, g4⟩ := h.good _ (List.getElem_mem hk)
      have hi : i < l.length := (List.getElem?_eq_some_iff.1 g2).1
      rw [if_pos (by simp only; omega), show idx (out, (0 : Int)).1 (k : Int) = some out[k] from (qO out k).trans (List.getElem?_eq_getElem hk), Option.bind_some, zm (by omega), qhQ h hl ho K (k + 1) (by omega) (by omega), g1]
      have hw : w64 (((i + 1 : Nat) : Int) - 1) = (i : Int) := by rw [qbX (by omega) (by omega)]; rfl
      have hnm : ¬ ((e.Names.length : Int) = 0) := by
        have := (List.getElem?_eq_some_iff.1 g3).1
        omega
      have hin : (if (!(n0 == x.Name)) = true then if (!(e.Kind == [114, 101, 99, 97, 108, 108])) = true then some true else some (!(n0 == x.Batch)) else some false : Option Bool) = some false := by
        rcases g4 with g4 | ⟨g4, g5⟩
        · simp [g4]
        · have g4 : (e.Kind == [114, 101, 99, 97, 108, 108]) = true := g4
          by_cases hq : (n0 == x.Name) = true <;> simp [hq, g4, g5]
      have p1 : ¬ (((i + 1 : Nat) : Int) < 1) := by omega
      have p2 : ¬ (((i + 1 : Nat) : Int) > (l.length : Int)) := by omega
      rw [if_neg p1, if_neg p2, hw, qO, g2]
      simp only [Option.bind_some, hnm, if_false, yw, g3, hin]
      by_cases h0 : k = 0
      · subst h0
        simp
      · rw [if_pos (by omega), qbX (by omega) (by omega), qO, List.getElem?_eq_getElem (show k - 1 < out.length by omega), Option.bind_some]
        have := List.pairwise_iff_getElem.1 h.asc (k - 1) k (by omega) hk (by omega)
        rw [if_neg (by omega)]
        simp
    · rw [if_neg (by simp only; omega)]
theorem qcY {α : Type} (p : α → Bool) {l : List α} {k : Nat} (hk : k < l.length) : ((l.take (k + 1)).filter p).length = ((l.take k).filter p).length + (if p l[k] = true then 1 else 0) := by
  rw [List.take_add_one, List.getElem?_eq_getElem hk, List.filter_append, List.length_append]
  by_cases h : p l[k] = true <;> simp [h]
theorem qet (p : qf → Bool) (l : List qf) (k : Nat) : ((l.take k).filter p).length ≤ l.length := by
  have h1 := List.length_filter_le p (l.take k)
  rw [List.length_take] at h1
  omega
theorem qh4 {N : Nat} {l c : List ql} {o : Option (List StateT)} {d : Int} {s : List qf} (C : Ctx N l c o d s) {day : Int} (hd : jS day 0 99999 = false) : ∀ (K k : Nat), k ≤ s.length → s.length < K + k → kN N l day (⟨d, s⟩, 0, 0) (qY (xz day) s, 0) K (((s.take k).filter (xz day)).length : Int) (k : Int) = some (.inl ((qY (xz day) s).length : Int))
  | 0, k, h1, h2 => by omega
  | K + 1, k, h1, h2 => by
    have hN := C.ev.big
    have hsl := C.sl
    unfold kN
    by_cases hk : k < s.length
    · have hx : s[k]? = some s[k] := List.getElem?_eq_getElem hk
      obtain ⟨x1, x2, x3, x4⟩ := C.at_ hx
      have hm := qcQ C.asc (xz day) (List.getElem_mem hk)
      have ih := qh4 C hd K (k + 1) (by omega) (by omega)
      rw [qcY (xz day) hk] at ih
      have hfl := qet (xz day) s k
      generalize s[k] = x at *
      obtain ⟨a, e4, y1, y2⟩ := C.cert x1 x2 x3 hd
      obtain ⟨out, z1, z2, z3, i, e, z4, z5, z6⟩ := C.hist x1 x2 x3
      have hi : i < l.length := (List.getElem?_eq_some_iff.1 z5).1
      have hll := C.ev.len
      have hnl := qbv (xz day) s
      rw [if_pos (by simp only; omega), show idx ((⟨d, s⟩, (0 : Int), (0 : Int)) : kD × Int × Int).1.Slings (k : Int) = some x from (qO s k).trans hx, Option.bind_some, C.retired x1 x2 x3 hd, Option.bind_some, y1, Option.bind_some, z1, Option.bind_some]
      rw [show jh N ((qY (xz day) s, (0 : Int)) : List Str × Int).1 x.Name = some (decide (x.Name ∈ qY (xz day) s)) from qdW hN (l := qY (xz day) s) (by omega) _, Option.bind_some, qke hN, Option.bind_some, y2]
      have hdue : decide (x.Name ∈ qY (xz day) s) = xz day x := by
        cases hq : xz day x with
        | true => exact decide_eq_true (hm.2 hq)
        | false => exact decide_eq_false fun h => by rw [hm.1 h] at hq; cases hq
      rw [hdue]
      have hone : ((if yN x day = true then 1 else 0) + (if (!yN x day && qas x day) = true then 1 else 0) + (if xz day x = true then 1 else 0) : Int) = 1 := by
        unfold xz
        cases yN x day <;> cases qas x day <;> rfl
      rw [hone]
      have ho0 : ¬ ((out.length : Int) = 0) := by
        have := (List.getElem?_eq_some_iff.1 z4).1
        omega
      have hw : w64 (((i + 1 : Nat) : Int) - 1) = (i : Int) := by rw [qbX (by omega) (by omega)]; rfl
      have hL2 : kR l x (out, 0) N 0 = some (.inl ()) := qhQ z2 hll z3 N 0 (by omega) (by omega)
      have z6 : (e.Kind == [109, 97, 107, 101]) = true := z6
      simp only [decide_true, Bool.not_true, Bool.false_eq_true, if_false, ho0, decide_false, Option.bind_some, hL2, yw, z4, hw, qO, z5, z6, zm (show k < 4611686018427387904 by omega)]
      cases hp : xz day x with
      | true =>
        simp only [if_true, Option.bind_some]
        rw [zm (by omega)]
        rw [hp, if_pos rfl] at ih
        exact ih
      | false =>
        simp only [Bool.false_eq_true, if_false, Option.bind_some]
        rw [hp, if_neg (by simp), Nat.add_zero] at ih
        exact ih
    · rw [if_neg (by simp only; omega), List.take_of_length_le (by omega)]
      unfold qY
      rw [List.length_map]
theorem qis {N : Nat} {l c : List ql} {o : Option (List StateT)} {d : Int} {s : List qf} (C : Ctx N l c o d s) (b : Str) (e6 : Int) : ∀ (K k : Nat), k ≤ s.length → s.length < K + k → kP N b (⟨d, s⟩, 0, 0) (qY (yj b) s, e6) K (k : Int) (((s.take k).filter (yj b)).length : Int) = some (.inl ((qY (yj b) s).length : Int))
  | 0, k, h1, h2 => by omega
  | K + 1, k, h1, h2 => by
    have hN := C.ev.big
    have hsl := C.sl
    unfold kP
    by_cases hk : k < s.length
    · have hx : s[k]? = some s[k] := List.getElem?_eq_getElem hk
      have hm := qcQ C.asc (yj b) (List.getElem_mem hk)
      have ih := qis C b e6 K (k + 1) (by omega) (by omega)
      rw [qcY (yj b) hk] at ih
      have hfl := qet (yj b) s k
      generalize s[k] = x at *
      have hnl := qbv (yj b) s
      rw [if_pos (by simp only; omega), show idx ((⟨d, s⟩, (0 : Int), (0 : Int)) : kD × Int × Int).1.Slings (k : Int) = some x from (qO s k).trans hx, Option.bind_some, zm (show k < 4611686018427387904 by omega)]
      rw [show jh N ((qY (yj b) s, e6) : List Str × Int).1 x.Name = some (decide (x.Name ∈ qY (yj b) s)) from qdW hN (l := qY (yj b) s) (by omega) _, Option.bind_some, show (x.Batch == b) = yj b x from rfl]
      cases hp : yj b x with
      | true =>
        rw [hp, if_pos rfl] at ih
        have hin : decide (x.Name ∈ qY (yj b) s) = true := decide_eq_true (hm.2 hp)
        simp only [hin, Bool.not_true, Bool.false_eq_true, if_false, if_true, Option.bind_some]
        rw [zm (by omega)]
        exact ih
      | false =>
        rw [hp, if_neg (by simp), Nat.add_zero] at ih
        simp only [Bool.false_eq_true, if_false, Option.bind_some]
        exact ih
    · rw [if_neg (by simp only; omega), List.take_of_length_le (by omega)]
      unfold qY
      rw [List.length_map]
theorem qin {N : Nat} {l2 : List ql} {ns : List Str} {e6 : Int} (hl : ns.length ≤ 1000) (h : ∀ n ∈ ns, jl N l2 n 0 = some (true, 0)) : ∀ (K k : Nat), k ≤ ns.length → ns.length < K + k → kQ N (ns, e6) l2 K (k : Int) = some (.inl ())
  | 0, k, h1, h2 => by omega
  | K + 1, k, h1, h2 => by
    unfold kQ
    by_cases hk : k < ns.length
    · rw [if_pos (by simp only; omega), show idx ((ns, e6) : List Str × Int).1 (k : Int) = some ns[k] from (qO ns k).trans (List.getElem?_eq_getElem hk), Option.bind_some, h _ (List.getElem_mem hk), Option.bind_some, zm (by omega), qin hl h K (k + 1) (by omega) (by omega)]
      rfl
    · rw [if_neg (by simp only; omega)]
end Go.Av
