/-
  Chapter 10: the law of cares, plain: the end.
-/
import Derived.Test.YtjflombnfhlkaaaGreatDoorPlC11
noncomputable section
namespace Go.Av
set_option linter.unusedSimpArgs false
set_option linter.unusedVariables false
theorem qcJ (N : Nat) (e : ql) (es : List ql) (k : Nat) (c : List ql) : jG N (e :: es) k c = if yz N c k e = 0 then jG N es (k + 1) (qaM c e) else (((k + 1 : Nat) : Int), yz N c k e, []) := rfl
theorem qcU (N : Nat) (e : ql) : ∀ (l : List ql) (k : Nat) (c : List ql), jG N (l ++ [e]) k c = if (jG N l k c).2.1 = 0 then jG N [e] (k + l.length) (jG N l k c).2.2 else jG N l k c
  | [], k, c => by
    show jG N [e] k c = if (0 : Int) = 0 then jG N [e] (k + 0) c else _
    rw [if_pos rfl]
    rfl
  | x :: l, k, c => by
    rw [List.cons_append, qcJ N x (l ++ [e]), qcJ N x l]
    by_cases h : yz N c k x = 0
    · rw [if_pos h, if_pos h, qcU N e l (k + 1) (qaM c x), List.length_cons, show k + 1 + l.length = k + (l.length + 1) by omega]
    · rw [if_neg h, if_neg h, if_neg h]
theorem Ctx.accepts {N : Nat} {l c : List ql} {o : Option (List StateT)} {d : Int} {s : List qf} (C : Ctx N l c o d s) (hcl : c.length ≤ l.length) (hl : l.length < 1000) {e : ql} (he : qaJ N e) : ∃ err, vW N l e = some err ∧ (err = 0 → yz N c l.length e = 0) := by
  have hN := C.ev.big
  have hM := C.ev.max
  unfold vW
  rw [C.rep, Option.bind_some]
  simp only [qbK hM (by omega) he, y8, Option.bind_some]
  rw [vH (by simp) (by simp; omega), Option.bind_some]
  have hlen : ¬ (l.length : Int) ≥ 1000 := by omega
  by_cases hc : zS e = 0
  · obtain ⟨evs', o2, a1, a2⟩ := qeJ (k := l.length) (⟨C.rel, hcl, hl, hN, hM, he⟩ : Pre N c (hof o) l.length e) rfl hc
    refine ⟨yz N c l.length e, ?_, id⟩
    have f0 : qN [0, zS e, if decide ((l.length : Int) ≥ 1000) = true then 5 else 0] = 0 := by simp only [qN, hc, hlen, decide_false, Bool.false_eq_true, if_false, if_true]
    rw [f0, if_neg (by simp), a1]
    rfl
  · refine ⟨zS e, ?_, fun h => absurd h hc⟩
    simp [qN, hc]
theorem qct (l : List ql) (b : Str) (day : Int) : vO 3000 l b day = some true := by
  have hN : 2000 < 3000 := by omega
  have hM : 3000 < 4611686018427387904 := by omega
  unfold vO
  have e1 : jo 3000 l 20 = some (decide (l.length ≤ 20) && l.all qa0) := qdx (n := 20) hN (by omega)
  rw [e1, Option.bind_some]
  by_cases h1 : l.length ≤ 20
  · by_cases h2 : l.all qa0 = true
    · have hE : Evs 3000 l := ⟨by omega, fun x hx => qiU hN (List.all_eq_true.1 h2 x hx), hN, hM⟩
      simp only [h1, h2, decide_true, Bool.and_self, Bool.not_true, Bool.false_eq_true, if_false]
      rcases qge hE with ⟨e0, r⟩ | ⟨e0, d, s, r1, r2, r3⟩
      · rw [r]
        simp [e0, awk]
      · obtain ⟨o, d', s', C⟩ := qhT hE e0
        have heq := C.reg
        rw [r1] at heq
        injection heq with heq
        injection heq with hd' hs'
        subst hd' hs'
        rw [r3]
        simp only [xI, Option.bind_some, decide_true, Bool.not_true, Bool.false_eq_true, if_false]
        by_cases h3 : jS day 0 99999 = true
        · simp [h3, awk]
        · by_cases h4 : b.length ≤ 60
          · have h4' : ¬ (b.length : Int) > 60 := by omega
            simp only [h3, h4', Bool.false_eq_true, if_false, qdO (show b.length < 3000 by omega) (show b.length < 4611686018427387904 by omega), Option.bind_some]
            by_cases h5 : jN b = true
            · have hday : jS day 0 99999 = false := by simpa using h3
              simp only [h5, Bool.not_true, Bool.false_eq_true, if_false, C.replay, C.due hday, Option.bind_some, decide_true]
              have hL0 : kN 3000 l day (⟨d, s⟩, 0, 0) (qY (xz day) s, 0) 3000 0 0 = some (.inl ((qY (xz day) s).length : Int)) := qh4 C hday 3000 0 (by omega) (by omega)
              have hL3 : ∀ e6, kP 3000 b (⟨d, s⟩, 0, 0) (qY (yj b) s, e6) 3000 0 0 = some (.inl ((qY (yj b) s).length : Int)) := fun e6 => qis C b e6 3000 0 (by omega) (by omega)
              simp only [hL0, C.batch h5, hL3, Option.bind_some, decide_true, Bool.not_true, Bool.false_eq_true, if_false]
              have hlen : (decide ((if (qY (yj b) s).length = 0 then (10 : Int) else 0) = 0) == decide (((qY (yj b) s).length : Int) > 0)) = true := by
                by_cases hz : (qY (yj b) s).length = 0
                · simp [hz]
                · have : ((qY (yj b) s).length : Int) > 0 := by omega
                  rw [if_neg hz, decide_eq_true this]
                  rfl
              simp only [hlen, Bool.not_true, Bool.false_eq_true, if_false]
              have hw : w64 ((l.length : Int) + 1) = ((l.length + 1 : Nat) : Int) := zm (by omega)
              rw [hw]
              generalize hq : (if d > day then d else day) = day'
              rw [show ([114, 101, 99, 97, 108, 108] : Str) = kE from rfl]
              generalize hev : (⟨((l.length + 1 : Nat) : Int), kE, [b], [day'], []⟩ : ql) = e
              have he : qaJ 3000 e := by
                subst hev
                refine ⟨by simp, by simp, fun x hx => ?_⟩
                simp at hx
                subst hx
                omega
              have hk : (e.Kind == xh) = false := by subst hev; rfl
              have hcl : (jG 3000 l 0 []).2.2.length ≤ l.length := by
                rcases qaF hE with ⟨g1, _⟩ | ⟨_, o', _, _, _, g5⟩
                · exact absurd e0 g1
                · exact g5
              obtain ⟨err, a1, a2⟩ := C.accepts hcl (by omega) he
              rw [a1, Option.bind_some]
              by_cases hz : err = 0
              · have hc := a2 hz
                have hE2 : Evs 3000 (l ++ [e]) := ⟨by simp; omega, fun x hx => by
                  rcases List.mem_append.1 hx with hx | hx
                  · exact hE.short x hx
                  · simp at hx; subst hx; exact he, hN, hM⟩
                have hrun : jG 3000 (l ++ [e]) 0 [] = (0, 0, (jG 3000 l 0 []).2.2 ++ [e]) := by
                  rw [qcU, if_pos e0, Nat.zero_add, qcJ, if_pos hc]
                  show ((0 : Int), (0 : Int), qaM _ e) = _
                  unfold qaM
                  rw [hk]
                  rfl
                obtain ⟨o2, d2, s2, C2⟩ := qhT hE2 (by rw [hrun])
                rw [hrun] at C2
                have C2 : Ctx 3000 (l ++ [e]) ((jG 3000 l 0 []).2.2 ++ [e]) o2 d2 s2 := C2
                have hok : yM 3000 s := ⟨C.asc, C.sl, hN, hM⟩
                have hR := qbR (d := d) hok (num := ((l.length + 1 : Nat) : Int)) (day := day') (n := b) (t := [])
                rw [hev] at hR
                have href : (if yl d day' = 0 then qa2 s b day' else yl d day') = 0 := by
                  unfold yz at hc
                  by_cases b1 : zS e = 0
                  · rw [if_neg (by simp [b1])] at hc
                    by_cases b2 : e.Number = ((l.length + 1 : Nat) : Int)
                    · rw [if_neg (by simp [b2]), hk, if_neg (by simp), C.reg, Option.bind_some, hR.ref, Option.getD_some] at hc
                      exact hc
                    · rw [if_pos b2] at hc; cases hc
                  · rw [if_pos b1] at hc; exact absurd hc b1
                have hreg2 := C2.reg
                rw [vo C2.cl hN, qcL, ← vo C.cl hN, C.reg, Option.bind_some, hR.aft href] at hreg2
                injection hreg2 with hreg2
                injection hreg2 with hd2 hs2
                have hany : (s.any fun x => x.Batch == b) = true := by
                  split at href
                  · unfold qa2 at href
                    by_cases hq2 : (s.any fun x => x.Batch == b) = false
                    · rw [if_pos hq2] at href; cases href
                    · simpa using hq2
                  · rename_i hd0; exact absurd href hd0
                have hpos : 0 < (qY (yj b) s).length := by
                  obtain ⟨x, hx, hp⟩ := List.any_eq_true.1 hany
                  exact List.length_pos_of_mem ((qcQ C.asc (yj b) hx).2 hp)
                have hret : ∀ n ∈ qY (yj b) s, jl 3000 (l ++ [e]) n 0 = some (true, 0) := by
                  intro n hn
                  unfold qY at hn
                  obtain ⟨x, hx, rfl⟩ := List.mem_map.1 hn
                  obtain ⟨hx, hp⟩ := List.mem_filter.1 hx
                  obtain ⟨k, hk2⟩ := List.getElem?_of_mem hx
                  have hf : xY b x = qdZ x := by unfold xY; exact if_pos hp
                  have hx2 : s2[k]? = some (qdZ x) := by rw [← hs2, List.getElem?_map, hk2, Option.map_some, hf]
                  obtain ⟨y1, y2, y3, _⟩ := C2.at_ hx2
                  have y1 : zX s2 x.Name = true := y1
                  have y2 : s2[zT s2 x.Name]? = some (qdZ x) := y2
                  have := C2.retired y1 y2 y3 (day := 0) (by decide)
                  rw [this]
                  rfl
                have hL4 : ∀ e6, kQ 3000 (qY (yj b) s, e6) (l ++ [e]) 3000 0 = some (.inl ()) := fun e6 => qin (by have := qbv (yj b) s; have := C.sl; omega) hret 3000 0 (by omega) (by have := qbv (yj b) s; have := C.sl; omega)
                have hp2 : ((qY (yj b) s).length : Int) > 0 := by omega
                rw [if_neg (by simp [hz]), vC (by simp; omega) (by simp; omega), Option.bind_some, List.nil_append, vC (by simp; omega) (by simp; omega), Option.bind_some, hL4]
                simp only [Option.bind_some, hp2, if_true, awk]
              · rw [if_pos (by simp [hz])]
                rfl
            · simp [h5, awk]
          · have h4' : (b.length : Int) > 60 := by omega
            simp [h3, h4', awk]
    · simp [h1, h2, awk]
  · simp [h1, awk]
end Go.Av
