/-
  Chapter 10: the law of slings, plain.
-/
import Derived.Test.YtjflombnfhlkaaaGreatDoorPlS10
noncomputable section
namespace Go.Av
set_option linter.unusedSimpArgs false
set_option linter.unusedVariables false
def nmE (n : Str) : Int := if vQ n = true then 0 else 8
theorem qgF {N : Nat} (hN : 2000 < N) {l : List qm} {p err : Int} (h0 : err ≠ 0) (g1 : kK N l = some ([], none, false, p, err)) {n : Str} (hn : n.length < N) (a : Int) : qU N l n a = some ([], none, false, [], [], 0, 0, 0, 0, 0, 0, false, err) := by
  unfold qU
  rw [g1, Option.bind_some]
  simp only [qdc hn, Option.bind_some]
  rw [jr (by simp) (by simp; omega), Option.bind_some]
  have f : ∀ x y, qE [err, x, y] = err := fun x y => by simp only [qE, if_neg h0]
  rw [f, if_pos (by simp [h0])]
theorem qf9 {N : Nat} {l : List qm} (hE : Evs N l) {o' : Option (List StateT)} {c : List qm} (hr : Rel N c (hof o')) (hc : c.length ≤ 1000) {d : Int} {s : List qh} (hreg : qW N c = some ⟨d, s⟩) (hs : s.length ≤ 1000) (g1 : kK N l = some (l, o', true, 0, 0)) {n : Str} (hn : n.length < N) (a : Int) :
    (qE [nmE n, a] ≠ 0 → qU N l n a = some ([], none, false, [], [], 0, 0, 0, 0, 0, 0, false, qE [nmE n, a])) ∧
    (qE [nmE n, a] = 0 → zV s n = false → qU N l n a = some ([], none, false, [], [], 0, 0, 0, 0, 0, 0, false, 10)) ∧
    (qE [nmE n, a] = 0 → zV s n = true → ∀ x, s[zH s n]? = some x → ∃ o3, hof o3 = hof o' ∧ qU N l n a = some (l, o3, true, x.Name, x.Batch, x.Born, x.Last, x.Uses, x.Used, x.Limit, x.Until, x.Gone, 0)) := by
  have hN := hE.big
  obtain ⟨o2, d2, s2, f1, f2, f3, _, _⟩ := jO (evs := l) hr hc hN
  rw [hreg] at f3
  injection f3 with f3
  injection f3 with fd fs
  subst fd fs
  obtain ⟨o3, d3, s3, k1, k2, k3, _, _⟩ := jO (evs := l) (o := o2) (f2 ▸ hr) hc hN
  rw [hreg] at k3
  injection k3 with k3
  injection k3 with kd ks
  subst kd ks
  have e0 : qE [0, if vQ n = true then 0 else 8, a] = qE [nmE n, a] := rfl
  have key : qU N l n a = qU N l n a := rfl
  conv at key => rhs; unfold qU
  rw [g1, Option.bind_some] at key
  simp only [qdc hn, Option.bind_some] at key
  rw [jr (by simp) (by simp; omega), Option.bind_some, e0] at key
  refine ⟨fun h => ?_, fun h hh => ?_, fun h hh x hx => ⟨o3, k2.trans f2, ?_⟩⟩
  · rw [key, if_pos (by simp [h])]
  · rw [key, if_neg (by simp [h])]
    simp only [f1, Option.bind_some, qbY (show s.length < 4611686018427387904 by omega) (show s.length < N by omega), hh, Bool.not_false, if_true]
  · rw [key, if_neg (by simp [h])]
    simp only [f1, Option.bind_some, qbY (show s.length < 4611686018427387904 by omega) (show s.length < N by omega), hh, Bool.not_true, Bool.false_eq_true, if_false, k1, ku, hx]
theorem qbz (l : List qm) (n : Str) (day : Int) : jW 3000 l n day = some true := by
  have hN : 2000 < 3000 := by omega
  have hM : 3000 < 4611686018427387904 := by omega
  unfold jW
  have e1 : z8 3000 l 24 = some (decide (l.length ≤ 24) && l.all qaY) := qdx (n := 24) hN (by omega)
  rw [e1, Option.bind_some]
  by_cases h1 : l.length ≤ 24
  · by_cases h2 : l.all qaY = true
    · by_cases h3 : n.length ≤ 60
      · have hE : Evs 3000 l := ⟨by omega, fun x hx => qih hN (List.all_eq_true.1 h2 x hx), hN, hM⟩
        have h4 : ¬ (n.length : Int) > 60 := by omega
        have hn : n.length < 3000 := by omega
        simp only [h1, h2, h4, decide_true, decide_false, Bool.and_self, Bool.not_true, Bool.false_eq_true, if_false, Option.bind_some]
        unfold yl yf jX
        simp only [qaK, qg0, qg3 hn (by omega), qdG, Option.bind_some]
        rcases qfY hE with ⟨p, err, g0, g1, g2⟩ | ⟨o', d, s, g1, g2, g3, g4, g5, g6, g7, g8, g9⟩
        · have hA := fun a => qgF hN g0 g1 hn a
          rw [g2]
          have f : ∀ x, qE (err :: x) = err := fun x => by simp only [qE, if_neg g0]
          have hAt : yP 3000 ⟨0, []⟩ n = some (-1) := by
            rw [qfk (by simp) (by simp) (by exact List.Pairwise.nil)]; rfl
          have q0 : ¬ (err = 0) := g0
          simp only [hA, Option.bind_some, hAt, vC, xw, vK]
          rw [xU (by simp) (by simp), xU (by simp) (by simp), jr (by simp) (by simp)]
          simp only [f, Option.bind_some, q0, decide_false, Bool.not_false, if_true, if_false, jU hN (a := []) (by simp), awk, BEq.rfl]
        · have hc : (jR 3000 l 0 []).2.2.length ≤ 1000 := by omega
          have hA := fun a => qf9 hE g5 hc g8 g3 g1 hn a
          rw [g2]
          have hAt : yP 3000 ⟨d, s⟩ n = some (if zV s n = true then (zH s n : Int) else -1) := qfk (show s.length < _ by omega) (show s.length < 3000 by omega) g4 n
          have f0 : ∀ x, qE (0 :: x) = qE x := fun x => by simp only [qE, if_true]
          obtain ⟨a1, a2, a3⟩ := hA 0
          obtain ⟨b1, b2, b3⟩ := hA (if ji day 0 99999 = true then 3 else 0)
          simp only [Option.bind_some, hAt]
          rw [xU (by simp) (by simp), xU (by simp) (by simp)]
          simp only [f0, Option.bind_some]
          change _ = some true
          have hlt : decide ((if zV s n = true then (zH s n : Int) else -1) < 0) = !zV s n := by
            cases zV s n
            · rfl
            · simp only [if_true, Bool.not_true, decide_eq_false_iff_not]; omega
          simp only [hlt]
          by_cases c1 : vQ n = true
          · have z : nmE n = 0 := if_pos c1
            have z0 : qE [nmE n, 0] = 0 := by rw [z]; rfl
            cases c2 : zV s n with
            | false =>
              rw [a2 z0 c2]
              by_cases c3 : ji day 0 99999 = true
              · have z1 : qE [nmE n, if ji day 0 99999 = true then 3 else 0] = 3 := by rw [z, if_pos c3]; rfl
                rw [b1 (by rw [z1]; decide), z1]
                simp only [Option.bind_some, vC, xw, vK, c1, c2, c3, if_true, Bool.not_false]
                rw [jr (by simp) (by simp)]
                simp [qE, jU hN (a := []) (by simp), awk]
              · have z1 : qE [nmE n, if ji day 0 99999 = true then 3 else 0] = 0 := by rw [z, if_neg c3]; rfl
                rw [b2 z1 c2]
                simp only [Option.bind_some, vC, xw, vK, c1, c2, c3, if_true, Bool.not_false]
                rw [jr (by simp) (by simp)]
                simp [qE, jU hN (a := []) (by simp), awk]
            | true =>
              obtain ⟨x, hx, hlt⟩ := qa3 c2
              obtain ⟨o3, k1, k2⟩ := a3 z0 c2 x hx
              have hrel : Rel 3000 (jR 3000 l 0 []).2.2 (hof o3) := k1 ▸ g5
              have hcnt : qcd 3000 l (jR 3000 l 0 []).2.2 := qfm l 0 [] (fun _ _ h => by simp at h) (fun i e h => by simpa using h) g9
              have hF : ∀ d' l' b, qbd 3000 (jR 3000 l 0 []).2.2 = some ⟨d', l'⟩ → bat l' n = some b → b = x.Batch := by
                intro d' l' b q1 q2
                rw [← xH hc hN, g8] at q1
                injection q1 with q1
                injection q1 with _ q1
                subst q1
                rw [qgi g4 c2 hx] at q2
                injection q2 with q2
                exact q2.symm
              obtain ⟨out, m1, m2, m3⟩ := qgj hrel hcnt hc (by omega) hN hM n x.Batch hF 3000 0 [] 0 [] (by omega) (by omega) (by rfl) List.Pairwise.nil (by simp) (fun b hb => by cases hb) (by simp)
              have hH : vP 3000 l n = some out := by
                unfold vP
                rw [g7, Option.bind_some]
                rw [show zn n ((jR 3000 l 0 []).2.2, 0, 0) 3000 [] 0 [] = some out from m2]
                rfl
              have hP : qV 3000 n l x.Batch (hof o3) ((hof o3).length : Int) 3000 [] 0 = some out := m1
              have hP2 : (((match o3 with
                | none => some ([], [], 0)
                | some l16 => some (l16, l16, (l16.length : Int))) : Option ((List StateT) × (List StateT) × Int)).bind fun (l17, l18, n19) =>
                  (qV 3000 n l x.Batch l18 n19 3000 ([] : List Int) 0).bind fun l23 => some (l23, (0 : Int))) = some (out, 0) := by
                cases o3 with
                | none => simp only [Option.bind_some]; rw [show qV 3000 n l x.Batch [] 0 3000 [] 0 = some out from hP]; rfl
                | some l16 => simp only [Option.bind_some]; rw [show qV 3000 n l x.Batch l16 (l16.length : Int) 3000 [] 0 = some out from hP]; rfl
              rw [k2]
              simp only [Option.bind_some, c1, c2, if_true, Bool.not_true, hH, decide_true, Bool.false_eq_true, if_false]
              by_cases c3 : ji day 0 99999 = true
              · have z1 : qE [nmE n, if ji day 0 99999 = true then 3 else 0] = 3 := by rw [z, if_pos c3]; rfl
                rw [b1 (by rw [z1]; decide), z1]
                simp only [Option.bind_some, vC, xw, vK]
                rw [jr (by simp) (by simp)]
                cases o3 with
                | none => simp only [Option.bind_some] at hP2 ⊢; rw [hP2]; simp [qE, jU hN m3, awk, c3]
                | some l16 => simp only [Option.bind_some] at hP2 ⊢; rw [hP2]; simp [qE, jU hN m3, awk, c3]
              · have z1 : qE [nmE n, if ji day 0 99999 = true then 3 else 0] = 0 := by rw [z, if_neg c3]; rfl
                obtain ⟨o4, _, k4⟩ := b3 z1 c2 x hx
                rw [k4]
                simp only [Option.bind_some, vC, xw, vK, qaT, qd8, ku, hx]
                rw [jr (by simp) (by simp), xU (by simp) (by simp)]
                rw [show (⟨x.Name, x.Batch, x.Born, x.Last, x.Uses, x.Used, x.Limit, x.Until, x.Gone⟩ : qh) = x from rfl]
                cases o3 with
                | none => simp only [Option.bind_some] at hP2 ⊢; rw [hP2]; by_cases c4 : xA x day = true <;> by_cases c5 : qce x day = true <;> simp [qE, jU hN m3, awk, c3, c4, c5]
                | some l16 => simp only [Option.bind_some] at hP2 ⊢; rw [hP2]; by_cases c4 : xA x day = true <;> by_cases c5 : qce x day = true <;> simp [qE, jU hN m3, awk, c3, c4, c5]
          · have z : nmE n = 8 := if_neg c1
            have z0 : ∀ a, qE [nmE n, a] = 8 := fun a => by rw [z]; rfl
            rw [a1 (by rw [z0]; decide), b1 (by rw [z0]; decide), z0, z0]
            simp only [Option.bind_some, vC, xw, vK, c1, if_false, Bool.false_eq_true]
            rw [jr (by simp) (by simp)]
            simp [qE, jU hN (a := []) (by simp), awk]
      · have h4 : (n.length : Int) > 60 := by omega
        simp [h1, h2, h4, awk]
    · simp [h1, h2, awk]
  · simp [h1, awk]
end Go.Av
