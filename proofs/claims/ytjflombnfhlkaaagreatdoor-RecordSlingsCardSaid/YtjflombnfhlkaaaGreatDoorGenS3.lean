/-
  Walks of functions: what each computes, as a plain function.
-/
import Derived.Test.YtjflombnfhlkaaaGreatDoorGenS2
noncomputable section
namespace Go.Av
open Go.Proofs Go.RowKit
set_option linter.unusedSectionVars false
set_option linter.unusedVariables false
set_option linter.unusedSimpArgs false
set_option maxRecDepth 100000
variable [Glob]
def qG (a0_ : List qm) (a1_ : Option (List StateT)) : Option ((Option (List StateT)) × Int × (List qh)) :=
  ((match a1_ with
  | none =>
  some ((none : Option (List StateT)), decide (0 = 0))
  | some l4 =>
  some ((some l4), decide ((l4.length : Int) = 0))) : Option ((Option (List StateT)) × Bool)).bind fun (o5, b6) =>
  if b6 = true then
  some (o5, 0, [])
  else
  ((match o5 with
  | none =>
  (idx ([] : List StateT) (w64 (0 - 1))).bind fun x10 =>
  some ((none : Option (List StateT)), x10.register.Day, x10.register.Slings)
  | some l9 =>
  (idx l9 (w64 ((l9.length : Int) - 1))).bind fun x11 =>
  some ((some l9), x11.register.Day, x11.register.Slings)) : Option ((Option (List StateT)) × Int × (List qh))).bind fun (o12, n13, l14) =>
  some (o12, n13, l14)
theorem jg (a0_ : List qm) (a1_ : Option (List StateT)) {o1 : Option (List StateT)} {n2 : Int} {l3 : List qh} (h : qG a0_ a1_ = some (o1, n2, l3)) : qw Tryz.prog (.fn 81) [.ptr 0 0] [.cells [.gslice 1 a0_.length 5, hsl 2 3 a1_], .cells (a0_.flatMap qb.c), .cells ((hof a1_).flatMap qd.c)] (.agg [.i n2, vl qa l3]) [.cells [.gslice 1 a0_.length 5, hsl 2 3 o1], .cells (a0_.flatMap qb.c), .cells ((hof o1).flatMap qd.c)] := by
  unfold qG at h
  refine Goes.fnH Tryz.func81 rfl rfl (m := 23) rfl (rs := [.cell 2 31]) rfl (l := [(0, .ptr 0 0)]) rfl ?_
  intro B hB
  refine sq ?_
  refine Goes.rg fol [(0, .ptr 0 0), (2, .ptr 3 0)] [.cells [.gslice 1 a0_.length 5, hsl 2 3 a1_], .cells (a0_.flatMap qb.c), .cells ((hof a1_).flatMap qd.c), .cells [.i 0, .nilslice]] ?_
  refine sq ?_
  refine sq ?_
  obtain ⟨⟨o5, b6⟩, g_v7, h⟩ := bnd h
  refine Goes.cutS (s' := (ofG 23 [(0, .ptr 0 0), (2, .ptr 3 0), (8, .bool b6)], [.cells [.gslice 1 a0_.length 5, hsl 2 3 o5], .cells (a0_.flatMap qb.c), .cells ((hof o5).flatMap qd.c), .cells [.i 0, .nilslice]])) ?_ ?_
  · rcases a1_ with _ | l4
    · try dsimp only at g_v7
      simp only [Option.some.injEq, Prod.mk.injEq] at g_v7
      obtain ⟨rfl, rfl⟩ := g_v7
      exact qp.sub (qp.rg fol [(0, .ptr 0 0), (2, .ptr 3 0), (8, .bool (decide (0 = 0)))] [.cells [.gslice 1 a0_.length 5, .nilslice], .cells (a0_.flatMap qb.c), .cells ((hof (none : Option (List StateT))).flatMap qd.c), .cells [.i 0, .nilslice]]) (Sub.norm [] [some 0, some 1, some 2, some 3] (by rw [hB]; rfl) rfl (.keep (.ptr rfl) (.keep (.ptr rfl) (.keep (.same (qc.bool _)) .nil))) (.keep rfl (.cells (qg.cons (.gslice rfl) (qg.cons (qK.hs0) qg.nil))) rfl rfl (.keep rfl (.same fa) rfl rfl (.keep rfl (.same fa) rfl rfl (.keep rfl (.same (qf.cons (qc.int _ _) (qf.cons (qc.nilslice) qf.nil))) rfl rfl .nil)))))
    · try dsimp only at g_v7
      simp only [Option.some.injEq, Prod.mk.injEq] at g_v7
      obtain ⟨rfl, rfl⟩ := g_v7
      exact qp.sub (qp.rg fol [(0, .ptr 0 0), (2, .ptr 3 0), (8, .bool (decide ((l4.length : Int) = 0)))] [.cells [.gslice 1 a0_.length 5, .oslice 2 l4.length 3], .cells (a0_.flatMap qb.c), .cells (l4.flatMap qd.c), .cells [.i 0, .nilslice]]) (Sub.norm [] [some 0, some 1, some 2, some 3] (by rw [hB]; rfl) rfl (.keep (.ptr rfl) (.keep (.ptr rfl) (.keep (.same (qc.bool _)) .nil))) (.keep rfl (.cells (qg.cons (.gslice rfl) (qg.cons ((qK.hs1 rfl)) qg.nil))) rfl rfl (.keep rfl (.same fa) rfl rfl (.keep rfl (.same fa) rfl rfl (.keep rfl (.same (qf.cons (qc.int _ _) (qf.cons (qc.nilslice) qf.nil))) rfl rfl .nil)))))
  intro _ hsub
  try dsimp only at h
  refine Goes.sub hsub ?_
  refine Goes.ifB (b := b6) (by kernel_rfl) (fun c8 => ?_) (fun c8 => ?_)
  · rw [if_pos (c8)] at h
    refine sq ?_
    refine Goes.rg fol [(2, .ptr 3 0)] [.cells [.gslice 1 a0_.length 5, hsl 2 3 o5], .cells (a0_.flatMap qb.c), .cells ((hof o5).flatMap qd.c), .cells [.i 0, .nilslice]] ?_
    refine Goes.ret ?_
    simp only [Option.some.injEq, Prod.mk.injEq] at h
    obtain ⟨rfl, rfl, rfl⟩ := h
    exact (Goes.retH (xs := [.agg [.i 0, .nilslice]]) (by kernel_rfl) (Sub.norm [] [some 0, some 1, some 2] (by rw [hB]; rfl) rfl (.keep (.aggL (qg.cons (.same (qc.int _ _)) (qg.cons (.nilv) qg.nil))) .nil) (.keep rfl (.cells (qg.cons (.gslice rfl) (qg.cons ((qK.hs rfl)) qg.nil))) rfl rfl (.keep rfl (.same fa) rfl rfl (.keep rfl (.same fa) rfl rfl .nil)))))
  · rw [if_neg (by rw [c8]; exact Bool.false_ne_true)] at h
    refine Goes.skip ?_
    refine sq ?_
    obtain ⟨⟨o12, n13, l14⟩, g_v15, h⟩ := bnd h
    refine Goes.cutS (s' := (ofG 23 [(2, .ptr 3 0)], [.cells [.gslice 1 a0_.length 5, hsl 2 3 o12], .cells (a0_.flatMap qb.c), .cells ((hof o12).flatMap qd.c), .cells [.i n13, vl qa l14]])) ?_ ?_
    · rcases o5 with _ | l9
      · try dsimp only at g_v15
        obtain ⟨x10, e_x10, g_v15⟩ := bnd g_v15
        simp only [Option.some.injEq, Prod.mk.injEq] at g_v15
        obtain ⟨rfl, rfl, rfl⟩ := g_v15
        exact qp.sub (qp.ro fol [(10, (.done (.fptr (([] : List StateT).flatMap qd.c) ((w64 (0 - 1) : Int).toNat * 3 + 0)))), (12, (.done (.agg [.i x10.register.Day, vl qa x10.register.Slings])))] [(2, .ptr 3 0)] [.cells [.gslice 1 a0_.length 5, .nilslice], .cells (a0_.flatMap qb.c), .cells ((hof (none : Option (List StateT))).flatMap qd.c), .cells [.i x10.register.Day, vl qa x10.register.Slings]] [.done (.opt (qj Tryz.prog 163 (.nilslice) (.i (w64 (0 - 1))))) (.fptr (([] : List StateT).flatMap qd.c) ((w64 (0 - 1) : Int).toNat * 3 + 0)), .done (qz Tryz.prog 31 (.fptr (([] : List StateT).flatMap qd.c) ((w64 (0 - 1) : Int).toNat * 3 + 1))) (.agg [.i x10.register.Day, vl qa x10.register.Slings])] (And.intro (qjJ e_x10) (And.intro (ld_vp ag31 (E := qd) rfl e_x10 rfl rfl) trivial))) (Sub.norm [] [some 0, some 1, some 2, some 3] (by rw [hB]; rfl) rfl (.keep (.ptr rfl) .nil) (.keep rfl (.cells (qg.cons (.gslice rfl) (qg.cons (qK.hs0) qg.nil))) rfl rfl (.keep rfl (.same fa) rfl rfl (.keep rfl (.same fa) rfl rfl (.keep rfl (.same (qf.cons (qc.int _ _) (qf.cons (ql qa _) qf.nil))) rfl rfl .nil)))))
      · try dsimp only at g_v15
        obtain ⟨x11, e_x11, g_v15⟩ := bnd g_v15
        simp only [Option.some.injEq, Prod.mk.injEq] at g_v15
        obtain ⟨rfl, rfl, rfl⟩ := g_v15
        exact qp.sub (qp.ro fol [(10, (.done (.ptr 2 ((w64 ((l9.length : Int) - 1) : Int).toNat * 3 + 0)))), (12, (.run (.agg [.i x11.register.Day, vl qa x11.register.Slings]) [.cells [.gslice 1 a0_.length 5, .oslice 2 l9.length 3], .cells (a0_.flatMap qb.c), .cells (l9.flatMap qd.c), .cells [.i 0, .nilslice]] false))] [(2, .ptr 3 0)] [.cells [.gslice 1 a0_.length 5, .oslice 2 l9.length 3], .cells (a0_.flatMap qb.c), .cells (l9.flatMap qd.c), .cells [.i x11.register.Day, vl qa x11.register.Slings]] [.done (.opt (qj Tryz.prog 163 (.oslice 2 l9.length 3) (.i (w64 ((l9.length : Int) - 1))))) (.ptr 2 ((w64 ((l9.length : Int) - 1) : Int).toNat * 3 + 0)), .run [2] (qz Tryz.prog 31 (.ptr 2 ((w64 ((l9.length : Int) - 1) : Int).toNat * 3 + 1))) [.cells [.gslice 1 a0_.length 5, .oslice 2 l9.length 3], .cells (a0_.flatMap qb.c), .cells (l9.flatMap qd.c), .cells [.i 0, .nilslice]] (.agg [.i x11.register.Day, vl qa x11.register.Slings]) [.cells [.gslice 1 a0_.length 5, .oslice 2 l9.length 3], .cells (a0_.flatMap qb.c), .cells (l9.flatMap qd.c), .cells [.i 0, .nilslice]] false] (And.intro (qbn qeP e_x11) (And.intro (ld_pp ag31 (E := qd) (l := l9) rfl rfl e_x11 rfl rfl) trivial))) (Sub.norm [] [some 0, some 1, some 2, some 3] (by rw [hB]; rfl) rfl (.keep (.ptr rfl) .nil) (.keep rfl (.cells (qg.cons (.gslice rfl) (qg.cons ((qK.hs1 rfl)) qg.nil))) rfl rfl (.keep rfl (.same fa) rfl rfl (.keep rfl (.same fa) rfl rfl (.keep rfl (.same (qf.cons (qc.int _ _) (qf.cons (ql qa _) qf.nil))) rfl rfl .nil)))))
    intro _ hsub
    try dsimp only at h
    refine Goes.sub hsub ?_
    refine Goes.ret ?_
    simp only [Option.some.injEq, Prod.mk.injEq] at h
    obtain ⟨rfl, rfl, rfl⟩ := h
    exact (Goes.retH (xs := [.agg [.i n13, vl qa l14]]) (by kernel_rfl) (Sub.norm [] [some 0, some 1, some 2] (by rw [hB]; rfl) rfl (.keep (.aggL (qg.cons (.same (qc.int _ _)) (qg.cons (.same (ql qa _)) qg.nil))) .nil) (.keep rfl (.cells (qg.cons (.gslice rfl) (qg.cons ((qK.hs rfl)) qg.nil))) rfl rfl (.keep rfl (.same fa) rfl rfl (.keep rfl (.same fa) rfl rfl .nil)))))
def qy (a0_ : Int) (a1_ : List qh) : Option (List qh) :=
  (mk 88 (a1_.length : Int) (⟨[], [], 0, 0, 0, 0, 0, 0, false⟩ : qh)).bind fun l2 =>
  (some (cpy l2 a1_)).bind fun l3 =>
  some l3
theorem kH (a0_ : Int) (a1_ : List qh) {l1 : List qh} (h : qy a0_ a1_ = some l1) : qw Tryz.prog (.fn 82) [.agg [.i a0_, vl qa a1_]] [] (.agg [.i a0_, .slice 0 0 l1.length l1.length 9]) [.cells (l1.flatMap qa.c)] := by
  unfold qy at h
  refine Goes.fnH Tryz.func82 rfl rfl (m := 16) rfl (rs := [.cell 2 31]) rfl (l := [(0, .agg [.i a0_, vl qa a1_])]) rfl ?_
  intro B hB
  refine sq ?_
  refine Goes.rg fol [(1, .ptr 0 0), (2, .ptr 1 0)] [.cells [.i a0_, vl qa a1_], .cells [.i 0, .nilslice]] ?_
  refine sq ?_
  obtain ⟨l2, e_l2, h⟩ := bnd h
  refine Goes.ro fol [(3, (.run (.slice 2 0 l2.length l2.length 9) [.cells [.i a0_, vl qa a1_], .cells [.i 0, .nilslice], .cells (l2.flatMap qa.c)] false))] [(1, .ptr 0 0), (2, .ptr 1 0), (3, .slice 2 0 l2.length l2.length 9)] [.cells [.i a0_, vl qa a1_], .cells [.i 0, .nilslice], .cells (l2.flatMap qa.c)] [.run [] (yD Tryz.prog 29 (.i (a1_.length : Int)) (.i (a1_.length : Int))) [.cells [.i a0_, vl qa a1_], .cells [.i 0, .nilslice]] (.slice 2 0 l2.length l2.length 9) [.cells [.i a0_, vl qa a1_], .cells [.i 0, .nilslice], .cells (l2.flatMap qa.c)] false] (And.intro (qjw xN (E := qa) (z := (⟨[], [], 0, 0, 0, 0, 0, 0, false⟩ : qh)) rfl (by kernel_rfl) e_l2 rfl) trivial) ?_
  refine sq ?_
  obtain ⟨l3, e_l3, h⟩ := bnd h
  refine Goes.ro fol [(3, (.run (.i ((Nat.min a1_.length l2.length : Nat) : Int)) [.cells [.i a0_, vl qa a1_], .cells [.i 0, .nilslice], .cells (l3.flatMap qa.c)] true))] [(1, .ptr 0 0), (2, .ptr 1 0), (3, .slice 2 0 l2.length l2.length 9)] [.cells [.i a0_, vl qa a1_], .cells [.i 0, .nilslice], .cells (l3.flatMap qa.c)] [.run [2] (xK Tryz.prog [29, 29] (.slice 2 0 l2.length l2.length 9) (vl qa a1_)) [.cells [.i a0_, vl qa a1_], .cells [.i 0, .nilslice], .cells (l2.flatMap qa.c)] (.i ((Nat.min a1_.length l2.length : Nat) : Int)) [.cells [.i a0_, vl qa a1_], .cells [.i 0, .nilslice], .cells (l3.flatMap qa.c)] true] (And.intro (qf7 xN (E := qa) (l := l2) rfl (qcb (E := qa) rfl _) (.inl rfl) rfl rfl e_l3 rfl) trivial) ?_
  refine Goes.sub (show Sub (ofG 16 [(1, .ptr 0 0), (2, .ptr 1 0), (3, .slice 2 0 l2.length l2.length 9)], [.cells [.i a0_, vl qa a1_], .cells [.i 0, .nilslice], .cells (l3.flatMap qa.c)]) (ofG 16 [(1, .ptr 0 0), (2, .ptr 1 0), (3, .slice 2 0 l3.length l3.length 9)], [.cells [.i a0_, vl qa a1_], .cells [.i 0, .nilslice], .cells (l3.flatMap qa.c)]) from (Sub.norm [] [some 0, some 1, some 2] (by rw [hB]; rfl) rfl (.keep (.ptr rfl) (.keep (.ptr rfl) (.keep (.sliceE rfl (qcO e_l3)) .nil))) (.keep rfl (.same (qf.cons (qc.int _ _) (qf.cons (ql qa _) qf.nil))) rfl rfl (.keep rfl (.same (qf.cons (qc.int _ _) (qf.cons (qc.nilslice) qf.nil))) rfl rfl (.keep rfl (.same fa) rfl rfl .nil))))) ?_
  refine sq ?_
  refine Goes.rg fol [(2, .ptr 1 0)] [.cells [.i a0_, vl qa a1_], .cells [.i a0_, .slice 2 0 l3.length l3.length 9], .cells (l3.flatMap qa.c)] ?_
  refine Goes.ret ?_
  obtain rfl := Option.some.inj h
  exact (Goes.retH (xs := [.agg [.i a0_, .slice 2 0 l3.length l3.length 9]]) (by kernel_rfl) (Sub.norm [] [some 2] (by rw [hB]; rfl) rfl (.keep (.aggL (qg.cons (.same (qc.int _ _)) (qg.cons (.slice rfl) qg.nil))) .nil) (.keep rfl (.same fa) rfl rfl .nil)))
def zt (a0_ : List qh) (a1_ : Int) (a2_ : Str) (a3_ : Str) (a4_ : Int) (a5_ : Int) (a6_ : Int) (a7_ : Int) (a8_ : Int) (a9_ : Int) (a10_ : Bool) : Option (List qh) :=
  (at' a0_ a1_).bind fun j2 =>
  if 1 = 0 then
  some a0_
  else
  if a1_ = (a0_.length : Int) then
  ((match a0_ with
  | [] =>
  some ([(⟨a2_, a3_, a4_, a5_, a6_, a7_, a8_, a9_, a10_⟩ : qh)] : List qh)
  | x5 :: xs6 =>
  (app 88 (x5 :: xs6) [(⟨a2_, a3_, a4_, a5_, a6_, a7_, a8_, a9_, a10_⟩ : qh)]).bind fun l7 =>
  some l7) : Option (List qh)).bind fun l8 =>
  some l8
  else
  if (w64 ((a0_.length : Int) + 1)) > (a0_.length : Int) then
  (qgZ 88 a0_ j2 (w64 ((w64 ((a0_.length : Int) + 1)) - a1_)) (⟨[], [], 0, 0, 0, 0, 0, 0, false⟩ : qh)).bind fun l11 =>
  (if a1_ = 0 then
  (some (cpy l11 ([(⟨a2_, a3_, a4_, a5_, a6_, a7_, a8_, a9_, a10_⟩ : qh)] : List qh))).bind fun l13 =>
  some l13
  else
  (at' l11 a1_).bind fun j14 =>
  ((if j14 < l11.length then some () else none : Option Unit)).bind fun u15 =>
  (some (qbZ l11 j14 ([(⟨a2_, a3_, a4_, a5_, a6_, a7_, a8_, a9_, a10_⟩ : qh)] : List qh))).bind fun l16 =>
  some l16 : Option (List qh)).bind fun l17 =>
  (if (w64 (a1_ + 1)) = 0 then
  (some (cpy l17 (a0_.drop j2))).bind fun l20 =>
  some l20
  else
  (at' l17 (w64 (a1_ + 1))).bind fun j21 =>
  ((if j21 < l17.length then some () else none : Option Unit)).bind fun u22 =>
  (some (qbZ l17 j21 (a0_.drop j2))).bind fun l23 =>
  some l23 : Option (List qh)).bind fun l24 =>
  some l24
  else
  none
theorem xz (a0_ : List qh) (a1_ : Int) (a2_ : Str) (a3_ : Str) (a4_ : Int) (a5_ : Int) (a6_ : Int) (a7_ : Int) (a8_ : Int) (a9_ : Int) (a10_ : Bool) {s_1 : List qh} (h : zt a0_ a1_ a2_ a3_ a4_ a5_ a6_ a7_ a8_ a9_ a10_ = some s_1) : qw Tryz.prog (.fn 181) [.slice 0 0 a0_.length a0_.length 9, .i a1_, .slice 1 0 1 1 9] [.cells (a0_.flatMap qa.c), .cells [.str a2_, .str a3_, .i a4_, .i a5_, .i a6_, .i a7_, .i a8_, .i a9_, .bool a10_]] (vl qa s_1) [.dead, .cells [.str a2_, .str a3_, .i a4_, .i a5_, .i a6_, .i a7_, .i a8_, .i a9_, .bool a10_]] := by
  unfold zt at h
  refine Goes.fnH Tryz.func181 rfl rfl (m := 95) rfl (rs := [.tmp 6]) rfl (l := [(0, .slice 0 0 a0_.length a0_.length 9), (1, .i a1_), (2, .slice 1 0 1 1 9)]) rfl ?_
  intro B hB
  refine sq ?_
  refine Goes.rg fol [(0, .slice 0 0 a0_.length a0_.length 9), (1, .i a1_), (2, .slice 1 0 1 1 9)] [.cells (a0_.flatMap qa.c), .cells [.str a2_, .str a3_, .i a4_, .i a5_, .i a6_, .i a7_, .i a8_, .i a9_, .bool a10_]] ?_
  refine sq ?_
  obtain ⟨j2, e_j2, h⟩ := bnd h
  refine Goes.ro fol [(2, (.done (qay 0 9 a0_.length j2)))] [(0, .slice 0 0 a0_.length a0_.length 9), (1, .i a1_), (2, .slice 1 0 1 1 9)] [.cells (a0_.flatMap qa.c), .cells [.str a2_, .str a3_, .i a4_, .i a5_, .i a6_, .i a7_, .i a8_, .i a9_, .bool a10_]] [.done (.opt (zo Tryz.prog 29 (.slice 0 0 a0_.length a0_.length 9) (some (.i a1_)) none none)) (qay 0 9 a0_.length j2)] (And.intro (qc0 xN e_j2) trivial) ?_
  refine sq ?_
  refine Goes.rg fol [(0, .slice 0 0 a0_.length a0_.length 9), (1, .i a1_), (2, .slice 1 0 1 1 9), (7, .i 1)] [.cells (a0_.flatMap qa.c), .cells [.str a2_, .str a3_, .i a4_, .i a5_, .i a6_, .i a7_, .i a8_, .i a9_, .bool a10_]] ?_
  refine sq ?_
  refine sq ?_
  refine Goes.rg fol [(0, .slice 0 0 a0_.length a0_.length 9), (1, .i a1_), (2, .slice 1 0 1 1 9), (7, .i 1), (16, .bool (decide (1 = 0)))] [.cells (a0_.flatMap qa.c), .cells [.str a2_, .str a3_, .i a4_, .i a5_, .i a6_, .i a7_, .i a8_, .i a9_, .bool a10_]] ?_
  refine Goes.ifB (b := decide (1 = 0)) (by kernel_rfl) (fun c3 => ?_) (fun c3 => ?_)
  · rw [if_pos (ot c3)] at h
    refine sq ?_
    refine Goes.rg fol [(6, .slice 0 0 a0_.length a0_.length 9)] [.cells (a0_.flatMap qa.c), .cells [.str a2_, .str a3_, .i a4_, .i a5_, .i a6_, .i a7_, .i a8_, .i a9_, .bool a10_]] ?_
    refine Goes.ret ?_
    obtain rfl := Option.some.inj h
    exact (Goes.retH (xs := [.slice 0 0 a0_.length a0_.length 9]) (by kernel_rfl) (Sub.norm [0] [some 0, some 1] (by rw [hB]; rfl) rfl (.keep (.frz (Fz.sl (E := qa) rfl rfl (Nat.le_of_ble_eq_true rfl)) (ql qa _)) .nil) (.lost (.keep rfl (.same (qf.cons (qc.str _) (qf.cons (qc.str _) (qf.cons (qc.int _ _) (qf.cons (qc.int _ _) (qf.cons (qc.int _ _) (qf.cons (qc.int _ _) (qf.cons (qc.int _ _) (qf.cons (qc.int _ _) (qf.cons (qc.bool _) qf.nil)))))))))) rfl rfl .nil))))
  · rw [if_neg (of_ c3)] at h
    refine Goes.skip ?_
    refine sq ?_
    refine Goes.rg fol [(0, .slice 0 0 a0_.length a0_.length 9), (1, .i a1_), (2, .slice 1 0 1 1 9), (7, .i 1), (8, .i (a0_.length : Int))] [.cells (a0_.flatMap qa.c), .cells [.str a2_, .str a3_, .i a4_, .i a5_, .i a6_, .i a7_, .i a8_, .i a9_, .bool a10_]] ?_
    refine sq ?_
    refine sq ?_
    refine Goes.rg fol [(0, .slice 0 0 a0_.length a0_.length 9), (1, .i a1_), (2, .slice 1 0 1 1 9), (7, .i 1), (8, .i (a0_.length : Int)), (22, .bool (decide (a1_ = (a0_.length : Int))))] [.cells (a0_.flatMap qa.c), .cells [.str a2_, .str a3_, .i a4_, .i a5_, .i a6_, .i a7_, .i a8_, .i a9_, .bool a10_]] ?_
    refine Goes.ifB (b := decide (a1_ = (a0_.length : Int))) (by kernel_rfl) (fun c4 => ?_) (fun c4 => ?_)
    · rw [if_pos (ot c4)] at h
      refine sq ?_
      obtain ⟨l8, g_v9, h⟩ := bnd h
      refine Goes.cutS (s' := (ofG 95 [(6, .oslice 2 l8.length 9)], [.dead, .cells [.str a2_, .str a3_, .i a4_, .i a5_, .i a6_, .i a7_, .i a8_, .i a9_, .bool a10_], .cells (l8.flatMap qa.c)])) ?_ ?_
      · rcases a0_ with _ | ⟨x5, xs6⟩
        · try dsimp only at g_v9
          obtain rfl := Option.some.inj g_v9
          exact qp.sub (qp.rg fol [(6, .oslice 2 1 9)] [.dead, .cells [.str a2_, .str a3_, .i a4_, .i a5_, .i a6_, .i a7_, .i a8_, .i a9_, .bool a10_], .cells [.str a2_, .str a3_, .i a4_, .i a5_, .i a6_, .i a7_, .i a8_, .i a9_, .bool a10_]]) (Sub.norm [] [some 0, some 1, some 2] (by rw [hB]; rfl) rfl (.keep (qK.osliceE rfl rfl) .nil) (.lost (.keep rfl (.same (qf.cons (qc.str _) (qf.cons (qc.str _) (qf.cons (qc.int _ _) (qf.cons (qc.int _ _) (qf.cons (qc.int _ _) (qf.cons (qc.int _ _) (qf.cons (qc.int _ _) (qf.cons (qc.int _ _) (qf.cons (qc.bool _) qf.nil)))))))))) rfl rfl (.keep rfl (.same fa) rfl rfl .nil))))
        · try dsimp only at g_v9
          obtain ⟨l7, e_l7, g_v9⟩ := bnd g_v9
          obtain rfl := Option.some.inj g_v9
          exact qp.sub (qp.ro fol [(2, (.run (.oslice 2 l7.length 9) [.cells ((x5 :: xs6).flatMap qa.c), .cells [.str a2_, .str a3_, .i a4_, .i a5_, .i a6_, .i a7_, .i a8_, .i a9_, .bool a10_], .cells (l7.flatMap qa.c)] false))] [(6, .oslice 2 l7.length 9)] [.cells ((x5 :: xs6).flatMap qa.c), .cells [.str a2_, .str a3_, .i a4_, .i a5_, .i a6_, .i a7_, .i a8_, .i a9_, .bool a10_], .cells (l7.flatMap qa.c)] [.run [0, 1] (kV Tryz.prog [29, 29] (.slice 0 0 (x5 :: xs6).length (x5 :: xs6).length 9) (.slice 1 0 1 1 9)) [.cells ((x5 :: xs6).flatMap qa.c), .cells [.str a2_, .str a3_, .i a4_, .i a5_, .i a6_, .i a7_, .i a8_, .i a9_, .bool a10_]] (.oslice 2 l7.length 9) [.cells ((x5 :: xs6).flatMap qa.c), .cells [.str a2_, .str a3_, .i a4_, .i a5_, .i a6_, .i a7_, .i a8_, .i a9_, .bool a10_], .cells (l7.flatMap qa.c)] false] (And.intro (qje xN (E := qa) (l := (x5 :: xs6)) (ys := [(⟨a2_, a3_, a4_, a5_, a6_, a7_, a8_, a9_, a10_⟩ : qh)]) rfl rfl rfl rfl rfl rfl rfl rfl e_l7 rfl) trivial)) (Sub.norm [] [some 0, some 1, some 2] (by rw [hB]; rfl) rfl (.keep (.oslice rfl) .nil) (.lost (.keep rfl (.same (qf.cons (qc.str _) (qf.cons (qc.str _) (qf.cons (qc.int _ _) (qf.cons (qc.int _ _) (qf.cons (qc.int _ _) (qf.cons (qc.int _ _) (qf.cons (qc.int _ _) (qf.cons (qc.int _ _) (qf.cons (qc.bool _) qf.nil)))))))))) rfl rfl (.keep rfl (.same fa) rfl rfl .nil))))
      intro _ hsub
      refine Goes.sub hsub ?_
      refine Goes.ret ?_
      obtain rfl := Option.some.inj h
      exact (Goes.retH (xs := [.oslice 2 l8.length 9]) (by kernel_rfl) (Sub.norm [2] [some 0, some 1] (by rw [hB]; rfl) rfl (.keep (.frz (Fz.os (E := qa) rfl rfl (Nat.le_of_ble_eq_true rfl)) (ql qa _)) .nil) (.lost (.keep rfl (.same (qf.cons (qc.str _) (qf.cons (qc.str _) (qf.cons (qc.int _ _) (qf.cons (qc.int _ _) (qf.cons (qc.int _ _) (qf.cons (qc.int _ _) (qf.cons (qc.int _ _) (qf.cons (qc.int _ _) (qf.cons (qc.bool _) qf.nil)))))))))) rfl rfl .nil))))
    · rw [if_neg (of_ c4)] at h
      refine Goes.skip ?_
      refine sq ?_
      refine sq ?_
      refine Goes.rg fol [(0, .slice 0 0 a0_.length a0_.length 9), (1, .i a1_), (2, .slice 1 0 1 1 9), (7, .i 1), (8, .i (a0_.length : Int)), (31, .bool (decide ((w64 ((a0_.length : Int) + 1)) > (a0_.length : Int))))] [.cells (a0_.flatMap qa.c), .cells [.str a2_, .str a3_, .i a4_, .i a5_, .i a6_, .i a7_, .i a8_, .i a9_, .bool a10_]] ?_
      refine Goes.ifB (b := decide ((w64 ((a0_.length : Int) + 1)) > (a0_.length : Int))) (by kernel_rfl) (fun c10 => ?_) (fun c10 => ?_)
      · rw [if_pos (ot c10)] at h
        refine sq ?_
        obtain ⟨l11, e_l11, h⟩ := bnd h
        refine Goes.ro fol [(2, (.done (.slice 0 0 j2 a0_.length 9))), (8, (.run (.oslice 2 l11.length 9) [.cells (a0_.flatMap qa.c), .cells [.str a2_, .str a3_, .i a4_, .i a5_, .i a6_, .i a7_, .i a8_, .i a9_, .bool a10_], .cells (l11.flatMap qa.c)] false))] [(0, .slice 0 0 a0_.length a0_.length 9), (1, .i a1_), (2, .slice 1 0 1 1 9), (7, .i 1), (9, .oslice 2 l11.length 9)] [.cells (a0_.flatMap qa.c), .cells [.str a2_, .str a3_, .i a4_, .i a5_, .i a6_, .i a7_, .i a8_, .i a9_, .bool a10_], .cells (l11.flatMap qa.c)] [.done (.opt (zo Tryz.prog 29 (.slice 0 0 a0_.length a0_.length 9) none (some (.i a1_)) none)) (.slice 0 0 j2 a0_.length 9), .run [0] (kV Tryz.prog [29, 3] (.slice 0 0 j2 a0_.length 9) (.i (w64 ((w64 ((a0_.length : Int) + 1)) - a1_)))) [.cells (a0_.flatMap qa.c), .cells [.str a2_, .str a3_, .i a4_, .i a5_, .i a6_, .i a7_, .i a8_, .i a9_, .bool a10_]] (.oslice 2 l11.length 9) [.cells (a0_.flatMap qa.c), .cells [.str a2_, .str a3_, .i a4_, .i a5_, .i a6_, .i a7_, .i a8_, .i a9_, .bool a10_], .cells (l11.flatMap qa.c)] false] (And.intro (qji xN e_j2) (And.intro (qiH xN it3 (E := qa) rfl (z := (⟨[], [], 0, 0, 0, 0, 0, 0, false⟩ : qh)) (by kernel_rfl) rfl rfl e_l11 rfl) trivial)) ?_
        refine sq ?_
        obtain ⟨l17, g_v18, h⟩ := bnd h
        refine Goes.cutS (s' := (ofG 95 [(0, .slice 0 0 a0_.length a0_.length 9), (1, .i a1_), (7, .i 1), (9, .oslice 2 l17.length 9)], [.cells (a0_.flatMap qa.c), .cells [.str a2_, .str a3_, .i a4_, .i a5_, .i a6_, .i a7_, .i a8_, .i a9_, .bool a10_], .cells (l17.flatMap qa.c)])) ?_ ?_
        · rcases Bool.eq_false_or_eq_true (decide (a1_ = 0)) with c12 | c12
          · rw [if_pos (ot c12)] at g_v18
            obtain ⟨l13, e_l13, g_v18⟩ := bnd g_v18
            obtain rfl := Option.some.inj g_v18
            exact qp.sub (qp.ro fol [(2, (.done (.oslice 2 l11.length 9))), (4, (.run (.i ((Nat.min ([(⟨a2_, a3_, a4_, a5_, a6_, a7_, a8_, a9_, a10_⟩ : qh)] : List qh).length l11.length : Nat) : Int)) [.cells (a0_.flatMap qa.c), .cells [.str a2_, .str a3_, .i a4_, .i a5_, .i a6_, .i a7_, .i a8_, .i a9_, .bool a10_], .cells (l13.flatMap qa.c)] true))] [(0, .slice 0 0 a0_.length a0_.length 9), (1, .i a1_), (7, .i 1), (9, .oslice 2 l11.length 9)] [.cells (a0_.flatMap qa.c), .cells [.str a2_, .str a3_, .i a4_, .i a5_, .i a6_, .i a7_, .i a8_, .i a9_, .bool a10_], .cells (l13.flatMap qa.c)] [.done (.opt (zo Tryz.prog 29 (.oslice 2 l11.length 9) (some (.i a1_)) none none)) (.oslice 2 l11.length 9), .run [2, 1] (xK Tryz.prog [29, 29] (.oslice 2 l11.length 9) (.slice 1 0 1 1 9)) [.cells (a0_.flatMap qa.c), .cells [.str a2_, .str a3_, .i a4_, .i a5_, .i a6_, .i a7_, .i a8_, .i a9_, .bool a10_], .cells (l11.flatMap qa.c)] (.i ((Nat.min ([(⟨a2_, a3_, a4_, a5_, a6_, a7_, a8_, a9_, a10_⟩ : qh)] : List qh).length l11.length : Nat) : Int)) [.cells (a0_.flatMap qa.c), .cells [.str a2_, .str a3_, .i a4_, .i a5_, .i a6_, .i a7_, .i a8_, .i a9_, .bool a10_], .cells (l13.flatMap qa.c)] true] (And.intro (qgl xN (ot c12)) (And.intro (qf7 xN (E := qa) (l := l11) rfl (qbp (E := qa) (ys := ([(⟨a2_, a3_, a4_, a5_, a6_, a7_, a8_, a9_, a10_⟩ : qh)] : List qh)) rfl rfl rfl rfl) (.inr rfl) rfl rfl e_l13 rfl) trivial))) ((show Sub (ofG 95 [(0, .slice 0 0 a0_.length a0_.length 9), (1, .i a1_), (7, .i 1), (9, .oslice 2 l11.length 9)], [.cells (a0_.flatMap qa.c), .cells [.str a2_, .str a3_, .i a4_, .i a5_, .i a6_, .i a7_, .i a8_, .i a9_, .bool a10_], .cells (l13.flatMap qa.c)]) (ofG 95 [(0, .slice 0 0 a0_.length a0_.length 9), (1, .i a1_), (7, .i 1), (9, .oslice 2 l13.length 9)], [.cells (a0_.flatMap qa.c), .cells [.str a2_, .str a3_, .i a4_, .i a5_, .i a6_, .i a7_, .i a8_, .i a9_, .bool a10_], .cells (l13.flatMap qa.c)]) from (Sub.norm [] [some 0, some 1, some 2] (by rw [hB]; rfl) rfl (.keep (.slice rfl) (.keep (.same (qc.int _ _)) (.keep (.same (qc.int _ _)) (.keep (.osliceE rfl (qcO e_l13)) .nil)))) (.keep rfl (.same fa) rfl rfl (.keep rfl (.same (qf.cons (qc.str _) (qf.cons (qc.str _) (qf.cons (qc.int _ _) (qf.cons (qc.int _ _) (qf.cons (qc.int _ _) (qf.cons (qc.int _ _) (qf.cons (qc.int _ _) (qf.cons (qc.int _ _) (qf.cons (qc.bool _) qf.nil)))))))))) rfl rfl (.keep rfl (.same fa) rfl rfl .nil))))).trans (Sub.refl _))
          · rw [if_neg (of_ c12)] at g_v18
            obtain ⟨j14, e_j14, g_v18⟩ := bnd g_v18
            obtain ⟨u15, e_u15, g_v18⟩ := bnd g_v18
            obtain ⟨l16, e_l16, g_v18⟩ := bnd g_v18
            obtain rfl := Option.some.inj g_v18
            exact qp.sub (qp.ro fol [(2, (.done (.wslice 2 (j14 * 9) (l11.length - j14) 9))), (4, (.run (.i ((Nat.min ([(⟨a2_, a3_, a4_, a5_, a6_, a7_, a8_, a9_, a10_⟩ : qh)] : List qh).length (l11.length - j14) : Nat) : Int)) [.cells (a0_.flatMap qa.c), .cells [.str a2_, .str a3_, .i a4_, .i a5_, .i a6_, .i a7_, .i a8_, .i a9_, .bool a10_], .cells (l16.flatMap qa.c)] true))] [(0, .slice 0 0 a0_.length a0_.length 9), (1, .i a1_), (7, .i 1), (9, .oslice 2 l11.length 9)] [.cells (a0_.flatMap qa.c), .cells [.str a2_, .str a3_, .i a4_, .i a5_, .i a6_, .i a7_, .i a8_, .i a9_, .bool a10_], .cells (l16.flatMap qa.c)] [.done (.opt (zo Tryz.prog 29 (.oslice 2 l11.length 9) (some (.i a1_)) none none)) (.wslice 2 (j14 * 9) (l11.length - j14) 9), .run [2, 1] (xK Tryz.prog [29, 29] (.wslice 2 (j14 * 9) (l11.length - j14) 9) (.slice 1 0 1 1 9)) [.cells (a0_.flatMap qa.c), .cells [.str a2_, .str a3_, .i a4_, .i a5_, .i a6_, .i a7_, .i a8_, .i a9_, .bool a10_], .cells (l11.flatMap qa.c)] (.i ((Nat.min ([(⟨a2_, a3_, a4_, a5_, a6_, a7_, a8_, a9_, a10_⟩ : qh)] : List qh).length (l11.length - j14) : Nat) : Int)) [.cells (a0_.flatMap qa.c), .cells [.str a2_, .str a3_, .i a4_, .i a5_, .i a6_, .i a7_, .i a8_, .i a9_, .bool a10_], .cells (l16.flatMap qa.c)] true] (And.intro (qe5 xN (of_decide_eq_false c12) e_j14 (qgs e_u15)) (And.intro (qgo xN (E := qa) rfl (l := l11) (qbp (E := qa) (ys := ([(⟨a2_, a3_, a4_, a5_, a6_, a7_, a8_, a9_, a10_⟩ : qh)] : List qh)) rfl rfl rfl rfl) (qd9 e_j14) rfl rfl e_l16 rfl) trivial))) ((show Sub (ofG 95 [(0, .slice 0 0 a0_.length a0_.length 9), (1, .i a1_), (7, .i 1), (9, .oslice 2 l11.length 9)], [.cells (a0_.flatMap qa.c), .cells [.str a2_, .str a3_, .i a4_, .i a5_, .i a6_, .i a7_, .i a8_, .i a9_, .bool a10_], .cells (l16.flatMap qa.c)]) (ofG 95 [(0, .slice 0 0 a0_.length a0_.length 9), (1, .i a1_), (7, .i 1), (9, .oslice 2 l16.length 9)], [.cells (a0_.flatMap qa.c), .cells [.str a2_, .str a3_, .i a4_, .i a5_, .i a6_, .i a7_, .i a8_, .i a9_, .bool a10_], .cells (l16.flatMap qa.c)]) from (Sub.norm [] [some 0, some 1, some 2] (by rw [hB]; rfl) rfl (.keep (.slice rfl) (.keep (.same (qc.int _ _)) (.keep (.same (qc.int _ _)) (.keep (.osliceE rfl (qei (qd9 e_j14) e_l16)) .nil)))) (.keep rfl (.same fa) rfl rfl (.keep rfl (.same (qf.cons (qc.str _) (qf.cons (qc.str _) (qf.cons (qc.int _ _) (qf.cons (qc.int _ _) (qf.cons (qc.int _ _) (qf.cons (qc.int _ _) (qf.cons (qc.int _ _) (qf.cons (qc.int _ _) (qf.cons (qc.bool _) qf.nil)))))))))) rfl rfl (.keep rfl (.same fa) rfl rfl .nil))))).trans (Sub.refl _))
        intro _ hsub
        refine Goes.sub hsub ?_
        refine sq ?_
        obtain ⟨l24, g_v25, h⟩ := bnd h
        refine Goes.cutS (s' := (ofG 95 [(9, .oslice 2 l24.length 9)], [.cells (a0_.flatMap qa.c), .cells [.str a2_, .str a3_, .i a4_, .i a5_, .i a6_, .i a7_, .i a8_, .i a9_, .bool a10_], .cells (l24.flatMap qa.c)])) ?_ ?_
        · rcases Bool.eq_false_or_eq_true (decide ((w64 (a1_ + 1)) = 0)) with c19 | c19
          · rw [if_pos (ot c19)] at g_v25
            obtain ⟨l20, e_l20, g_v25⟩ := bnd g_v25
            obtain rfl := Option.some.inj g_v25
            exact qp.sub (qp.ro fol [(4, (.done (.oslice 2 l17.length 9))), (7, (.done (qay 0 9 a0_.length j2))), (8, (.run (.i ((Nat.min (a0_.drop j2).length l17.length : Nat) : Int)) [.cells (a0_.flatMap qa.c), .cells [.str a2_, .str a3_, .i a4_, .i a5_, .i a6_, .i a7_, .i a8_, .i a9_, .bool a10_], .cells (l20.flatMap qa.c)] true))] [(9, .oslice 2 l17.length 9)] [.cells (a0_.flatMap qa.c), .cells [.str a2_, .str a3_, .i a4_, .i a5_, .i a6_, .i a7_, .i a8_, .i a9_, .bool a10_], .cells (l20.flatMap qa.c)] [.done (.opt (zo Tryz.prog 29 (.oslice 2 l17.length 9) (some (.i (w64 (a1_ + 1)))) none none)) (.oslice 2 l17.length 9), .done (.opt (zo Tryz.prog 29 (.slice 0 0 a0_.length a0_.length 9) (some (.i a1_)) none none)) (qay 0 9 a0_.length j2), .run [2, 0] (xK Tryz.prog [29, 29] (.oslice 2 l17.length 9) (qay 0 9 a0_.length j2)) [.cells (a0_.flatMap qa.c), .cells [.str a2_, .str a3_, .i a4_, .i a5_, .i a6_, .i a7_, .i a8_, .i a9_, .bool a10_], .cells (l17.flatMap qa.c)] (.i ((Nat.min (a0_.drop j2).length l17.length : Nat) : Int)) [.cells (a0_.flatMap qa.c), .cells [.str a2_, .str a3_, .i a4_, .i a5_, .i a6_, .i a7_, .i a8_, .i a9_, .bool a10_], .cells (l20.flatMap qa.c)] true] (And.intro (qgl xN (ot c19)) (And.intro (qc0 xN e_j2) (And.intro (qf7 xN (E := qa) (l := l17) rfl (qec (E := qa) rfl rfl rfl (qd9 e_j2)) (.inr rfl) rfl rfl e_l20 rfl) trivial)))) ((show Sub (ofG 95 [(9, .oslice 2 l17.length 9)], [.cells (a0_.flatMap qa.c), .cells [.str a2_, .str a3_, .i a4_, .i a5_, .i a6_, .i a7_, .i a8_, .i a9_, .bool a10_], .cells (l20.flatMap qa.c)]) (ofG 95 [(9, .oslice 2 l20.length 9)], [.cells (a0_.flatMap qa.c), .cells [.str a2_, .str a3_, .i a4_, .i a5_, .i a6_, .i a7_, .i a8_, .i a9_, .bool a10_], .cells (l20.flatMap qa.c)]) from (Sub.norm [] [some 0, some 1, some 2] (by rw [hB]; rfl) rfl (.keep (.osliceE rfl (qcO e_l20)) .nil) (.keep rfl (.same fa) rfl rfl (.keep rfl (.same (qf.cons (qc.str _) (qf.cons (qc.str _) (qf.cons (qc.int _ _) (qf.cons (qc.int _ _) (qf.cons (qc.int _ _) (qf.cons (qc.int _ _) (qf.cons (qc.int _ _) (qf.cons (qc.int _ _) (qf.cons (qc.bool _) qf.nil)))))))))) rfl rfl (.keep rfl (.same fa) rfl rfl .nil))))).trans (Sub.refl _))
          · rw [if_neg (of_ c19)] at g_v25
            obtain ⟨j21, e_j21, g_v25⟩ := bnd g_v25
            obtain ⟨u22, e_u22, g_v25⟩ := bnd g_v25
            obtain ⟨l23, e_l23, g_v25⟩ := bnd g_v25
            obtain rfl := Option.some.inj g_v25
            exact qp.sub (qp.ro fol [(4, (.done (.wslice 2 (j21 * 9) (l17.length - j21) 9))), (7, (.done (qay 0 9 a0_.length j2))), (8, (.run (.i ((Nat.min (a0_.drop j2).length (l17.length - j21) : Nat) : Int)) [.cells (a0_.flatMap qa.c), .cells [.str a2_, .str a3_, .i a4_, .i a5_, .i a6_, .i a7_, .i a8_, .i a9_, .bool a10_], .cells (l23.flatMap qa.c)] true))] [(9, .oslice 2 l17.length 9)] [.cells (a0_.flatMap qa.c), .cells [.str a2_, .str a3_, .i a4_, .i a5_, .i a6_, .i a7_, .i a8_, .i a9_, .bool a10_], .cells (l23.flatMap qa.c)] [.done (.opt (zo Tryz.prog 29 (.oslice 2 l17.length 9) (some (.i (w64 (a1_ + 1)))) none none)) (.wslice 2 (j21 * 9) (l17.length - j21) 9), .done (.opt (zo Tryz.prog 29 (.slice 0 0 a0_.length a0_.length 9) (some (.i a1_)) none none)) (qay 0 9 a0_.length j2), .run [2, 0] (xK Tryz.prog [29, 29] (.wslice 2 (j21 * 9) (l17.length - j21) 9) (qay 0 9 a0_.length j2)) [.cells (a0_.flatMap qa.c), .cells [.str a2_, .str a3_, .i a4_, .i a5_, .i a6_, .i a7_, .i a8_, .i a9_, .bool a10_], .cells (l17.flatMap qa.c)] (.i ((Nat.min (a0_.drop j2).length (l17.length - j21) : Nat) : Int)) [.cells (a0_.flatMap qa.c), .cells [.str a2_, .str a3_, .i a4_, .i a5_, .i a6_, .i a7_, .i a8_, .i a9_, .bool a10_], .cells (l23.flatMap qa.c)] true] (And.intro (qe5 xN (of_decide_eq_false c19) e_j21 (qgs e_u22)) (And.intro (qc0 xN e_j2) (And.intro (qgo xN (E := qa) rfl (l := l17) (qec (E := qa) rfl rfl rfl (qd9 e_j2)) (qd9 e_j21) rfl rfl e_l23 rfl) trivial)))) ((show Sub (ofG 95 [(9, .oslice 2 l17.length 9)], [.cells (a0_.flatMap qa.c), .cells [.str a2_, .str a3_, .i a4_, .i a5_, .i a6_, .i a7_, .i a8_, .i a9_, .bool a10_], .cells (l23.flatMap qa.c)]) (ofG 95 [(9, .oslice 2 l23.length 9)], [.cells (a0_.flatMap qa.c), .cells [.str a2_, .str a3_, .i a4_, .i a5_, .i a6_, .i a7_, .i a8_, .i a9_, .bool a10_], .cells (l23.flatMap qa.c)]) from (Sub.norm [] [some 0, some 1, some 2] (by rw [hB]; rfl) rfl (.keep (.osliceE rfl (qei (qd9 e_j21) e_l23)) .nil) (.keep rfl (.same fa) rfl rfl (.keep rfl (.same (qf.cons (qc.str _) (qf.cons (qc.str _) (qf.cons (qc.int _ _) (qf.cons (qc.int _ _) (qf.cons (qc.int _ _) (qf.cons (qc.int _ _) (qf.cons (qc.int _ _) (qf.cons (qc.int _ _) (qf.cons (qc.bool _) qf.nil)))))))))) rfl rfl (.keep rfl (.same fa) rfl rfl .nil))))).trans (Sub.refl _))
        intro _ hsub
        refine Goes.sub hsub ?_
        refine sq ?_
        refine Goes.rg fol [(6, .oslice 2 l24.length 9)] [.cells (a0_.flatMap qa.c), .cells [.str a2_, .str a3_, .i a4_, .i a5_, .i a6_, .i a7_, .i a8_, .i a9_, .bool a10_], .cells (l24.flatMap qa.c)] ?_
        refine Goes.ret ?_
        obtain rfl := Option.some.inj h
        exact (Goes.retH (xs := [.oslice 2 l24.length 9]) (by kernel_rfl) (Sub.norm [2] [some 0, some 1] (by rw [hB]; rfl) rfl (.keep (.frz (Fz.os (E := qa) rfl rfl (Nat.le_of_ble_eq_true rfl)) (ql qa _)) .nil) (.lost (.keep rfl (.same (qf.cons (qc.str _) (qf.cons (qc.str _) (qf.cons (qc.int _ _) (qf.cons (qc.int _ _) (qf.cons (qc.int _ _) (qf.cons (qc.int _ _) (qf.cons (qc.int _ _) (qf.cons (qc.int _ _) (qf.cons (qc.bool _) qf.nil)))))))))) rfl rfl .nil))))
      · rw [if_neg (of_ c10)] at h
        cases h
def vH (N : Nat) (a0_ : Int) (a1_ : List qh) (a2_ : Int) (a3_ : Str) (a4_ : List Str) (a5_ : List Int) (a6_ : Str) : Option ((List qh) × Int) :=
  (idx a5_ 0).bind fun x3 =>
  (idx a5_ 1).bind fun x4 =>
  (idx a5_ 2).bind fun x5 =>
  (idx a4_ 0).bind fun x6 =>
  (qX N (⟨a0_, a1_⟩ : zA) x6).bind fun r7 =>
  (qZ r7.2 9).bind fun r8 =>
  (zq x4 1 9999).bind fun r9 =>
  (zq x5 1 9999).bind fun r10 =>
  (zD (w64 (x3 + x4))).bind fun r11 =>
  (qZ (decide ((a1_.length : Int) ≥ 256)) 5).bind fun r12 =>
  (kY N ([r8, r9, r10, r11, r12] : List Int)).bind fun r13 =>
  if (!decide (r13 = 0)) = true then
  some (a1_, r13)
  else
  (idx a4_ 1).bind fun x15 =>
  (zt a1_ r7.1 x6 x15 x3 (w64 (x3 + x4)) x5 0 0 0 false).bind fun s_17 =>
  some (s_17, 0)
theorem qb0 (N : Nat) (a0_ : Int) (a1_ : List qh) (a2_ : Int) (a3_ : Str) (a4_ : List Str) (a5_ : List Int) (a6_ : Str) {l1 : List qh} {e_2 : Int} (h : vH N a0_ a1_ a2_ a3_ a4_ a5_ a6_ = some (l1, e_2)) : qw Tryz.prog (.fn 141) [.agg [.i a0_, .slice 0 0 a1_.length a1_.length 9], .agg [.i a2_, .str a3_, vl encS a4_, vl encI a5_, .str a6_]] [.cells (a1_.flatMap qa.c)] (.tuple [.agg [.i a0_, vl qa l1], .i e_2]) [.dead] := by
  unfold vH at h
  refine Goes.fnH Tryz.func141 rfl rfl (m := 77) rfl (rs := [.cell 4 31, .tmp 5]) rfl (l := [(0, .agg [.i a0_, .slice 0 0 a1_.length a1_.length 9]), (1, .agg [.i a2_, .str a3_, vl encS a4_, vl encI a5_, .str a6_])]) rfl ?_
  intro B hB
  refine sq ?_
  refine Goes.rg fol [(2, .ptr 1 0), (3, .ptr 2 0), (4, .ptr 3 0)] [.cells (a1_.flatMap qa.c), .cells [.i a0_, .slice 0 0 a1_.length a1_.length 9], .cells [.i a2_, .str a3_, vl encS a4_, vl encI a5_, .str a6_], .cells [.i 0, .nilslice]] ?_
  refine sq ?_
  obtain ⟨x3, e_x3, h⟩ := bnd h
  obtain ⟨x4, e_x4, h⟩ := bnd h
  obtain ⟨x5, e_x5, h⟩ := bnd h
  refine Goes.ro fol [(2, (.done (.fptr (a5_.flatMap encI.c) ((0 : Int).toNat * 1 + 0)))), (3, (.done (.i x3))), (6, (.done (.fptr (a5_.flatMap encI.c) ((1 : Int).toNat * 1 + 0)))), (7, (.done (.i x4))), (10, (.done (.fptr (a5_.flatMap encI.c) ((2 : Int).toNat * 1 + 0)))), (11, (.done (.i x5)))] [(2, .ptr 1 0), (3, .ptr 2 0), (4, .ptr 3 0), (6, .i x3), (7, .i x4), (8, .i x5)] [.cells (a1_.flatMap qa.c), .cells [.i a0_, .slice 0 0 a1_.length a1_.length 9], .cells [.i a2_, .str a3_, vl encS a4_, vl encI a5_, .str a6_], .cells [.i 0, .nilslice]] [.done (.opt (qj Tryz.prog 24 (vl encI a5_) (.i 0))) (.fptr (a5_.flatMap encI.c) ((0 : Int).toNat * 1 + 0)), .done (qz Tryz.prog 3 (.fptr (a5_.flatMap encI.c) ((0 : Int).toNat * 1 + 0))) (.i x3), .done (.opt (qj Tryz.prog 24 (vl encI a5_) (.i 1))) (.fptr (a5_.flatMap encI.c) ((1 : Int).toNat * 1 + 0)), .done (qz Tryz.prog 3 (.fptr (a5_.flatMap encI.c) ((1 : Int).toNat * 1 + 0))) (.i x4), .done (.opt (qj Tryz.prog 24 (vl encI a5_) (.i 2))) (.fptr (a5_.flatMap encI.c) ((2 : Int).toNat * 1 + 0)), .done (qz Tryz.prog 3 (.fptr (a5_.flatMap encI.c) ((2 : Int).toNat * 1 + 0))) (.i x5)] (And.intro (qF vN (E := encI) rfl e_x3) (And.intro (qJ ce3 (E := encI) rfl e_x3 (Nat.le_of_ble_eq_true rfl) rfl) (And.intro (qF vN (E := encI) rfl e_x4) (And.intro (qJ ce3 (E := encI) rfl e_x4 (Nat.le_of_ble_eq_true rfl) rfl) (And.intro (qF vN (E := encI) rfl e_x5) (And.intro (qJ ce3 (E := encI) rfl e_x5 (Nat.le_of_ble_eq_true rfl) rfl) trivial)))))) ?_
  refine sq ?_
  obtain ⟨x6, e_x6, h⟩ := bnd h
  obtain ⟨r7, e_r7, h⟩ := bnd h
  refine Goes.ro fol [(3, (.done (.fptr (a4_.flatMap encS.c) ((0 : Int).toNat * 1 + 0)))), (4, (.done (.str x6))), (5, (.call [0] [.agg [.i a0_, vl qa a1_], .str x6] (.tuple [.i r7.1, .bool r7.2])))] [(2, .ptr 1 0), (3, .ptr 2 0), (4, .ptr 3 0), (6, .i x3), (7, .i x4), (8, .i x5), (9, .i r7.1), (10, .bool r7.2)] [.cells (a1_.flatMap qa.c), .cells [.i a0_, .slice 0 0 a1_.length a1_.length 9], .cells [.i a2_, .str a3_, vl encS a4_, vl encI a5_, .str a6_], .cells [.i 0, .nilslice]] [.done (.opt (qj Tryz.prog 23 (vl encS a4_) (.i 0))) (.fptr (a4_.flatMap encS.c) ((0 : Int).toNat * 1 + 0)), .done (qz Tryz.prog 9 (.fptr (a4_.flatMap encS.c) ((0 : Int).toNat * 1 + 0))) (.str x6), .call 93 [.agg [.i a0_, .slice 0 0 a1_.length a1_.length 9], .str x6] [.cells (a1_.flatMap qa.c), .cells [.i a0_, .slice 0 0 a1_.length a1_.length 9], .cells [.i a2_, .str a3_, vl encS a4_, vl encI a5_, .str a6_], .cells [.i 0, .nilslice]] [0] [.agg [.i a0_, vl qa a1_], .str x6] (.tuple [.i r7.1, .bool r7.2])] (And.intro (qF xe (E := encS) rfl e_x6) (And.intro (qJ ce9 (E := encS) rfl e_x6 (Nat.le_of_ble_eq_true rfl) rfl) (And.intro (yg (FzL.cons (Fz.agg (FzL.cons (Fz.still (Still.int 10 _ _)) (FzL.cons (Fz.sl (E := qa) rfl rfl (Nat.le_of_ble_eq_true rfl)) FzL.nil))) (FzL.cons (Fz.still (Still.str 11 _)) FzL.nil)) (ja N (⟨a0_, a1_⟩ : zA) x6 e_r7) (Still.tuple (AllST.cons (Still.int 10 _ _) (AllST.cons (Still.bool 10 _) AllST.nil))) rfl) trivial))) ?_
  refine sq ?_
  refine sq ?_
  obtain ⟨r8, e_r8, h⟩ := bnd h
  obtain ⟨r9, e_r9, h⟩ := bnd h
  obtain ⟨r10, e_r10, h⟩ := bnd h
  obtain ⟨r11, e_r11, h⟩ := bnd h
  obtain ⟨r12, e_r12, h⟩ := bnd h
  obtain ⟨r13, e_r13, h⟩ := bnd h
  refine Goes.ro fol [(1, (.call [] [.bool r7.2, .i 9] (.i r8))), (3, (.call [] [.i x4, .i 1, .i 9999] (.i r9))), (5, (.call [] [.i x5, .i 1, .i 9999] (.i r10))), (9, (.call [] [.i (w64 (x3 + x4))] (.i r11))), (14, (.call [] [.bool (decide ((a1_.length : Int) ≥ 256)), .i 5] (.i r12))), (16, (.call [4] [vl encI ([r8, r9, r10, r11, r12] : List Int)] (.i r13)))] [(2, .ptr 1 0), (3, .ptr 2 0), (4, .ptr 3 0), (6, .i x3), (7, .i x4), (8, .i x5), (9, .i r7.1), (11, .i r13)] [.cells (a1_.flatMap qa.c), .cells [.i a0_, .slice 0 0 a1_.length a1_.length 9], .cells [.i a2_, .str a3_, vl encS a4_, vl encI a5_, .str a6_], .cells [.i 0, .nilslice], .cells [.i r8, .i r9, .i r10, .i r11, .i r12]] [.call 88 [.bool r7.2, .i 9] [.cells (a1_.flatMap qa.c), .cells [.i a0_, .slice 0 0 a1_.length a1_.length 9], .cells [.i a2_, .str a3_, vl encS a4_, vl encI a5_, .str a6_], .cells [.i 0, .nilslice]] [] [.bool r7.2, .i 9] (.i r8), .call 87 [.i x4, .i 1, .i 9999] [.cells (a1_.flatMap qa.c), .cells [.i a0_, .slice 0 0 a1_.length a1_.length 9], .cells [.i a2_, .str a3_, vl encS a4_, vl encI a5_, .str a6_], .cells [.i 0, .nilslice]] [] [.i x4, .i 1, .i 9999] (.i r9), .call 87 [.i x5, .i 1, .i 9999] [.cells (a1_.flatMap qa.c), .cells [.i a0_, .slice 0 0 a1_.length a1_.length 9], .cells [.i a2_, .str a3_, vl encS a4_, vl encI a5_, .str a6_], .cells [.i 0, .nilslice]] [] [.i x5, .i 1, .i 9999] (.i r10), .call 94 [.i (w64 (x3 + x4))] [.cells (a1_.flatMap qa.c), .cells [.i a0_, .slice 0 0 a1_.length a1_.length 9], .cells [.i a2_, .str a3_, vl encS a4_, vl encI a5_, .str a6_], .cells [.i 0, .nilslice]] [] [.i (w64 (x3 + x4))] (.i r11), .call 88 [.bool (decide ((a1_.length : Int) ≥ 256)), .i 5] [.cells (a1_.flatMap qa.c), .cells [.i a0_, .slice 0 0 a1_.length a1_.length 9], .cells [.i a2_, .str a3_, vl encS a4_, vl encI a5_, .str a6_], .cells [.i 0, .nilslice]] [] [.bool (decide ((a1_.length : Int) ≥ 256)), .i 5] (.i r12), .call 86 [.slice 4 0 5 5 1] [.cells (a1_.flatMap qa.c), .cells [.i a0_, .slice 0 0 a1_.length a1_.length 9], .cells [.i a2_, .str a3_, vl encS a4_, vl encI a5_, .str a6_], .cells [.i 0, .nilslice], .cells [.i r8, .i r9, .i r10, .i r11, .i r12]] [4] [vl encI ([r8, r9, r10, r11, r12] : List Int)] (.i r13)] (And.intro (qo (AllST.cons (Still.bool 11 _) (AllST.cons (Still.int 11 _ _) AllST.nil)) (qI r7.2 9 e_r8) (Still.int 11 _ _)) (And.intro (qo (AllST.cons (Still.int 11 _ _) (AllST.cons (Still.int 11 _ _) (AllST.cons (Still.int 11 _ _) AllST.nil))) (zM x4 1 9999 e_r9) (Still.int 11 _ _)) (And.intro (qo (AllST.cons (Still.int 11 _ _) (AllST.cons (Still.int 11 _ _) (AllST.cons (Still.int 11 _ _) AllST.nil))) (zM x5 1 9999 e_r10) (Still.int 11 _ _)) (And.intro (qo (AllST.cons (Still.int 11 _ _) AllST.nil) (jZ (w64 (x3 + x4)) e_r11) (Still.int 11 _ _)) (And.intro (qo (AllST.cons (Still.bool 11 _) (AllST.cons (Still.int 11 _ _) AllST.nil)) (qI (decide ((a1_.length : Int) ≥ 256)) 5 e_r12) (Still.int 11 _ _)) (And.intro (yg (FzL.cons (Fz.lit rfl rfl (FzL.still (AllST.cons (Still.int 10 _ _) (AllST.cons (Still.int 10 _ _) (AllST.cons (Still.int 10 _ _) (AllST.cons (Still.int 10 _ _) (AllST.cons (Still.int 10 _ _) AllST.nil))))))) FzL.nil) (zC N ([r8, r9, r10, r11, r12] : List Int) e_r13) (Still.int 11 _ _) rfl) trivial)))))) ?_
  refine sq ?_
  refine Goes.rg fol [(2, .ptr 1 0), (3, .ptr 2 0), (4, .ptr 3 0), (6, .i x3), (7, .i x4), (8, .i x5), (9, .i r7.1), (11, .i r13), (52, .bool (!decide (r13 = 0)))] [.cells (a1_.flatMap qa.c), .cells [.i a0_, .slice 0 0 a1_.length a1_.length 9], .cells [.i a2_, .str a3_, vl encS a4_, vl encI a5_, .str a6_], .cells [.i 0, .nilslice], .cells [.i r8, .i r9, .i r10, .i r11, .i r12]] ?_
  refine Goes.ifB (b := !decide (r13 = 0)) (by kernel_rfl) (fun c14 => ?_) (fun c14 => ?_)
  · rw [if_pos (c14)] at h
    refine sq ?_
    refine Goes.rg fol [(4, .ptr 3 0), (5, .i r13)] [.cells (a1_.flatMap qa.c), .cells [.i a0_, .slice 0 0 a1_.length a1_.length 9], .cells [.i a2_, .str a3_, vl encS a4_, vl encI a5_, .str a6_], .cells [.i a0_, .slice 0 0 a1_.length a1_.length 9], .cells [.i r8, .i r9, .i r10, .i r11, .i r12]] ?_
    refine Goes.ret ?_
    simp only [Option.some.injEq, Prod.mk.injEq] at h
    obtain ⟨rfl, rfl⟩ := h
    exact (Goes.retH (xs := [.agg [.i a0_, .slice 0 0 a1_.length a1_.length 9], .i r13]) (by kernel_rfl) (Sub.norm [0] [some 0] (by rw [hB]; rfl) rfl (.keep (.tupleL (qg.cons (.aggL (qg.cons (.same (qc.int _ _)) (qg.cons (.frz (Fz.sl (E := qa) rfl rfl (Nat.le_of_ble_eq_true rfl)) (ql qa _)) qg.nil))) (qg.cons (.same (qc.int _ _)) qg.nil))) .nil) (.lost .nil)))
  · rw [if_neg (by rw [c14]; exact Bool.false_ne_true)] at h
    refine Goes.skip ?_
    refine sq ?_
    obtain ⟨x15, e_x15, h⟩ := bnd h
    refine Goes.ro fol [(2, (.done (.fptr (a4_.flatMap encS.c) ((0 : Int).toNat * 1 + 0)))), (3, (.done (.str x6))), (6, (.done (.fptr (a4_.flatMap encS.c) ((1 : Int).toNat * 1 + 0)))), (7, (.done (.str x15)))] [(2, .ptr 1 0), (4, .ptr 3 0), (9, .i r7.1), (12, .ptr 5 0)] [.cells (a1_.flatMap qa.c), .cells [.i a0_, .slice 0 0 a1_.length a1_.length 9], .cells [.i a2_, .str a3_, vl encS a4_, vl encI a5_, .str a6_], .cells [.i 0, .nilslice], .cells [.i r8, .i r9, .i r10, .i r11, .i r12], .cells [.str x6, .str x15, .i x3, .i (w64 (x3 + x4)), .i x5, .i 0, .i 0, .i 0, .bool false]] [.done (.opt (qj Tryz.prog 23 (vl encS a4_) (.i 0))) (.fptr (a4_.flatMap encS.c) ((0 : Int).toNat * 1 + 0)), .done (qz Tryz.prog 9 (.fptr (a4_.flatMap encS.c) ((0 : Int).toNat * 1 + 0))) (.str x6), .done (.opt (qj Tryz.prog 23 (vl encS a4_) (.i 1))) (.fptr (a4_.flatMap encS.c) ((1 : Int).toNat * 1 + 0)), .done (qz Tryz.prog 9 (.fptr (a4_.flatMap encS.c) ((1 : Int).toNat * 1 + 0))) (.str x15)] (And.intro (qF xe (E := encS) rfl e_x6) (And.intro (qJ ce9 (E := encS) rfl e_x6 (Nat.le_of_ble_eq_true rfl) rfl) (And.intro (qF xe (E := encS) rfl e_x15) (And.intro (qJ ce9 (E := encS) rfl e_x15 (Nat.le_of_ble_eq_true rfl) rfl) trivial)))) ?_
    refine sq ?_
    obtain ⟨s_17, e_r16, h⟩ := bnd h
    refine Goes.ro fol [(5, (.callH [0, 6] (vl qa s_17) [.dead, .cells [.i a0_, .slice 0 0 a1_.length a1_.length 9], .cells [.i a2_, .str a3_, vl encS a4_, vl encI a5_, .str a6_], .cells [.i 0, .nilslice], .cells [.i r8, .i r9, .i r10, .i r11, .i r12], .cells [.str x6, .str x15, .i x3, .i (w64 (x3 + x4)), .i x5, .i 0, .i 0, .i 0, .bool false], .cells [.str x6, .str x15, .i x3, .i (w64 (x3 + x4)), .i x5, .i 0, .i 0, .i 0, .bool false]]))] [(2, .ptr 1 0), (4, .ptr 3 0)] [.dead, .cells [.i a0_, vl qa s_17], .cells [.i a2_, .str a3_, vl encS a4_, vl encI a5_, .str a6_], .cells [.i 0, .nilslice], .cells [.i r8, .i r9, .i r10, .i r11, .i r12], .cells [.str x6, .str x15, .i x3, .i (w64 (x3 + x4)), .i x5, .i 0, .i 0, .i 0, .bool false], .cells [.str x6, .str x15, .i x3, .i (w64 (x3 + x4)), .i x5, .i 0, .i 0, .i 0, .bool false]] [.callH 181 [.slice 0 0 a1_.length a1_.length 9, .i r7.1, .slice 6 0 1 1 9] [.cells (a1_.flatMap qa.c), .cells [.i a0_, .slice 0 0 a1_.length a1_.length 9], .cells [.i a2_, .str a3_, vl encS a4_, vl encI a5_, .str a6_], .cells [.i 0, .nilslice], .cells [.i r8, .i r9, .i r10, .i r11, .i r12], .cells [.str x6, .str x15, .i x3, .i (w64 (x3 + x4)), .i x5, .i 0, .i 0, .i 0, .bool false], .cells [.str x6, .str x15, .i x3, .i (w64 (x3 + x4)), .i x5, .i 0, .i 0, .i 0, .bool false]] [0, 6] (vl qa s_17) [.dead, .cells [.i a0_, .slice 0 0 a1_.length a1_.length 9], .cells [.i a2_, .str a3_, vl encS a4_, vl encI a5_, .str a6_], .cells [.i 0, .nilslice], .cells [.i r8, .i r9, .i r10, .i r11, .i r12], .cells [.str x6, .str x15, .i x3, .i (w64 (x3 + x4)), .i x5, .i 0, .i 0, .i 0, .bool false], .cells [.str x6, .str x15, .i x3, .i (w64 (x3 + x4)), .i x5, .i 0, .i 0, .i 0, .bool false]]] (And.intro (jf [some 0, some 6] [none, none, none, none, none, none, some 1] (xz a1_ r7.1 x6 x15 x3 (w64 (x3 + x4)) x5 0 0 0 false e_r16) (.keep rfl (.same fa) rfl rfl (.keep rfl (.cells (qg.cons (.same (qc.str _)) (qg.cons (.same (qc.str _)) (qg.cons (.same (qc.int _ _)) (qg.cons (.same (qc.int _ _)) (qg.cons (.same (qc.int _ _)) (qg.cons (.same (qc.int _ _)) (qg.cons (.same (qc.int _ _)) (qg.cons (.same (qc.int _ _)) (qg.cons (.same (qc.bool _)) qg.nil)))))))))) rfl rfl .nil)) rfl rfl (.dead (.old rfl rfl (.old rfl rfl (.old rfl rfl (.old rfl rfl (.old rfl rfl (.back rfl rfl (.cells (qg.cons (.same (qc.str _)) (qg.cons (.same (qc.str _)) (qg.cons (.same (qc.int _ _)) (qg.cons (.same (qc.int _ _)) (qg.cons (.same (qc.int _ _)) (qg.cons (.same (qc.int _ _)) (qg.cons (.same (qc.int _ _)) (qg.cons (.same (qc.int _ _)) (qg.cons (.same (qc.bool _)) qg.nil)))))))))) rfl .nil))))))) (qg.cons (.slice rfl) (qg.cons (.same (qc.int _ _)) (qg.cons (.slice rfl) qg.nil))) (.same (ql qa _)) rfl) trivial) ?_
    refine sq ?_
    refine Goes.rg fol [(4, .ptr 3 0), (5, .i 0)] [.dead, .cells [.i a0_, vl qa s_17], .cells [.i a2_, .str a3_, vl encS a4_, vl encI a5_, .str a6_], .cells [.i a0_, vl qa s_17], .cells [.i r8, .i r9, .i r10, .i r11, .i r12], .cells [.str x6, .str x15, .i x3, .i (w64 (x3 + x4)), .i x5, .i 0, .i 0, .i 0, .bool false], .cells [.str x6, .str x15, .i x3, .i (w64 (x3 + x4)), .i x5, .i 0, .i 0, .i 0, .bool false]] ?_
    refine Goes.ret ?_
    simp only [Option.some.injEq, Prod.mk.injEq] at h
    obtain ⟨rfl, rfl⟩ := h
    exact (Goes.retH (xs := [.agg [.i a0_, vl qa s_17], .i 0]) (by kernel_rfl) (Sub.norm [] [some 0] (by rw [hB]; rfl) rfl (.keep (.tupleL (qg.cons (.aggL (qg.cons (.same (qc.int _ _)) (qg.cons (.same (ql qa _)) qg.nil))) (qg.cons (.same (qc.int _ _)) qg.nil))) .nil) (.lost .nil)))
def ky (N : Nat) (a0_ : Int) (a1_ : List qh) (a2_ : Str) (a3_ : Int) : Option (Int × Bool × Int) :=
  (qX N (⟨a0_, a1_⟩ : zA) a2_).bind fun r4 =>
  if (!r4.2) = true then
  some (0, false, 10)
  else
  (idx a1_ r4.1).bind fun x6 =>
  (kE x6 a3_).bind fun r7 =>
  (qZ r7 20).bind fun r8 =>
  some (r4.1, true, r8)
theorem jl (N : Nat) (a0_ : Int) (a1_ : List qh) (a2_ : Str) (a3_ : Int) {i1 : Int} {ok2 : Bool} {name_3 : Int} (h : ky N a0_ a1_ a2_ a3_ = some (i1, ok2, name_3)) : qw Tryz.prog (.fn 182) [.agg [.i a0_, .slice 0 0 a1_.length a1_.length 9], .str a2_, .i a3_] [.cells (a1_.flatMap qa.c)] (.tuple [pz ok2 0 ((i1 : Int).toNat * 9 + 0), .i name_3]) [.cells (a1_.flatMap qa.c)] := by
  unfold ky at h
  refine Goes.fnH Tryz.func182 rfl rfl (m := 30) rfl (rs := [.tmp 6, .tmp 7]) rfl (l := [(0, .agg [.i a0_, .slice 0 0 a1_.length a1_.length 9]), (1, .str a2_), (2, .i a3_)]) rfl ?_
  intro B hB
  refine sq ?_
  refine Goes.rg fol [(1, .str a2_), (2, .i a3_), (3, .ptr 1 0)] [.cells (a1_.flatMap qa.c), .cells [.i a0_, .slice 0 0 a1_.length a1_.length 9]] ?_
  refine sq ?_
  obtain ⟨r4, e_r4, h⟩ := bnd h
  refine Goes.ro fol [(2, (.call [0] [.agg [.i a0_, vl qa a1_], .str a2_] (.tuple [.i r4.1, .bool r4.2])))] [(2, .i a3_), (3, .ptr 1 0), (8, .i r4.1), (9, .bool r4.2)] [.cells (a1_.flatMap qa.c), .cells [.i a0_, .slice 0 0 a1_.length a1_.length 9]] [.call 93 [.agg [.i a0_, .slice 0 0 a1_.length a1_.length 9], .str a2_] [.cells (a1_.flatMap qa.c), .cells [.i a0_, .slice 0 0 a1_.length a1_.length 9]] [0] [.agg [.i a0_, vl qa a1_], .str a2_] (.tuple [.i r4.1, .bool r4.2])] (And.intro (yg (FzL.cons (Fz.agg (FzL.cons (Fz.still (Still.int 10 _ _)) (FzL.cons (Fz.sl (E := qa) rfl rfl (Nat.le_of_ble_eq_true rfl)) FzL.nil))) (FzL.cons (Fz.still (Still.str 11 _)) FzL.nil)) (ja N (⟨a0_, a1_⟩ : zA) a2_ e_r4) (Still.tuple (AllST.cons (Still.int 10 _ _) (AllST.cons (Still.bool 10 _) AllST.nil))) rfl) trivial) ?_
  refine sq ?_
  refine sq ?_
  refine Goes.rg fol [(2, .i a3_), (3, .ptr 1 0), (8, .i r4.1), (18, .bool (!r4.2))] [.cells (a1_.flatMap qa.c), .cells [.i a0_, .slice 0 0 a1_.length a1_.length 9]] ?_
  refine Goes.ifB (b := !r4.2) (by kernel_rfl) (fun c5 => ?_) (fun c5 => ?_)
  · rw [if_pos (c5)] at h
    refine sq ?_
    refine Goes.rg fol [(6, .nilptr), (7, .i 10)] [.cells (a1_.flatMap qa.c), .cells [.i a0_, .slice 0 0 a1_.length a1_.length 9]] ?_
    refine Goes.ret ?_
    simp only [Option.some.injEq, Prod.mk.injEq] at h
    obtain ⟨rfl, rfl, rfl⟩ := h
    exact (Goes.retH (xs := [.nilptr, .i 10]) (by kernel_rfl) (Sub.norm [] [some 0] (by rw [hB]; rfl) rfl (.keep (.tupleL (qg.cons (qK.pz0) (qg.cons (.same (qc.int _ _)) qg.nil))) .nil) (.keep rfl (.same fa) rfl rfl .nil)))
  · rw [if_neg (by rw [c5]; exact Bool.false_ne_true)] at h
    refine Goes.skip ?_
    refine sq ?_
    obtain ⟨x6, e_x6, h⟩ := bnd h
    refine Goes.ro fol [(3, (.done (.ptr 0 ((r4.1 : Int).toNat * 9 + 0))))] [(2, .i a3_), (10, .ptr 0 ((r4.1 : Int).toNat * 9 + 0))] [.cells (a1_.flatMap qa.c), .cells [.i a0_, .slice 0 0 a1_.length a1_.length 9]] [.done (.opt (qj Tryz.prog 29 (.slice 0 0 a1_.length a1_.length 9) (.i r4.1))) (.ptr 0 ((r4.1 : Int).toNat * 9 + 0))] (And.intro (qiW xN e_x6) trivial) ?_
    refine sq ?_
    obtain ⟨r7, e_r7, h⟩ := bnd h
    obtain ⟨r8, e_r8, h⟩ := bnd h
    refine Goes.ro fol [(3, (.run (.agg [.str x6.Name, .str x6.Batch, .i x6.Born, .i x6.Last, .i x6.Uses, .i x6.Used, .i x6.Limit, .i x6.Until, .bool x6.Gone]) [.cells (a1_.flatMap qa.c), .cells [.i a0_, .slice 0 0 a1_.length a1_.length 9]] false)), (5, (.call [] [.agg [.str x6.Name, .str x6.Batch, .i x6.Born, .i x6.Last, .i x6.Uses, .i x6.Used, .i x6.Limit, .i x6.Until, .bool x6.Gone], .i a3_] (.bool r7))), (6, (.call [] [.bool r7, .i 20] (.i r8)))] [(6, .ptr 0 ((r4.1 : Int).toNat * 9 + 0)), (7, .i r8)] [.cells (a1_.flatMap qa.c), .cells [.i a0_, .slice 0 0 a1_.length a1_.length 9]] [.run [0] (qz Tryz.prog 68 (.ptr 0 ((r4.1 : Int).toNat * 9 + 0))) [.cells (a1_.flatMap qa.c), .cells [.i a0_, .slice 0 0 a1_.length a1_.length 9]] (.agg [.str x6.Name, .str x6.Batch, .i x6.Born, .i x6.Last, .i x6.Uses, .i x6.Used, .i x6.Limit, .i x6.Until, .bool x6.Gone]) [.cells (a1_.flatMap qa.c), .cells [.i a0_, .slice 0 0 a1_.length a1_.length 9]] false, .call 95 [.agg [.str x6.Name, .str x6.Batch, .i x6.Born, .i x6.Last, .i x6.Uses, .i x6.Used, .i x6.Limit, .i x6.Until, .bool x6.Gone], .i a3_] [.cells (a1_.flatMap qa.c), .cells [.i a0_, .slice 0 0 a1_.length a1_.length 9]] [] [.agg [.str x6.Name, .str x6.Batch, .i x6.Born, .i x6.Last, .i x6.Uses, .i x6.Used, .i x6.Limit, .i x6.Until, .bool x6.Gone], .i a3_] (.bool r7), .call 88 [.bool r7, .i 20] [.cells (a1_.flatMap qa.c), .cells [.i a0_, .slice 0 0 a1_.length a1_.length 9]] [] [.bool r7, .i 20] (.i r8)] (And.intro (qgf qii (E := qa) (l := a1_) rfl rfl e_x6) (And.intro (qo (AllST.cons (Still.agg (AllST.cons (Still.str 10 _) (AllST.cons (Still.str 10 _) (AllST.cons (Still.int 10 _ _) (AllST.cons (Still.int 10 _ _) (AllST.cons (Still.int 10 _ _) (AllST.cons (Still.int 10 _ _) (AllST.cons (Still.int 10 _ _) (AllST.cons (Still.int 10 _ _) (AllST.cons (Still.bool 10 _) AllST.nil)))))))))) (AllST.cons (Still.int 11 _ _) AllST.nil)) (zZ x6 a3_ e_r7) (Still.bool 11 _)) (And.intro (qo (AllST.cons (Still.bool 11 _) (AllST.cons (Still.int 11 _ _) AllST.nil)) (qI r7 20 e_r8) (Still.int 11 _ _)) trivial))) ?_
    refine Goes.ret ?_
    simp only [Option.some.injEq, Prod.mk.injEq] at h
    obtain ⟨rfl, rfl, rfl⟩ := h
    exact (Goes.retH (xs := [.ptr 0 ((r4.1 : Int).toNat * 9 + 0), .i r8]) (by kernel_rfl) (Sub.norm [] [some 0] (by rw [hB]; rfl) rfl (.keep (.tupleL (qg.cons ((qK.pz1 rfl)) (qg.cons (.same (qc.int _ _)) qg.nil))) .nil) (.keep rfl (.same fa) rfl rfl .nil)))
def jP (N : Nat) (a0_ : Int) (a1_ : List qh) (a2_ : Int) (a3_ : Str) (a4_ : List Str) (a5_ : List Int) (a6_ : Str) : Option ((List qh) × Int) :=
  (idx a5_ 0).bind fun x3 =>
  (idx a5_ 1).bind fun x4 =>
  (idx a4_ 0).bind fun x5 =>
  (ky N a0_ a1_ x5 x3).bind fun (i7, ok8, name_9) =>
  (zq x4 2 999999999).bind fun r10 =>
  (kY N ([name_9, r10] : List Int)).bind fun r11 =>
  if (!decide (r11 = 0)) = true then
  some (a1_, r11)
  else
  ((match ok8 with
  | false =>
  none
  | true =>
  (idx a1_ i7).bind fun x13 =>
  (put a1_ i7 (⟨x13.Name, x13.Batch, x13.Born, x13.Last, x13.Uses, x13.Used, w64 (x4.tdiv 2), x13.Until, x13.Gone⟩ : qh)).bind fun l14 =>
  (idx l14 i7).bind fun x15 =>
  (put l14 i7 (⟨x15.Name, x15.Batch, x15.Born, x15.Last, x15.Uses, x15.Used, x15.Limit, (if x13.Last < (w64 (x3 + 365)) then x13.Last else (w64 (x3 + 365))), x15.Gone⟩ : qh)).bind fun l16 =>
  some l16) : Option (List qh)).bind fun l17 =>
  some (l17, 0)
theorem qbe (N : Nat) (a0_ : Int) (a1_ : List qh) (a2_ : Int) (a3_ : Str) (a4_ : List Str) (a5_ : List Int) (a6_ : Str) {l1 : List qh} {e_2 : Int} (h : jP N a0_ a1_ a2_ a3_ a4_ a5_ a6_ = some (l1, e_2)) : qw Tryz.prog (.fn 142) [.agg [.i a0_, .slice 0 0 a1_.length a1_.length 9], .agg [.i a2_, .str a3_, vl encS a4_, vl encI a5_, .str a6_]] [.cells (a1_.flatMap qa.c)] (.tuple [.agg [.i a0_, .slice 0 0 l1.length l1.length 9], .i e_2]) [.cells (l1.flatMap qa.c)] := by
  unfold jP at h
  refine Goes.fnH Tryz.func142 rfl rfl (m := 53) rfl (rs := [.cell 4 31, .tmp 5]) rfl (l := [(0, .agg [.i a0_, .slice 0 0 a1_.length a1_.length 9]), (1, .agg [.i a2_, .str a3_, vl encS a4_, vl encI a5_, .str a6_])]) rfl ?_
  intro B hB
  refine sq ?_
  refine Goes.rg fol [(2, .ptr 1 0), (3, .ptr 2 0), (4, .ptr 3 0)] [.cells (a1_.flatMap qa.c), .cells [.i a0_, .slice 0 0 a1_.length a1_.length 9], .cells [.i a2_, .str a3_, vl encS a4_, vl encI a5_, .str a6_], .cells [.i 0, .nilslice]] ?_
  refine sq ?_
  obtain ⟨x3, e_x3, h⟩ := bnd h
  obtain ⟨x4, e_x4, h⟩ := bnd h
  refine Goes.ro fol [(2, (.done (.fptr (a5_.flatMap encI.c) ((0 : Int).toNat * 1 + 0)))), (3, (.done (.i x3))), (6, (.done (.fptr (a5_.flatMap encI.c) ((1 : Int).toNat * 1 + 0)))), (7, (.done (.i x4)))] [(2, .ptr 1 0), (3, .ptr 2 0), (4, .ptr 3 0), (6, .i x3), (7, .i x4)] [.cells (a1_.flatMap qa.c), .cells [.i a0_, .slice 0 0 a1_.length a1_.length 9], .cells [.i a2_, .str a3_, vl encS a4_, vl encI a5_, .str a6_], .cells [.i 0, .nilslice]] [.done (.opt (qj Tryz.prog 24 (vl encI a5_) (.i 0))) (.fptr (a5_.flatMap encI.c) ((0 : Int).toNat * 1 + 0)), .done (qz Tryz.prog 3 (.fptr (a5_.flatMap encI.c) ((0 : Int).toNat * 1 + 0))) (.i x3), .done (.opt (qj Tryz.prog 24 (vl encI a5_) (.i 1))) (.fptr (a5_.flatMap encI.c) ((1 : Int).toNat * 1 + 0)), .done (qz Tryz.prog 3 (.fptr (a5_.flatMap encI.c) ((1 : Int).toNat * 1 + 0))) (.i x4)] (And.intro (qF vN (E := encI) rfl e_x3) (And.intro (qJ ce3 (E := encI) rfl e_x3 (Nat.le_of_ble_eq_true rfl) rfl) (And.intro (qF vN (E := encI) rfl e_x4) (And.intro (qJ ce3 (E := encI) rfl e_x4 (Nat.le_of_ble_eq_true rfl) rfl) trivial)))) ?_
  refine sq ?_
  obtain ⟨x5, e_x5, h⟩ := bnd h
  obtain ⟨⟨i7, ok8, name_9⟩, e_r6, h⟩ := bnd h
  try dsimp only at h
  refine Goes.ro fol [(3, (.done (.fptr (a4_.flatMap encS.c) ((0 : Int).toNat * 1 + 0)))), (4, (.done (.str x5))), (6, (.callH [0] (.tuple [pz ok8 0 ((i7 : Int).toNat * 9 + 0), .i name_9]) [.cells (a1_.flatMap qa.c), .cells [.i a0_, .slice 0 0 a1_.length a1_.length 9], .cells [.i a2_, .str a3_, vl encS a4_, vl encI a5_, .str a6_], .cells [.i 0, .nilslice]]))] [(2, .ptr 1 0), (4, .ptr 3 0), (6, .i x3), (7, .i x4), (8, pz ok8 0 ((i7 : Int).toNat * 9 + 0)), (9, .i name_9)] [.cells (a1_.flatMap qa.c), .cells [.i a0_, .slice 0 0 a1_.length a1_.length 9], .cells [.i a2_, .str a3_, vl encS a4_, vl encI a5_, .str a6_], .cells [.i 0, .nilslice]] [.done (.opt (qj Tryz.prog 23 (vl encS a4_) (.i 0))) (.fptr (a4_.flatMap encS.c) ((0 : Int).toNat * 1 + 0)), .done (qz Tryz.prog 9 (.fptr (a4_.flatMap encS.c) ((0 : Int).toNat * 1 + 0))) (.str x5), .callH 182 [.agg [.i a0_, .slice 0 0 a1_.length a1_.length 9], .str x5, .i x3] [.cells (a1_.flatMap qa.c), .cells [.i a0_, .slice 0 0 a1_.length a1_.length 9], .cells [.i a2_, .str a3_, vl encS a4_, vl encI a5_, .str a6_], .cells [.i 0, .nilslice]] [0] (.tuple [pz ok8 0 ((i7 : Int).toNat * 9 + 0), .i name_9]) [.cells (a1_.flatMap qa.c), .cells [.i a0_, .slice 0 0 a1_.length a1_.length 9], .cells [.i a2_, .str a3_, vl encS a4_, vl encI a5_, .str a6_], .cells [.i 0, .nilslice]]] (And.intro (qF xe (E := encS) rfl e_x5) (And.intro (qJ ce9 (E := encS) rfl e_x5 (Nat.le_of_ble_eq_true rfl) rfl) (And.intro (jf [some 0] [some 0, none, none, none] (jl N a0_ a1_ x5 x3 e_r6) (.keep rfl (.same fa) rfl rfl .nil) rfl rfl (.back rfl rfl (.same fa) rfl (.old rfl rfl (.old rfl rfl (.old rfl rfl .nil)))) (qg.cons (.aggL (qg.cons (.same (qc.int _ _)) (qg.cons (.slice rfl) qg.nil))) (qg.cons (.same (qc.str _)) (qg.cons (.same (qc.int _ _)) qg.nil))) (.tupleL (qg.cons ((qK.pz rfl)) (qg.cons (.same (qc.int _ _)) qg.nil))) rfl) trivial))) ?_
  refine sq ?_
  refine sq ?_
  obtain ⟨r10, e_r10, h⟩ := bnd h
  obtain ⟨r11, e_r11, h⟩ := bnd h
  refine Goes.ro fol [(2, (.call [] [.i x4, .i 2, .i 999999999] (.i r10))), (4, (.call [4] [vl encI ([name_9, r10] : List Int)] (.i r11)))] [(2, .ptr 1 0), (4, .ptr 3 0), (6, .i x3), (7, .i x4), (8, pz ok8 0 ((i7 : Int).toNat * 9 + 0)), (9, .i r11)] [.cells (a1_.flatMap qa.c), .cells [.i a0_, .slice 0 0 a1_.length a1_.length 9], .cells [.i a2_, .str a3_, vl encS a4_, vl encI a5_, .str a6_], .cells [.i 0, .nilslice], .cells [.i name_9, .i r10]] [.call 87 [.i x4, .i 2, .i 999999999] [.cells (a1_.flatMap qa.c), .cells [.i a0_, .slice 0 0 a1_.length a1_.length 9], .cells [.i a2_, .str a3_, vl encS a4_, vl encI a5_, .str a6_], .cells [.i 0, .nilslice]] [] [.i x4, .i 2, .i 999999999] (.i r10), .call 86 [.slice 4 0 2 2 1] [.cells (a1_.flatMap qa.c), .cells [.i a0_, .slice 0 0 a1_.length a1_.length 9], .cells [.i a2_, .str a3_, vl encS a4_, vl encI a5_, .str a6_], .cells [.i 0, .nilslice], .cells [.i name_9, .i r10]] [4] [vl encI ([name_9, r10] : List Int)] (.i r11)] (And.intro (qo (AllST.cons (Still.int 11 _ _) (AllST.cons (Still.int 11 _ _) (AllST.cons (Still.int 11 _ _) AllST.nil))) (zM x4 2 999999999 e_r10) (Still.int 11 _ _)) (And.intro (yg (FzL.cons (Fz.lit rfl rfl (FzL.still (AllST.cons (Still.int 10 _ _) (AllST.cons (Still.int 10 _ _) AllST.nil)))) FzL.nil) (zC N ([name_9, r10] : List Int) e_r11) (Still.int 11 _ _) rfl) trivial)) ?_
  refine sq ?_
  refine Goes.rg fol [(2, .ptr 1 0), (4, .ptr 3 0), (6, .i x3), (7, .i x4), (8, pz ok8 0 ((i7 : Int).toNat * 9 + 0)), (9, .i r11), (34, .bool (!decide (r11 = 0)))] [.cells (a1_.flatMap qa.c), .cells [.i a0_, .slice 0 0 a1_.length a1_.length 9], .cells [.i a2_, .str a3_, vl encS a4_, vl encI a5_, .str a6_], .cells [.i 0, .nilslice], .cells [.i name_9, .i r10]] ?_
  refine Goes.ifB (b := !decide (r11 = 0)) (by kernel_rfl) (fun c12 => ?_) (fun c12 => ?_)
  · rw [if_pos (c12)] at h
    refine sq ?_
    refine Goes.rg fol [(4, .ptr 3 0), (5, .i r11)] [.cells (a1_.flatMap qa.c), .cells [.i a0_, .slice 0 0 a1_.length a1_.length 9], .cells [.i a2_, .str a3_, vl encS a4_, vl encI a5_, .str a6_], .cells [.i a0_, .slice 0 0 a1_.length a1_.length 9], .cells [.i name_9, .i r10]] ?_
    refine Goes.ret ?_
    simp only [Option.some.injEq, Prod.mk.injEq] at h
    obtain ⟨rfl, rfl⟩ := h
    exact (Goes.retH (xs := [.agg [.i a0_, .slice 0 0 a1_.length a1_.length 9], .i r11]) (by kernel_rfl) (Sub.norm [] [some 0] (by rw [hB]; rfl) rfl (.keep (.tupleL (qg.cons (.aggL (qg.cons (.same (qc.int _ _)) (qg.cons (.slice rfl) qg.nil))) (qg.cons (.same (qc.int _ _)) qg.nil))) .nil) (.keep rfl (.same fa) rfl rfl .nil)))
  · rw [if_neg (by rw [c12]; exact Bool.false_ne_true)] at h
    refine Goes.skip ?_
    refine sq ?_
    obtain ⟨l17, g_v18, h⟩ := bnd h
    refine Goes.cutS (s' := (ofG 53 [(2, .ptr 1 0), (4, .ptr 2 0)], [.cells (l17.flatMap qa.c), .cells [.i a0_, .slice 0 0 l17.length l17.length 9], .cells [.i 0, .nilslice]])) ?_ ?_
    · rcases ok8 with _ | _
      · try dsimp only at g_v18
        cases g_v18
      · try dsimp only at g_v18
        obtain ⟨x13, e_x13, g_v18⟩ := bnd g_v18
        obtain ⟨l14, e_l14, g_v18⟩ := bnd g_v18
        obtain ⟨x15, e_x15, g_v18⟩ := bnd g_v18
        obtain ⟨l16, e_l16, g_v18⟩ := bnd g_v18
        obtain rfl := Option.some.inj g_v18
        exact qp.sub (qp.ro fol [(9, (.run (.i x13.Last) [.cells (a1_.flatMap qa.c), .cells [.i a0_, .slice 0 0 a1_.length a1_.length 9], .cells [.i a2_, .str a3_, vl encS a4_, vl encI a5_, .str a6_], .cells [.i 0, .nilslice], .cells [.i name_9, .i r10]] false)), (13, (.run .undef [.cells (l14.flatMap qa.c), .cells [.i a0_, .slice 0 0 a1_.length a1_.length 9], .cells [.i a2_, .str a3_, vl encS a4_, vl encI a5_, .str a6_], .cells [.i 0, .nilslice], .cells [.i name_9, .i r10]] true)), (16, (.run .undef [.cells (l16.flatMap qa.c), .cells [.i a0_, .slice 0 0 a1_.length a1_.length 9], .cells [.i a2_, .str a3_, vl encS a4_, vl encI a5_, .str a6_], .cells [.i 0, .nilslice], .cells [.i name_9, .i r10]] true))] [(2, .ptr 1 0), (4, .ptr 3 0)] [.cells (l16.flatMap qa.c), .cells [.i a0_, .slice 0 0 a1_.length a1_.length 9], .cells [.i a2_, .str a3_, vl encS a4_, vl encI a5_, .str a6_], .cells [.i 0, .nilslice], .cells [.i name_9, .i r10]] [.run [0] (qz Tryz.prog 3 (.ptr 0 ((i7 : Int).toNat * 9 + 3))) [.cells (a1_.flatMap qa.c), .cells [.i a0_, .slice 0 0 a1_.length a1_.length 9], .cells [.i a2_, .str a3_, vl encS a4_, vl encI a5_, .str a6_], .cells [.i 0, .nilslice], .cells [.i name_9, .i r10]] (.i x13.Last) [.cells (a1_.flatMap qa.c), .cells [.i a0_, .slice 0 0 a1_.length a1_.length 9], .cells [.i a2_, .str a3_, vl encS a4_, vl encI a5_, .str a6_], .cells [.i 0, .nilslice], .cells [.i name_9, .i r10]] false, .run [0] (yh Tryz.prog 3 (.ptr 0 ((i7 : Int).toNat * 9 + 6)) (.i (w64 (x4.tdiv 2)))) [.cells (a1_.flatMap qa.c), .cells [.i a0_, .slice 0 0 a1_.length a1_.length 9], .cells [.i a2_, .str a3_, vl encS a4_, vl encI a5_, .str a6_], .cells [.i 0, .nilslice], .cells [.i name_9, .i r10]] .undef [.cells (l14.flatMap qa.c), .cells [.i a0_, .slice 0 0 a1_.length a1_.length 9], .cells [.i a2_, .str a3_, vl encS a4_, vl encI a5_, .str a6_], .cells [.i 0, .nilslice], .cells [.i name_9, .i r10]] true, .run [0] (yh Tryz.prog 3 (.ptr 0 ((i7 : Int).toNat * 9 + 7)) (.i (if x13.Last < (w64 (x3 + 365)) then x13.Last else (w64 (x3 + 365))))) [.cells (l14.flatMap qa.c), .cells [.i a0_, .slice 0 0 a1_.length a1_.length 9], .cells [.i a2_, .str a3_, vl encS a4_, vl encI a5_, .str a6_], .cells [.i 0, .nilslice], .cells [.i name_9, .i r10]] .undef [.cells (l16.flatMap qa.c), .cells [.i a0_, .slice 0 0 a1_.length a1_.length 9], .cells [.i a2_, .str a3_, vl encS a4_, vl encI a5_, .str a6_], .cells [.i 0, .nilslice], .cells [.i name_9, .i r10]] true] (And.intro (qeF ce3 (E := qa) (l := a1_) rfl rfl e_x13 (Nat.le_of_ble_eq_true rfl) rfl) (And.intro (qbN (E := qa) (l := a1_) (y := (⟨x13.Name, x13.Batch, x13.Born, x13.Last, x13.Uses, x13.Used, w64 (x4.tdiv 2), x13.Until, x13.Gone⟩ : qh)) rfl (show _ = some 1 by kernel_rfl) rfl e_x13 rfl rfl rfl rfl rfl e_l14 rfl) (And.intro (qbN (E := qa) (l := l14) (y := (⟨x15.Name, x15.Batch, x15.Born, x15.Last, x15.Uses, x15.Used, x15.Limit, (if x13.Last < (w64 (x3 + 365)) then x13.Last else (w64 (x3 + 365))), x15.Gone⟩ : qh)) rfl (show _ = some 1 by kernel_rfl) rfl e_x15 rfl rfl rfl rfl rfl e_l16 rfl) trivial)))) ((show Sub (ofG 53 [(2, .ptr 1 0), (4, .ptr 3 0)], [.cells (l16.flatMap qa.c), .cells [.i a0_, .slice 0 0 a1_.length a1_.length 9], .cells [.i a2_, .str a3_, vl encS a4_, vl encI a5_, .str a6_], .cells [.i 0, .nilslice], .cells [.i name_9, .i r10]]) (ofG 53 [(2, .ptr 1 0), (4, .ptr 2 0)], [.cells (l16.flatMap qa.c), .cells [.i a0_, .slice 0 0 l16.length l16.length 9], .cells [.i 0, .nilslice]]) from (Sub.norm [] [some 0, some 1, some 3] (by rw [hB]; rfl) rfl (.keep (.ptr rfl) (.keep (.ptr rfl) .nil)) (.keep rfl (.same fa) rfl rfl (.keep rfl (.cells (qg.cons (.same (qc.int _ _)) (qg.cons (.sliceE rfl ((yY e_l14).trans (yY e_l16))) qg.nil))) rfl rfl (.keep rfl (.same (qf.cons (qc.int _ _) (qf.cons (qc.nilslice) qf.nil))) rfl rfl .nil))))).trans (Sub.refl _))
    intro _ hsub
    refine Goes.sub hsub ?_
    refine sq ?_
    refine Goes.rg fol [(4, .ptr 2 0), (5, .i 0)] [.cells (l17.flatMap qa.c), .cells [.i a0_, .slice 0 0 l17.length l17.length 9], .cells [.i a0_, .slice 0 0 l17.length l17.length 9]] ?_
    refine Goes.ret ?_
    simp only [Option.some.injEq, Prod.mk.injEq] at h
    obtain ⟨rfl, rfl⟩ := h
    exact (Goes.retH (xs := [.agg [.i a0_, .slice 0 0 l17.length l17.length 9], .i 0]) (by kernel_rfl) (Sub.norm [] [some 0] (by rw [hB]; rfl) rfl (.keep (.tupleL (qg.cons (.aggL (qg.cons (.same (qc.int _ _)) (qg.cons (.slice rfl) qg.nil))) (qg.cons (.same (qc.int _ _)) qg.nil))) .nil) (.keep rfl (.same fa) rfl rfl .nil)))
def vD (N : Nat) (a0_ : Int) (a1_ : List qh) (a2_ : Int) (a3_ : Str) (a4_ : List Str) (a5_ : List Int) (a6_ : Str) : Option ((List qh) × Int) :=
  (idx a5_ 0).bind fun x3 =>
  (idx a5_ 1).bind fun x4 =>
  (idx a4_ 0).bind fun x5 =>
  (ky N a0_ a1_ x5 x3).bind fun (i7, ok8, name_9) =>
  if (!decide (name_9 = 0)) = true then
  some (a1_, name_9)
  else
  ((match ok8 with
  | false =>
  none
  | true =>
  (idx a1_ i7).bind fun x11 =>
  (zL x11 x3).bind fun r12 =>
  (qZ (!r12) 24).bind fun r13 =>
  (qZ (decide (x4 > x11.Limit)) 31).bind fun r14 =>
  (kY N ([r13, r14] : List Int)).bind fun r15 =>
  some (r13, r14, r15)) : Option (Int × Int × Int)).bind fun (n16, n17, bad_18) =>
  if (!decide (bad_18 = 0)) = true then
  some (a1_, bad_18)
  else
  (idx a1_ i7).bind fun x21 =>
  (put a1_ i7 (⟨x21.Name, x21.Batch, x21.Born, x21.Last, x21.Uses, w64 (x21.Used + 1), x21.Limit, x21.Until, x21.Gone⟩ : qh)).bind fun l22 =>
  some (l22, 0)
theorem qb4 (N : Nat) (a0_ : Int) (a1_ : List qh) (a2_ : Int) (a3_ : Str) (a4_ : List Str) (a5_ : List Int) (a6_ : Str) {l1 : List qh} {e_2 : Int} (h : vD N a0_ a1_ a2_ a3_ a4_ a5_ a6_ = some (l1, e_2)) : qw Tryz.prog (.fn 143) [.agg [.i a0_, .slice 0 0 a1_.length a1_.length 9], .agg [.i a2_, .str a3_, vl encS a4_, vl encI a5_, .str a6_]] [.cells (a1_.flatMap qa.c)] (.tuple [.agg [.i a0_, .slice 0 0 l1.length l1.length 9], .i e_2]) [.cells (l1.flatMap qa.c)] := by
  unfold vD at h
  refine Goes.fnH Tryz.func143 rfl rfl (m := 60) rfl (rs := [.cell 4 31, .tmp 5]) rfl (l := [(0, .agg [.i a0_, .slice 0 0 a1_.length a1_.length 9]), (1, .agg [.i a2_, .str a3_, vl encS a4_, vl encI a5_, .str a6_])]) rfl ?_
  intro B hB
  refine sq ?_
  refine Goes.rg fol [(2, .ptr 1 0), (3, .ptr 2 0), (4, .ptr 3 0)] [.cells (a1_.flatMap qa.c), .cells [.i a0_, .slice 0 0 a1_.length a1_.length 9], .cells [.i a2_, .str a3_, vl encS a4_, vl encI a5_, .str a6_], .cells [.i 0, .nilslice]] ?_
  refine sq ?_
  obtain ⟨x3, e_x3, h⟩ := bnd h
  obtain ⟨x4, e_x4, h⟩ := bnd h
  refine Goes.ro fol [(2, (.done (.fptr (a5_.flatMap encI.c) ((0 : Int).toNat * 1 + 0)))), (3, (.done (.i x3))), (6, (.done (.fptr (a5_.flatMap encI.c) ((1 : Int).toNat * 1 + 0)))), (7, (.done (.i x4)))] [(2, .ptr 1 0), (3, .ptr 2 0), (4, .ptr 3 0), (6, .i x3), (7, .i x4)] [.cells (a1_.flatMap qa.c), .cells [.i a0_, .slice 0 0 a1_.length a1_.length 9], .cells [.i a2_, .str a3_, vl encS a4_, vl encI a5_, .str a6_], .cells [.i 0, .nilslice]] [.done (.opt (qj Tryz.prog 24 (vl encI a5_) (.i 0))) (.fptr (a5_.flatMap encI.c) ((0 : Int).toNat * 1 + 0)), .done (qz Tryz.prog 3 (.fptr (a5_.flatMap encI.c) ((0 : Int).toNat * 1 + 0))) (.i x3), .done (.opt (qj Tryz.prog 24 (vl encI a5_) (.i 1))) (.fptr (a5_.flatMap encI.c) ((1 : Int).toNat * 1 + 0)), .done (qz Tryz.prog 3 (.fptr (a5_.flatMap encI.c) ((1 : Int).toNat * 1 + 0))) (.i x4)] (And.intro (qF vN (E := encI) rfl e_x3) (And.intro (qJ ce3 (E := encI) rfl e_x3 (Nat.le_of_ble_eq_true rfl) rfl) (And.intro (qF vN (E := encI) rfl e_x4) (And.intro (qJ ce3 (E := encI) rfl e_x4 (Nat.le_of_ble_eq_true rfl) rfl) trivial)))) ?_
  refine sq ?_
  obtain ⟨x5, e_x5, h⟩ := bnd h
  obtain ⟨⟨i7, ok8, name_9⟩, e_r6, h⟩ := bnd h
  try dsimp only at h
  refine Goes.ro fol [(3, (.done (.fptr (a4_.flatMap encS.c) ((0 : Int).toNat * 1 + 0)))), (4, (.done (.str x5))), (6, (.callH [0] (.tuple [pz ok8 0 ((i7 : Int).toNat * 9 + 0), .i name_9]) [.cells (a1_.flatMap qa.c), .cells [.i a0_, .slice 0 0 a1_.length a1_.length 9], .cells [.i a2_, .str a3_, vl encS a4_, vl encI a5_, .str a6_], .cells [.i 0, .nilslice]]))] [(2, .ptr 1 0), (4, .ptr 3 0), (6, .i x3), (7, .i x4), (8, pz ok8 0 ((i7 : Int).toNat * 9 + 0)), (9, .i name_9)] [.cells (a1_.flatMap qa.c), .cells [.i a0_, .slice 0 0 a1_.length a1_.length 9], .cells [.i a2_, .str a3_, vl encS a4_, vl encI a5_, .str a6_], .cells [.i 0, .nilslice]] [.done (.opt (qj Tryz.prog 23 (vl encS a4_) (.i 0))) (.fptr (a4_.flatMap encS.c) ((0 : Int).toNat * 1 + 0)), .done (qz Tryz.prog 9 (.fptr (a4_.flatMap encS.c) ((0 : Int).toNat * 1 + 0))) (.str x5), .callH 182 [.agg [.i a0_, .slice 0 0 a1_.length a1_.length 9], .str x5, .i x3] [.cells (a1_.flatMap qa.c), .cells [.i a0_, .slice 0 0 a1_.length a1_.length 9], .cells [.i a2_, .str a3_, vl encS a4_, vl encI a5_, .str a6_], .cells [.i 0, .nilslice]] [0] (.tuple [pz ok8 0 ((i7 : Int).toNat * 9 + 0), .i name_9]) [.cells (a1_.flatMap qa.c), .cells [.i a0_, .slice 0 0 a1_.length a1_.length 9], .cells [.i a2_, .str a3_, vl encS a4_, vl encI a5_, .str a6_], .cells [.i 0, .nilslice]]] (And.intro (qF xe (E := encS) rfl e_x5) (And.intro (qJ ce9 (E := encS) rfl e_x5 (Nat.le_of_ble_eq_true rfl) rfl) (And.intro (jf [some 0] [some 0, none, none, none] (jl N a0_ a1_ x5 x3 e_r6) (.keep rfl (.same fa) rfl rfl .nil) rfl rfl (.back rfl rfl (.same fa) rfl (.old rfl rfl (.old rfl rfl (.old rfl rfl .nil)))) (qg.cons (.aggL (qg.cons (.same (qc.int _ _)) (qg.cons (.slice rfl) qg.nil))) (qg.cons (.same (qc.str _)) (qg.cons (.same (qc.int _ _)) qg.nil))) (.tupleL (qg.cons ((qK.pz rfl)) (qg.cons (.same (qc.int _ _)) qg.nil))) rfl) trivial))) ?_
  refine sq ?_
  refine sq ?_
  refine Goes.rg fol [(2, .ptr 1 0), (4, .ptr 3 0), (6, .i x3), (7, .i x4), (8, pz ok8 0 ((i7 : Int).toNat * 9 + 0)), (9, .i name_9), (29, .bool (!decide (name_9 = 0)))] [.cells (a1_.flatMap qa.c), .cells [.i a0_, .slice 0 0 a1_.length a1_.length 9], .cells [.i a2_, .str a3_, vl encS a4_, vl encI a5_, .str a6_], .cells [.i 0, .nilslice]] ?_
  refine Goes.ifB (b := !decide (name_9 = 0)) (by kernel_rfl) (fun c10 => ?_) (fun c10 => ?_)
  · rw [if_pos (c10)] at h
    refine sq ?_
    refine Goes.rg fol [(4, .ptr 3 0), (5, .i name_9)] [.cells (a1_.flatMap qa.c), .cells [.i a0_, .slice 0 0 a1_.length a1_.length 9], .cells [.i a2_, .str a3_, vl encS a4_, vl encI a5_, .str a6_], .cells [.i a0_, .slice 0 0 a1_.length a1_.length 9]] ?_
    refine Goes.ret ?_
    simp only [Option.some.injEq, Prod.mk.injEq] at h
    obtain ⟨rfl, rfl⟩ := h
    exact (Goes.retH (xs := [.agg [.i a0_, .slice 0 0 a1_.length a1_.length 9], .i name_9]) (by kernel_rfl) (Sub.norm [] [some 0] (by rw [hB]; rfl) rfl (.keep (.tupleL (qg.cons (.aggL (qg.cons (.same (qc.int _ _)) (qg.cons (.slice rfl) qg.nil))) (qg.cons (.same (qc.int _ _)) qg.nil))) .nil) (.keep rfl (.same fa) rfl rfl .nil)))
  · rw [if_neg (by rw [c10]; exact Bool.false_ne_true)] at h
    refine Goes.skip ?_
    refine sq ?_
    refine sq ?_
    obtain ⟨⟨n16, n17, bad_18⟩, g_v19, h⟩ := bnd h
    refine Goes.cut (s' := (ofG 60 [(2, .ptr 1 0), (4, .ptr 3 0), (8, .ptr 0 ((i7 : Int).toNat * 9 + 0)), (9, .i bad_18)], [.cells (a1_.flatMap qa.c), .cells [.i a0_, .slice 0 0 a1_.length a1_.length 9], .cells [.i a2_, .str a3_, vl encS a4_, vl encI a5_, .str a6_], .cells [.i 0, .nilslice], .cells [.i n16, .i n17]])) ?_ ?_
    · rcases ok8 with _ | _
      · try dsimp only at g_v19
        cases g_v19
      · try dsimp only at g_v19
        obtain ⟨x11, e_x11, g_v19⟩ := bnd g_v19
        obtain ⟨r12, e_r12, g_v19⟩ := bnd g_v19
        obtain ⟨r13, e_r13, g_v19⟩ := bnd g_v19
        obtain ⟨r14, e_r14, g_v19⟩ := bnd g_v19
        obtain ⟨r15, e_r15, g_v19⟩ := bnd g_v19
        simp only [Option.some.injEq, Prod.mk.injEq] at g_v19
        obtain ⟨rfl, rfl, rfl⟩ := g_v19
        exact qp.ro fol [(2, (.run (.agg [.str x11.Name, .str x11.Batch, .i x11.Born, .i x11.Last, .i x11.Uses, .i x11.Used, .i x11.Limit, .i x11.Until, .bool x11.Gone]) [.cells (a1_.flatMap qa.c), .cells [.i a0_, .slice 0 0 a1_.length a1_.length 9], .cells [.i a2_, .str a3_, vl encS a4_, vl encI a5_, .str a6_], .cells [.i 0, .nilslice]] false)), (4, (.call [] [.agg [.str x11.Name, .str x11.Batch, .i x11.Born, .i x11.Last, .i x11.Uses, .i x11.Used, .i x11.Limit, .i x11.Until, .bool x11.Gone], .i x3] (.bool r12))), (6, (.call [] [.bool (!r12), .i 24] (.i r13))), (11, (.run (.i x11.Limit) [.cells (a1_.flatMap qa.c), .cells [.i a0_, .slice 0 0 a1_.length a1_.length 9], .cells [.i a2_, .str a3_, vl encS a4_, vl encI a5_, .str a6_], .cells [.i 0, .nilslice]] false)), (13, (.call [] [.bool (decide (x4 > x11.Limit)), .i 31] (.i r14))), (15, (.call [4] [vl encI ([r13, r14] : List Int)] (.i r15)))] [(2, .ptr 1 0), (4, .ptr 3 0), (8, .ptr 0 ((i7 : Int).toNat * 9 + 0)), (9, .i r15)] [.cells (a1_.flatMap qa.c), .cells [.i a0_, .slice 0 0 a1_.length a1_.length 9], .cells [.i a2_, .str a3_, vl encS a4_, vl encI a5_, .str a6_], .cells [.i 0, .nilslice], .cells [.i r13, .i r14]] [.run [0] (qz Tryz.prog 68 (.ptr 0 ((i7 : Int).toNat * 9 + 0))) [.cells (a1_.flatMap qa.c), .cells [.i a0_, .slice 0 0 a1_.length a1_.length 9], .cells [.i a2_, .str a3_, vl encS a4_, vl encI a5_, .str a6_], .cells [.i 0, .nilslice]] (.agg [.str x11.Name, .str x11.Batch, .i x11.Born, .i x11.Last, .i x11.Uses, .i x11.Used, .i x11.Limit, .i x11.Until, .bool x11.Gone]) [.cells (a1_.flatMap qa.c), .cells [.i a0_, .slice 0 0 a1_.length a1_.length 9], .cells [.i a2_, .str a3_, vl encS a4_, vl encI a5_, .str a6_], .cells [.i 0, .nilslice]] false, .call 96 [.agg [.str x11.Name, .str x11.Batch, .i x11.Born, .i x11.Last, .i x11.Uses, .i x11.Used, .i x11.Limit, .i x11.Until, .bool x11.Gone], .i x3] [.cells (a1_.flatMap qa.c), .cells [.i a0_, .slice 0 0 a1_.length a1_.length 9], .cells [.i a2_, .str a3_, vl encS a4_, vl encI a5_, .str a6_], .cells [.i 0, .nilslice]] [] [.agg [.str x11.Name, .str x11.Batch, .i x11.Born, .i x11.Last, .i x11.Uses, .i x11.Used, .i x11.Limit, .i x11.Until, .bool x11.Gone], .i x3] (.bool r12), .call 88 [.bool (!r12), .i 24] [.cells (a1_.flatMap qa.c), .cells [.i a0_, .slice 0 0 a1_.length a1_.length 9], .cells [.i a2_, .str a3_, vl encS a4_, vl encI a5_, .str a6_], .cells [.i 0, .nilslice]] [] [.bool (!r12), .i 24] (.i r13), .run [0] (qz Tryz.prog 3 (.ptr 0 ((i7 : Int).toNat * 9 + 6))) [.cells (a1_.flatMap qa.c), .cells [.i a0_, .slice 0 0 a1_.length a1_.length 9], .cells [.i a2_, .str a3_, vl encS a4_, vl encI a5_, .str a6_], .cells [.i 0, .nilslice]] (.i x11.Limit) [.cells (a1_.flatMap qa.c), .cells [.i a0_, .slice 0 0 a1_.length a1_.length 9], .cells [.i a2_, .str a3_, vl encS a4_, vl encI a5_, .str a6_], .cells [.i 0, .nilslice]] false, .call 88 [.bool (decide (x4 > x11.Limit)), .i 31] [.cells (a1_.flatMap qa.c), .cells [.i a0_, .slice 0 0 a1_.length a1_.length 9], .cells [.i a2_, .str a3_, vl encS a4_, vl encI a5_, .str a6_], .cells [.i 0, .nilslice]] [] [.bool (decide (x4 > x11.Limit)), .i 31] (.i r14), .call 86 [.slice 4 0 2 2 1] [.cells (a1_.flatMap qa.c), .cells [.i a0_, .slice 0 0 a1_.length a1_.length 9], .cells [.i a2_, .str a3_, vl encS a4_, vl encI a5_, .str a6_], .cells [.i 0, .nilslice], .cells [.i r13, .i r14]] [4] [vl encI ([r13, r14] : List Int)] (.i r15)] (And.intro (qgf qii (E := qa) (l := a1_) rfl rfl e_x11) (And.intro (qo (AllST.cons (Still.agg (AllST.cons (Still.str 10 _) (AllST.cons (Still.str 10 _) (AllST.cons (Still.int 10 _ _) (AllST.cons (Still.int 10 _ _) (AllST.cons (Still.int 10 _ _) (AllST.cons (Still.int 10 _ _) (AllST.cons (Still.int 10 _ _) (AllST.cons (Still.int 10 _ _) (AllST.cons (Still.bool 10 _) AllST.nil)))))))))) (AllST.cons (Still.int 11 _ _) AllST.nil)) (yu x11 x3 e_r12) (Still.bool 11 _)) (And.intro (qo (AllST.cons (Still.bool 11 _) (AllST.cons (Still.int 11 _ _) AllST.nil)) (qI (!r12) 24 e_r13) (Still.int 11 _ _)) (And.intro (qeF ce3 (E := qa) (l := a1_) rfl rfl e_x11 (Nat.le_of_ble_eq_true rfl) rfl) (And.intro (qo (AllST.cons (Still.bool 11 _) (AllST.cons (Still.int 11 _ _) AllST.nil)) (qI (decide (x4 > x11.Limit)) 31 e_r14) (Still.int 11 _ _)) (And.intro (yg (FzL.cons (Fz.lit rfl rfl (FzL.still (AllST.cons (Still.int 10 _ _) (AllST.cons (Still.int 10 _ _) AllST.nil)))) FzL.nil) (zC N ([r13, r14] : List Int) e_r15) (Still.int 11 _ _) rfl) trivial))))))
    try dsimp only at h
    refine sq ?_
    refine Goes.rg fol [(2, .ptr 1 0), (4, .ptr 3 0), (8, .ptr 0 ((i7 : Int).toNat * 9 + 0)), (9, .i bad_18), (49, .bool (!decide (bad_18 = 0)))] [.cells (a1_.flatMap qa.c), .cells [.i a0_, .slice 0 0 a1_.length a1_.length 9], .cells [.i a2_, .str a3_, vl encS a4_, vl encI a5_, .str a6_], .cells [.i 0, .nilslice], .cells [.i n16, .i n17]] ?_
    refine Goes.ifB (b := !decide (bad_18 = 0)) (by kernel_rfl) (fun c20 => ?_) (fun c20 => ?_)
    · rw [if_pos (c20)] at h
      refine sq ?_
      refine Goes.rg fol [(4, .ptr 3 0), (5, .i bad_18)] [.cells (a1_.flatMap qa.c), .cells [.i a0_, .slice 0 0 a1_.length a1_.length 9], .cells [.i a2_, .str a3_, vl encS a4_, vl encI a5_, .str a6_], .cells [.i a0_, .slice 0 0 a1_.length a1_.length 9], .cells [.i n16, .i n17]] ?_
      refine Goes.ret ?_
      simp only [Option.some.injEq, Prod.mk.injEq] at h
      obtain ⟨rfl, rfl⟩ := h
      exact (Goes.retH (xs := [.agg [.i a0_, .slice 0 0 a1_.length a1_.length 9], .i bad_18]) (by kernel_rfl) (Sub.norm [] [some 0] (by rw [hB]; rfl) rfl (.keep (.tupleL (qg.cons (.aggL (qg.cons (.same (qc.int _ _)) (qg.cons (.slice rfl) qg.nil))) (qg.cons (.same (qc.int _ _)) qg.nil))) .nil) (.keep rfl (.same fa) rfl rfl .nil)))
    · rw [if_neg (by rw [c20]; exact Bool.false_ne_true)] at h
      refine Goes.skip ?_
      refine sq ?_
      obtain ⟨x21, e_x21, h⟩ := bnd h
      obtain ⟨l22, e_l22, h⟩ := bnd h
      refine Goes.ro fol [(3, (.run (.i x21.Used) [.cells (a1_.flatMap qa.c), .cells [.i a0_, .slice 0 0 a1_.length a1_.length 9], .cells [.i a2_, .str a3_, vl encS a4_, vl encI a5_, .str a6_], .cells [.i 0, .nilslice], .cells [.i n16, .i n17]] false)), (7, (.run .undef [.cells (l22.flatMap qa.c), .cells [.i a0_, .slice 0 0 a1_.length a1_.length 9], .cells [.i a2_, .str a3_, vl encS a4_, vl encI a5_, .str a6_], .cells [.i 0, .nilslice], .cells [.i n16, .i n17]] true))] [(2, .ptr 1 0), (4, .ptr 3 0)] [.cells (l22.flatMap qa.c), .cells [.i a0_, .slice 0 0 a1_.length a1_.length 9], .cells [.i a2_, .str a3_, vl encS a4_, vl encI a5_, .str a6_], .cells [.i 0, .nilslice], .cells [.i n16, .i n17]] [.run [0] (qz Tryz.prog 3 (.ptr 0 ((i7 : Int).toNat * 9 + 5))) [.cells (a1_.flatMap qa.c), .cells [.i a0_, .slice 0 0 a1_.length a1_.length 9], .cells [.i a2_, .str a3_, vl encS a4_, vl encI a5_, .str a6_], .cells [.i 0, .nilslice], .cells [.i n16, .i n17]] (.i x21.Used) [.cells (a1_.flatMap qa.c), .cells [.i a0_, .slice 0 0 a1_.length a1_.length 9], .cells [.i a2_, .str a3_, vl encS a4_, vl encI a5_, .str a6_], .cells [.i 0, .nilslice], .cells [.i n16, .i n17]] false, .run [0] (yh Tryz.prog 3 (.ptr 0 ((i7 : Int).toNat * 9 + 5)) (.i (w64 (x21.Used + 1)))) [.cells (a1_.flatMap qa.c), .cells [.i a0_, .slice 0 0 a1_.length a1_.length 9], .cells [.i a2_, .str a3_, vl encS a4_, vl encI a5_, .str a6_], .cells [.i 0, .nilslice], .cells [.i n16, .i n17]] .undef [.cells (l22.flatMap qa.c), .cells [.i a0_, .slice 0 0 a1_.length a1_.length 9], .cells [.i a2_, .str a3_, vl encS a4_, vl encI a5_, .str a6_], .cells [.i 0, .nilslice], .cells [.i n16, .i n17]] true] (And.intro (qeF ce3 (E := qa) (l := a1_) rfl rfl e_x21 (Nat.le_of_ble_eq_true rfl) rfl) (And.intro (qbN (E := qa) (l := a1_) (y := (⟨x21.Name, x21.Batch, x21.Born, x21.Last, x21.Uses, w64 (x21.Used + 1), x21.Limit, x21.Until, x21.Gone⟩ : qh)) rfl (show _ = some 1 by kernel_rfl) rfl e_x21 rfl rfl rfl rfl rfl e_l22 rfl) trivial)) ?_
      refine Goes.sub (show Sub (ofG 60 [(2, .ptr 1 0), (4, .ptr 3 0)], [.cells (l22.flatMap qa.c), .cells [.i a0_, .slice 0 0 a1_.length a1_.length 9], .cells [.i a2_, .str a3_, vl encS a4_, vl encI a5_, .str a6_], .cells [.i 0, .nilslice], .cells [.i n16, .i n17]]) (ofG 60 [(2, .ptr 1 0), (4, .ptr 2 0)], [.cells (l22.flatMap qa.c), .cells [.i a0_, .slice 0 0 l22.length l22.length 9], .cells [.i 0, .nilslice]]) from (Sub.norm [] [some 0, some 1, some 3] (by rw [hB]; rfl) rfl (.keep (.ptr rfl) (.keep (.ptr rfl) .nil)) (.keep rfl (.same fa) rfl rfl (.keep rfl (.cells (qg.cons (.same (qc.int _ _)) (qg.cons (.sliceE rfl (yY e_l22)) qg.nil))) rfl rfl (.keep rfl (.same (qf.cons (qc.int _ _) (qf.cons (qc.nilslice) qf.nil))) rfl rfl .nil))))) ?_
      refine sq ?_
      refine Goes.rg fol [(4, .ptr 2 0), (5, .i 0)] [.cells (l22.flatMap qa.c), .cells [.i a0_, .slice 0 0 l22.length l22.length 9], .cells [.i a0_, .slice 0 0 l22.length l22.length 9]] ?_
      refine Goes.ret ?_
      simp only [Option.some.injEq, Prod.mk.injEq] at h
      obtain ⟨rfl, rfl⟩ := h
      exact (Goes.retH (xs := [.agg [.i a0_, .slice 0 0 l22.length l22.length 9], .i 0]) (by kernel_rfl) (Sub.norm [] [some 0] (by rw [hB]; rfl) rfl (.keep (.tupleL (qg.cons (.aggL (qg.cons (.same (qc.int _ _)) (qg.cons (.slice rfl) qg.nil))) (qg.cons (.same (qc.int _ _)) qg.nil))) .nil) (.keep rfl (.same fa) rfl rfl .nil)))
def jJ (N : Nat) (a0_ : Int) (a1_ : List qh) (a2_ : Int) (a3_ : Str) (a4_ : List Str) (a5_ : List Int) (a6_ : Str) : Option ((List qh) × Int) :=
  (idx a4_ 0).bind fun x3 =>
  (idx a5_ 0).bind fun x4 =>
  (ky N a0_ a1_ x3 x4).bind fun (i6, ok7, name_8) =>
  if (!decide (name_8 = 0)) = true then
  some (a1_, name_8)
  else
  ((match ok7 with
  | false =>
  none
  | true =>
  (idx a1_ i6).bind fun x10 =>
  (put a1_ i6 (⟨x10.Name, x10.Batch, x10.Born, x10.Last, x10.Uses, x10.Used, x10.Limit, x10.Until, true⟩ : qh)).bind fun l11 =>
  some l11) : Option (List qh)).bind fun l12 =>
  some (l12, 0)
theorem qbc (N : Nat) (a0_ : Int) (a1_ : List qh) (a2_ : Int) (a3_ : Str) (a4_ : List Str) (a5_ : List Int) (a6_ : Str) {l1 : List qh} {e_2 : Int} (h : jJ N a0_ a1_ a2_ a3_ a4_ a5_ a6_ = some (l1, e_2)) : qw Tryz.prog (.fn 144) [.agg [.i a0_, .slice 0 0 a1_.length a1_.length 9], .agg [.i a2_, .str a3_, vl encS a4_, vl encI a5_, .str a6_]] [.cells (a1_.flatMap qa.c)] (.tuple [.agg [.i a0_, .slice 0 0 l1.length l1.length 9], .i e_2]) [.cells (l1.flatMap qa.c)] := by
  unfold jJ at h
  refine Goes.fnH Tryz.func144 rfl rfl (m := 29) rfl (rs := [.cell 4 31, .tmp 5]) rfl (l := [(0, .agg [.i a0_, .slice 0 0 a1_.length a1_.length 9]), (1, .agg [.i a2_, .str a3_, vl encS a4_, vl encI a5_, .str a6_])]) rfl ?_
  intro B hB
  refine sq ?_
  refine Goes.rg fol [(2, .ptr 1 0), (3, .ptr 2 0), (4, .ptr 3 0)] [.cells (a1_.flatMap qa.c), .cells [.i a0_, .slice 0 0 a1_.length a1_.length 9], .cells [.i a2_, .str a3_, vl encS a4_, vl encI a5_, .str a6_], .cells [.i 0, .nilslice]] ?_
  refine sq ?_
  obtain ⟨x3, e_x3, h⟩ := bnd h
  obtain ⟨x4, e_x4, h⟩ := bnd h
  obtain ⟨⟨i6, ok7, name_8⟩, e_r5, h⟩ := bnd h
  try dsimp only at h
  refine Goes.ro fol [(3, (.done (.fptr (a4_.flatMap encS.c) ((0 : Int).toNat * 1 + 0)))), (4, (.done (.str x3))), (7, (.done (.fptr (a5_.flatMap encI.c) ((0 : Int).toNat * 1 + 0)))), (8, (.done (.i x4))), (9, (.callH [0] (.tuple [pz ok7 0 ((i6 : Int).toNat * 9 + 0), .i name_8]) [.cells (a1_.flatMap qa.c), .cells [.i a0_, .slice 0 0 a1_.length a1_.length 9], .cells [.i a2_, .str a3_, vl encS a4_, vl encI a5_, .str a6_], .cells [.i 0, .nilslice]]))] [(2, .ptr 1 0), (4, .ptr 3 0), (6, pz ok7 0 ((i6 : Int).toNat * 9 + 0)), (7, .i name_8)] [.cells (a1_.flatMap qa.c), .cells [.i a0_, .slice 0 0 a1_.length a1_.length 9], .cells [.i a2_, .str a3_, vl encS a4_, vl encI a5_, .str a6_], .cells [.i 0, .nilslice]] [.done (.opt (qj Tryz.prog 23 (vl encS a4_) (.i 0))) (.fptr (a4_.flatMap encS.c) ((0 : Int).toNat * 1 + 0)), .done (qz Tryz.prog 9 (.fptr (a4_.flatMap encS.c) ((0 : Int).toNat * 1 + 0))) (.str x3), .done (.opt (qj Tryz.prog 24 (vl encI a5_) (.i 0))) (.fptr (a5_.flatMap encI.c) ((0 : Int).toNat * 1 + 0)), .done (qz Tryz.prog 3 (.fptr (a5_.flatMap encI.c) ((0 : Int).toNat * 1 + 0))) (.i x4), .callH 182 [.agg [.i a0_, .slice 0 0 a1_.length a1_.length 9], .str x3, .i x4] [.cells (a1_.flatMap qa.c), .cells [.i a0_, .slice 0 0 a1_.length a1_.length 9], .cells [.i a2_, .str a3_, vl encS a4_, vl encI a5_, .str a6_], .cells [.i 0, .nilslice]] [0] (.tuple [pz ok7 0 ((i6 : Int).toNat * 9 + 0), .i name_8]) [.cells (a1_.flatMap qa.c), .cells [.i a0_, .slice 0 0 a1_.length a1_.length 9], .cells [.i a2_, .str a3_, vl encS a4_, vl encI a5_, .str a6_], .cells [.i 0, .nilslice]]] (And.intro (qF xe (E := encS) rfl e_x3) (And.intro (qJ ce9 (E := encS) rfl e_x3 (Nat.le_of_ble_eq_true rfl) rfl) (And.intro (qF vN (E := encI) rfl e_x4) (And.intro (qJ ce3 (E := encI) rfl e_x4 (Nat.le_of_ble_eq_true rfl) rfl) (And.intro (jf [some 0] [some 0, none, none, none] (jl N a0_ a1_ x3 x4 e_r5) (.keep rfl (.same fa) rfl rfl .nil) rfl rfl (.back rfl rfl (.same fa) rfl (.old rfl rfl (.old rfl rfl (.old rfl rfl .nil)))) (qg.cons (.aggL (qg.cons (.same (qc.int _ _)) (qg.cons (.slice rfl) qg.nil))) (qg.cons (.same (qc.str _)) (qg.cons (.same (qc.int _ _)) qg.nil))) (.tupleL (qg.cons ((qK.pz rfl)) (qg.cons (.same (qc.int _ _)) qg.nil))) rfl) trivial))))) ?_
  refine sq ?_
  refine sq ?_
  refine Goes.rg fol [(2, .ptr 1 0), (4, .ptr 3 0), (6, pz ok7 0 ((i6 : Int).toNat * 9 + 0)), (7, .i name_8), (22, .bool (!decide (name_8 = 0)))] [.cells (a1_.flatMap qa.c), .cells [.i a0_, .slice 0 0 a1_.length a1_.length 9], .cells [.i a2_, .str a3_, vl encS a4_, vl encI a5_, .str a6_], .cells [.i 0, .nilslice]] ?_
  refine Goes.ifB (b := !decide (name_8 = 0)) (by kernel_rfl) (fun c9 => ?_) (fun c9 => ?_)
  · rw [if_pos (c9)] at h
    refine sq ?_
    refine Goes.rg fol [(4, .ptr 3 0), (5, .i name_8)] [.cells (a1_.flatMap qa.c), .cells [.i a0_, .slice 0 0 a1_.length a1_.length 9], .cells [.i a2_, .str a3_, vl encS a4_, vl encI a5_, .str a6_], .cells [.i a0_, .slice 0 0 a1_.length a1_.length 9]] ?_
    refine Goes.ret ?_
    simp only [Option.some.injEq, Prod.mk.injEq] at h
    obtain ⟨rfl, rfl⟩ := h
    exact (Goes.retH (xs := [.agg [.i a0_, .slice 0 0 a1_.length a1_.length 9], .i name_8]) (by kernel_rfl) (Sub.norm [] [some 0] (by rw [hB]; rfl) rfl (.keep (.tupleL (qg.cons (.aggL (qg.cons (.same (qc.int _ _)) (qg.cons (.slice rfl) qg.nil))) (qg.cons (.same (qc.int _ _)) qg.nil))) .nil) (.keep rfl (.same fa) rfl rfl .nil)))
  · rw [if_neg (by rw [c9]; exact Bool.false_ne_true)] at h
    refine Goes.skip ?_
    refine sq ?_
    obtain ⟨l12, g_v13, h⟩ := bnd h
    refine Goes.cutS (s' := (ofG 29 [(2, .ptr 1 0), (4, .ptr 2 0)], [.cells (l12.flatMap qa.c), .cells [.i a0_, .slice 0 0 l12.length l12.length 9], .cells [.i 0, .nilslice]])) ?_ ?_
    · rcases ok7 with _ | _
      · try dsimp only at g_v13
        cases g_v13
      · try dsimp only at g_v13
        obtain ⟨x10, e_x10, g_v13⟩ := bnd g_v13
        obtain ⟨l11, e_l11, g_v13⟩ := bnd g_v13
        obtain rfl := Option.some.inj g_v13
        exact qp.sub (qp.ro fol [(3, (.run .undef [.cells (l11.flatMap qa.c), .cells [.i a0_, .slice 0 0 a1_.length a1_.length 9], .cells [.i a2_, .str a3_, vl encS a4_, vl encI a5_, .str a6_], .cells [.i 0, .nilslice]] true))] [(2, .ptr 1 0), (4, .ptr 3 0)] [.cells (l11.flatMap qa.c), .cells [.i a0_, .slice 0 0 a1_.length a1_.length 9], .cells [.i a2_, .str a3_, vl encS a4_, vl encI a5_, .str a6_], .cells [.i 0, .nilslice]] [.run [0] (yh Tryz.prog 4 (.ptr 0 ((i6 : Int).toNat * 9 + 8)) (.bool true)) [.cells (a1_.flatMap qa.c), .cells [.i a0_, .slice 0 0 a1_.length a1_.length 9], .cells [.i a2_, .str a3_, vl encS a4_, vl encI a5_, .str a6_], .cells [.i 0, .nilslice]] .undef [.cells (l11.flatMap qa.c), .cells [.i a0_, .slice 0 0 a1_.length a1_.length 9], .cells [.i a2_, .str a3_, vl encS a4_, vl encI a5_, .str a6_], .cells [.i 0, .nilslice]] true] (And.intro (qbN (E := qa) (l := a1_) (y := (⟨x10.Name, x10.Batch, x10.Born, x10.Last, x10.Uses, x10.Used, x10.Limit, x10.Until, true⟩ : qh)) rfl (show _ = some 1 by kernel_rfl) rfl e_x10 rfl rfl rfl rfl rfl e_l11 rfl) trivial)) ((show Sub (ofG 29 [(2, .ptr 1 0), (4, .ptr 3 0)], [.cells (l11.flatMap qa.c), .cells [.i a0_, .slice 0 0 a1_.length a1_.length 9], .cells [.i a2_, .str a3_, vl encS a4_, vl encI a5_, .str a6_], .cells [.i 0, .nilslice]]) (ofG 29 [(2, .ptr 1 0), (4, .ptr 2 0)], [.cells (l11.flatMap qa.c), .cells [.i a0_, .slice 0 0 l11.length l11.length 9], .cells [.i 0, .nilslice]]) from (Sub.norm [] [some 0, some 1, some 3] (by rw [hB]; rfl) rfl (.keep (.ptr rfl) (.keep (.ptr rfl) .nil)) (.keep rfl (.same fa) rfl rfl (.keep rfl (.cells (qg.cons (.same (qc.int _ _)) (qg.cons (.sliceE rfl (yY e_l11)) qg.nil))) rfl rfl (.keep rfl (.same (qf.cons (qc.int _ _) (qf.cons (qc.nilslice) qf.nil))) rfl rfl .nil))))).trans (Sub.refl _))
    intro _ hsub
    refine Goes.sub hsub ?_
    refine sq ?_
    refine Goes.rg fol [(4, .ptr 2 0), (5, .i 0)] [.cells (l12.flatMap qa.c), .cells [.i a0_, .slice 0 0 l12.length l12.length 9], .cells [.i a0_, .slice 0 0 l12.length l12.length 9]] ?_
    refine Goes.ret ?_
    simp only [Option.some.injEq, Prod.mk.injEq] at h
    obtain ⟨rfl, rfl⟩ := h
    exact (Goes.retH (xs := [.agg [.i a0_, .slice 0 0 l12.length l12.length 9], .i 0]) (by kernel_rfl) (Sub.norm [] [some 0] (by rw [hB]; rfl) rfl (.keep (.tupleL (qg.cons (.aggL (qg.cons (.same (qc.int _ _)) (qg.cons (.slice rfl) qg.nil))) (qg.cons (.same (qc.int _ _)) qg.nil))) .nil) (.keep rfl (.same fa) rfl rfl .nil)))
def qO (a1_ : List qh) (a4_ : List Str) (a5_ : List Int) : Nat → (List qh) → Int → Int → Option ((List qh) × Int)
  | 0, _, _, _ => none
  | K + 1, l3, n4, bad_5 =>
    if n4 < (a1_.length : Int) then
    (((idx l3 n4).bind fun x13 =>
    (idx a4_ 0).bind fun x14 =>
    if (!(x13.Batch == x14)) = true then
    some (l3, bad_5)
    else
    ((if bad_5 = 10 then
    some 20
    else
    some bad_5 : Option Int)).bind fun bad_16 =>
    (idx a5_ 0).bind fun x19 =>
    (kE x13 x19).bind fun r20 =>
    ((if (!r20) = true then
    some 0
    else
    some bad_16 : Option Int)).bind fun bad_21 =>
    (put l3 n4 (⟨x13.Name, x13.Batch, x13.Born, x13.Last, x13.Uses, x13.Used, x13.Limit, x13.Until, true⟩ : qh)).bind fun l24 =>
    some (l24, bad_21) : Option ((List qh) × Int))).bind fun (l10, bad_11) =>
    qO a1_ a4_ a5_ K l10 (w64 (n4 + 1)) bad_11
    else
    some (l3, bad_5)
def jm (N : Nat) (a0_ : Int) (a1_ : List qh) (a2_ : Int) (a3_ : Str) (a4_ : List Str) (a5_ : List Int) (a6_ : Str) : Option ((List qh) × Int) :=
  (qO a1_ a4_ a5_ N a1_ 0 10).bind fun (l6, bad_7) =>
  some (l6, bad_7)
theorem qaF (N : Nat) (a0_ : Int) (a1_ : List qh) (a2_ : Int) (a3_ : Str) (a4_ : List Str) (a5_ : List Int) (a6_ : Str) {l1 : List qh} {e_2 : Int} (h : jm N a0_ a1_ a2_ a3_ a4_ a5_ a6_ = some (l1, e_2)) : qw Tryz.prog (.fn 145) [.agg [.i a0_, .slice 0 0 a1_.length a1_.length 9], .agg [.i a2_, .str a3_, vl encS a4_, vl encI a5_, .str a6_]] [.cells (a1_.flatMap qa.c)] (.tuple [.agg [.i a0_, .slice 0 0 l1.length l1.length 9], .i e_2]) [.cells (l1.flatMap qa.c)] := by
  unfold jm at h
  refine Goes.fnH Tryz.func145 rfl rfl (m := 45) rfl (rs := [.cell 4 31, .tmp 5]) rfl (l := [(0, .agg [.i a0_, .slice 0 0 a1_.length a1_.length 9]), (1, .agg [.i a2_, .str a3_, vl encS a4_, vl encI a5_, .str a6_])]) rfl ?_
  intro B hB
  refine sq ?_
  refine Goes.rg fol [(2, .ptr 1 0), (3, .ptr 2 0), (4, .ptr 3 0)] [.cells (a1_.flatMap qa.c), .cells [.i a0_, .slice 0 0 a1_.length a1_.length 9], .cells [.i a2_, .str a3_, vl encS a4_, vl encI a5_, .str a6_], .cells [.i 0, .nilslice]] ?_
  refine sq ?_
  refine Goes.rg fol [(2, .ptr 1 0), (3, .ptr 2 0), (4, .ptr 3 0), (6, .i 10)] [.cells (a1_.flatMap qa.c), .cells [.i a0_, .slice 0 0 a1_.length a1_.length 9], .cells [.i a2_, .str a3_, vl encS a4_, vl encI a5_, .str a6_], .cells [.i 0, .nilslice]] ?_
  refine sq ?_
  refine sq ?_
  refine Goes.rg fol [(2, .ptr 1 0), (3, .ptr 2 0), (4, .ptr 3 0), (6, .i 10), (11, .i (a1_.length : Int)), (12, .i 0)] [.cells (a1_.flatMap qa.c), .cells [.i a0_, .slice 0 0 a1_.length a1_.length 9], .cells [.i a2_, .str a3_, vl encS a4_, vl encI a5_, .str a6_], .cells [.i 0, .nilslice]] ?_
  refine Goes.block ?_
  obtain ⟨r8, g8, h⟩ := bnd h
  refine Goes.imp (Q := fun x s' => (x = .exit 0 ∧ ∃ l6 bad_7, (l6, bad_7) = r8 ∧ Sub s' (ofG 45 [(2, .ptr 1 0), (4, .ptr 2 0), (6, .i bad_7)], [.cells (l6.flatMap qa.c), .cells [.i a0_, .slice 0 0 l6.length l6.length 9], .cells [.i 0, .nilslice]]))) ?_ ?_
  · refine Goes.loopS (fun M s => ∃ (l3 : List qh) (n4 : Int) (bad_5 : Int), s = (ofG 45 [(2, .ptr 1 0), (3, .ptr 2 0), (4, .ptr 3 0), (6, .i bad_5), (11, .i (a1_.length : Int)), (12, .i n4)], [.cells (l3.flatMap qa.c), .cells [.i a0_, .slice 0 0 l3.length l3.length 9], .cells [.i a2_, .str a3_, vl encS a4_, vl encI a5_, .str a6_], .cells [.i 0, .nilslice]]) ∧ qO a1_ a4_ a5_ M l3 n4 bad_5 = some r8) ?_ (m := N) ⟨_, _, _, rfl, g8⟩
    rintro M s ⟨l3, n4, bad_5, rfl, g8⟩
    cases M with
    | zero => simp only [qO] at g8; cases g8
    | succ M =>
      rw [qO] at g8
      refine sq ?_
      refine Goes.rg fol [(2, .ptr 1 0), (3, .ptr 2 0), (4, .ptr 3 0), (6, .i bad_5), (11, .i (a1_.length : Int)), (12, .i n4), (13, .bool (decide (n4 < (a1_.length : Int))))] [.cells (l3.flatMap qa.c), .cells [.i a0_, .slice 0 0 l3.length l3.length 9], .cells [.i a2_, .str a3_, vl encS a4_, vl encI a5_, .str a6_], .cells [.i 0, .nilslice]] ?_
      refine sq ?_
      refine Goes.ifB (b := decide (n4 < (a1_.length : Int))) (by kernel_rfl) (fun c9 => ?_) (fun c9 => ?_)
      · rw [if_pos (ot c9)] at g8
        refine Goes.skip ?_
        refine sq ?_
        obtain ⟨r12, g12, g8⟩ := bnd g8
        refine Goes.imp (Q := fun x s' => (x = .normal ∧ ∃ l10 bad_11, (l10, bad_11) = r12 ∧ Sub s' (ofG 45 [(2, .ptr 1 0), (3, .ptr 2 0), (4, .ptr 3 0), (6, .i bad_11), (11, .i (a1_.length : Int)), (12, .i n4)], [.cells (l10.flatMap qa.c), .cells [.i a0_, .slice 0 0 l10.length l10.length 9], .cells [.i a2_, .str a3_, vl encS a4_, vl encI a5_, .str a6_], .cells [.i 0, .nilslice]]))) ?_ ?_
        · refine Goes.block ?_
          refine sq ?_
          refine Goes.rg fol [(2, .ptr 1 0), (3, .ptr 2 0), (4, .ptr 3 0), (6, .i bad_5), (7, .i n4), (11, .i (a1_.length : Int)), (12, .i n4)] [.cells (l3.flatMap qa.c), .cells [.i a0_, .slice 0 0 l3.length l3.length 9], .cells [.i a2_, .str a3_, vl encS a4_, vl encI a5_, .str a6_], .cells [.i 0, .nilslice]] ?_
          refine sq ?_
          obtain ⟨x13, e_x13, g12⟩ := bnd g12
          refine Goes.ro fol [(3, (.done (.ptr 0 ((n4 : Int).toNat * 9 + 0))))] [(2, .ptr 1 0), (3, .ptr 2 0), (4, .ptr 3 0), (6, .i bad_5), (8, .ptr 0 ((n4 : Int).toNat * 9 + 0)), (11, .i (a1_.length : Int)), (12, .i n4)] [.cells (l3.flatMap qa.c), .cells [.i a0_, .slice 0 0 l3.length l3.length 9], .cells [.i a2_, .str a3_, vl encS a4_, vl encI a5_, .str a6_], .cells [.i 0, .nilslice]] [.done (.opt (qj Tryz.prog 29 (.slice 0 0 l3.length l3.length 9) (.i n4))) (.ptr 0 ((n4 : Int).toNat * 9 + 0))] (And.intro (qiW xN e_x13) trivial) ?_
          refine sq ?_
          refine sq ?_
          obtain ⟨x14, e_x14, g12⟩ := bnd g12
          refine Goes.ro fol [(3, (.run (.str x13.Batch) [.cells (l3.flatMap qa.c), .cells [.i a0_, .slice 0 0 l3.length l3.length 9], .cells [.i a2_, .str a3_, vl encS a4_, vl encI a5_, .str a6_], .cells [.i 0, .nilslice]] false)), (6, (.done (.fptr (a4_.flatMap encS.c) ((0 : Int).toNat * 1 + 0)))), (7, (.done (.str x14)))] [(2, .ptr 1 0), (3, .ptr 2 0), (4, .ptr 3 0), (6, .i bad_5), (8, .ptr 0 ((n4 : Int).toNat * 9 + 0)), (11, .i (a1_.length : Int)), (12, .i n4), (27, .bool (!(x13.Batch == x14)))] [.cells (l3.flatMap qa.c), .cells [.i a0_, .slice 0 0 l3.length l3.length 9], .cells [.i a2_, .str a3_, vl encS a4_, vl encI a5_, .str a6_], .cells [.i 0, .nilslice]] [.run [0] (qz Tryz.prog 9 (.ptr 0 ((n4 : Int).toNat * 9 + 1))) [.cells (l3.flatMap qa.c), .cells [.i a0_, .slice 0 0 l3.length l3.length 9], .cells [.i a2_, .str a3_, vl encS a4_, vl encI a5_, .str a6_], .cells [.i 0, .nilslice]] (.str x13.Batch) [.cells (l3.flatMap qa.c), .cells [.i a0_, .slice 0 0 l3.length l3.length 9], .cells [.i a2_, .str a3_, vl encS a4_, vl encI a5_, .str a6_], .cells [.i 0, .nilslice]] false, .done (.opt (qj Tryz.prog 23 (vl encS a4_) (.i 0))) (.fptr (a4_.flatMap encS.c) ((0 : Int).toNat * 1 + 0)), .done (qz Tryz.prog 9 (.fptr (a4_.flatMap encS.c) ((0 : Int).toNat * 1 + 0))) (.str x14)] (And.intro (qeF ce9 (E := qa) (l := l3) rfl rfl e_x13 (Nat.le_of_ble_eq_true rfl) rfl) (And.intro (qF xe (E := encS) rfl e_x14) (And.intro (qJ ce9 (E := encS) rfl e_x14 (Nat.le_of_ble_eq_true rfl) rfl) trivial))) ?_
          refine Goes.ifB (b := !(x13.Batch == x14)) (by kernel_rfl) (fun c15 => ?_) (fun c15 => ?_)
          · rw [if_pos (c15)] at g12
            refine Goes.exit ?_
            obtain rfl := Option.some.inj g12
            exact ⟨rfl, _, _, rfl, (Sub.keep [2, 3, 4, 6, 11, 12] rfl rfl)⟩
          · rw [if_neg (by rw [c15]; exact Bool.false_ne_true)] at g12
            refine Goes.skip ?_
            refine sq ?_
            refine sq ?_
            refine Goes.rg fol [(2, .ptr 1 0), (3, .ptr 2 0), (4, .ptr 3 0), (6, .i bad_5), (8, .ptr 0 ((n4 : Int).toNat * 9 + 0)), (11, .i (a1_.length : Int)), (12, .i n4), (29, .bool (decide (bad_5 = 10)))] [.cells (l3.flatMap qa.c), .cells [.i a0_, .slice 0 0 l3.length l3.length 9], .cells [.i a2_, .str a3_, vl encS a4_, vl encI a5_, .str a6_], .cells [.i 0, .nilslice]] ?_
            obtain ⟨r17, g17, g12⟩ := bnd g12
            refine Goes.imp (Q := fun x s' => (x = .normal ∧ ∃ bad_16, bad_16 = r17 ∧ Sub s' (ofG 45 [(2, .ptr 1 0), (3, .ptr 2 0), (4, .ptr 3 0), (6, .i bad_16), (8, .ptr 0 ((n4 : Int).toNat * 9 + 0)), (11, .i (a1_.length : Int)), (12, .i n4)], [.cells (l3.flatMap qa.c), .cells [.i a0_, .slice 0 0 l3.length l3.length 9], .cells [.i a2_, .str a3_, vl encS a4_, vl encI a5_, .str a6_], .cells [.i 0, .nilslice]]))) ?_ ?_
            · refine Goes.ifB (b := decide (bad_5 = 10)) (by kernel_rfl) (fun c18 => ?_) (fun c18 => ?_)
              · rw [if_pos (ot c18)] at g17
                refine Goes.rg fol [(2, .ptr 1 0), (3, .ptr 2 0), (4, .ptr 3 0), (6, .i 20), (8, .ptr 0 ((n4 : Int).toNat * 9 + 0)), (11, .i (a1_.length : Int)), (12, .i n4)] [.cells (l3.flatMap qa.c), .cells [.i a0_, .slice 0 0 l3.length l3.length 9], .cells [.i a2_, .str a3_, vl encS a4_, vl encI a5_, .str a6_], .cells [.i 0, .nilslice]] ?_
                obtain rfl := Option.some.inj g17
                exact ⟨rfl, _, rfl, (Sub.refl _)⟩
              · rw [if_neg (of_ c18)] at g17
                refine Goes.skip ?_
                obtain rfl := Option.some.inj g17
                exact ⟨rfl, _, rfl, (Sub.keep [2, 3, 4, 6, 8, 11, 12] rfl rfl)⟩
            rintro x s' ⟨rfl, bad_16, rfl, hsub⟩
            refine Goes.sub hsub ?_
            refine sq ?_
            refine sq ?_
            obtain ⟨x19, e_x19, g12⟩ := bnd g12
            obtain ⟨r20, e_r20, g12⟩ := bnd g12
            refine Goes.ro fol [(2, (.run (.agg [.str x13.Name, .str x13.Batch, .i x13.Born, .i x13.Last, .i x13.Uses, .i x13.Used, .i x13.Limit, .i x13.Until, .bool x13.Gone]) [.cells (l3.flatMap qa.c), .cells [.i a0_, .slice 0 0 l3.length l3.length 9], .cells [.i a2_, .str a3_, vl encS a4_, vl encI a5_, .str a6_], .cells [.i 0, .nilslice]] false)), (5, (.done (.fptr (a5_.flatMap encI.c) ((0 : Int).toNat * 1 + 0)))), (6, (.done (.i x19))), (7, (.call [] [.agg [.str x13.Name, .str x13.Batch, .i x13.Born, .i x13.Last, .i x13.Uses, .i x13.Used, .i x13.Limit, .i x13.Until, .bool x13.Gone], .i x19] (.bool r20)))] [(2, .ptr 1 0), (3, .ptr 2 0), (4, .ptr 3 0), (6, .i bad_16), (8, .ptr 0 ((n4 : Int).toNat * 9 + 0)), (11, .i (a1_.length : Int)), (12, .i n4), (38, .bool (!r20))] [.cells (l3.flatMap qa.c), .cells [.i a0_, .slice 0 0 l3.length l3.length 9], .cells [.i a2_, .str a3_, vl encS a4_, vl encI a5_, .str a6_], .cells [.i 0, .nilslice]] [.run [0] (qz Tryz.prog 68 (.ptr 0 ((n4 : Int).toNat * 9 + 0))) [.cells (l3.flatMap qa.c), .cells [.i a0_, .slice 0 0 l3.length l3.length 9], .cells [.i a2_, .str a3_, vl encS a4_, vl encI a5_, .str a6_], .cells [.i 0, .nilslice]] (.agg [.str x13.Name, .str x13.Batch, .i x13.Born, .i x13.Last, .i x13.Uses, .i x13.Used, .i x13.Limit, .i x13.Until, .bool x13.Gone]) [.cells (l3.flatMap qa.c), .cells [.i a0_, .slice 0 0 l3.length l3.length 9], .cells [.i a2_, .str a3_, vl encS a4_, vl encI a5_, .str a6_], .cells [.i 0, .nilslice]] false, .done (.opt (qj Tryz.prog 24 (vl encI a5_) (.i 0))) (.fptr (a5_.flatMap encI.c) ((0 : Int).toNat * 1 + 0)), .done (qz Tryz.prog 3 (.fptr (a5_.flatMap encI.c) ((0 : Int).toNat * 1 + 0))) (.i x19), .call 95 [.agg [.str x13.Name, .str x13.Batch, .i x13.Born, .i x13.Last, .i x13.Uses, .i x13.Used, .i x13.Limit, .i x13.Until, .bool x13.Gone], .i x19] [.cells (l3.flatMap qa.c), .cells [.i a0_, .slice 0 0 l3.length l3.length 9], .cells [.i a2_, .str a3_, vl encS a4_, vl encI a5_, .str a6_], .cells [.i 0, .nilslice]] [] [.agg [.str x13.Name, .str x13.Batch, .i x13.Born, .i x13.Last, .i x13.Uses, .i x13.Used, .i x13.Limit, .i x13.Until, .bool x13.Gone], .i x19] (.bool r20)] (And.intro (qgf qii (E := qa) (l := l3) rfl rfl e_x13) (And.intro (qF vN (E := encI) rfl e_x19) (And.intro (qJ ce3 (E := encI) rfl e_x19 (Nat.le_of_ble_eq_true rfl) rfl) (And.intro (qo (AllST.cons (Still.agg (AllST.cons (Still.str 10 _) (AllST.cons (Still.str 10 _) (AllST.cons (Still.int 10 _ _) (AllST.cons (Still.int 10 _ _) (AllST.cons (Still.int 10 _ _) (AllST.cons (Still.int 10 _ _) (AllST.cons (Still.int 10 _ _) (AllST.cons (Still.int 10 _ _) (AllST.cons (Still.bool 10 _) AllST.nil)))))))))) (AllST.cons (Still.int 11 _ _) AllST.nil)) (zZ x13 x19 e_r20) (Still.bool 11 _)) trivial)))) ?_
            obtain ⟨r22, g22, g12⟩ := bnd g12
            refine Goes.imp (Q := fun x s' => (x = .normal ∧ ∃ bad_21, bad_21 = r22 ∧ Sub s' (ofG 45 [(2, .ptr 1 0), (3, .ptr 2 0), (4, .ptr 3 0), (6, .i bad_21), (8, .ptr 0 ((n4 : Int).toNat * 9 + 0)), (11, .i (a1_.length : Int)), (12, .i n4)], [.cells (l3.flatMap qa.c), .cells [.i a0_, .slice 0 0 l3.length l3.length 9], .cells [.i a2_, .str a3_, vl encS a4_, vl encI a5_, .str a6_], .cells [.i 0, .nilslice]]))) ?_ ?_
            · refine Goes.ifB (b := !r20) (by kernel_rfl) (fun c23 => ?_) (fun c23 => ?_)
              · rw [if_pos (c23)] at g22
                refine Goes.rg fol [(2, .ptr 1 0), (3, .ptr 2 0), (4, .ptr 3 0), (6, .i 0), (8, .ptr 0 ((n4 : Int).toNat * 9 + 0)), (11, .i (a1_.length : Int)), (12, .i n4)] [.cells (l3.flatMap qa.c), .cells [.i a0_, .slice 0 0 l3.length l3.length 9], .cells [.i a2_, .str a3_, vl encS a4_, vl encI a5_, .str a6_], .cells [.i 0, .nilslice]] ?_
                obtain rfl := Option.some.inj g22
                exact ⟨rfl, _, rfl, (Sub.refl _)⟩
              · rw [if_neg (by rw [c23]; exact Bool.false_ne_true)] at g22
                refine Goes.skip ?_
                obtain rfl := Option.some.inj g22
                exact ⟨rfl, _, rfl, (Sub.keep [2, 3, 4, 6, 8, 11, 12] rfl rfl)⟩
            rintro x s' ⟨rfl, bad_21, rfl, hsub⟩
            refine Goes.sub hsub ?_
            obtain ⟨l24, e_l24, g12⟩ := bnd g12
            refine Goes.ro fol [(3, (.run .undef [.cells (l24.flatMap qa.c), .cells [.i a0_, .slice 0 0 l3.length l3.length 9], .cells [.i a2_, .str a3_, vl encS a4_, vl encI a5_, .str a6_], .cells [.i 0, .nilslice]] true))] [(2, .ptr 1 0), (3, .ptr 2 0), (4, .ptr 3 0), (6, .i bad_21), (11, .i (a1_.length : Int)), (12, .i n4)] [.cells (l24.flatMap qa.c), .cells [.i a0_, .slice 0 0 l3.length l3.length 9], .cells [.i a2_, .str a3_, vl encS a4_, vl encI a5_, .str a6_], .cells [.i 0, .nilslice]] [.run [0] (yh Tryz.prog 4 (.ptr 0 ((n4 : Int).toNat * 9 + 8)) (.bool true)) [.cells (l3.flatMap qa.c), .cells [.i a0_, .slice 0 0 l3.length l3.length 9], .cells [.i a2_, .str a3_, vl encS a4_, vl encI a5_, .str a6_], .cells [.i 0, .nilslice]] .undef [.cells (l24.flatMap qa.c), .cells [.i a0_, .slice 0 0 l3.length l3.length 9], .cells [.i a2_, .str a3_, vl encS a4_, vl encI a5_, .str a6_], .cells [.i 0, .nilslice]] true] (And.intro (qbN (E := qa) (l := l3) (y := (⟨x13.Name, x13.Batch, x13.Born, x13.Last, x13.Uses, x13.Used, x13.Limit, x13.Until, true⟩ : qh)) rfl (show _ = some 1 by kernel_rfl) rfl e_x13 rfl rfl rfl rfl rfl e_l24 rfl) trivial) ?_
            obtain rfl := Option.some.inj g12
            exact ⟨rfl, _, _, rfl, ((show Sub (ofG 45 [(2, .ptr 1 0), (3, .ptr 2 0), (4, .ptr 3 0), (6, .i bad_21), (11, .i (a1_.length : Int)), (12, .i n4)], [.cells (l24.flatMap qa.c), .cells [.i a0_, .slice 0 0 l3.length l3.length 9], .cells [.i a2_, .str a3_, vl encS a4_, vl encI a5_, .str a6_], .cells [.i 0, .nilslice]]) (ofG 45 [(2, .ptr 1 0), (3, .ptr 2 0), (4, .ptr 3 0), (6, .i bad_21), (11, .i (a1_.length : Int)), (12, .i n4)], [.cells (l24.flatMap qa.c), .cells [.i a0_, .slice 0 0 l24.length l24.length 9], .cells [.i a2_, .str a3_, vl encS a4_, vl encI a5_, .str a6_], .cells [.i 0, .nilslice]]) from (Sub.norm [] [some 0, some 1, some 2, some 3] (by rw [hB]; rfl) rfl (.keep (.ptr rfl) (.keep (.ptr rfl) (.keep (.ptr rfl) (.keep (.same (qc.int _ _)) (.keep (.same (qc.int _ _)) (.keep (.same (qc.int _ _)) .nil)))))) (.keep rfl (.same fa) rfl rfl (.keep rfl (.cells (qg.cons (.same (qc.int _ _)) (qg.cons (.sliceE rfl (yY e_l24)) qg.nil))) rfl rfl (.keep rfl (.same (qf.cons (qc.int _ _) (qf.cons (qc.str _) (qf.cons (ql encS _) (qf.cons (ql encI _) (qf.cons (qc.str _) qf.nil)))))) rfl rfl (.keep rfl (.same (qf.cons (qc.int _ _) (qf.cons (qc.nilslice) qf.nil))) rfl rfl .nil)))))).trans (Sub.refl _))⟩
        rintro x s' ⟨rfl, l10, bad_11, rfl, hsub⟩
        try dsimp only at g8
        refine Goes.sub hsub ?_
        refine Goes.rg fol [(2, .ptr 1 0), (3, .ptr 2 0), (4, .ptr 3 0), (6, .i bad_11), (11, .i (a1_.length : Int)), (12, .i (w64 (n4 + 1)))] [.cells (l10.flatMap qa.c), .cells [.i a0_, .slice 0 0 l10.length l10.length 9], .cells [.i a2_, .str a3_, vl encS a4_, vl encI a5_, .str a6_], .cells [.i 0, .nilslice]] ?_
        exact ⟨M, (ofG 45 [(2, .ptr 1 0), (3, .ptr 2 0), (4, .ptr 3 0), (6, .i bad_11), (11, .i (a1_.length : Int)), (12, .i (w64 (n4 + 1)))], [.cells (l10.flatMap qa.c), .cells [.i a0_, .slice 0 0 l10.length l10.length 9], .cells [.i a2_, .str a3_, vl encS a4_, vl encI a5_, .str a6_], .cells [.i 0, .nilslice]]), Nat.lt_succ_self _, (Sub.refl _), _, _, _, rfl, g8⟩
      · rw [if_neg (of_ c9)] at g8
        refine Goes.exit ?_
        obtain rfl := Option.some.inj g8
        exact ⟨rfl, _, _, rfl, (Sub.norm [] [some 0, some 1, some 3] (by rw [hB]; rfl) rfl (.keep (.ptr rfl) (.drop (.keep (.ptr rfl) (.keep (.same (qc.int _ _)) .nil)))) (.keep rfl (.same fa) rfl rfl (.keep rfl (.cells (qg.cons (.same (qc.int _ _)) (qg.cons (.slice rfl) qg.nil))) rfl rfl (.keep rfl (.same (qf.cons (qc.int _ _) (qf.cons (qc.nilslice) qf.nil))) rfl rfl .nil))))⟩
  rintro x s' ⟨rfl, l6, bad_7, rfl, hsub⟩
  try dsimp only at h
  refine Goes.sub hsub ?_
  refine sq ?_
  refine Goes.rg fol [(4, .ptr 2 0), (5, .i bad_7)] [.cells (l6.flatMap qa.c), .cells [.i a0_, .slice 0 0 l6.length l6.length 9], .cells [.i a0_, .slice 0 0 l6.length l6.length 9]] ?_
  refine Goes.ret ?_
  simp only [Option.some.injEq, Prod.mk.injEq] at h
  obtain ⟨rfl, rfl⟩ := h
  exact (Goes.retH (xs := [.agg [.i a0_, .slice 0 0 l6.length l6.length 9], .i bad_7]) (by kernel_rfl) (Sub.norm [] [some 0] (by rw [hB]; rfl) rfl (.keep (.tupleL (qg.cons (.aggL (qg.cons (.same (qc.int _ _)) (qg.cons (.slice rfl) qg.nil))) (qg.cons (.same (qc.int _ _)) qg.nil))) .nil) (.keep rfl (.same fa) rfl rfl .nil)))
def qA (N : Nat) (a0_ : Int) (a1_ : List qh) (a2_ : Int) (a3_ : Str) (a4_ : List Str) (a5_ : List Int) (a6_ : Str) : Option (Int × (List qh) × Int) :=
  (idx a5_ 0).bind fun x4 =>
  (zD x4).bind fun r5 =>
  (qZ (decide (x4 < a0_)) 19).bind fun r6 =>
  (kY N ([r5, r6] : List Int)).bind fun r7 =>
  if (!decide (r7 = 0)) = true then
  some (0, [], r7)
  else
  ((zk).bind fun r9 =>
  if (a3_ == [109, 97, 107, 101]) = true then
  (qy a0_ a1_).bind fun l12 =>
  (vH N a0_ l12 a2_ a3_ a4_ a5_ a6_).bind fun (l14, e_15) =>
  some (l14, e_15)
  else
  if (a3_ == [116, 101, 115, 116]) = true then
  (qy a0_ a1_).bind fun l18 =>
  (jP N a0_ l18 a2_ a3_ a4_ a5_ a6_).bind fun (l20, e_21) =>
  some (l20, e_21)
  else
  if (a3_ == [117, 115, 101]) = true then
  (qy a0_ a1_).bind fun l24 =>
  (vD N a0_ l24 a2_ a3_ a4_ a5_ a6_).bind fun (l26, e_27) =>
  some (l26, e_27)
  else
  if (a3_ == [102, 97, 105, 108]) = true then
  (qy a0_ a1_).bind fun l30 =>
  (jJ N a0_ l30 a2_ a3_ a4_ a5_ a6_).bind fun (l32, e_33) =>
  some (l32, e_33)
  else
  if (a3_ == [114, 101, 99, 97, 108, 108]) = true then
  (qy a0_ a1_).bind fun l36 =>
  (jm N a0_ l36 a2_ a3_ a4_ a5_ a6_).bind fun (l38, e_39) =>
  some (l38, e_39)
  else
  if (a3_ == [117, 110, 100, 111]) = true then
  none
  else
  none : Option ((List qh) × Int)).bind fun (l45, bad_46) =>
  some (x4, l45, bad_46)
theorem yZ (N : Nat) (a0_ : Int) (a1_ : List qh) (a2_ : Int) (a3_ : Str) (a4_ : List Str) (a5_ : List Int) (a6_ : Str) {n1 : Int} {l2 : List qh} {e_3 : Int} (h : qA N a0_ a1_ a2_ a3_ a4_ a5_ a6_ = some (n1, l2, e_3)) : qw Tryz.prog (.fn 147) [.agg [.i a0_, vl qa a1_], .agg [.i a2_, .str a3_, vl encS a4_, vl encI a5_, .str a6_]] [] (.tuple [.agg [.i n1, vl qa l2], .i e_3]) [] := by
  unfold qA at h
  refine Goes.fnH Tryz.func147 rfl rfl (m := 43) rfl (rs := [.cell 4 31, .tmp 5]) rfl (l := [(0, .agg [.i a0_, vl qa a1_]), (1, .agg [.i a2_, .str a3_, vl encS a4_, vl encI a5_, .str a6_])]) rfl ?_
  intro B hB
  refine sq ?_
  refine Goes.rg fol [(2, .ptr 0 0), (3, .ptr 1 0), (4, .ptr 2 0)] [.cells [.i a0_, vl qa a1_], .cells [.i a2_, .str a3_, vl encS a4_, vl encI a5_, .str a6_], .cells [.i 0, .nilslice]] ?_
  refine sq ?_
  obtain ⟨x4, e_x4, h⟩ := bnd h
  refine Goes.ro fol [(2, (.done (.fptr (a5_.flatMap encI.c) ((0 : Int).toNat * 1 + 0)))), (3, (.done (.i x4)))] [(2, .ptr 0 0), (3, .ptr 1 0), (4, .ptr 2 0), (6, .i x4)] [.cells [.i a0_, vl qa a1_], .cells [.i a2_, .str a3_, vl encS a4_, vl encI a5_, .str a6_], .cells [.i 0, .nilslice]] [.done (.opt (qj Tryz.prog 24 (vl encI a5_) (.i 0))) (.fptr (a5_.flatMap encI.c) ((0 : Int).toNat * 1 + 0)), .done (qz Tryz.prog 3 (.fptr (a5_.flatMap encI.c) ((0 : Int).toNat * 1 + 0))) (.i x4)] (And.intro (qF vN (E := encI) rfl e_x4) (And.intro (qJ ce3 (E := encI) rfl e_x4 (Nat.le_of_ble_eq_true rfl) rfl) trivial)) ?_
  refine sq ?_
  refine sq ?_
  obtain ⟨r5, e_r5, h⟩ := bnd h
  obtain ⟨r6, e_r6, h⟩ := bnd h
  obtain ⟨r7, e_r7, h⟩ := bnd h
  refine Goes.ro fol [(1, (.call [] [.i x4] (.i r5))), (6, (.call [] [.bool (decide (x4 < a0_)), .i 19] (.i r6))), (8, (.call [3] [vl encI ([r5, r6] : List Int)] (.i r7)))] [(2, .ptr 0 0), (3, .ptr 1 0), (4, .ptr 2 0), (6, .i x4), (7, .i r7)] [.cells [.i a0_, vl qa a1_], .cells [.i a2_, .str a3_, vl encS a4_, vl encI a5_, .str a6_], .cells [.i 0, .nilslice], .cells [.i r5, .i r6]] [.call 94 [.i x4] [.cells [.i a0_, vl qa a1_], .cells [.i a2_, .str a3_, vl encS a4_, vl encI a5_, .str a6_], .cells [.i 0, .nilslice]] [] [.i x4] (.i r5), .call 88 [.bool (decide (x4 < a0_)), .i 19] [.cells [.i a0_, vl qa a1_], .cells [.i a2_, .str a3_, vl encS a4_, vl encI a5_, .str a6_], .cells [.i 0, .nilslice]] [] [.bool (decide (x4 < a0_)), .i 19] (.i r6), .call 86 [.slice 3 0 2 2 1] [.cells [.i a0_, vl qa a1_], .cells [.i a2_, .str a3_, vl encS a4_, vl encI a5_, .str a6_], .cells [.i 0, .nilslice], .cells [.i r5, .i r6]] [3] [vl encI ([r5, r6] : List Int)] (.i r7)] (And.intro (qo (AllST.cons (Still.int 11 _ _) AllST.nil) (jZ x4 e_r5) (Still.int 11 _ _)) (And.intro (qo (AllST.cons (Still.bool 11 _) (AllST.cons (Still.int 11 _ _) AllST.nil)) (qI (decide (x4 < a0_)) 19 e_r6) (Still.int 11 _ _)) (And.intro (yg (FzL.cons (Fz.lit rfl rfl (FzL.still (AllST.cons (Still.int 10 _ _) (AllST.cons (Still.int 10 _ _) AllST.nil)))) FzL.nil) (zC N ([r5, r6] : List Int) e_r7) (Still.int 11 _ _) rfl) trivial))) ?_
  refine sq ?_
  refine Goes.rg fol [(2, .ptr 0 0), (3, .ptr 1 0), (4, .ptr 2 0), (6, .i x4), (7, .i r7), (24, .bool (!decide (r7 = 0)))] [.cells [.i a0_, vl qa a1_], .cells [.i a2_, .str a3_, vl encS a4_, vl encI a5_, .str a6_], .cells [.i 0, .nilslice], .cells [.i r5, .i r6]] ?_
  refine Goes.ifB (b := !decide (r7 = 0)) (by kernel_rfl) (fun c8 => ?_) (fun c8 => ?_)
  · rw [if_pos (c8)] at h
    refine sq ?_
    refine Goes.rg fol [(4, .ptr 2 0), (5, .i r7)] [.cells [.i a0_, vl qa a1_], .cells [.i a2_, .str a3_, vl encS a4_, vl encI a5_, .str a6_], .cells [.i 0, .nilslice], .cells [.i r5, .i r6]] ?_
    refine Goes.ret ?_
    simp only [Option.some.injEq, Prod.mk.injEq] at h
    obtain ⟨rfl, rfl, rfl⟩ := h
    exact (Goes.retH (xs := [.agg [.i 0, .nilslice], .i r7]) (by kernel_rfl) (Sub.norm [] [] (by rw [hB]; rfl) rfl (.keep (.tupleL (qg.cons (.aggL (qg.cons (.same (qc.int _ _)) (qg.cons (.nilv) qg.nil))) (qg.cons (.same (qc.int _ _)) qg.nil))) .nil) .nil))
  · rw [if_neg (by rw [c8]; exact Bool.false_ne_true)] at h
    refine Goes.skip ?_
    refine sq ?_
    obtain ⟨⟨l45, bad_46⟩, g_v47, h⟩ := bnd h
    refine Goes.cutS (s' := (ofG 43 [(4, .ptr 0 0), (6, .i x4), (8, .ptr 1 0), (9, .i bad_46)], [.cells [.i 0, .nilslice], .cells [.i a0_, vl qa l45]])) ?_ ?_
    · obtain ⟨r9, e_r9, g_v47⟩ := bnd g_v47
      rcases Bool.eq_false_or_eq_true (a3_ == [109, 97, 107, 101]) with c10 | c10
      · rw [if_pos (c10)] at g_v47
        obtain ⟨l12, e_r11, g_v47⟩ := bnd g_v47
        obtain ⟨⟨l14, e_15⟩, e_r13, g_v47⟩ := bnd g_v47
        try dsimp only at g_v47
        simp only [Option.some.injEq, Prod.mk.injEq] at g_v47
        obtain ⟨rfl, rfl⟩ := g_v47
        exact qp.sub (qp.ro fol [(0, (.call [] [] fm1)), (3, (.done (.agg [.i 2, .i 3, .func (.func 141) [] []]))), (6, (.callH [] (.agg [.i a0_, .slice 4 0 l12.length l12.length 9]) [.cells [.i a0_, vl qa a1_], .cells [.i a2_, .str a3_, vl encS a4_, vl encI a5_, .str a6_], .cells [.i 0, .nilslice], .cells [.i r5, .i r6], .cells (l12.flatMap qa.c)])), (8, (.callH [4] (.tuple [.agg [.i a0_, vl qa l14], .i e_15]) [.cells [.i a0_, vl qa a1_], .cells [.i a2_, .str a3_, vl encS a4_, vl encI a5_, .str a6_], .cells [.i 0, .nilslice], .cells [.i r5, .i r6], .dead]))] [(4, .ptr 2 0), (6, .i x4), (8, .ptr 5 0), (9, .i e_15)] [.cells [.i a0_, vl qa a1_], .cells [.i a2_, .str a3_, vl encS a4_, vl encI a5_, .str a6_], .cells [.i 0, .nilslice], .cells [.i r5, .i r6], .dead, .cells [.i a0_, vl qa l14]] [.call 85 [] [.cells [.i a0_, vl qa a1_], .cells [.i a2_, .str a3_, vl encS a4_, vl encI a5_, .str a6_], .cells [.i 0, .nilslice], .cells [.i r5, .i r6]] [] [] fm1, .done (zQ Tryz.prog 154 (fm1) (.str a3_) false) (.agg [.i 2, .i 3, .func (.func 141) [] []]), .callH 82 [.agg [.i a0_, vl qa a1_]] [.cells [.i a0_, vl qa a1_], .cells [.i a2_, .str a3_, vl encS a4_, vl encI a5_, .str a6_], .cells [.i 0, .nilslice], .cells [.i r5, .i r6]] [] (.agg [.i a0_, .slice 4 0 l12.length l12.length 9]) [.cells [.i a0_, vl qa a1_], .cells [.i a2_, .str a3_, vl encS a4_, vl encI a5_, .str a6_], .cells [.i 0, .nilslice], .cells [.i r5, .i r6], .cells (l12.flatMap qa.c)], .callH 141 [.agg [.i a0_, .slice 4 0 l12.length l12.length 9], .agg [.i a2_, .str a3_, vl encS a4_, vl encI a5_, .str a6_]] [.cells [.i a0_, vl qa a1_], .cells [.i a2_, .str a3_, vl encS a4_, vl encI a5_, .str a6_], .cells [.i 0, .nilslice], .cells [.i r5, .i r6], .cells (l12.flatMap qa.c)] [4] (.tuple [.agg [.i a0_, vl qa l14], .i e_15]) [.cells [.i a0_, vl qa a1_], .cells [.i a2_, .str a3_, vl encS a4_, vl encI a5_, .str a6_], .cells [.i 0, .nilslice], .cells [.i r5, .i r6], .dead]] (And.intro (qo AllST.nil (kw e_r9) (Still.fmap (AllST.cons (Still.str 10 _) (AllST.cons (Still.str 10 _) (AllST.cons (Still.str 10 _) (AllST.cons (Still.str 10 _) (AllST.cons (Still.str 10 _) (AllST.cons (Still.str 10 _) AllST.nil)))))) (AllST.cons (Still.agg (AllST.cons (Still.int 9 _ _) (AllST.cons (Still.int 9 _ _) (AllST.cons (Still.func AllST.nil AllST.nil) AllST.nil)))) (AllST.cons (Still.agg (AllST.cons (Still.int 9 _ _) (AllST.cons (Still.int 9 _ _) (AllST.cons (Still.func AllST.nil AllST.nil) AllST.nil)))) (AllST.cons (Still.agg (AllST.cons (Still.int 9 _ _) (AllST.cons (Still.int 9 _ _) (AllST.cons (Still.func AllST.nil AllST.nil) AllST.nil)))) (AllST.cons (Still.agg (AllST.cons (Still.int 9 _ _) (AllST.cons (Still.int 9 _ _) (AllST.cons (Still.func AllST.nil AllST.nil) AllST.nil)))) (AllST.cons (Still.agg (AllST.cons (Still.int 9 _ _) (AllST.cons (Still.int 9 _ _) (AllST.cons (Still.func AllST.nil AllST.nil) AllST.nil)))) (AllST.cons (Still.agg (AllST.cons (Still.int 9 _ _) (AllST.cons (Still.int 9 _ _) (AllST.cons (Still.nilfunc 9) AllST.nil)))) AllST.nil)))))))) (And.intro (qb6 qaw [[109, 97, 107, 101], [116, 101, 115, 116], [117, 115, 101], [102, 97, 105, 108], [114, 101, 99, 97, 108, 108], [117, 110, 100, 111]] (jL c10) rfl) (And.intro (jf [] [none, none, none, none, some 0] (kH a0_ a1_ e_r11) .nil rfl rfl (.old rfl rfl (.old rfl rfl (.old rfl rfl (.old rfl rfl (.new rfl rfl (.same fa) rfl .nil))))) (qg.cons (.same (qc.agg (qf.cons (qc.int _ _) (qf.cons (ql qa _) qf.nil)))) qg.nil) (.aggL (qg.cons (.same (qc.int _ _)) (qg.cons (.slice rfl) qg.nil))) rfl) (And.intro (jf [some 4] [none, none, none, none, none] (qb0 N a0_ l12 a2_ a3_ a4_ a5_ a6_ e_r13) (.keep rfl (.same fa) rfl rfl .nil) rfl rfl (.old rfl rfl (.old rfl rfl (.old rfl rfl (.old rfl rfl (.dead .nil))))) (qg.cons (.aggL (qg.cons (.same (qc.int _ _)) (qg.cons (.slice rfl) qg.nil))) (qg.cons (.same (qc.agg (qf.cons (qc.int _ _) (qf.cons (qc.str _) (qf.cons (ql encS _) (qf.cons (ql encI _) (qf.cons (qc.str _) qf.nil))))))) qg.nil)) (.same (qc.tuple (qf.cons (qc.agg (qf.cons (qc.int _ _) (qf.cons (ql qa _) qf.nil))) (qf.cons (qc.int _ _) qf.nil)))) rfl) trivial))))) (Sub.norm [] [some 2, some 5] (by rw [hB]; rfl) rfl (.keep (.ptr rfl) (.keep (.same (qc.int _ _)) (.keep (.ptr rfl) (.keep (.same (qc.int _ _)) .nil)))) (.keep rfl (.same (qf.cons (qc.int _ _) (qf.cons (qc.nilslice) qf.nil))) rfl rfl (.keep rfl (.same (qf.cons (qc.int _ _) (qf.cons (ql qa _) qf.nil))) rfl rfl .nil)))
      · rw [if_neg (by rw [c10]; exact Bool.false_ne_true)] at g_v47
        rcases Bool.eq_false_or_eq_true (a3_ == [116, 101, 115, 116]) with c16 | c16
        · rw [if_pos (c16)] at g_v47
          obtain ⟨l18, e_r17, g_v47⟩ := bnd g_v47
          obtain ⟨⟨l20, e_21⟩, e_r19, g_v47⟩ := bnd g_v47
          try dsimp only at g_v47
          simp only [Option.some.injEq, Prod.mk.injEq] at g_v47
          obtain ⟨rfl, rfl⟩ := g_v47
          exact qp.sub (qp.ro fol [(0, (.call [] [] fm1)), (3, (.done (.agg [.i 1, .i 2, .func (.func 142) [] []]))), (6, (.callH [] (.agg [.i a0_, .slice 4 0 l18.length l18.length 9]) [.cells [.i a0_, vl qa a1_], .cells [.i a2_, .str a3_, vl encS a4_, vl encI a5_, .str a6_], .cells [.i 0, .nilslice], .cells [.i r5, .i r6], .cells (l18.flatMap qa.c)])), (8, (.callH [4] (.tuple [.agg [.i a0_, .slice 4 0 l20.length l20.length 9], .i e_21]) [.cells [.i a0_, vl qa a1_], .cells [.i a2_, .str a3_, vl encS a4_, vl encI a5_, .str a6_], .cells [.i 0, .nilslice], .cells [.i r5, .i r6], .cells (l20.flatMap qa.c)]))] [(4, .ptr 2 0), (6, .i x4), (8, .ptr 5 0), (9, .i e_21)] [.cells [.i a0_, vl qa a1_], .cells [.i a2_, .str a3_, vl encS a4_, vl encI a5_, .str a6_], .cells [.i 0, .nilslice], .cells [.i r5, .i r6], .cells (l20.flatMap qa.c), .cells [.i a0_, .slice 4 0 l20.length l20.length 9]] [.call 85 [] [.cells [.i a0_, vl qa a1_], .cells [.i a2_, .str a3_, vl encS a4_, vl encI a5_, .str a6_], .cells [.i 0, .nilslice], .cells [.i r5, .i r6]] [] [] fm1, .done (zQ Tryz.prog 154 (fm1) (.str a3_) false) (.agg [.i 1, .i 2, .func (.func 142) [] []]), .callH 82 [.agg [.i a0_, vl qa a1_]] [.cells [.i a0_, vl qa a1_], .cells [.i a2_, .str a3_, vl encS a4_, vl encI a5_, .str a6_], .cells [.i 0, .nilslice], .cells [.i r5, .i r6]] [] (.agg [.i a0_, .slice 4 0 l18.length l18.length 9]) [.cells [.i a0_, vl qa a1_], .cells [.i a2_, .str a3_, vl encS a4_, vl encI a5_, .str a6_], .cells [.i 0, .nilslice], .cells [.i r5, .i r6], .cells (l18.flatMap qa.c)], .callH 142 [.agg [.i a0_, .slice 4 0 l18.length l18.length 9], .agg [.i a2_, .str a3_, vl encS a4_, vl encI a5_, .str a6_]] [.cells [.i a0_, vl qa a1_], .cells [.i a2_, .str a3_, vl encS a4_, vl encI a5_, .str a6_], .cells [.i 0, .nilslice], .cells [.i r5, .i r6], .cells (l18.flatMap qa.c)] [4] (.tuple [.agg [.i a0_, .slice 4 0 l20.length l20.length 9], .i e_21]) [.cells [.i a0_, vl qa a1_], .cells [.i a2_, .str a3_, vl encS a4_, vl encI a5_, .str a6_], .cells [.i 0, .nilslice], .cells [.i r5, .i r6], .cells (l20.flatMap qa.c)]] (And.intro (qo AllST.nil (kw e_r9) (Still.fmap (AllST.cons (Still.str 10 _) (AllST.cons (Still.str 10 _) (AllST.cons (Still.str 10 _) (AllST.cons (Still.str 10 _) (AllST.cons (Still.str 10 _) (AllST.cons (Still.str 10 _) AllST.nil)))))) (AllST.cons (Still.agg (AllST.cons (Still.int 9 _ _) (AllST.cons (Still.int 9 _ _) (AllST.cons (Still.func AllST.nil AllST.nil) AllST.nil)))) (AllST.cons (Still.agg (AllST.cons (Still.int 9 _ _) (AllST.cons (Still.int 9 _ _) (AllST.cons (Still.func AllST.nil AllST.nil) AllST.nil)))) (AllST.cons (Still.agg (AllST.cons (Still.int 9 _ _) (AllST.cons (Still.int 9 _ _) (AllST.cons (Still.func AllST.nil AllST.nil) AllST.nil)))) (AllST.cons (Still.agg (AllST.cons (Still.int 9 _ _) (AllST.cons (Still.int 9 _ _) (AllST.cons (Still.func AllST.nil AllST.nil) AllST.nil)))) (AllST.cons (Still.agg (AllST.cons (Still.int 9 _ _) (AllST.cons (Still.int 9 _ _) (AllST.cons (Still.func AllST.nil AllST.nil) AllST.nil)))) (AllST.cons (Still.agg (AllST.cons (Still.int 9 _ _) (AllST.cons (Still.int 9 _ _) (AllST.cons (Still.nilfunc 9) AllST.nil)))) AllST.nil)))))))) (And.intro (qb6 qaw [[109, 97, 107, 101], [116, 101, 115, 116], [117, 115, 101], [102, 97, 105, 108], [114, 101, 99, 97, 108, 108], [117, 110, 100, 111]] (qB c10 (jL c16)) rfl) (And.intro (jf [] [none, none, none, none, some 0] (kH a0_ a1_ e_r17) .nil rfl rfl (.old rfl rfl (.old rfl rfl (.old rfl rfl (.old rfl rfl (.new rfl rfl (.same fa) rfl .nil))))) (qg.cons (.same (qc.agg (qf.cons (qc.int _ _) (qf.cons (ql qa _) qf.nil)))) qg.nil) (.aggL (qg.cons (.same (qc.int _ _)) (qg.cons (.slice rfl) qg.nil))) rfl) (And.intro (jf [some 4] [none, none, none, none, some 0] (qbe N a0_ l18 a2_ a3_ a4_ a5_ a6_ e_r19) (.keep rfl (.same fa) rfl rfl .nil) rfl rfl (.old rfl rfl (.old rfl rfl (.old rfl rfl (.old rfl rfl (.back rfl rfl (.same fa) rfl .nil))))) (qg.cons (.aggL (qg.cons (.same (qc.int _ _)) (qg.cons (.slice rfl) qg.nil))) (qg.cons (.same (qc.agg (qf.cons (qc.int _ _) (qf.cons (qc.str _) (qf.cons (ql encS _) (qf.cons (ql encI _) (qf.cons (qc.str _) qf.nil))))))) qg.nil)) (.tupleL (qg.cons (.aggL (qg.cons (.same (qc.int _ _)) (qg.cons (.slice rfl) qg.nil))) (qg.cons (.same (qc.int _ _)) qg.nil))) rfl) trivial))))) (Sub.norm [4] [some 2, some 5] (by rw [hB]; rfl) rfl (.keep (.ptr rfl) (.keep (.same (qc.int _ _)) (.keep (.ptr rfl) (.keep (.same (qc.int _ _)) .nil)))) (.keep rfl (.same (qf.cons (qc.int _ _) (qf.cons (qc.nilslice) qf.nil))) rfl rfl (.keep rfl (.cells (qg.cons (.same (qc.int _ _)) (qg.cons (.frz (Fz.sl (E := qa) rfl rfl (Nat.le_of_ble_eq_true rfl)) (ql qa _)) qg.nil))) rfl rfl .nil)))
        · rw [if_neg (by rw [c16]; exact Bool.false_ne_true)] at g_v47
          rcases Bool.eq_false_or_eq_true (a3_ == [117, 115, 101]) with c22 | c22
          · rw [if_pos (c22)] at g_v47
            obtain ⟨l24, e_r23, g_v47⟩ := bnd g_v47
            obtain ⟨⟨l26, e_27⟩, e_r25, g_v47⟩ := bnd g_v47
            try dsimp only at g_v47
            simp only [Option.some.injEq, Prod.mk.injEq] at g_v47
            obtain ⟨rfl, rfl⟩ := g_v47
            exact qp.sub (qp.ro fol [(0, (.call [] [] fm1)), (3, (.done (.agg [.i 1, .i 2, .func (.func 143) [] []]))), (6, (.callH [] (.agg [.i a0_, .slice 4 0 l24.length l24.length 9]) [.cells [.i a0_, vl qa a1_], .cells [.i a2_, .str a3_, vl encS a4_, vl encI a5_, .str a6_], .cells [.i 0, .nilslice], .cells [.i r5, .i r6], .cells (l24.flatMap qa.c)])), (8, (.callH [4] (.tuple [.agg [.i a0_, .slice 4 0 l26.length l26.length 9], .i e_27]) [.cells [.i a0_, vl qa a1_], .cells [.i a2_, .str a3_, vl encS a4_, vl encI a5_, .str a6_], .cells [.i 0, .nilslice], .cells [.i r5, .i r6], .cells (l26.flatMap qa.c)]))] [(4, .ptr 2 0), (6, .i x4), (8, .ptr 5 0), (9, .i e_27)] [.cells [.i a0_, vl qa a1_], .cells [.i a2_, .str a3_, vl encS a4_, vl encI a5_, .str a6_], .cells [.i 0, .nilslice], .cells [.i r5, .i r6], .cells (l26.flatMap qa.c), .cells [.i a0_, .slice 4 0 l26.length l26.length 9]] [.call 85 [] [.cells [.i a0_, vl qa a1_], .cells [.i a2_, .str a3_, vl encS a4_, vl encI a5_, .str a6_], .cells [.i 0, .nilslice], .cells [.i r5, .i r6]] [] [] fm1, .done (zQ Tryz.prog 154 (fm1) (.str a3_) false) (.agg [.i 1, .i 2, .func (.func 143) [] []]), .callH 82 [.agg [.i a0_, vl qa a1_]] [.cells [.i a0_, vl qa a1_], .cells [.i a2_, .str a3_, vl encS a4_, vl encI a5_, .str a6_], .cells [.i 0, .nilslice], .cells [.i r5, .i r6]] [] (.agg [.i a0_, .slice 4 0 l24.length l24.length 9]) [.cells [.i a0_, vl qa a1_], .cells [.i a2_, .str a3_, vl encS a4_, vl encI a5_, .str a6_], .cells [.i 0, .nilslice], .cells [.i r5, .i r6], .cells (l24.flatMap qa.c)], .callH 143 [.agg [.i a0_, .slice 4 0 l24.length l24.length 9], .agg [.i a2_, .str a3_, vl encS a4_, vl encI a5_, .str a6_]] [.cells [.i a0_, vl qa a1_], .cells [.i a2_, .str a3_, vl encS a4_, vl encI a5_, .str a6_], .cells [.i 0, .nilslice], .cells [.i r5, .i r6], .cells (l24.flatMap qa.c)] [4] (.tuple [.agg [.i a0_, .slice 4 0 l26.length l26.length 9], .i e_27]) [.cells [.i a0_, vl qa a1_], .cells [.i a2_, .str a3_, vl encS a4_, vl encI a5_, .str a6_], .cells [.i 0, .nilslice], .cells [.i r5, .i r6], .cells (l26.flatMap qa.c)]] (And.intro (qo AllST.nil (kw e_r9) (Still.fmap (AllST.cons (Still.str 10 _) (AllST.cons (Still.str 10 _) (AllST.cons (Still.str 10 _) (AllST.cons (Still.str 10 _) (AllST.cons (Still.str 10 _) (AllST.cons (Still.str 10 _) AllST.nil)))))) (AllST.cons (Still.agg (AllST.cons (Still.int 9 _ _) (AllST.cons (Still.int 9 _ _) (AllST.cons (Still.func AllST.nil AllST.nil) AllST.nil)))) (AllST.cons (Still.agg (AllST.cons (Still.int 9 _ _) (AllST.cons (Still.int 9 _ _) (AllST.cons (Still.func AllST.nil AllST.nil) AllST.nil)))) (AllST.cons (Still.agg (AllST.cons (Still.int 9 _ _) (AllST.cons (Still.int 9 _ _) (AllST.cons (Still.func AllST.nil AllST.nil) AllST.nil)))) (AllST.cons (Still.agg (AllST.cons (Still.int 9 _ _) (AllST.cons (Still.int 9 _ _) (AllST.cons (Still.func AllST.nil AllST.nil) AllST.nil)))) (AllST.cons (Still.agg (AllST.cons (Still.int 9 _ _) (AllST.cons (Still.int 9 _ _) (AllST.cons (Still.func AllST.nil AllST.nil) AllST.nil)))) (AllST.cons (Still.agg (AllST.cons (Still.int 9 _ _) (AllST.cons (Still.int 9 _ _) (AllST.cons (Still.nilfunc 9) AllST.nil)))) AllST.nil)))))))) (And.intro (qb6 qaw [[109, 97, 107, 101], [116, 101, 115, 116], [117, 115, 101], [102, 97, 105, 108], [114, 101, 99, 97, 108, 108], [117, 110, 100, 111]] (qB c10 (qB c16 (jL c22))) rfl) (And.intro (jf [] [none, none, none, none, some 0] (kH a0_ a1_ e_r23) .nil rfl rfl (.old rfl rfl (.old rfl rfl (.old rfl rfl (.old rfl rfl (.new rfl rfl (.same fa) rfl .nil))))) (qg.cons (.same (qc.agg (qf.cons (qc.int _ _) (qf.cons (ql qa _) qf.nil)))) qg.nil) (.aggL (qg.cons (.same (qc.int _ _)) (qg.cons (.slice rfl) qg.nil))) rfl) (And.intro (jf [some 4] [none, none, none, none, some 0] (qb4 N a0_ l24 a2_ a3_ a4_ a5_ a6_ e_r25) (.keep rfl (.same fa) rfl rfl .nil) rfl rfl (.old rfl rfl (.old rfl rfl (.old rfl rfl (.old rfl rfl (.back rfl rfl (.same fa) rfl .nil))))) (qg.cons (.aggL (qg.cons (.same (qc.int _ _)) (qg.cons (.slice rfl) qg.nil))) (qg.cons (.same (qc.agg (qf.cons (qc.int _ _) (qf.cons (qc.str _) (qf.cons (ql encS _) (qf.cons (ql encI _) (qf.cons (qc.str _) qf.nil))))))) qg.nil)) (.tupleL (qg.cons (.aggL (qg.cons (.same (qc.int _ _)) (qg.cons (.slice rfl) qg.nil))) (qg.cons (.same (qc.int _ _)) qg.nil))) rfl) trivial))))) (Sub.norm [4] [some 2, some 5] (by rw [hB]; rfl) rfl (.keep (.ptr rfl) (.keep (.same (qc.int _ _)) (.keep (.ptr rfl) (.keep (.same (qc.int _ _)) .nil)))) (.keep rfl (.same (qf.cons (qc.int _ _) (qf.cons (qc.nilslice) qf.nil))) rfl rfl (.keep rfl (.cells (qg.cons (.same (qc.int _ _)) (qg.cons (.frz (Fz.sl (E := qa) rfl rfl (Nat.le_of_ble_eq_true rfl)) (ql qa _)) qg.nil))) rfl rfl .nil)))
          · rw [if_neg (by rw [c22]; exact Bool.false_ne_true)] at g_v47
            rcases Bool.eq_false_or_eq_true (a3_ == [102, 97, 105, 108]) with c28 | c28
            · rw [if_pos (c28)] at g_v47
              obtain ⟨l30, e_r29, g_v47⟩ := bnd g_v47
              obtain ⟨⟨l32, e_33⟩, e_r31, g_v47⟩ := bnd g_v47
              try dsimp only at g_v47
              simp only [Option.some.injEq, Prod.mk.injEq] at g_v47
              obtain ⟨rfl, rfl⟩ := g_v47
              exact qp.sub (qp.ro fol [(0, (.call [] [] fm1)), (3, (.done (.agg [.i 1, .i 1, .func (.func 144) [] []]))), (6, (.callH [] (.agg [.i a0_, .slice 4 0 l30.length l30.length 9]) [.cells [.i a0_, vl qa a1_], .cells [.i a2_, .str a3_, vl encS a4_, vl encI a5_, .str a6_], .cells [.i 0, .nilslice], .cells [.i r5, .i r6], .cells (l30.flatMap qa.c)])), (8, (.callH [4] (.tuple [.agg [.i a0_, .slice 4 0 l32.length l32.length 9], .i e_33]) [.cells [.i a0_, vl qa a1_], .cells [.i a2_, .str a3_, vl encS a4_, vl encI a5_, .str a6_], .cells [.i 0, .nilslice], .cells [.i r5, .i r6], .cells (l32.flatMap qa.c)]))] [(4, .ptr 2 0), (6, .i x4), (8, .ptr 5 0), (9, .i e_33)] [.cells [.i a0_, vl qa a1_], .cells [.i a2_, .str a3_, vl encS a4_, vl encI a5_, .str a6_], .cells [.i 0, .nilslice], .cells [.i r5, .i r6], .cells (l32.flatMap qa.c), .cells [.i a0_, .slice 4 0 l32.length l32.length 9]] [.call 85 [] [.cells [.i a0_, vl qa a1_], .cells [.i a2_, .str a3_, vl encS a4_, vl encI a5_, .str a6_], .cells [.i 0, .nilslice], .cells [.i r5, .i r6]] [] [] fm1, .done (zQ Tryz.prog 154 (fm1) (.str a3_) false) (.agg [.i 1, .i 1, .func (.func 144) [] []]), .callH 82 [.agg [.i a0_, vl qa a1_]] [.cells [.i a0_, vl qa a1_], .cells [.i a2_, .str a3_, vl encS a4_, vl encI a5_, .str a6_], .cells [.i 0, .nilslice], .cells [.i r5, .i r6]] [] (.agg [.i a0_, .slice 4 0 l30.length l30.length 9]) [.cells [.i a0_, vl qa a1_], .cells [.i a2_, .str a3_, vl encS a4_, vl encI a5_, .str a6_], .cells [.i 0, .nilslice], .cells [.i r5, .i r6], .cells (l30.flatMap qa.c)], .callH 144 [.agg [.i a0_, .slice 4 0 l30.length l30.length 9], .agg [.i a2_, .str a3_, vl encS a4_, vl encI a5_, .str a6_]] [.cells [.i a0_, vl qa a1_], .cells [.i a2_, .str a3_, vl encS a4_, vl encI a5_, .str a6_], .cells [.i 0, .nilslice], .cells [.i r5, .i r6], .cells (l30.flatMap qa.c)] [4] (.tuple [.agg [.i a0_, .slice 4 0 l32.length l32.length 9], .i e_33]) [.cells [.i a0_, vl qa a1_], .cells [.i a2_, .str a3_, vl encS a4_, vl encI a5_, .str a6_], .cells [.i 0, .nilslice], .cells [.i r5, .i r6], .cells (l32.flatMap qa.c)]] (And.intro (qo AllST.nil (kw e_r9) (Still.fmap (AllST.cons (Still.str 10 _) (AllST.cons (Still.str 10 _) (AllST.cons (Still.str 10 _) (AllST.cons (Still.str 10 _) (AllST.cons (Still.str 10 _) (AllST.cons (Still.str 10 _) AllST.nil)))))) (AllST.cons (Still.agg (AllST.cons (Still.int 9 _ _) (AllST.cons (Still.int 9 _ _) (AllST.cons (Still.func AllST.nil AllST.nil) AllST.nil)))) (AllST.cons (Still.agg (AllST.cons (Still.int 9 _ _) (AllST.cons (Still.int 9 _ _) (AllST.cons (Still.func AllST.nil AllST.nil) AllST.nil)))) (AllST.cons (Still.agg (AllST.cons (Still.int 9 _ _) (AllST.cons (Still.int 9 _ _) (AllST.cons (Still.func AllST.nil AllST.nil) AllST.nil)))) (AllST.cons (Still.agg (AllST.cons (Still.int 9 _ _) (AllST.cons (Still.int 9 _ _) (AllST.cons (Still.func AllST.nil AllST.nil) AllST.nil)))) (AllST.cons (Still.agg (AllST.cons (Still.int 9 _ _) (AllST.cons (Still.int 9 _ _) (AllST.cons (Still.func AllST.nil AllST.nil) AllST.nil)))) (AllST.cons (Still.agg (AllST.cons (Still.int 9 _ _) (AllST.cons (Still.int 9 _ _) (AllST.cons (Still.nilfunc 9) AllST.nil)))) AllST.nil)))))))) (And.intro (qb6 qaw [[109, 97, 107, 101], [116, 101, 115, 116], [117, 115, 101], [102, 97, 105, 108], [114, 101, 99, 97, 108, 108], [117, 110, 100, 111]] (qB c10 (qB c16 (qB c22 (jL c28)))) rfl) (And.intro (jf [] [none, none, none, none, some 0] (kH a0_ a1_ e_r29) .nil rfl rfl (.old rfl rfl (.old rfl rfl (.old rfl rfl (.old rfl rfl (.new rfl rfl (.same fa) rfl .nil))))) (qg.cons (.same (qc.agg (qf.cons (qc.int _ _) (qf.cons (ql qa _) qf.nil)))) qg.nil) (.aggL (qg.cons (.same (qc.int _ _)) (qg.cons (.slice rfl) qg.nil))) rfl) (And.intro (jf [some 4] [none, none, none, none, some 0] (qbc N a0_ l30 a2_ a3_ a4_ a5_ a6_ e_r31) (.keep rfl (.same fa) rfl rfl .nil) rfl rfl (.old rfl rfl (.old rfl rfl (.old rfl rfl (.old rfl rfl (.back rfl rfl (.same fa) rfl .nil))))) (qg.cons (.aggL (qg.cons (.same (qc.int _ _)) (qg.cons (.slice rfl) qg.nil))) (qg.cons (.same (qc.agg (qf.cons (qc.int _ _) (qf.cons (qc.str _) (qf.cons (ql encS _) (qf.cons (ql encI _) (qf.cons (qc.str _) qf.nil))))))) qg.nil)) (.tupleL (qg.cons (.aggL (qg.cons (.same (qc.int _ _)) (qg.cons (.slice rfl) qg.nil))) (qg.cons (.same (qc.int _ _)) qg.nil))) rfl) trivial))))) (Sub.norm [4] [some 2, some 5] (by rw [hB]; rfl) rfl (.keep (.ptr rfl) (.keep (.same (qc.int _ _)) (.keep (.ptr rfl) (.keep (.same (qc.int _ _)) .nil)))) (.keep rfl (.same (qf.cons (qc.int _ _) (qf.cons (qc.nilslice) qf.nil))) rfl rfl (.keep rfl (.cells (qg.cons (.same (qc.int _ _)) (qg.cons (.frz (Fz.sl (E := qa) rfl rfl (Nat.le_of_ble_eq_true rfl)) (ql qa _)) qg.nil))) rfl rfl .nil)))
            · rw [if_neg (by rw [c28]; exact Bool.false_ne_true)] at g_v47
              rcases Bool.eq_false_or_eq_true (a3_ == [114, 101, 99, 97, 108, 108]) with c34 | c34
              · rw [if_pos (c34)] at g_v47
                obtain ⟨l36, e_r35, g_v47⟩ := bnd g_v47
                obtain ⟨⟨l38, e_39⟩, e_r37, g_v47⟩ := bnd g_v47
                try dsimp only at g_v47
                simp only [Option.some.injEq, Prod.mk.injEq] at g_v47
                obtain ⟨rfl, rfl⟩ := g_v47
                exact qp.sub (qp.ro fol [(0, (.call [] [] fm1)), (3, (.done (.agg [.i 1, .i 1, .func (.func 145) [] []]))), (6, (.callH [] (.agg [.i a0_, .slice 4 0 l36.length l36.length 9]) [.cells [.i a0_, vl qa a1_], .cells [.i a2_, .str a3_, vl encS a4_, vl encI a5_, .str a6_], .cells [.i 0, .nilslice], .cells [.i r5, .i r6], .cells (l36.flatMap qa.c)])), (8, (.callH [4] (.tuple [.agg [.i a0_, .slice 4 0 l38.length l38.length 9], .i e_39]) [.cells [.i a0_, vl qa a1_], .cells [.i a2_, .str a3_, vl encS a4_, vl encI a5_, .str a6_], .cells [.i 0, .nilslice], .cells [.i r5, .i r6], .cells (l38.flatMap qa.c)]))] [(4, .ptr 2 0), (6, .i x4), (8, .ptr 5 0), (9, .i e_39)] [.cells [.i a0_, vl qa a1_], .cells [.i a2_, .str a3_, vl encS a4_, vl encI a5_, .str a6_], .cells [.i 0, .nilslice], .cells [.i r5, .i r6], .cells (l38.flatMap qa.c), .cells [.i a0_, .slice 4 0 l38.length l38.length 9]] [.call 85 [] [.cells [.i a0_, vl qa a1_], .cells [.i a2_, .str a3_, vl encS a4_, vl encI a5_, .str a6_], .cells [.i 0, .nilslice], .cells [.i r5, .i r6]] [] [] fm1, .done (zQ Tryz.prog 154 (fm1) (.str a3_) false) (.agg [.i 1, .i 1, .func (.func 145) [] []]), .callH 82 [.agg [.i a0_, vl qa a1_]] [.cells [.i a0_, vl qa a1_], .cells [.i a2_, .str a3_, vl encS a4_, vl encI a5_, .str a6_], .cells [.i 0, .nilslice], .cells [.i r5, .i r6]] [] (.agg [.i a0_, .slice 4 0 l36.length l36.length 9]) [.cells [.i a0_, vl qa a1_], .cells [.i a2_, .str a3_, vl encS a4_, vl encI a5_, .str a6_], .cells [.i 0, .nilslice], .cells [.i r5, .i r6], .cells (l36.flatMap qa.c)], .callH 145 [.agg [.i a0_, .slice 4 0 l36.length l36.length 9], .agg [.i a2_, .str a3_, vl encS a4_, vl encI a5_, .str a6_]] [.cells [.i a0_, vl qa a1_], .cells [.i a2_, .str a3_, vl encS a4_, vl encI a5_, .str a6_], .cells [.i 0, .nilslice], .cells [.i r5, .i r6], .cells (l36.flatMap qa.c)] [4] (.tuple [.agg [.i a0_, .slice 4 0 l38.length l38.length 9], .i e_39]) [.cells [.i a0_, vl qa a1_], .cells [.i a2_, .str a3_, vl encS a4_, vl encI a5_, .str a6_], .cells [.i 0, .nilslice], .cells [.i r5, .i r6], .cells (l38.flatMap qa.c)]] (And.intro (qo AllST.nil (kw e_r9) (Still.fmap (AllST.cons (Still.str 10 _) (AllST.cons (Still.str 10 _) (AllST.cons (Still.str 10 _) (AllST.cons (Still.str 10 _) (AllST.cons (Still.str 10 _) (AllST.cons (Still.str 10 _) AllST.nil)))))) (AllST.cons (Still.agg (AllST.cons (Still.int 9 _ _) (AllST.cons (Still.int 9 _ _) (AllST.cons (Still.func AllST.nil AllST.nil) AllST.nil)))) (AllST.cons (Still.agg (AllST.cons (Still.int 9 _ _) (AllST.cons (Still.int 9 _ _) (AllST.cons (Still.func AllST.nil AllST.nil) AllST.nil)))) (AllST.cons (Still.agg (AllST.cons (Still.int 9 _ _) (AllST.cons (Still.int 9 _ _) (AllST.cons (Still.func AllST.nil AllST.nil) AllST.nil)))) (AllST.cons (Still.agg (AllST.cons (Still.int 9 _ _) (AllST.cons (Still.int 9 _ _) (AllST.cons (Still.func AllST.nil AllST.nil) AllST.nil)))) (AllST.cons (Still.agg (AllST.cons (Still.int 9 _ _) (AllST.cons (Still.int 9 _ _) (AllST.cons (Still.func AllST.nil AllST.nil) AllST.nil)))) (AllST.cons (Still.agg (AllST.cons (Still.int 9 _ _) (AllST.cons (Still.int 9 _ _) (AllST.cons (Still.nilfunc 9) AllST.nil)))) AllST.nil)))))))) (And.intro (qb6 qaw [[109, 97, 107, 101], [116, 101, 115, 116], [117, 115, 101], [102, 97, 105, 108], [114, 101, 99, 97, 108, 108], [117, 110, 100, 111]] (qB c10 (qB c16 (qB c22 (qB c28 (jL c34))))) rfl) (And.intro (jf [] [none, none, none, none, some 0] (kH a0_ a1_ e_r35) .nil rfl rfl (.old rfl rfl (.old rfl rfl (.old rfl rfl (.old rfl rfl (.new rfl rfl (.same fa) rfl .nil))))) (qg.cons (.same (qc.agg (qf.cons (qc.int _ _) (qf.cons (ql qa _) qf.nil)))) qg.nil) (.aggL (qg.cons (.same (qc.int _ _)) (qg.cons (.slice rfl) qg.nil))) rfl) (And.intro (jf [some 4] [none, none, none, none, some 0] (qaF N a0_ l36 a2_ a3_ a4_ a5_ a6_ e_r37) (.keep rfl (.same fa) rfl rfl .nil) rfl rfl (.old rfl rfl (.old rfl rfl (.old rfl rfl (.old rfl rfl (.back rfl rfl (.same fa) rfl .nil))))) (qg.cons (.aggL (qg.cons (.same (qc.int _ _)) (qg.cons (.slice rfl) qg.nil))) (qg.cons (.same (qc.agg (qf.cons (qc.int _ _) (qf.cons (qc.str _) (qf.cons (ql encS _) (qf.cons (ql encI _) (qf.cons (qc.str _) qf.nil))))))) qg.nil)) (.tupleL (qg.cons (.aggL (qg.cons (.same (qc.int _ _)) (qg.cons (.slice rfl) qg.nil))) (qg.cons (.same (qc.int _ _)) qg.nil))) rfl) trivial))))) (Sub.norm [4] [some 2, some 5] (by rw [hB]; rfl) rfl (.keep (.ptr rfl) (.keep (.same (qc.int _ _)) (.keep (.ptr rfl) (.keep (.same (qc.int _ _)) .nil)))) (.keep rfl (.same (qf.cons (qc.int _ _) (qf.cons (qc.nilslice) qf.nil))) rfl rfl (.keep rfl (.cells (qg.cons (.same (qc.int _ _)) (qg.cons (.frz (Fz.sl (E := qa) rfl rfl (Nat.le_of_ble_eq_true rfl)) (ql qa _)) qg.nil))) rfl rfl .nil)))
              · rw [if_neg (by rw [c34]; exact Bool.false_ne_true)] at g_v47
                rcases Bool.eq_false_or_eq_true (a3_ == [117, 110, 100, 111]) with c40 | c40
                · rw [if_pos (c40)] at g_v47
                  cases g_v47
                · rw [if_neg (by rw [c40]; exact Bool.false_ne_true)] at g_v47
                  cases g_v47
    intro _ hsub
    try dsimp only at h
    refine Goes.sub hsub ?_
    refine sq ?_
    refine Goes.rg fol [(4, .ptr 0 0), (8, .ptr 1 0), (9, .i bad_46)] [.cells [.i 0, .nilslice], .cells [.i x4, vl qa l45]] ?_
    refine sq ?_
    refine Goes.rg fol [(4, .ptr 0 0), (5, .i bad_46)] [.cells [.i x4, vl qa l45], .cells [.i x4, vl qa l45]] ?_
    refine Goes.ret ?_
    simp only [Option.some.injEq, Prod.mk.injEq] at h
    obtain ⟨rfl, rfl, rfl⟩ := h
    exact (Goes.retH (xs := [.agg [.i x4, vl qa l45], .i bad_46]) (by kernel_rfl) (Sub.norm [] [] (by rw [hB]; rfl) rfl (.keep (.tupleL (qg.cons (.aggL (qg.cons (.same (qc.int _ _)) (qg.cons (.same (ql qa _)) qg.nil))) (qg.cons (.same (qc.int _ _)) qg.nil))) .nil) .nil))
def zw (N : Nat) (a0_ : List qm) (a1_ : Option (List StateT)) (a2_ : Int) (a3_ : Str) (a4_ : List Str) (a5_ : List Int) (a6_ : Str) : Option ((List qm) × (Option (List StateT)) × Int) :=
  if (!decide (a2_ = (w64 ((a0_.length : Int) + 1)))) = true then
  some (a0_, a1_, 11)
  else
  if (a3_ == [117, 110, 100, 111]) = true then
  ((match a1_ with
  | none =>
  some ((none : Option (List StateT)), decide (0 = 0))
  | some l6 =>
  some ((some l6), decide ((l6.length : Int) = 0))) : Option ((Option (List StateT)) × Bool)).bind fun (o7, b8) =>
  if b8 = true then
  some (a0_, o7, 12)
  else
  ((match o7 with
  | none =>
  (cut ([] : List StateT) 0 (w64 (0 - 1))).bind fun s12 =>
  some (none : Option (List StateT))
  | some l11 =>
  (cut l11 0 (w64 ((l11.length : Int) - 1))).bind fun l13 =>
  some (some l13)) : Option (Option (List StateT))).bind fun o14 =>
  (zm (⟨a2_, a3_, a4_, a5_, a6_⟩ : qm)).bind fun r16 =>
  (app 88 a0_ [r16]).bind fun l17 =>
  some (l17, o14, 0)
  else
  (qG a0_ a1_).bind fun (o19, n20, l21) =>
  (qA N n20 l21 a2_ a3_ a4_ a5_ a6_).bind fun (n23, l24, e_25) =>
  if (!decide (e_25 = 0)) = true then
  some (a0_, o19, e_25)
  else
  ((match o19 with
  | none =>
  some ([(⟨a2_, (⟨n23, l24⟩ : zA)⟩ : StateT)] : List StateT)
  | some l27 =>
  (app 40 l27 [(⟨a2_, (⟨n23, l24⟩ : zA)⟩ : StateT)]).bind fun l28 =>
  some l28) : Option (List StateT)).bind fun l29 =>
  (zm (⟨a2_, a3_, a4_, a5_, a6_⟩ : qm)).bind fun r31 =>
  (app 88 a0_ [r31]).bind fun l32 =>
  some (l32, (some l29), 0)
theorem xC (N : Nat) (a0_ : List qm) (a1_ : Option (List StateT)) (a2_ : Int) (a3_ : Str) (a4_ : List Str) (a5_ : List Int) (a6_ : Str) {l1 : List qm} {o2 : Option (List StateT)} {h_3 : Int} (h : zw N a0_ a1_ a2_ a3_ a4_ a5_ a6_ = some (l1, o2, h_3)) : qw Tryz.prog (.fn 91) [.ptr 0 0, .agg [.i a2_, .str a3_, vl encS a4_, vl encI a5_, .str a6_]] [.cells [.gslice 1 a0_.length 5, hsl 2 3 a1_], .cells (a0_.flatMap qb.c), .cells ((hof a1_).flatMap qd.c)] (.i h_3) [.cells [.gslice 3 l1.length 5, hsl 4 3 o2], .dead, .dead, .cells (l1.flatMap qb.c), .cells ((hof o2).flatMap qd.c)] := by
  unfold zw at h
  refine Goes.fnH Tryz.func91 rfl rfl (m := 73) rfl (rs := [.tmp 4]) rfl (l := [(0, .ptr 0 0), (1, .agg [.i a2_, .str a3_, vl encS a4_, vl encI a5_, .str a6_])]) rfl ?_
  intro B hB
  refine sq ?_
  refine Goes.rg fol [(0, .ptr 0 0), (3, .ptr 3 0)] [.cells [.gslice 1 a0_.length 5, hsl 2 3 a1_], .cells (a0_.flatMap qb.c), .cells ((hof a1_).flatMap qd.c), .cells [.i a2_, .str a3_, vl encS a4_, vl encI a5_, .str a6_]] ?_
  refine sq ?_
  refine sq ?_
  refine Goes.rg fol [(0, .ptr 0 0), (3, .ptr 3 0), (15, .bool (!decide (a2_ = (w64 ((a0_.length : Int) + 1)))))] [.cells [.gslice 1 a0_.length 5, hsl 2 3 a1_], .cells (a0_.flatMap qb.c), .cells ((hof a1_).flatMap qd.c), .cells [.i a2_, .str a3_, vl encS a4_, vl encI a5_, .str a6_]] ?_
  refine Goes.ifB (b := !decide (a2_ = (w64 ((a0_.length : Int) + 1)))) (by kernel_rfl) (fun c4 => ?_) (fun c4 => ?_)
  · rw [if_pos (c4)] at h
    refine sq ?_
    refine Goes.rg fol [(4, .i 11)] [.cells [.gslice 1 a0_.length 5, hsl 2 3 a1_], .cells (a0_.flatMap qb.c), .cells ((hof a1_).flatMap qd.c), .cells [.i a2_, .str a3_, vl encS a4_, vl encI a5_, .str a6_]] ?_
    refine Goes.ret ?_
    simp only [Option.some.injEq, Prod.mk.injEq] at h
    obtain ⟨rfl, rfl, rfl⟩ := h
    exact (Goes.retH (xs := [.i 11]) (by kernel_rfl) (Sub.norm [] [some 0, some 1, some 2, some 1, some 2] (by rw [hB]; rfl) rfl (.keep (.same (qc.int _ _)) .nil) (.keep rfl (.cells (qg.cons (.gslice rfl) (qg.cons ((qK.hs rfl)) qg.nil))) rfl rfl (.lost (.lost (.keep rfl (.same fa) rfl rfl (.keep rfl (.same fa) rfl rfl .nil)))))))
  · rw [if_neg (by rw [c4]; exact Bool.false_ne_true)] at h
    refine Goes.skip ?_
    refine sq ?_
    refine sq ?_
    refine Goes.rg fol [(0, .ptr 0 0), (3, .ptr 3 0), (18, .bool (a3_ == [117, 110, 100, 111]))] [.cells [.gslice 1 a0_.length 5, hsl 2 3 a1_], .cells (a0_.flatMap qb.c), .cells ((hof a1_).flatMap qd.c), .cells [.i a2_, .str a3_, vl encS a4_, vl encI a5_, .str a6_]] ?_
    refine Goes.ifB (b := a3_ == [117, 110, 100, 111]) (by kernel_rfl) (fun c5 => ?_) (fun c5 => ?_)
    · rw [if_pos (c5)] at h
      refine sq ?_
      refine sq ?_
      obtain ⟨⟨o7, b8⟩, g_v9, h⟩ := bnd h
      refine Goes.cutS (s' := (ofG 73 [(0, .ptr 0 0), (3, .ptr 3 0), (24, .bool b8)], [.cells [.gslice 1 a0_.length 5, hsl 2 3 o7], .cells (a0_.flatMap qb.c), .cells ((hof o7).flatMap qd.c), .cells [.i a2_, .str a3_, vl encS a4_, vl encI a5_, .str a6_]])) ?_ ?_
      · rcases a1_ with _ | l6
        · try dsimp only at g_v9
          simp only [Option.some.injEq, Prod.mk.injEq] at g_v9
          obtain ⟨rfl, rfl⟩ := g_v9
          exact qp.sub (qp.rg fol [(0, .ptr 0 0), (3, .ptr 3 0), (24, .bool (decide (0 = 0)))] [.cells [.gslice 1 a0_.length 5, .nilslice], .cells (a0_.flatMap qb.c), .cells ((hof (none : Option (List StateT))).flatMap qd.c), .cells [.i a2_, .str a3_, vl encS a4_, vl encI a5_, .str a6_]]) (Sub.norm [] [some 0, some 1, some 2, some 3] (by rw [hB]; rfl) rfl (.keep (.ptr rfl) (.keep (.ptr rfl) (.keep (.same (qc.bool _)) .nil))) (.keep rfl (.cells (qg.cons (.gslice rfl) (qg.cons (qK.hs0) qg.nil))) rfl rfl (.keep rfl (.same fa) rfl rfl (.keep rfl (.same fa) rfl rfl (.keep rfl (.same (qf.cons (qc.int _ _) (qf.cons (qc.str _) (qf.cons (ql encS _) (qf.cons (ql encI _) (qf.cons (qc.str _) qf.nil)))))) rfl rfl .nil)))))
        · try dsimp only at g_v9
          simp only [Option.some.injEq, Prod.mk.injEq] at g_v9
          obtain ⟨rfl, rfl⟩ := g_v9
          exact qp.sub (qp.rg fol [(0, .ptr 0 0), (3, .ptr 3 0), (24, .bool (decide ((l6.length : Int) = 0)))] [.cells [.gslice 1 a0_.length 5, .oslice 2 l6.length 3], .cells (a0_.flatMap qb.c), .cells (l6.flatMap qd.c), .cells [.i a2_, .str a3_, vl encS a4_, vl encI a5_, .str a6_]]) (Sub.norm [] [some 0, some 1, some 2, some 3] (by rw [hB]; rfl) rfl (.keep (.ptr rfl) (.keep (.ptr rfl) (.keep (.same (qc.bool _)) .nil))) (.keep rfl (.cells (qg.cons (.gslice rfl) (qg.cons ((qK.hs1 rfl)) qg.nil))) rfl rfl (.keep rfl (.same fa) rfl rfl (.keep rfl (.same fa) rfl rfl (.keep rfl (.same (qf.cons (qc.int _ _) (qf.cons (qc.str _) (qf.cons (ql encS _) (qf.cons (ql encI _) (qf.cons (qc.str _) qf.nil)))))) rfl rfl .nil)))))
      intro _ hsub
      try dsimp only at h
      refine Goes.sub hsub ?_
      refine Goes.ifB (b := b8) (by kernel_rfl) (fun c10 => ?_) (fun c10 => ?_)
      · rw [if_pos (c10)] at h
        refine sq ?_
        refine Goes.rg fol [(4, .i 12)] [.cells [.gslice 1 a0_.length 5, hsl 2 3 o7], .cells (a0_.flatMap qb.c), .cells ((hof o7).flatMap qd.c), .cells [.i a2_, .str a3_, vl encS a4_, vl encI a5_, .str a6_]] ?_
        refine Goes.ret ?_
        simp only [Option.some.injEq, Prod.mk.injEq] at h
        obtain ⟨rfl, rfl, rfl⟩ := h
        exact (Goes.retH (xs := [.i 12]) (by kernel_rfl) (Sub.norm [] [some 0, some 1, some 2, some 1, some 2] (by rw [hB]; rfl) rfl (.keep (.same (qc.int _ _)) .nil) (.keep rfl (.cells (qg.cons (.gslice rfl) (qg.cons ((qK.hs rfl)) qg.nil))) rfl rfl (.lost (.lost (.keep rfl (.same fa) rfl rfl (.keep rfl (.same fa) rfl rfl .nil)))))))
      · rw [if_neg (by rw [c10]; exact Bool.false_ne_true)] at h
        refine Goes.skip ?_
        obtain ⟨o14, g_v15, h⟩ := bnd h
        refine Goes.cutS (s' := (ofG 73 [(0, .ptr 0 0), (3, .ptr 3 0)], [.cells [.gslice 1 a0_.length 5, hsl 2 3 o14], .cells (a0_.flatMap qb.c), .cells ((hof o14).flatMap qd.c), .cells [.i a2_, .str a3_, vl encS a4_, vl encI a5_, .str a6_]])) ?_ ?_
        · rcases o7 with _ | l11
          · try dsimp only at g_v15
            obtain ⟨s12, e_s12, g_v15⟩ := bnd g_v15
            obtain rfl := Option.some.inj g_v15
            exact qp.sub (qp.ro fol [(11, (.done .nilslice))] [(0, .ptr 0 0), (3, .ptr 3 0)] [.cells [.gslice 1 a0_.length 5, .nilslice], .cells (a0_.flatMap qb.c), .cells ((hof (none : Option (List StateT))).flatMap qd.c), .cells [.i a2_, .str a3_, vl encS a4_, vl encI a5_, .str a6_]] [.done (.opt (zo Tryz.prog 163 .nilslice none (some (.i (w64 (0 - 1)))) none)) .nilslice] (And.intro (qjI (α := StateT) qeP none (some (w64 (0 - 1))) e_s12) trivial)) (Sub.norm [] [some 0, some 1, some 2, some 3] (by rw [hB]; rfl) rfl (.keep (.ptr rfl) (.keep (.ptr rfl) .nil)) (.keep rfl (.cells (qg.cons (.gslice rfl) (qg.cons (qK.hs0) qg.nil))) rfl rfl (.keep rfl (.same fa) rfl rfl (.keep rfl (.same fa) rfl rfl (.keep rfl (.same (qf.cons (qc.int _ _) (qf.cons (qc.str _) (qf.cons (ql encS _) (qf.cons (ql encI _) (qf.cons (qc.str _) qf.nil)))))) rfl rfl .nil)))))
          · try dsimp only at g_v15
            obtain ⟨l13, e_l13, g_v15⟩ := bnd g_v15
            obtain rfl := Option.some.inj g_v15
            exact qp.sub (qp.ro fol [(11, (.done (.oslice 2 l13.length 3)))] [(0, .ptr 0 0), (3, .ptr 3 0)] [.cells [.gslice 1 a0_.length 5, .oslice 2 l13.length 3], .cells (a0_.flatMap qb.c), .cells (l11.flatMap qd.c), .cells [.i a2_, .str a3_, vl encS a4_, vl encI a5_, .str a6_]] [.done (.opt (zo Tryz.prog 163 (.oslice 2 l11.length 3) none (some (.i (w64 ((l11.length : Int) - 1)))) none)) (.oslice 2 l13.length 3)] (And.intro (sh_os qeP e_l13) trivial)) ((show Sub (ofG 73 [(0, .ptr 0 0), (3, .ptr 3 0)], [.cells [.gslice 1 a0_.length 5, .oslice 2 l13.length 3], .cells (a0_.flatMap qb.c), .cells (l11.flatMap qd.c), .cells [.i a2_, .str a3_, vl encS a4_, vl encI a5_, .str a6_]]) (ofG 73 [(0, .ptr 0 0), (3, .ptr 3 0)], [.cells [.gslice 1 a0_.length 5, .oslice 2 l13.length 3], .cells (a0_.flatMap qb.c), .cells (l13.flatMap qd.c), .cells [.i a2_, .str a3_, vl encS a4_, vl encI a5_, .str a6_]]) from (Sub.norm [] [some 0, some 1, some 2, some 3] (by rw [hB]; rfl) rfl (.keep (.ptr rfl) (.keep (.ptr rfl) .nil)) (.keep rfl (.cells (qg.cons (.gslice rfl) (qg.cons (.oslice rfl) qg.nil))) rfl rfl (.keep rfl (.same fa) rfl rfl (.keep rfl (xD.cut e_l13) rfl rfl (.keep rfl (.same (qf.cons (qc.int _ _) (qf.cons (qc.str _) (qf.cons (ql encS _) (qf.cons (ql encI _) (qf.cons (qc.str _) qf.nil)))))) rfl rfl .nil)))))).trans (Sub.norm [] [some 0, some 1, some 2, some 3] (by rw [hB]; rfl) rfl (.keep (.ptr rfl) (.keep (.ptr rfl) .nil)) (.keep rfl (.cells (qg.cons (.gslice rfl) (qg.cons ((qK.hs1 rfl)) qg.nil))) rfl rfl (.keep rfl (.same fa) rfl rfl (.keep rfl (.same fa) rfl rfl (.keep rfl (.same (qf.cons (qc.int _ _) (qf.cons (qc.str _) (qf.cons (ql encS _) (qf.cons (ql encI _) (qf.cons (qc.str _) qf.nil)))))) rfl rfl .nil))))))
        intro _ hsub
        refine Goes.sub hsub ?_
        refine sq ?_
        obtain ⟨r16, e_r16, h⟩ := bnd h
        obtain ⟨l17, e_l17, h⟩ := bnd h
        refine Goes.ro fol [(6, (.call [] [.agg [.i a2_, .str a3_, vl encS a4_, vl encI a5_, .str a6_]] (.agg [.i r16.Number, .str r16.Kind, vl encS r16.Names, vl encI r16.Values, .str r16.Text]))), (8, (.run (.gslice 5 l17.length 5) [.cells [.gslice 1 a0_.length 5, hsl 2 3 o14], .dead, .cells ((hof o14).flatMap qd.c), .cells [.i a2_, .str a3_, vl encS a4_, vl encI a5_, .str a6_], .cells [.i r16.Number, .str r16.Kind, vl encS r16.Names, vl encI r16.Values, .str r16.Text], .cells (l17.flatMap qb.c)] true))] [] [.cells [.gslice 5 l17.length 5, hsl 2 3 o14], .dead, .cells ((hof o14).flatMap qd.c), .cells [.i a2_, .str a3_, vl encS a4_, vl encI a5_, .str a6_], .cells [.i r16.Number, .str r16.Kind, vl encS r16.Names, vl encI r16.Values, .str r16.Text], .cells (l17.flatMap qb.c)] [.call 115 [.agg [.i a2_, .str a3_, vl encS a4_, vl encI a5_, .str a6_]] [.cells [.gslice 1 a0_.length 5, hsl 2 3 o14], .cells (a0_.flatMap qb.c), .cells ((hof o14).flatMap qd.c), .cells [.i a2_, .str a3_, vl encS a4_, vl encI a5_, .str a6_]] [] [.agg [.i a2_, .str a3_, vl encS a4_, vl encI a5_, .str a6_]] (.agg [.i r16.Number, .str r16.Kind, vl encS r16.Names, vl encI r16.Values, .str r16.Text]), .run [1, 4] (kV Tryz.prog [22, 22] (.gslice 1 a0_.length 5) (.slice 4 0 1 1 5)) [.cells [.gslice 1 a0_.length 5, hsl 2 3 o14], .cells (a0_.flatMap qb.c), .cells ((hof o14).flatMap qd.c), .cells [.i a2_, .str a3_, vl encS a4_, vl encI a5_, .str a6_], .cells [.i r16.Number, .str r16.Kind, vl encS r16.Names, vl encI r16.Values, .str r16.Text]] (.gslice 5 l17.length 5) [.cells [.gslice 1 a0_.length 5, hsl 2 3 o14], .dead, .cells ((hof o14).flatMap qd.c), .cells [.i a2_, .str a3_, vl encS a4_, vl encI a5_, .str a6_], .cells [.i r16.Number, .str r16.Kind, vl encS r16.Names, vl encI r16.Values, .str r16.Text], .cells (l17.flatMap qb.c)] true] (And.intro (qo (AllST.cons (Still.agg (AllST.cons (Still.int 10 _ _) (AllST.cons (Still.str 10 _) (AllST.cons (qx encS _ (Nat.le_of_ble_eq_true rfl)) (AllST.cons (qx encI _ (Nat.le_of_ble_eq_true rfl)) (AllST.cons (Still.str 10 _) AllST.nil)))))) AllST.nil) (yz (⟨a2_, a3_, a4_, a5_, a6_⟩ : qm) e_r16) (Still.agg (AllST.cons (Still.int 10 _ _) (AllST.cons (Still.str 10 _) (AllST.cons (qx encS _ (Nat.le_of_ble_eq_true rfl)) (AllST.cons (qx encI _ (Nat.le_of_ble_eq_true rfl)) (AllST.cons (Still.str 10 _) AllST.nil))))))) (And.intro (jI yL (E := qb) rfl (qbp (E := qb) (ys := [r16]) rfl rfl rfl rfl) (qfj (E := qb) (l := a0_) rfl rfl rfl e_l17 rfl)) trivial)) ?_
        refine sq ?_
        refine Goes.rg fol [(4, .i 0)] [.cells [.gslice 5 l17.length 5, hsl 2 3 o14], .dead, .cells ((hof o14).flatMap qd.c), .cells [.i a2_, .str a3_, vl encS a4_, vl encI a5_, .str a6_], .cells [.i r16.Number, .str r16.Kind, vl encS r16.Names, vl encI r16.Values, .str r16.Text], .cells (l17.flatMap qb.c)] ?_
        refine Goes.ret ?_
        simp only [Option.some.injEq, Prod.mk.injEq] at h
        obtain ⟨rfl, rfl, rfl⟩ := h
        exact (Goes.retH (xs := [.i 0]) (by kernel_rfl) (Sub.norm [] [some 0, some 1, some 2, some 5, some 2] (by rw [hB]; rfl) rfl (.keep (.same (qc.int _ _)) .nil) (.keep rfl (.cells (qg.cons (.gslice rfl) (qg.cons ((qK.hs rfl)) qg.nil))) rfl rfl (.lost (.lost (.keep rfl (.same fa) rfl rfl (.keep rfl (.same fa) rfl rfl .nil)))))))
    · rw [if_neg (by rw [c5]; exact Bool.false_ne_true)] at h
      refine sq ?_
      obtain ⟨⟨o19, n20, l21⟩, e_r18, h⟩ := bnd h
      try dsimp only at h
      obtain ⟨⟨n23, l24, e_25⟩, e_r22, h⟩ := bnd h
      try dsimp only at h
      refine Goes.ro fol [(1, (.callH [0, 1, 2] (.agg [.i n20, vl qa l21]) [.cells [.gslice 1 a0_.length 5, hsl 2 3 o19], .cells (a0_.flatMap qb.c), .cells ((hof o19).flatMap qd.c), .cells [.i a2_, .str a3_, vl encS a4_, vl encI a5_, .str a6_]])), (3, (.callH [] (.tuple [.agg [.i n23, vl qa l24], .i e_25]) [.cells [.gslice 1 a0_.length 5, hsl 2 3 o19], .cells (a0_.flatMap qb.c), .cells ((hof o19).flatMap qd.c), .cells [.i a2_, .str a3_, vl encS a4_, vl encI a5_, .str a6_]]))] [(0, .ptr 0 0), (3, .ptr 3 0), (5, .ptr 4 0), (6, .i e_25)] [.cells [.gslice 1 a0_.length 5, hsl 2 3 o19], .cells (a0_.flatMap qb.c), .cells ((hof o19).flatMap qd.c), .cells [.i a2_, .str a3_, vl encS a4_, vl encI a5_, .str a6_], .cells [.i n23, vl qa l24]] [.callH 81 [.ptr 0 0] [.cells [.gslice 1 a0_.length 5, hsl 2 3 a1_], .cells (a0_.flatMap qb.c), .cells ((hof a1_).flatMap qd.c), .cells [.i a2_, .str a3_, vl encS a4_, vl encI a5_, .str a6_]] [0, 1, 2] (.agg [.i n20, vl qa l21]) [.cells [.gslice 1 a0_.length 5, hsl 2 3 o19], .cells (a0_.flatMap qb.c), .cells ((hof o19).flatMap qd.c), .cells [.i a2_, .str a3_, vl encS a4_, vl encI a5_, .str a6_]], .callH 147 [.agg [.i n20, vl qa l21], .agg [.i a2_, .str a3_, vl encS a4_, vl encI a5_, .str a6_]] [.cells [.gslice 1 a0_.length 5, hsl 2 3 o19], .cells (a0_.flatMap qb.c), .cells ((hof o19).flatMap qd.c), .cells [.i a2_, .str a3_, vl encS a4_, vl encI a5_, .str a6_]] [] (.tuple [.agg [.i n23, vl qa l24], .i e_25]) [.cells [.gslice 1 a0_.length 5, hsl 2 3 o19], .cells (a0_.flatMap qb.c), .cells ((hof o19).flatMap qd.c), .cells [.i a2_, .str a3_, vl encS a4_, vl encI a5_, .str a6_]]] (And.intro (jf [some 0, some 1, some 2] [some 0, some 1, some 2, none] (jg a0_ a1_ e_r18) (.keep rfl (.cells (qg.cons (.gslice rfl) (qg.cons ((qK.hs rfl)) qg.nil))) rfl rfl (.keep rfl (.same fa) rfl rfl (.keep rfl (.same fa) rfl rfl .nil))) rfl rfl (.back rfl rfl (.cells (qg.cons (.gslice rfl) (qg.cons ((qK.hs rfl)) qg.nil))) rfl (.back rfl rfl (.same fa) rfl (.back rfl rfl (.same fa) rfl (.old rfl rfl .nil)))) (qg.cons (.ptr rfl) qg.nil) (.same (qc.agg (qf.cons (qc.int _ _) (qf.cons (ql qa _) qf.nil)))) rfl) (And.intro (jf [] [none, none, none, none] (yZ N n20 l21 a2_ a3_ a4_ a5_ a6_ e_r22) .nil rfl rfl (.old rfl rfl (.old rfl rfl (.old rfl rfl (.old rfl rfl .nil)))) (qg.cons (.same (qc.agg (qf.cons (qc.int _ _) (qf.cons (ql qa _) qf.nil)))) (qg.cons (.same (qc.agg (qf.cons (qc.int _ _) (qf.cons (qc.str _) (qf.cons (ql encS _) (qf.cons (ql encI _) (qf.cons (qc.str _) qf.nil))))))) qg.nil)) (.same (qc.tuple (qf.cons (qc.agg (qf.cons (qc.int _ _) (qf.cons (ql qa _) qf.nil))) (qf.cons (qc.int _ _) qf.nil)))) rfl) trivial)) ?_
      refine sq ?_
      refine sq ?_
      refine Goes.rg fol [(0, .ptr 0 0), (3, .ptr 3 0), (5, .ptr 4 0), (6, .i e_25), (47, .bool (!decide (e_25 = 0)))] [.cells [.gslice 1 a0_.length 5, hsl 2 3 o19], .cells (a0_.flatMap qb.c), .cells ((hof o19).flatMap qd.c), .cells [.i a2_, .str a3_, vl encS a4_, vl encI a5_, .str a6_], .cells [.i n23, vl qa l24]] ?_
      refine Goes.ifB (b := !decide (e_25 = 0)) (by kernel_rfl) (fun c26 => ?_) (fun c26 => ?_)
      · rw [if_pos (c26)] at h
        refine sq ?_
        refine Goes.rg fol [(4, .i e_25)] [.cells [.gslice 1 a0_.length 5, hsl 2 3 o19], .cells (a0_.flatMap qb.c), .cells ((hof o19).flatMap qd.c), .cells [.i a2_, .str a3_, vl encS a4_, vl encI a5_, .str a6_], .cells [.i n23, vl qa l24]] ?_
        refine Goes.ret ?_
        simp only [Option.some.injEq, Prod.mk.injEq] at h
        obtain ⟨rfl, rfl, rfl⟩ := h
        exact (Goes.retH (xs := [.i e_25]) (by kernel_rfl) (Sub.norm [] [some 0, some 1, some 2, some 1, some 2] (by rw [hB]; rfl) rfl (.keep (.same (qc.int _ _)) .nil) (.keep rfl (.cells (qg.cons (.gslice rfl) (qg.cons ((qK.hs rfl)) qg.nil))) rfl rfl (.lost (.lost (.keep rfl (.same fa) rfl rfl (.keep rfl (.same fa) rfl rfl .nil)))))))
      · rw [if_neg (by rw [c26]; exact Bool.false_ne_true)] at h
        refine Goes.skip ?_
        obtain ⟨l29, g_v30, h⟩ := bnd h
        refine Goes.cutS (s' := (ofG 73 [(0, .ptr 0 0), (3, .ptr 4 0)], [.cells [.gslice 1 a0_.length 5, .oslice 3 l29.length 3], .cells (a0_.flatMap qb.c), .dead, .cells (l29.flatMap qd.c), .cells [.i a2_, .str a3_, vl encS a4_, vl encI a5_, .str a6_]])) ?_ ?_
        · rcases o19 with _ | l27
          · try dsimp only at g_v30
            obtain rfl := Option.some.inj g_v30
            exact qp.sub (qp.rg fol [(0, .ptr 0 0), (3, .ptr 3 0)] [.cells [.gslice 1 a0_.length 5, .oslice 6 1 3], .cells (a0_.flatMap qb.c), .cells ((hof (none : Option (List StateT))).flatMap qd.c), .cells [.i a2_, .str a3_, vl encS a4_, vl encI a5_, .str a6_], .cells [.i n23, vl qa l24], .cells [.i a2_, .i n23, vl qa l24], .cells [.i a2_, .i n23, vl qa l24]]) (Sub.norm [] [some 0, some 1, some 2, some 6, some 3] (by rw [hB]; rfl) rfl (.keep (.ptr rfl) (.keep (.ptr rfl) .nil)) (.keep rfl (.cells (qg.cons (.gslice rfl) (qg.cons ((qK.osliceE rfl rfl)) qg.nil))) rfl rfl (.keep rfl (.same fa) rfl rfl (.lost (.keep rfl (.same fa) rfl rfl (.keep rfl (.same (qf.cons (qc.int _ _) (qf.cons (qc.str _) (qf.cons (ql encS _) (qf.cons (ql encI _) (qf.cons (qc.str _) qf.nil)))))) rfl rfl .nil))))))
          · try dsimp only at g_v30
            obtain ⟨l28, e_l28, g_v30⟩ := bnd g_v30
            obtain rfl := Option.some.inj g_v30
            exact qp.sub (qp.ro fol [(10, (.run (.oslice 6 l28.length 3) [.cells [.gslice 1 a0_.length 5, .oslice 2 l27.length 3], .cells (a0_.flatMap qb.c), .dead, .cells [.i a2_, .str a3_, vl encS a4_, vl encI a5_, .str a6_], .cells [.i n23, vl qa l24], .cells [.i a2_, .i n23, vl qa l24], .cells (l28.flatMap qd.c)] true))] [(0, .ptr 0 0), (3, .ptr 3 0)] [.cells [.gslice 1 a0_.length 5, .oslice 6 l28.length 3], .cells (a0_.flatMap qb.c), .dead, .cells [.i a2_, .str a3_, vl encS a4_, vl encI a5_, .str a6_], .cells [.i n23, vl qa l24], .cells [.i a2_, .i n23, vl qa l24], .cells (l28.flatMap qd.c)] [.run [2, 5] (kV Tryz.prog [163, 163] (.oslice 2 l27.length 3) (.slice 5 0 1 1 3)) [.cells [.gslice 1 a0_.length 5, .oslice 2 l27.length 3], .cells (a0_.flatMap qb.c), .cells (l27.flatMap qd.c), .cells [.i a2_, .str a3_, vl encS a4_, vl encI a5_, .str a6_], .cells [.i n23, vl qa l24], .cells [.i a2_, .i n23, vl qa l24]] (.oslice 6 l28.length 3) [.cells [.gslice 1 a0_.length 5, .oslice 2 l27.length 3], .cells (a0_.flatMap qb.c), .dead, .cells [.i a2_, .str a3_, vl encS a4_, vl encI a5_, .str a6_], .cells [.i n23, vl qa l24], .cells [.i a2_, .i n23, vl qa l24], .cells (l28.flatMap qd.c)] true] (And.intro (jI qeP (E := qd) rfl (qbp (E := qd) (ys := [(⟨a2_, (⟨n23, l24⟩ : zA)⟩ : StateT)]) rfl rfl rfl rfl) (qgq (E := qd) (l := l27) rfl rfl rfl e_l28 rfl)) trivial)) (Sub.norm [] [some 0, some 1, some 2, some 6, some 3] (by rw [hB]; rfl) rfl (.keep (.ptr rfl) (.keep (.ptr rfl) .nil)) (.keep rfl (.cells (qg.cons (.gslice rfl) (qg.cons (.oslice rfl) qg.nil))) rfl rfl (.keep rfl (.same fa) rfl rfl (.lost (.keep rfl (.same fa) rfl rfl (.keep rfl (.same (qf.cons (qc.int _ _) (qf.cons (qc.str _) (qf.cons (ql encS _) (qf.cons (ql encI _) (qf.cons (qc.str _) qf.nil)))))) rfl rfl .nil))))))
        intro _ hsub
        refine Goes.sub hsub ?_
        refine sq ?_
        obtain ⟨r31, e_r31, h⟩ := bnd h
        obtain ⟨l32, e_l32, h⟩ := bnd h
        refine Goes.ro fol [(6, (.call [] [.agg [.i a2_, .str a3_, vl encS a4_, vl encI a5_, .str a6_]] (.agg [.i r31.Number, .str r31.Kind, vl encS r31.Names, vl encI r31.Values, .str r31.Text]))), (8, (.run (.gslice 6 l32.length 5) [.cells [.gslice 1 a0_.length 5, .oslice 3 l29.length 3], .dead, .dead, .cells (l29.flatMap qd.c), .cells [.i a2_, .str a3_, vl encS a4_, vl encI a5_, .str a6_], .cells [.i r31.Number, .str r31.Kind, vl encS r31.Names, vl encI r31.Values, .str r31.Text], .cells (l32.flatMap qb.c)] true))] [] [.cells [.gslice 6 l32.length 5, .oslice 3 l29.length 3], .dead, .dead, .cells (l29.flatMap qd.c), .cells [.i a2_, .str a3_, vl encS a4_, vl encI a5_, .str a6_], .cells [.i r31.Number, .str r31.Kind, vl encS r31.Names, vl encI r31.Values, .str r31.Text], .cells (l32.flatMap qb.c)] [.call 115 [.agg [.i a2_, .str a3_, vl encS a4_, vl encI a5_, .str a6_]] [.cells [.gslice 1 a0_.length 5, .oslice 3 l29.length 3], .cells (a0_.flatMap qb.c), .dead, .cells (l29.flatMap qd.c), .cells [.i a2_, .str a3_, vl encS a4_, vl encI a5_, .str a6_]] [] [.agg [.i a2_, .str a3_, vl encS a4_, vl encI a5_, .str a6_]] (.agg [.i r31.Number, .str r31.Kind, vl encS r31.Names, vl encI r31.Values, .str r31.Text]), .run [1, 5] (kV Tryz.prog [22, 22] (.gslice 1 a0_.length 5) (.slice 5 0 1 1 5)) [.cells [.gslice 1 a0_.length 5, .oslice 3 l29.length 3], .cells (a0_.flatMap qb.c), .dead, .cells (l29.flatMap qd.c), .cells [.i a2_, .str a3_, vl encS a4_, vl encI a5_, .str a6_], .cells [.i r31.Number, .str r31.Kind, vl encS r31.Names, vl encI r31.Values, .str r31.Text]] (.gslice 6 l32.length 5) [.cells [.gslice 1 a0_.length 5, .oslice 3 l29.length 3], .dead, .dead, .cells (l29.flatMap qd.c), .cells [.i a2_, .str a3_, vl encS a4_, vl encI a5_, .str a6_], .cells [.i r31.Number, .str r31.Kind, vl encS r31.Names, vl encI r31.Values, .str r31.Text], .cells (l32.flatMap qb.c)] true] (And.intro (qo (AllST.cons (Still.agg (AllST.cons (Still.int 10 _ _) (AllST.cons (Still.str 10 _) (AllST.cons (qx encS _ (Nat.le_of_ble_eq_true rfl)) (AllST.cons (qx encI _ (Nat.le_of_ble_eq_true rfl)) (AllST.cons (Still.str 10 _) AllST.nil)))))) AllST.nil) (yz (⟨a2_, a3_, a4_, a5_, a6_⟩ : qm) e_r31) (Still.agg (AllST.cons (Still.int 10 _ _) (AllST.cons (Still.str 10 _) (AllST.cons (qx encS _ (Nat.le_of_ble_eq_true rfl)) (AllST.cons (qx encI _ (Nat.le_of_ble_eq_true rfl)) (AllST.cons (Still.str 10 _) AllST.nil))))))) (And.intro (jI yL (E := qb) rfl (qbp (E := qb) (ys := [r31]) rfl rfl rfl rfl) (qfj (E := qb) (l := a0_) rfl rfl rfl e_l32 rfl)) trivial)) ?_
        refine sq ?_
        refine Goes.rg fol [(4, .i 0)] [.cells [.gslice 6 l32.length 5, .oslice 3 l29.length 3], .dead, .dead, .cells (l29.flatMap qd.c), .cells [.i a2_, .str a3_, vl encS a4_, vl encI a5_, .str a6_], .cells [.i r31.Number, .str r31.Kind, vl encS r31.Names, vl encI r31.Values, .str r31.Text], .cells (l32.flatMap qb.c)] ?_
        refine Goes.ret ?_
        simp only [Option.some.injEq, Prod.mk.injEq] at h
        obtain ⟨rfl, rfl, rfl⟩ := h
        exact (Goes.retH (xs := [.i 0]) (by kernel_rfl) (Sub.norm [] [some 0, some 1, some 2, some 6, some 3] (by rw [hB]; rfl) rfl (.keep (.same (qc.int _ _)) .nil) (.keep rfl (.cells (qg.cons (.gslice rfl) (qg.cons ((qK.hs1 rfl)) qg.nil))) rfl rfl (.lost (.lost (.keep rfl (.same fa) rfl rfl (.keep rfl (.same fa) rfl rfl .nil)))))))
def je (N : Nat) (a0_ : List qm) (a1_ : Option (List StateT)) (a2_ : Int) (a3_ : Str) (a4_ : List Str) (a5_ : List Int) (a6_ : Str) : Option ((List qm) × (Option (List StateT)) × Int) :=
  (jF N (⟨a2_, a3_, a4_, a5_, a6_⟩ : qm)).bind fun r4 =>
  if (!decide (r4 = 0)) = true then
  some (a0_, a1_, r4)
  else
  (zw N a0_ a1_ a2_ a3_ a4_ a5_ a6_).bind fun (l7, o8, h_9) =>
  some (l7, o8, h_9)
theorem qar (N : Nat) (a0_ : List qm) (a1_ : Option (List StateT)) (a2_ : Int) (a3_ : Str) (a4_ : List Str) (a5_ : List Int) (a6_ : Str) {l1 : List qm} {o2 : Option (List StateT)} {h_3 : Int} (h : je N a0_ a1_ a2_ a3_ a4_ a5_ a6_ = some (l1, o2, h_3)) : qw Tryz.prog (.fn 128) [.ptr 0 0, .agg [.i a2_, .str a3_, vl encS a4_, vl encI a5_, .str a6_]] [.cells [.gslice 1 a0_.length 5, hsl 2 3 a1_], .cells (a0_.flatMap qb.c), .cells ((hof a1_).flatMap qd.c)] (.i h_3) [.cells [.gslice 3 l1.length 5, hsl 4 3 o2], .dead, .dead, .cells (l1.flatMap qb.c), .cells ((hof o2).flatMap qd.c)] := by
  unfold je at h
  refine Goes.fnH Tryz.func128 rfl rfl (m := 14) rfl (rs := [.tmp 4]) rfl (l := [(0, .ptr 0 0), (1, .agg [.i a2_, .str a3_, vl encS a4_, vl encI a5_, .str a6_])]) rfl ?_
  intro B hB
  refine sq ?_
  refine Goes.rg fol [(0, .ptr 0 0), (3, .ptr 3 0)] [.cells [.gslice 1 a0_.length 5, hsl 2 3 a1_], .cells (a0_.flatMap qb.c), .cells ((hof a1_).flatMap qd.c), .cells [.i a2_, .str a3_, vl encS a4_, vl encI a5_, .str a6_]] ?_
  refine sq ?_
  refine sq ?_
  obtain ⟨r4, e_r4, h⟩ := bnd h
  refine Goes.ro fol [(1, (.call [] [.agg [.i a2_, .str a3_, vl encS a4_, vl encI a5_, .str a6_]] (.i r4)))] [(0, .ptr 0 0), (3, .ptr 3 0), (5, .i r4)] [.cells [.gslice 1 a0_.length 5, hsl 2 3 a1_], .cells (a0_.flatMap qb.c), .cells ((hof a1_).flatMap qd.c), .cells [.i a2_, .str a3_, vl encS a4_, vl encI a5_, .str a6_]] [.call 18 [.agg [.i a2_, .str a3_, vl encS a4_, vl encI a5_, .str a6_]] [.cells [.gslice 1 a0_.length 5, hsl 2 3 a1_], .cells (a0_.flatMap qb.c), .cells ((hof a1_).flatMap qd.c), .cells [.i a2_, .str a3_, vl encS a4_, vl encI a5_, .str a6_]] [] [.agg [.i a2_, .str a3_, vl encS a4_, vl encI a5_, .str a6_]] (.i r4)] (And.intro (qo (AllST.cons (Still.agg (AllST.cons (Still.int 10 _ _) (AllST.cons (Still.str 10 _) (AllST.cons (qx encS _ (Nat.le_of_ble_eq_true rfl)) (AllST.cons (qx encI _ (Nat.le_of_ble_eq_true rfl)) (AllST.cons (Still.str 10 _) AllST.nil)))))) AllST.nil) (qaW N (⟨a2_, a3_, a4_, a5_, a6_⟩ : qm) e_r4) (Still.int 11 _ _)) trivial) ?_
  refine sq ?_
  refine Goes.rg fol [(0, .ptr 0 0), (3, .ptr 3 0), (5, .i r4), (9, .bool (!decide (r4 = 0)))] [.cells [.gslice 1 a0_.length 5, hsl 2 3 a1_], .cells (a0_.flatMap qb.c), .cells ((hof a1_).flatMap qd.c), .cells [.i a2_, .str a3_, vl encS a4_, vl encI a5_, .str a6_]] ?_
  refine Goes.ifB (b := !decide (r4 = 0)) (by kernel_rfl) (fun c5 => ?_) (fun c5 => ?_)
  · rw [if_pos (c5)] at h
    refine sq ?_
    refine Goes.rg fol [(4, .i r4)] [.cells [.gslice 1 a0_.length 5, hsl 2 3 a1_], .cells (a0_.flatMap qb.c), .cells ((hof a1_).flatMap qd.c), .cells [.i a2_, .str a3_, vl encS a4_, vl encI a5_, .str a6_]] ?_
    refine Goes.ret ?_
    simp only [Option.some.injEq, Prod.mk.injEq] at h
    obtain ⟨rfl, rfl, rfl⟩ := h
    exact (Goes.retH (xs := [.i r4]) (by kernel_rfl) (Sub.norm [] [some 0, some 1, some 2, some 1, some 2] (by rw [hB]; rfl) rfl (.keep (.same (qc.int _ _)) .nil) (.keep rfl (.cells (qg.cons (.gslice rfl) (qg.cons ((qK.hs rfl)) qg.nil))) rfl rfl (.lost (.lost (.keep rfl (.same fa) rfl rfl (.keep rfl (.same fa) rfl rfl .nil)))))))
  · rw [if_neg (by rw [c5]; exact Bool.false_ne_true)] at h
    refine Goes.skip ?_
    refine sq ?_
    obtain ⟨⟨l7, o8, h_9⟩, e_r6, h⟩ := bnd h
    try dsimp only at h
    refine Goes.ro fol [(2, (.callH [0, 1, 2] (.i h_9) [.cells [.gslice 4 l7.length 5, hsl 5 3 o8], .dead, .dead, .cells [.i a2_, .str a3_, vl encS a4_, vl encI a5_, .str a6_], .cells (l7.flatMap qb.c), .cells ((hof o8).flatMap qd.c)]))] [(4, .i h_9)] [.cells [.gslice 4 l7.length 5, hsl 5 3 o8], .dead, .dead, .cells [.i a2_, .str a3_, vl encS a4_, vl encI a5_, .str a6_], .cells (l7.flatMap qb.c), .cells ((hof o8).flatMap qd.c)] [.callH 91 [.ptr 0 0, .agg [.i a2_, .str a3_, vl encS a4_, vl encI a5_, .str a6_]] [.cells [.gslice 1 a0_.length 5, hsl 2 3 a1_], .cells (a0_.flatMap qb.c), .cells ((hof a1_).flatMap qd.c), .cells [.i a2_, .str a3_, vl encS a4_, vl encI a5_, .str a6_]] [0, 1, 2] (.i h_9) [.cells [.gslice 4 l7.length 5, hsl 5 3 o8], .dead, .dead, .cells [.i a2_, .str a3_, vl encS a4_, vl encI a5_, .str a6_], .cells (l7.flatMap qb.c), .cells ((hof o8).flatMap qd.c)]] (And.intro (jf [some 0, some 1, some 2] [some 0, none, none, none, some 3, some 4] (xC N a0_ a1_ a2_ a3_ a4_ a5_ a6_ e_r6) (.keep rfl (.cells (qg.cons (.gslice rfl) (qg.cons ((qK.hs rfl)) qg.nil))) rfl rfl (.keep rfl (.same fa) rfl rfl (.keep rfl (.same fa) rfl rfl .nil))) rfl rfl (.back rfl rfl (.cells (qg.cons (.gslice rfl) (qg.cons ((qK.hs rfl)) qg.nil))) rfl (.dead (.dead (.old rfl rfl (.new rfl rfl (.same fa) rfl (.new rfl rfl (.same fa) rfl .nil)))))) (qg.cons (.ptr rfl) (qg.cons (.same (qc.agg (qf.cons (qc.int _ _) (qf.cons (qc.str _) (qf.cons (ql encS _) (qf.cons (ql encI _) (qf.cons (qc.str _) qf.nil))))))) qg.nil)) (.same (qc.int _ _)) rfl) trivial) ?_
    refine Goes.ret ?_
    simp only [Option.some.injEq, Prod.mk.injEq] at h
    obtain ⟨rfl, rfl, rfl⟩ := h
    exact (Goes.retH (xs := [.i h_9]) (by kernel_rfl) (Sub.norm [] [some 0, some 1, some 2, some 4, some 5] (by rw [hB]; rfl) rfl (.keep (.same (qc.int _ _)) .nil) (.keep rfl (.cells (qg.cons (.gslice rfl) (qg.cons ((qK.hs rfl)) qg.nil))) rfl rfl (.lost (.lost (.keep rfl (.same fa) rfl rfl (.keep rfl (.same fa) rfl rfl .nil)))))))
def qP (N : Nat) (a0_ : List qm) : Nat → (List qm) → (Option (List StateT)) → Int → Option (((List qm) × (Option (List StateT))) ⊕ ((List qm) × (Option (List StateT)) × Bool × Int × Int))
  | 0, _, _, _ => none
  | K + 1, l7, o8, n9 =>
    if n9 < (a0_.length : Int) then
    (idx a0_ n9).bind fun x15 =>
    (je N l7 o8 x15.Number x15.Kind x15.Names x15.Values x15.Text).bind fun (l17, o18, h_19) =>
    if (!decide (h_19 = 0)) = true then
    some (.inr (([] : List qm), (none : Option (List StateT)), false, w64 (n9 + 1), h_19))
    else
    qP N a0_ K l17 o18 (w64 (n9 + 1))
    else
    some (.inl (l7, o8))
def kK (N : Nat) (a0_ : List qm) : Option ((List qm) × (Option (List StateT)) × Bool × Int × Int) :=
  if (a0_.length : Int) > 1000 then
  some (([] : List qm), (none : Option (List StateT)), false, 0, 5)
  else
  (qP N a0_ N ([] : List qm) (none : Option (List StateT)) 0).bind (fun
  | (.inl (l10, o11)) =>
  some (l10, o11, true, 0, 0)
  | (.inr q21) =>
  some q21)
theorem qbb (N : Nat) (a0_ : List qm) {l1 : List qm} {o2 : Option (List StateT)} {ok3 : Bool} {l_4 : Int} {n5 : Int} (h : kK N a0_ = some (l1, o2, ok3, l_4, n5)) : qw Tryz.prog (.fn 80) [vl qb a0_] [] (.tuple [pz ok3 0 0, .i l_4, .i n5]) [.cells [.gslice 1 l1.length 5, hsl 2 3 o2], .cells (l1.flatMap qb.c), .cells ((hof o2).flatMap qd.c)] := by
  unfold kK at h
  refine Goes.fnH Tryz.func80 rfl rfl (m := 31) rfl (rs := [.tmp 2, .tmp 3, .tmp 4]) rfl (l := [(0, vl qb a0_)]) rfl ?_
  intro B hB
  refine sq ?_
  refine Goes.rg fol [(0, vl qb a0_)] [] ?_
  refine sq ?_
  refine sq ?_
  refine Goes.rg fol [(0, vl qb a0_), (11, .bool (decide ((a0_.length : Int) > 1000)))] [] ?_
  refine Goes.ifB (b := decide ((a0_.length : Int) > 1000)) (by kernel_rfl) (fun c6 => ?_) (fun c6 => ?_)
  · rw [if_pos (ot c6)] at h
    refine sq ?_
    refine Goes.rg fol [(2, .nilptr), (3, .i 0), (4, .i 5)] [] ?_
    refine Goes.ret ?_
    simp only [Option.some.injEq, Prod.mk.injEq] at h
    obtain ⟨rfl, rfl, rfl, rfl, rfl⟩ := h
    exact (Goes.retH (xs := [.nilptr, .i 0, .i 5]) (by kernel_rfl) (Sub.norm [] [none, none, none] (by rw [hB]; rfl) rfl (.keep (.tupleL (qg.cons (qK.pz0) (qg.cons (.same (qc.int _ _)) (qg.cons (.same (qc.int _ _)) qg.nil)))) .nil) (.fresh (.fresh (.fresh .nil)))))
  · rw [if_neg (of_ c6)] at h
    refine Goes.skip ?_
    refine sq ?_
    refine Goes.rg fol [(0, vl qb a0_), (5, .ptr 0 0)] [.cells [.nilslice, .nilslice]] ?_
    refine sq ?_
    refine sq ?_
    refine Goes.rg fol [(5, .ptr 0 0), (14, vl qb a0_), (15, .i (a0_.length : Int)), (16, .i 0)] [.cells [.nilslice, .nilslice]] ?_
    refine Goes.block ?_
    obtain ⟨r12, g12, h⟩ := bnd h
    refine Goes.imp (Q := fun x s' => (x = .exit 0 ∧ ∃ l10 o11, (.inl (l10, o11)) = r12 ∧ Sub s' (ofG 31 [(5, .ptr 0 0)], [.cells [.gslice 1 l10.length 5, hsl 2 3 o11], .cells (l10.flatMap qb.c), .cells ((hof o11).flatMap qd.c)])) ∨ (x = .ret ∧ ∃ q13, (.inr q13) = r12 ∧ qcZ Tryz.prog [.tmp 2, .tmp 3, .tmp 4] (.tuple [pz q13.2.2.1 0 0, .i q13.2.2.2.1, .i q13.2.2.2.2]) [.cells [.gslice 1 q13.1.length 5, hsl 2 3 q13.2.1], .cells (q13.1.flatMap qb.c), .cells ((hof q13.2.1).flatMap qd.c)] .ret s')) ?_ ?_
    · refine Goes.sub (s' := (ofG 31 [(5, .ptr 0 0), (14, vl qb a0_), (15, .i (a0_.length : Int)), (16, .i 0)], [.cells [.gslice 1 ([] : List qm).length 5, hsl 2 3 (none : Option (List StateT))], .cells (([] : List qm).flatMap qb.c), .cells ((hof (none : Option (List StateT))).flatMap qd.c)])) (Sub.norm [] [some 0, none, none] (by rw [hB]; rfl) rfl (.keep (.ptr rfl) (.keep (.same (ql qb _)) (.keep (.same (qc.int _ _)) (.keep (.same (qc.int _ _)) .nil)))) (.keep rfl (.cells (qg.cons (.nil) (qg.cons (qK.hs0) qg.nil))) rfl rfl (.fresh (.fresh .nil)))) ?_
      refine Goes.loopS (fun M s => ∃ (l7 : List qm) (o8 : Option (List StateT)) (n9 : Int), s = (ofG 31 [(5, .ptr 0 0), (14, vl qb a0_), (15, .i (a0_.length : Int)), (16, .i n9)], [.cells [.gslice 1 l7.length 5, hsl 2 3 o8], .cells (l7.flatMap qb.c), .cells ((hof o8).flatMap qd.c)]) ∧ qP N a0_ M l7 o8 n9 = some r12) ?_ (m := N) ⟨_, _, _, rfl, g12⟩
      rintro M s ⟨l7, o8, n9, rfl, g12⟩
      cases M with
      | zero => simp only [qP] at g12; cases g12
      | succ M =>
        rw [qP] at g12
        refine sq ?_
        refine Goes.rg fol [(5, .ptr 0 0), (14, vl qb a0_), (15, .i (a0_.length : Int)), (16, .i n9), (17, .bool (decide (n9 < (a0_.length : Int))))] [.cells [.gslice 1 l7.length 5, hsl 2 3 o8], .cells (l7.flatMap qb.c), .cells ((hof o8).flatMap qd.c)] ?_
        refine sq ?_
        refine Goes.ifB (b := decide (n9 < (a0_.length : Int))) (by kernel_rfl) (fun c14 => ?_) (fun c14 => ?_)
        · rw [if_pos (ot c14)] at g12
          refine Goes.skip ?_
          refine sq ?_
          refine Goes.block ?_
          refine sq ?_
          obtain ⟨x15, e_x15, g12⟩ := bnd g12
          refine Goes.ro fol [(1, (.done (.fptr (a0_.flatMap qb.c) ((n9 : Int).toNat * 5 + 0)))), (2, (.done (.agg [.i x15.Number, .str x15.Kind, vl encS x15.Names, vl encI x15.Values, .str x15.Text])))] [(5, .ptr 0 0), (6, .i n9), (7, .ptr 3 0), (14, vl qb a0_), (15, .i (a0_.length : Int)), (16, .i n9)] [.cells [.gslice 1 l7.length 5, hsl 2 3 o8], .cells (l7.flatMap qb.c), .cells ((hof o8).flatMap qd.c), .cells [.i x15.Number, .str x15.Kind, vl encS x15.Names, vl encI x15.Values, .str x15.Text]] [.done (.opt (qj Tryz.prog 22 (vl qb a0_) (.i n9))) (.fptr (a0_.flatMap qb.c) ((n9 : Int).toNat * 5 + 0)), .done (qz Tryz.prog 26 (.fptr (a0_.flatMap qb.c) ((n9 : Int).toNat * 5 + 0))) (.agg [.i x15.Number, .str x15.Kind, vl encS x15.Names, vl encI x15.Values, .str x15.Text])] (And.intro (qF yL (E := qb) rfl e_x15) (And.intro (qax qf5 (E := qb) rfl e_x15) trivial)) ?_
          refine sq ?_
          obtain ⟨⟨l17, o18, h_19⟩, e_r16, g12⟩ := bnd g12
          try dsimp only at g12
          refine Goes.ro fol [(2, (.callH [0, 1, 2] (.i h_19) [.cells [.gslice 4 l17.length 5, hsl 5 3 o18], .dead, .dead, .cells [.i x15.Number, .str x15.Kind, vl encS x15.Names, vl encI x15.Values, .str x15.Text], .cells (l17.flatMap qb.c), .cells ((hof o18).flatMap qd.c)]))] [(5, .ptr 0 0), (6, .i n9), (8, .i h_19), (14, vl qb a0_), (15, .i (a0_.length : Int)), (16, .i n9)] [.cells [.gslice 4 l17.length 5, hsl 5 3 o18], .dead, .dead, .cells [.i x15.Number, .str x15.Kind, vl encS x15.Names, vl encI x15.Values, .str x15.Text], .cells (l17.flatMap qb.c), .cells ((hof o18).flatMap qd.c)] [.callH 128 [.ptr 0 0, .agg [.i x15.Number, .str x15.Kind, vl encS x15.Names, vl encI x15.Values, .str x15.Text]] [.cells [.gslice 1 l7.length 5, hsl 2 3 o8], .cells (l7.flatMap qb.c), .cells ((hof o8).flatMap qd.c), .cells [.i x15.Number, .str x15.Kind, vl encS x15.Names, vl encI x15.Values, .str x15.Text]] [0, 1, 2] (.i h_19) [.cells [.gslice 4 l17.length 5, hsl 5 3 o18], .dead, .dead, .cells [.i x15.Number, .str x15.Kind, vl encS x15.Names, vl encI x15.Values, .str x15.Text], .cells (l17.flatMap qb.c), .cells ((hof o18).flatMap qd.c)]] (And.intro (jf [some 0, some 1, some 2] [some 0, none, none, none, some 3, some 4] (qar N l7 o8 x15.Number x15.Kind x15.Names x15.Values x15.Text e_r16) (.keep rfl (.cells (qg.cons (.gslice rfl) (qg.cons ((qK.hs rfl)) qg.nil))) rfl rfl (.keep rfl (.same fa) rfl rfl (.keep rfl (.same fa) rfl rfl .nil))) rfl rfl (.back rfl rfl (.cells (qg.cons (.gslice rfl) (qg.cons ((qK.hs rfl)) qg.nil))) rfl (.dead (.dead (.old rfl rfl (.new rfl rfl (.same fa) rfl (.new rfl rfl (.same fa) rfl .nil)))))) (qg.cons (.ptr rfl) (qg.cons (.same (qc.agg (qf.cons (qc.int _ _) (qf.cons (qc.str _) (qf.cons (ql encS _) (qf.cons (ql encI _) (qf.cons (qc.str _) qf.nil))))))) qg.nil)) (.same (qc.int _ _)) rfl) trivial) ?_
          refine sq ?_
          refine Goes.rg fol [(5, .ptr 0 0), (6, .i n9), (8, .i h_19), (14, vl qb a0_), (15, .i (a0_.length : Int)), (16, .i n9), (25, .bool (!decide (h_19 = 0)))] [.cells [.gslice 4 l17.length 5, hsl 5 3 o18], .dead, .dead, .cells [.i x15.Number, .str x15.Kind, vl encS x15.Names, vl encI x15.Values, .str x15.Text], .cells (l17.flatMap qb.c), .cells ((hof o18).flatMap qd.c)] ?_
          refine Goes.ifB (b := !decide (h_19 = 0)) (by kernel_rfl) (fun c20 => ?_) (fun c20 => ?_)
          · rw [if_pos (c20)] at g12
            refine sq ?_
            refine Goes.rg fol [(2, .nilptr), (3, .i (w64 (n9 + 1))), (4, .i h_19)] [.cells [.gslice 4 l17.length 5, hsl 5 3 o18], .dead, .dead, .cells [.i x15.Number, .str x15.Kind, vl encS x15.Names, vl encI x15.Values, .str x15.Text], .cells (l17.flatMap qb.c), .cells ((hof o18).flatMap qd.c)] ?_
            refine Goes.ret ?_
            obtain rfl := Option.some.inj g12
            exact Or.inr (⟨rfl, _, rfl, (Goes.retH (xs := [.nilptr, .i (w64 (n9 + 1)), .i h_19]) (by kernel_rfl) (Sub.norm [] [none, none, none] (by rw [hB]; rfl) rfl (.keep (.tupleL (qg.cons (qK.pz0) (qg.cons (.same (qc.int _ _)) (qg.cons (.same (qc.int _ _)) qg.nil)))) .nil) (.fresh (.fresh (.fresh .nil)))))⟩)
          · rw [if_neg (by rw [c20]; exact Bool.false_ne_true)] at g12
            refine Goes.skip ?_
            refine Goes.rg fol [(5, .ptr 0 0), (14, vl qb a0_), (15, .i (a0_.length : Int)), (16, .i (w64 (n9 + 1)))] [.cells [.gslice 4 l17.length 5, hsl 5 3 o18], .dead, .dead, .cells [.i x15.Number, .str x15.Kind, vl encS x15.Names, vl encI x15.Values, .str x15.Text], .cells (l17.flatMap qb.c), .cells ((hof o18).flatMap qd.c)] ?_
            exact ⟨M, (ofG 31 [(5, .ptr 0 0), (14, vl qb a0_), (15, .i (a0_.length : Int)), (16, .i (w64 (n9 + 1)))], [.cells [.gslice 1 l17.length 5, hsl 2 3 o18], .cells (l17.flatMap qb.c), .cells ((hof o18).flatMap qd.c)]), Nat.lt_succ_self _, (Sub.norm [] [some 0, some 4, some 5] (by rw [hB]; rfl) rfl (.keep (.ptr rfl) (.keep (.same (ql qb _)) (.keep (.same (qc.int _ _)) (.keep (.same (qc.int _ _)) .nil)))) (.keep rfl (.cells (qg.cons (.gslice rfl) (qg.cons ((qK.hs rfl)) qg.nil))) rfl rfl (.keep rfl (.same fa) rfl rfl (.keep rfl (.same fa) rfl rfl .nil)))), _, _, _, rfl, g12⟩
        · rw [if_neg (of_ c14)] at g12
          refine Goes.exit ?_
          obtain rfl := Option.some.inj g12
          exact Or.inl (⟨rfl, _, _, rfl, (Sub.keep [5] rfl rfl)⟩)
    rintro x s' (⟨rfl, l10, o11, rfl, hsub⟩ | ⟨rfl, q21, rfl, hret⟩)
    · try dsimp only at h
      refine Goes.sub hsub ?_
      refine sq ?_
      refine Goes.rg fol [(2, .ptr 0 0), (3, .i 0), (4, .i 0)] [.cells [.gslice 1 l10.length 5, hsl 2 3 o11], .cells (l10.flatMap qb.c), .cells ((hof o11).flatMap qd.c)] ?_
      refine Goes.ret ?_
      simp only [Option.some.injEq, Prod.mk.injEq] at h
      obtain ⟨rfl, rfl, rfl, rfl, rfl⟩ := h
      exact (Goes.retH (xs := [.ptr 0 0, .i 0, .i 0]) (by kernel_rfl) (qdQ.refl _ _))
    · try dsimp only at h
      obtain rfl := Option.some.inj h
      exact hret
def qU (N : Nat) (a0_ : List qm) (a1_ : Str) (a2_ : Int) : Option ((List qm) × (Option (List StateT)) × Bool × Str × Str × Int × Int × Int × Int × Int × Int × Bool × Int) :=
  (kK N a0_).bind fun (l15, o16, ok17, l_18, n19) =>
  (vL N a1_).bind fun r20 =>
  (kY N ([n19, r20, a2_] : List Int)).bind fun r21 =>
  if (!decide (r21 = 0)) = true then
  some (([] : List qm), (none : Option (List StateT)), false, [], [], 0, 0, 0, 0, 0, 0, false, r21)
  else
  ((match ok17 with
  | false =>
  none
  | true =>
  (qG l15 o16).bind fun (o24, n25, l26) =>
  (qX N (⟨n25, l26⟩ : zA) a1_).bind fun r27 =>
  some (o24, r27.1, r27.2)) : Option ((Option (List StateT)) × Int × Bool)).bind fun (o28, at__29, is_30) =>
  if (!is_30) = true then
  some (([] : List qm), (none : Option (List StateT)), false, [], [], 0, 0, 0, 0, 0, 0, false, 10)
  else
  (qG l15 o28).bind fun (o34, n35, l36) =>
  (idx l36 at__29).bind fun x37 =>
  some (l15, o34, true, x37.Name, x37.Batch, x37.Born, x37.Last, x37.Uses, x37.Used, x37.Limit, x37.Until, x37.Gone, 0)
theorem vX (N : Nat) (a0_ : List qm) (a1_ : Str) (a2_ : Int) {l1 : List qm} {o2 : Option (List StateT)} {ok3 : Bool} {s4 : Str} {s5 : Str} {n6 : Int} {n7 : Int} {n8 : Int} {n9 : Int} {n10 : Int} {n11 : Int} {b12 : Bool} {other_13 : Int} (h : qU N a0_ a1_ a2_ = some (l1, o2, ok3, s4, s5, n6, n7, n8, n9, n10, n11, b12, other_13)) : qw Tryz.prog (.fn 92) [vl qb a0_, .str a1_, .i a2_] [] (.tuple [pz ok3 0 0, .agg [.str s4, .str s5, .i n6, .i n7, .i n8, .i n9, .i n10, .i n11, .bool b12], .i other_13]) [.cells [.gslice 1 l1.length 5, hsl 2 3 o2], .cells (l1.flatMap qb.c), .cells ((hof o2).flatMap qd.c)] := by
  unfold qU at h
  refine Goes.fnH Tryz.func92 rfl rfl (m := 47) rfl (rs := [.tmp 6, .cell 7 68, .tmp 8]) rfl (l := [(0, vl qb a0_), (1, .str a1_), (2, .i a2_)]) rfl ?_
  intro B hB
  refine sq ?_
  refine Goes.rg fol [(0, vl qb a0_), (1, .str a1_), (2, .i a2_), (7, .ptr 0 0)] [.cells [.str [], .str [], .i 0, .i 0, .i 0, .i 0, .i 0, .i 0, .bool false]] ?_
  refine sq ?_
  obtain ⟨⟨l15, o16, ok17, l_18, n19⟩, e_r14, h⟩ := bnd h
  try dsimp only at h
  refine Goes.ro fol [(1, (.callH [] (.tuple [pz ok17 1 0, .i l_18, .i n19]) [.cells [.str [], .str [], .i 0, .i 0, .i 0, .i 0, .i 0, .i 0, .bool false], .cells [.gslice 2 l15.length 5, hsl 3 3 o16], .cells (l15.flatMap qb.c), .cells ((hof o16).flatMap qd.c)]))] [(1, .str a1_), (2, .i a2_), (7, .ptr 0 0), (9, pz ok17 1 0), (11, .i n19)] [.cells [.str [], .str [], .i 0, .i 0, .i 0, .i 0, .i 0, .i 0, .bool false], .cells [.gslice 2 l15.length 5, hsl 3 3 o16], .cells (l15.flatMap qb.c), .cells ((hof o16).flatMap qd.c)] [.callH 80 [vl qb a0_] [.cells [.str [], .str [], .i 0, .i 0, .i 0, .i 0, .i 0, .i 0, .bool false]] [] (.tuple [pz ok17 1 0, .i l_18, .i n19]) [.cells [.str [], .str [], .i 0, .i 0, .i 0, .i 0, .i 0, .i 0, .bool false], .cells [.gslice 2 l15.length 5, hsl 3 3 o16], .cells (l15.flatMap qb.c), .cells ((hof o16).flatMap qd.c)]] (And.intro (jf [] [none, some 0, some 1, some 2] (qbb N a0_ e_r14) .nil rfl rfl (.old rfl rfl (.new rfl rfl (.cells (qg.cons (.gslice rfl) (qg.cons ((qK.hs rfl)) qg.nil))) rfl (.new rfl rfl (.same fa) rfl (.new rfl rfl (.same fa) rfl .nil)))) (qg.cons (.same (ql qb _)) qg.nil) (.tupleL (qg.cons ((qK.pz rfl)) (qg.cons (.same (qc.int _ _)) (qg.cons (.same (qc.int _ _)) qg.nil)))) rfl) trivial) ?_
  refine sq ?_
  refine sq ?_
  obtain ⟨r20, e_r20, h⟩ := bnd h
  obtain ⟨r21, e_r21, h⟩ := bnd h
  refine Goes.ro fol [(2, (.call [] [.str a1_] (.i r20))), (5, (.call [4] [vl encI ([n19, r20, a2_] : List Int)] (.i r21)))] [(1, .str a1_), (7, .ptr 0 0), (9, pz ok17 1 0), (11, .i r21)] [.cells [.str [], .str [], .i 0, .i 0, .i 0, .i 0, .i 0, .i 0, .bool false], .cells [.gslice 2 l15.length 5, hsl 3 3 o16], .cells (l15.flatMap qb.c), .cells ((hof o16).flatMap qd.c), .cells [.i n19, .i r20, .i a2_]] [.call 89 [.str a1_] [.cells [.str [], .str [], .i 0, .i 0, .i 0, .i 0, .i 0, .i 0, .bool false], .cells [.gslice 2 l15.length 5, hsl 3 3 o16], .cells (l15.flatMap qb.c), .cells ((hof o16).flatMap qd.c)] [] [.str a1_] (.i r20), .call 86 [.slice 4 0 3 3 1] [.cells [.str [], .str [], .i 0, .i 0, .i 0, .i 0, .i 0, .i 0, .bool false], .cells [.gslice 2 l15.length 5, hsl 3 3 o16], .cells (l15.flatMap qb.c), .cells ((hof o16).flatMap qd.c), .cells [.i n19, .i r20, .i a2_]] [4] [vl encI ([n19, r20, a2_] : List Int)] (.i r21)] (And.intro (qo (AllST.cons (Still.str 11 _) AllST.nil) (qaA N a1_ e_r20) (Still.int 11 _ _)) (And.intro (yg (FzL.cons (Fz.lit rfl rfl (FzL.still (AllST.cons (Still.int 10 _ _) (AllST.cons (Still.int 10 _ _) (AllST.cons (Still.int 10 _ _) AllST.nil))))) FzL.nil) (zC N ([n19, r20, a2_] : List Int) e_r21) (Still.int 11 _ _) rfl) trivial)) ?_
  refine sq ?_
  refine Goes.rg fol [(1, .str a1_), (7, .ptr 0 0), (9, pz ok17 1 0), (11, .i r21), (27, .bool (!decide (r21 = 0)))] [.cells [.str [], .str [], .i 0, .i 0, .i 0, .i 0, .i 0, .i 0, .bool false], .cells [.gslice 2 l15.length 5, hsl 3 3 o16], .cells (l15.flatMap qb.c), .cells ((hof o16).flatMap qd.c), .cells [.i n19, .i r20, .i a2_]] ?_
  refine Goes.ifB (b := !decide (r21 = 0)) (by kernel_rfl) (fun c22 => ?_) (fun c22 => ?_)
  · rw [if_pos (c22)] at h
    refine sq ?_
    refine Goes.rg fol [(6, .nilptr), (7, .ptr 0 0), (8, .i r21)] [.cells [.str [], .str [], .i 0, .i 0, .i 0, .i 0, .i 0, .i 0, .bool false], .cells [.gslice 2 l15.length 5, hsl 3 3 o16], .cells (l15.flatMap qb.c), .cells ((hof o16).flatMap qd.c), .cells [.i n19, .i r20, .i a2_]] ?_
    refine Goes.ret ?_
    simp only [Option.some.injEq, Prod.mk.injEq] at h
    obtain ⟨rfl, rfl, rfl, rfl, rfl, rfl, rfl, rfl, rfl, rfl, rfl, rfl, rfl⟩ := h
    exact (Goes.retH (xs := [.nilptr, .agg [.str [], .str [], .i 0, .i 0, .i 0, .i 0, .i 0, .i 0, .bool false], .i r21]) (by kernel_rfl) (Sub.norm [] [none, none, none] (by rw [hB]; rfl) rfl (.keep (.tupleL (qg.cons (qK.pz0) (qg.cons (.aggL (qg.cons (.same (qc.str _)) (qg.cons (.same (qc.str _)) (qg.cons (.same (qc.int _ _)) (qg.cons (.same (qc.int _ _)) (qg.cons (.same (qc.int _ _)) (qg.cons (.same (qc.int _ _)) (qg.cons (.same (qc.int _ _)) (qg.cons (.same (qc.int _ _)) (qg.cons (.same (qc.bool _)) qg.nil)))))))))) (qg.cons (.same (qc.int _ _)) qg.nil)))) .nil) (.fresh (.fresh (.fresh .nil)))))
  · rw [if_neg (by rw [c22]; exact Bool.false_ne_true)] at h
    refine Goes.skip ?_
    refine sq ?_
    obtain ⟨⟨o28, at__29, is_30⟩, g_v31, h⟩ := bnd h
    refine Goes.cut (s' := (ofG 47 [(7, .ptr 0 0), (9, .ptr 1 0), (12, .i at__29), (13, .bool is_30)], [.cells [.str [], .str [], .i 0, .i 0, .i 0, .i 0, .i 0, .i 0, .bool false], .cells [.gslice 2 l15.length 5, hsl 3 3 o28], .cells (l15.flatMap qb.c), .cells ((hof o28).flatMap qd.c), .cells [.i n19, .i r20, .i a2_]])) ?_ ?_
    · rcases ok17 with _ | _
      · try dsimp only at g_v31
        cases g_v31
      · try dsimp only at g_v31
        obtain ⟨⟨o24, n25, l26⟩, e_r23, g_v31⟩ := bnd g_v31
        try dsimp only at g_v31
        obtain ⟨r27, e_r27, g_v31⟩ := bnd g_v31
        simp only [Option.some.injEq, Prod.mk.injEq] at g_v31
        obtain ⟨rfl, rfl, rfl⟩ := g_v31
        exact qp.ro fol [(1, (.callH [1, 2, 3] (.agg [.i n25, vl qa l26]) [.cells [.str [], .str [], .i 0, .i 0, .i 0, .i 0, .i 0, .i 0, .bool false], .cells [.gslice 2 l15.length 5, hsl 3 3 o24], .cells (l15.flatMap qb.c), .cells ((hof o24).flatMap qd.c), .cells [.i n19, .i r20, .i a2_]])), (3, (.call [] [.agg [.i n25, vl qa l26], .str a1_] (.tuple [.i r27.1, .bool r27.2])))] [(7, .ptr 0 0), (9, .ptr 1 0), (12, .i r27.1), (13, .bool r27.2)] [.cells [.str [], .str [], .i 0, .i 0, .i 0, .i 0, .i 0, .i 0, .bool false], .cells [.gslice 2 l15.length 5, hsl 3 3 o24], .cells (l15.flatMap qb.c), .cells ((hof o24).flatMap qd.c), .cells [.i n19, .i r20, .i a2_]] [.callH 81 [.ptr 1 0] [.cells [.str [], .str [], .i 0, .i 0, .i 0, .i 0, .i 0, .i 0, .bool false], .cells [.gslice 2 l15.length 5, hsl 3 3 o16], .cells (l15.flatMap qb.c), .cells ((hof o16).flatMap qd.c), .cells [.i n19, .i r20, .i a2_]] [1, 2, 3] (.agg [.i n25, vl qa l26]) [.cells [.str [], .str [], .i 0, .i 0, .i 0, .i 0, .i 0, .i 0, .bool false], .cells [.gslice 2 l15.length 5, hsl 3 3 o24], .cells (l15.flatMap qb.c), .cells ((hof o24).flatMap qd.c), .cells [.i n19, .i r20, .i a2_]], .call 93 [.agg [.i n25, vl qa l26], .str a1_] [.cells [.str [], .str [], .i 0, .i 0, .i 0, .i 0, .i 0, .i 0, .bool false], .cells [.gslice 2 l15.length 5, hsl 3 3 o24], .cells (l15.flatMap qb.c), .cells ((hof o24).flatMap qd.c), .cells [.i n19, .i r20, .i a2_]] [] [.agg [.i n25, vl qa l26], .str a1_] (.tuple [.i r27.1, .bool r27.2])] (And.intro (jf [some 1, some 2, some 3] [none, some 0, some 1, some 2, none] (jg l15 o16 e_r23) (.keep rfl (.cells (qg.cons (.gslice rfl) (qg.cons ((qK.hs rfl)) qg.nil))) rfl rfl (.keep rfl (.same fa) rfl rfl (.keep rfl (.same fa) rfl rfl .nil))) rfl rfl (.old rfl rfl (.back rfl rfl (.cells (qg.cons (.gslice rfl) (qg.cons ((qK.hs rfl)) qg.nil))) rfl (.back rfl rfl (.same fa) rfl (.back rfl rfl (.same fa) rfl (.old rfl rfl .nil))))) (qg.cons (.ptr rfl) qg.nil) (.same (qc.agg (qf.cons (qc.int _ _) (qf.cons (ql qa _) qf.nil)))) rfl) (And.intro (qo (AllST.cons (Still.agg (AllST.cons (Still.int 10 _ _) (AllST.cons (qx qa _ (Nat.le_of_ble_eq_true rfl)) AllST.nil))) (AllST.cons (Still.str 11 _) AllST.nil)) (ja N (⟨n25, l26⟩ : zA) a1_ e_r27) (Still.tuple (AllST.cons (Still.int 10 _ _) (AllST.cons (Still.bool 10 _) AllST.nil)))) trivial))
    try dsimp only at h
    refine sq ?_
    refine sq ?_
    refine Goes.rg fol [(7, .ptr 0 0), (9, .ptr 1 0), (12, .i at__29), (38, .bool (!is_30))] [.cells [.str [], .str [], .i 0, .i 0, .i 0, .i 0, .i 0, .i 0, .bool false], .cells [.gslice 2 l15.length 5, hsl 3 3 o28], .cells (l15.flatMap qb.c), .cells ((hof o28).flatMap qd.c), .cells [.i n19, .i r20, .i a2_]] ?_
    refine Goes.ifB (b := !is_30) (by kernel_rfl) (fun c32 => ?_) (fun c32 => ?_)
    · rw [if_pos (c32)] at h
      refine sq ?_
      refine Goes.rg fol [(6, .nilptr), (7, .ptr 0 0), (8, .i 10)] [.cells [.str [], .str [], .i 0, .i 0, .i 0, .i 0, .i 0, .i 0, .bool false], .cells [.gslice 2 l15.length 5, hsl 3 3 o28], .cells (l15.flatMap qb.c), .cells ((hof o28).flatMap qd.c), .cells [.i n19, .i r20, .i a2_]] ?_
      refine Goes.ret ?_
      simp only [Option.some.injEq, Prod.mk.injEq] at h
      obtain ⟨rfl, rfl, rfl, rfl, rfl, rfl, rfl, rfl, rfl, rfl, rfl, rfl, rfl⟩ := h
      exact (Goes.retH (xs := [.nilptr, .agg [.str [], .str [], .i 0, .i 0, .i 0, .i 0, .i 0, .i 0, .bool false], .i 10]) (by kernel_rfl) (Sub.norm [] [none, none, none] (by rw [hB]; rfl) rfl (.keep (.tupleL (qg.cons (qK.pz0) (qg.cons (.aggL (qg.cons (.same (qc.str _)) (qg.cons (.same (qc.str _)) (qg.cons (.same (qc.int _ _)) (qg.cons (.same (qc.int _ _)) (qg.cons (.same (qc.int _ _)) (qg.cons (.same (qc.int _ _)) (qg.cons (.same (qc.int _ _)) (qg.cons (.same (qc.int _ _)) (qg.cons (.same (qc.bool _)) qg.nil)))))))))) (qg.cons (.same (qc.int _ _)) qg.nil)))) .nil) (.fresh (.fresh (.fresh .nil)))))
    · rw [if_neg (by rw [c32]; exact Bool.false_ne_true)] at h
      refine Goes.skip ?_
      refine sq ?_
      obtain ⟨⟨o34, n35, l36⟩, e_r33, h⟩ := bnd h
      try dsimp only at h
      obtain ⟨x37, e_x37, h⟩ := bnd h
      refine Goes.ro fol [(2, (.callH [1, 2, 3] (.agg [.i n35, vl qa l36]) [.cells [.str [], .str [], .i 0, .i 0, .i 0, .i 0, .i 0, .i 0, .bool false], .cells [.gslice 2 l15.length 5, hsl 3 3 o34], .cells (l15.flatMap qb.c), .cells ((hof o34).flatMap qd.c), .cells [.i n19, .i r20, .i a2_]])), (5, (.done (.fptr (l36.flatMap qa.c) ((at__29 : Int).toNat * 9 + 0)))), (6, (.done (.agg [.str x37.Name, .str x37.Batch, .i x37.Born, .i x37.Last, .i x37.Uses, .i x37.Used, .i x37.Limit, .i x37.Until, .bool x37.Gone])))] [(6, .ptr 1 0), (7, .ptr 0 0), (8, .i 0)] [.cells [.str x37.Name, .str x37.Batch, .i x37.Born, .i x37.Last, .i x37.Uses, .i x37.Used, .i x37.Limit, .i x37.Until, .bool x37.Gone], .cells [.gslice 2 l15.length 5, hsl 3 3 o34], .cells (l15.flatMap qb.c), .cells ((hof o34).flatMap qd.c), .cells [.i n19, .i r20, .i a2_]] [.callH 81 [.ptr 1 0] [.cells [.str [], .str [], .i 0, .i 0, .i 0, .i 0, .i 0, .i 0, .bool false], .cells [.gslice 2 l15.length 5, hsl 3 3 o28], .cells (l15.flatMap qb.c), .cells ((hof o28).flatMap qd.c), .cells [.i n19, .i r20, .i a2_]] [1, 2, 3] (.agg [.i n35, vl qa l36]) [.cells [.str [], .str [], .i 0, .i 0, .i 0, .i 0, .i 0, .i 0, .bool false], .cells [.gslice 2 l15.length 5, hsl 3 3 o34], .cells (l15.flatMap qb.c), .cells ((hof o34).flatMap qd.c), .cells [.i n19, .i r20, .i a2_]], .done (.opt (qj Tryz.prog 29 (vl qa l36) (.i at__29))) (.fptr (l36.flatMap qa.c) ((at__29 : Int).toNat * 9 + 0)), .done (qz Tryz.prog 68 (.fptr (l36.flatMap qa.c) ((at__29 : Int).toNat * 9 + 0))) (.agg [.str x37.Name, .str x37.Batch, .i x37.Born, .i x37.Last, .i x37.Uses, .i x37.Used, .i x37.Limit, .i x37.Until, .bool x37.Gone])] (And.intro (jf [some 1, some 2, some 3] [none, some 0, some 1, some 2, none] (jg l15 o28 e_r33) (.keep rfl (.cells (qg.cons (.gslice rfl) (qg.cons ((qK.hs rfl)) qg.nil))) rfl rfl (.keep rfl (.same fa) rfl rfl (.keep rfl (.same fa) rfl rfl .nil))) rfl rfl (.old rfl rfl (.back rfl rfl (.cells (qg.cons (.gslice rfl) (qg.cons ((qK.hs rfl)) qg.nil))) rfl (.back rfl rfl (.same fa) rfl (.back rfl rfl (.same fa) rfl (.old rfl rfl .nil))))) (qg.cons (.ptr rfl) qg.nil) (.same (qc.agg (qf.cons (qc.int _ _) (qf.cons (ql qa _) qf.nil)))) rfl) (And.intro (qF xN (E := qa) rfl e_x37) (And.intro (qax qii (E := qa) rfl e_x37) trivial))) ?_
      refine Goes.ret ?_
      simp only [Option.some.injEq, Prod.mk.injEq] at h
      obtain ⟨rfl, rfl, rfl, rfl, rfl, rfl, rfl, rfl, rfl, rfl, rfl, rfl, rfl⟩ := h
      exact (Goes.retH (xs := [.ptr 1 0, .agg [.str x37.Name, .str x37.Batch, .i x37.Born, .i x37.Last, .i x37.Uses, .i x37.Used, .i x37.Limit, .i x37.Until, .bool x37.Gone], .i 0]) (by kernel_rfl) (Sub.norm [] [some 1, some 2, some 3] (by rw [hB]; rfl) rfl (.keep (.tupleL (qg.cons ((qK.pz1 rfl)) (qg.cons (.aggL (qg.cons (.same (qc.str _)) (qg.cons (.same (qc.str _)) (qg.cons (.same (qc.int _ _)) (qg.cons (.same (qc.int _ _)) (qg.cons (.same (qc.int _ _)) (qg.cons (.same (qc.int _ _)) (qg.cons (.same (qc.int _ _)) (qg.cons (.same (qc.int _ _)) (qg.cons (.same (qc.bool _)) qg.nil)))))))))) (qg.cons (.same (qc.int _ _)) qg.nil)))) .nil) (.keep rfl (.cells (qg.cons (.gslice rfl) (qg.cons ((qK.hs rfl)) qg.nil))) rfl rfl (.keep rfl (.same fa) rfl rfl (.keep rfl (.same fa) rfl rfl .nil)))))
def qV (N : Nat) (sling : Str) (l2 : List qm) (s6 : Str) (l18 : List StateT) (n19 : Int) : Nat → (List Int) → Int → Option (List Int)
  | 0, _, _ => none
  | K + 1, l21, n22 =>
    if n22 < n19 then
    (((idx l18 n22).bind fun x28 =>
    (idx l2 (w64 (x28.number - 1))).bind fun x29 =>
    (if (!(x29.Kind == [114, 101, 99, 97, 108, 108])) = true then
    (idx x29.Names 0).bind fun x31 =>
    some (x31 == sling)
    else
    some false : Option Bool).bind fun own_32 =>
    (if (x29.Kind == [114, 101, 99, 97, 108, 108]) = true then
    (idx x29.Names 0).bind fun x35 =>
    some (x35 == s6)
    else
    some false : Option Bool).bind fun b36 =>
    ((if b36 = true then
    (qX N (⟨x28.register.Day, x28.register.Slings⟩ : zA) sling).bind fun r41 =>
    some r41.2
    else
    some own_32 : Option Bool)).bind fun own_38 =>
    if own_38 = true then
    (app 8 l21 [x28.number]).bind fun l43 =>
    some l43
    else
    some l21 : Option (List Int))).bind fun l26 =>
    qV N sling l2 s6 l18 n19 K l26 (w64 (n22 + 1))
    else
    some l21
def yl (N : Nat) (l : List qm) (sling : Str) : Option ((List Int) × Int) :=
  (qU N l sling 0).bind fun (l2, o3, ok4, s5, s6, n7, n8, n9, n10, n11, n12, b13, other_14) =>
  if (!decide (other_14 = 0)) = true then
  some ([], other_14)
  else
  ((match ok4 with
  | false =>
  none
  | true =>
  (match o3 with
  | none =>
  some ([], [], 0)
  | some l16 =>
  some (l16, l16, (l16.length : Int)))) : Option ((List StateT) × (List StateT) × Int)).bind fun (l17, l18, n19) =>
  (qV N sling l2 s6 l18 n19 N ([] : List Int) 0).bind fun l23 =>
  some (l23, 0)
theorem qb5 (N : Nat) (l : List qm) (sling : Str) {res : (List Int) × Int} (h : yl N l sling = some res) : qw Tryz.prog (.fn 24) [vl qb l, .str sling] [] (.tuple [vl encI res.1, .i res.2]) [] := by
  unfold yl at h
  refine Goes.fnW Tryz.func24 rfl rfl (m := 80) rfl (rs := [.tmp 4, .tmp 5]) rfl (l := [(0, vl qb l), (1, .str sling)]) rfl ?_
  refine sq ?_
  refine Goes.rg fol [(0, vl qb l), (1, .str sling)] [] ?_
  refine sq ?_
  obtain ⟨⟨l2, o3, ok4, s5, s6, n7, n8, n9, n10, n11, n12, b13, other_14⟩, e_r1, h⟩ := bnd h
  try dsimp only at h
  refine Goes.ro fol [(2, (.callH [] (.tuple [pz ok4 0 0, .agg [.str s5, .str s6, .i n7, .i n8, .i n9, .i n10, .i n11, .i n12, .bool b13], .i other_14]) [.cells [.gslice 1 l2.length 5, hsl 2 3 o3], .cells (l2.flatMap qb.c), .cells ((hof o3).flatMap qd.c)]))] [(1, .str sling), (6, pz ok4 0 0), (7, .ptr 3 0), (8, .i other_14)] [.cells [.gslice 1 l2.length 5, hsl 2 3 o3], .cells (l2.flatMap qb.c), .cells ((hof o3).flatMap qd.c), .cells [.str s5, .str s6, .i n7, .i n8, .i n9, .i n10, .i n11, .i n12, .bool b13]] [.callH 92 [vl qb l, .str sling, .i 0] [] [] (.tuple [pz ok4 0 0, .agg [.str s5, .str s6, .i n7, .i n8, .i n9, .i n10, .i n11, .i n12, .bool b13], .i other_14]) [.cells [.gslice 1 l2.length 5, hsl 2 3 o3], .cells (l2.flatMap qb.c), .cells ((hof o3).flatMap qd.c)]] (And.intro (jf [] [some 0, some 1, some 2] (vX N l sling 0 e_r1) .nil rfl rfl (.new rfl rfl (.cells (qg.cons (.gslice rfl) (qg.cons ((qK.hs rfl)) qg.nil))) rfl (.new rfl rfl (.same fa) rfl (.new rfl rfl (.same fa) rfl .nil))) (qg.cons (.same (ql qb _)) (qg.cons (.same (qc.str _)) (qg.cons (.same (qc.int _ _)) qg.nil))) (.tupleL (qg.cons ((qK.pz rfl)) (qg.cons (.same (qc.agg (qf.cons (qc.str _) (qf.cons (qc.str _) (qf.cons (qc.int _ _) (qf.cons (qc.int _ _) (qf.cons (qc.int _ _) (qf.cons (qc.int _ _) (qf.cons (qc.int _ _) (qf.cons (qc.int _ _) (qf.cons (qc.bool _) qf.nil))))))))))) (qg.cons (.same (qc.int _ _)) qg.nil)))) rfl) trivial) ?_
  refine sq ?_
  refine sq ?_
  refine Goes.rg fol [(1, .str sling), (6, pz ok4 0 0), (7, .ptr 3 0), (8, .i other_14), (22, .bool (!decide (other_14 = 0)))] [.cells [.gslice 1 l2.length 5, hsl 2 3 o3], .cells (l2.flatMap qb.c), .cells ((hof o3).flatMap qd.c), .cells [.str s5, .str s6, .i n7, .i n8, .i n9, .i n10, .i n11, .i n12, .bool b13]] ?_
  refine Goes.ifB (b := !decide (other_14 = 0)) (by kernel_rfl) (fun c15 => ?_) (fun c15 => ?_)
  · rw [if_pos (c15)] at h
    refine sq ?_
    refine Goes.rg fol [(4, .nilslice), (5, .i other_14)] [.cells [.gslice 1 l2.length 5, hsl 2 3 o3], .cells (l2.flatMap qb.c), .cells ((hof o3).flatMap qd.c), .cells [.str s5, .str s6, .i n7, .i n8, .i n9, .i n10, .i n11, .i n12, .bool b13]] ?_
    refine Goes.ret ?_
    obtain rfl := Option.some.inj h
    exact (Goes.retW (xs := [.nilslice, .i other_14]) (by kernel_rfl) (FzW.tuple (qN.cons (FzW.nilv (E := encI)) (qN.cons (FzW.still (Still.int 10 _ _)) qN.nil))))
  · rw [if_neg (by rw [c15]; exact Bool.false_ne_true)] at h
    refine Goes.skip ?_
    refine sq ?_
    refine Goes.rg fol [(1, .str sling), (6, pz ok4 0 0), (7, .ptr 3 0), (9, .nilslice)] [.cells [.gslice 1 l2.length 5, hsl 2 3 o3], .cells (l2.flatMap qb.c), .cells ((hof o3).flatMap qd.c), .cells [.str s5, .str s6, .i n7, .i n8, .i n9, .i n10, .i n11, .i n12, .bool b13]] ?_
    refine sq ?_
    refine sq ?_
    obtain ⟨⟨l17, l18, n19⟩, g_v20, h⟩ := bnd h
    refine Goes.cutS (s' := (ofG 80 [(1, .str sling), (6, .ptr 0 0), (7, .ptr 2 0), (9, .nilslice), (27, vl qd l18), (28, .i n19), (29, .i 0)], [.cells [.gslice 1 l2.length 5, vl qd l17], .cells (l2.flatMap qb.c), .cells [.str s5, .str s6, .i n7, .i n8, .i n9, .i n10, .i n11, .i n12, .bool b13]])) ?_ ?_
    · rcases ok4 with _ | _
      · try dsimp only at g_v20
        cases g_v20
      · try dsimp only at g_v20
        rcases o3 with _ | l16
        · try dsimp only at g_v20
          simp only [Option.some.injEq, Prod.mk.injEq] at g_v20
          obtain ⟨rfl, rfl, rfl⟩ := g_v20
          exact qp.sub (qp.rg fol [(1, .str sling), (6, .ptr 0 0), (7, .ptr 3 0), (9, .nilslice), (27, .nilslice), (28, .i 0), (29, .i 0)] [.cells [.gslice 1 l2.length 5, .nilslice], .cells (l2.flatMap qb.c), .cells ((hof (none : Option (List StateT))).flatMap qd.c), .cells [.str s5, .str s6, .i n7, .i n8, .i n9, .i n10, .i n11, .i n12, .bool b13]]) (Sub.norm [] [some 0, some 1, some 3] rfl rfl (.keep (.same (qc.str _)) (.keep (.ptr rfl) (.keep (.ptr rfl) (.keep (.same (qc.nilslice)) (.keep .nilv (.keep (.same (qc.int _ _)) (.keep (.same (qc.int _ _)) .nil))))))) (.keep rfl (.cells (qg.cons (.gslice rfl) (qg.cons (.nilv) qg.nil))) rfl rfl (.keep rfl (.same fa) rfl rfl (.keep rfl (.same (qf.cons (qc.str _) (qf.cons (qc.str _) (qf.cons (qc.int _ _) (qf.cons (qc.int _ _) (qf.cons (qc.int _ _) (qf.cons (qc.int _ _) (qf.cons (qc.int _ _) (qf.cons (qc.int _ _) (qf.cons (qc.bool _) qf.nil)))))))))) rfl rfl .nil))))
        · try dsimp only at g_v20
          simp only [Option.some.injEq, Prod.mk.injEq] at g_v20
          obtain ⟨rfl, rfl, rfl⟩ := g_v20
          exact qp.sub (qp.rg fol [(1, .str sling), (6, .ptr 0 0), (7, .ptr 3 0), (9, .nilslice), (27, .oslice 2 l16.length 3), (28, .i (l16.length : Int)), (29, .i 0)] [.cells [.gslice 1 l2.length 5, .oslice 2 l16.length 3], .cells (l2.flatMap qb.c), .cells (l16.flatMap qd.c), .cells [.str s5, .str s6, .i n7, .i n8, .i n9, .i n10, .i n11, .i n12, .bool b13]]) (Sub.norm [2] [some 0, some 1, some 3] rfl rfl (.keep (.same (qc.str _)) (.keep (.ptr rfl) (.keep (.ptr rfl) (.keep (.same (qc.nilslice)) (.keep (.frz (Fz.os (E := qd) rfl rfl (Nat.le_of_ble_eq_true rfl)) (ql qd _)) (.keep (.same (qc.int _ _)) (.keep (.same (qc.int _ _)) .nil))))))) (.keep rfl (.cells (qg.cons (.gslice rfl) (qg.cons (.frz (Fz.os (E := qd) rfl rfl (Nat.le_of_ble_eq_true rfl)) (ql qd _)) qg.nil))) rfl rfl (.keep rfl (.same fa) rfl rfl (.keep rfl (.same (qf.cons (qc.str _) (qf.cons (qc.str _) (qf.cons (qc.int _ _) (qf.cons (qc.int _ _) (qf.cons (qc.int _ _) (qf.cons (qc.int _ _) (qf.cons (qc.int _ _) (qf.cons (qc.int _ _) (qf.cons (qc.bool _) qf.nil)))))))))) rfl rfl .nil))))
    intro _ hsub
    try dsimp only at h
    refine Goes.sub hsub ?_
    refine Goes.block ?_
    obtain ⟨r24, g24, h⟩ := bnd h
    refine Goes.imp (Q := fun x s' => (x = .exit 0 ∧ ∃ l23, l23 = r24 ∧ Sub s' (ofG 80 [(9, .gslice 0 l23.length 1)], [.cells (l23.flatMap encI.c)]))) ?_ ?_
    · refine Goes.sub (s' := (ofG 80 [(1, .str sling), (6, .ptr 0 0), (7, .ptr 2 0), (9, .gslice 3 ([] : List Int).length 1), (27, vl qd l18), (28, .i n19), (29, .i 0)], [.cells [.gslice 1 l2.length 5, vl qd l17], .cells (l2.flatMap qb.c), .cells [.str s5, .str s6, .i n7, .i n8, .i n9, .i n10, .i n11, .i n12, .bool b13], .cells (([] : List Int).flatMap encI.c)])) (Sub.norm [] [some 0, some 1, some 2, none] rfl rfl (.keep (.same (qc.str _)) (.keep (.ptr rfl) (.keep (.ptr rfl) (.keep .nil (.keep (.same (ql qd _)) (.keep (.same (qc.int _ _)) (.keep (.same (qc.int _ _)) .nil))))))) (.keep rfl (.cells (qg.cons (.gslice rfl) (qg.cons (.same (ql qd _)) qg.nil))) rfl rfl (.keep rfl (.same fa) rfl rfl (.keep rfl (.same (qf.cons (qc.str _) (qf.cons (qc.str _) (qf.cons (qc.int _ _) (qf.cons (qc.int _ _) (qf.cons (qc.int _ _) (qf.cons (qc.int _ _) (qf.cons (qc.int _ _) (qf.cons (qc.int _ _) (qf.cons (qc.bool _) qf.nil)))))))))) rfl rfl (.fresh .nil))))) ?_
      refine Goes.loopS (fun M s => ∃ (l21 : List Int) (n22 : Int), s = (ofG 80 [(1, .str sling), (6, .ptr 0 0), (7, .ptr 2 0), (9, .gslice 3 l21.length 1), (27, vl qd l18), (28, .i n19), (29, .i n22)], [.cells [.gslice 1 l2.length 5, vl qd l17], .cells (l2.flatMap qb.c), .cells [.str s5, .str s6, .i n7, .i n8, .i n9, .i n10, .i n11, .i n12, .bool b13], .cells (l21.flatMap encI.c)]) ∧ qV N sling l2 s6 l18 n19 M l21 n22 = some r24) ?_ (m := N) ⟨_, _, rfl, g24⟩
      rintro M s ⟨l21, n22, rfl, g24⟩
      cases M with
      | zero => simp only [qV] at g24; cases g24
      | succ M =>
        rw [qV] at g24
        refine sq ?_
        refine Goes.rg fol [(1, .str sling), (6, .ptr 0 0), (7, .ptr 2 0), (9, .gslice 3 l21.length 1), (27, vl qd l18), (28, .i n19), (29, .i n22), (30, .bool (decide (n22 < n19)))] [.cells [.gslice 1 l2.length 5, vl qd l17], .cells (l2.flatMap qb.c), .cells [.str s5, .str s6, .i n7, .i n8, .i n9, .i n10, .i n11, .i n12, .bool b13], .cells (l21.flatMap encI.c)] ?_
        refine sq ?_
        refine Goes.ifB (b := decide (n22 < n19)) (by kernel_rfl) (fun c25 => ?_) (fun c25 => ?_)
        · rw [if_pos (ot c25)] at g24
          refine Goes.skip ?_
          refine sq ?_
          obtain ⟨r27, g27, g24⟩ := bnd g24
          refine Goes.imp (Q := fun x s' => (x = .normal ∧ ∃ l26, l26 = r27 ∧ Sub s' (ofG 80 [(1, .str sling), (6, .ptr 0 0), (7, .ptr 2 0), (9, .gslice 3 l26.length 1), (27, vl qd l18), (28, .i n19), (29, .i n22)], [.cells [.gslice 1 l2.length 5, vl qd l17], .cells (l2.flatMap qb.c), .cells [.str s5, .str s6, .i n7, .i n8, .i n9, .i n10, .i n11, .i n12, .bool b13], .cells (l26.flatMap encI.c)]))) ?_ ?_
          · refine Goes.block ?_
            refine sq ?_
            obtain ⟨x28, e_x28, g27⟩ := bnd g27
            refine Goes.ro fol [(0, (.done (.fptr (l18.flatMap qd.c) ((n22 : Int).toNat * 3 + 0)))), (1, (.done (.agg [.i x28.number, .i x28.register.Day, vl qa x28.register.Slings])))] [(1, .str sling), (6, .ptr 0 0), (7, .ptr 2 0), (9, .gslice 3 l21.length 1), (11, .ptr 4 0), (27, vl qd l18), (28, .i n19), (29, .i n22)] [.cells [.gslice 1 l2.length 5, vl qd l17], .cells (l2.flatMap qb.c), .cells [.str s5, .str s6, .i n7, .i n8, .i n9, .i n10, .i n11, .i n12, .bool b13], .cells (l21.flatMap encI.c), .cells [.i x28.number, .i x28.register.Day, vl qa x28.register.Slings]] [.done (.opt (qj Tryz.prog 163 (vl qd l18) (.i n22))) (.fptr (l18.flatMap qd.c) ((n22 : Int).toNat * 3 + 0)), .done (qz Tryz.prog 167 (.fptr (l18.flatMap qd.c) ((n22 : Int).toNat * 3 + 0))) (.agg [.i x28.number, .i x28.register.Day, vl qa x28.register.Slings])] (And.intro (qF qeP (E := qd) rfl e_x28) (And.intro (qax ag167 (E := qd) rfl e_x28) trivial)) ?_
            refine sq ?_
            obtain ⟨x29, e_x29, g27⟩ := bnd g27
            refine Goes.ro fol [(7, (.done (.ptr 1 ((w64 (x28.number - 1) : Int).toNat * 5 + 0)))), (8, (.run (.agg [.i x29.Number, .str x29.Kind, vl encS x29.Names, vl encI x29.Values, .str x29.Text]) [.cells [.gslice 1 l2.length 5, vl qd l17], .cells (l2.flatMap qb.c), .cells [.str s5, .str s6, .i n7, .i n8, .i n9, .i n10, .i n11, .i n12, .bool b13], .cells (l21.flatMap encI.c), .cells [.i x28.number, .i x28.register.Day, vl qa x28.register.Slings]] false))] [(1, .str sling), (6, .ptr 0 0), (7, .ptr 2 0), (9, .gslice 3 l21.length 1), (11, .ptr 4 0), (12, .ptr 5 0), (27, vl qd l18), (28, .i n19), (29, .i n22)] [.cells [.gslice 1 l2.length 5, vl qd l17], .cells (l2.flatMap qb.c), .cells [.str s5, .str s6, .i n7, .i n8, .i n9, .i n10, .i n11, .i n12, .bool b13], .cells (l21.flatMap encI.c), .cells [.i x28.number, .i x28.register.Day, vl qa x28.register.Slings], .cells [.i x29.Number, .str x29.Kind, vl encS x29.Names, vl encI x29.Values, .str x29.Text]] [.done (.opt (qj Tryz.prog 22 (.gslice 1 l2.length 5) (.i (w64 (x28.number - 1))))) (.ptr 1 ((w64 (x28.number - 1) : Int).toNat * 5 + 0)), .run [1] (qz Tryz.prog 26 (.ptr 1 ((w64 (x28.number - 1) : Int).toNat * 5 + 0))) [.cells [.gslice 1 l2.length 5, vl qd l17], .cells (l2.flatMap qb.c), .cells [.str s5, .str s6, .i n7, .i n8, .i n9, .i n10, .i n11, .i n12, .bool b13], .cells (l21.flatMap encI.c), .cells [.i x28.number, .i x28.register.Day, vl qa x28.register.Slings]] (.agg [.i x29.Number, .str x29.Kind, vl encS x29.Names, vl encI x29.Values, .str x29.Text]) [.cells [.gslice 1 l2.length 5, vl qd l17], .cells (l2.flatMap qb.c), .cells [.str s5, .str s6, .i n7, .i n8, .i n9, .i n10, .i n11, .i n12, .bool b13], .cells (l21.flatMap encI.c), .cells [.i x28.number, .i x28.register.Day, vl qa x28.register.Slings]] false] (And.intro (ix_gs yL e_x29) (And.intro (qgf qf5 (E := qb) (l := l2) rfl rfl e_x29) trivial)) ?_
            refine sq ?_
            obtain ⟨own_32, g_v33, g27⟩ := bnd g27
            refine Goes.cut (s' := (ofG 80 [(1, .str sling), (6, .ptr 0 0), (7, .ptr 2 0), (9, .gslice 3 l21.length 1), (11, .ptr 4 0), (12, .ptr 5 0), (13, .bool own_32), (27, vl qd l18), (28, .i n19), (29, .i n22)], [.cells [.gslice 1 l2.length 5, vl qd l17], .cells (l2.flatMap qb.c), .cells [.str s5, .str s6, .i n7, .i n8, .i n9, .i n10, .i n11, .i n12, .bool b13], .cells (l21.flatMap encI.c), .cells [.i x28.number, .i x28.register.Day, vl qa x28.register.Slings], .cells [.i x29.Number, .str x29.Kind, vl encS x29.Names, vl encI x29.Values, .str x29.Text]])) ?_ ?_
            · rcases Bool.eq_false_or_eq_true (!(x29.Kind == [114, 101, 99, 97, 108, 108])) with c30 | c30
              · rw [if_pos (c30)] at g_v33
                obtain ⟨x31, e_x31, g_v33⟩ := bnd g_v33
                obtain rfl := Option.some.inj g_v33
                exact qp.ro fol [(3, (.done (.bool true))), (6, (.done (.fptr (x29.Names.flatMap encS.c) ((0 : Int).toNat * 1 + 0)))), (7, (.done (.str x31)))] [(1, .str sling), (6, .ptr 0 0), (7, .ptr 2 0), (9, .gslice 3 l21.length 1), (11, .ptr 4 0), (12, .ptr 5 0), (13, .bool (x31 == sling)), (27, vl qd l18), (28, .i n19), (29, .i n22)] [.cells [.gslice 1 l2.length 5, vl qd l17], .cells (l2.flatMap qb.c), .cells [.str s5, .str s6, .i n7, .i n8, .i n9, .i n10, .i n11, .i n12, .bool b13], .cells (l21.flatMap encI.c), .cells [.i x28.number, .i x28.register.Day, vl qa x28.register.Slings], .cells [.i x29.Number, .str x29.Kind, vl encS x29.Names, vl encI x29.Values, .str x29.Text]] [.done (.done (.bool (!(x29.Kind == [114, 101, 99, 97, 108, 108])))) (.bool true), .done (.opt (qj Tryz.prog 23 (vl encS x29.Names) (.i 0))) (.fptr (x29.Names.flatMap encS.c) ((0 : Int).toNat * 1 + 0)), .done (qz Tryz.prog 9 (.fptr (x29.Names.flatMap encS.c) ((0 : Int).toNat * 1 + 0))) (.str x31)] (And.intro (congrArg (fun x => Pg.done (.bool x)) c30) (And.intro (qF xe (E := encS) rfl e_x31) (And.intro (qJ ce9 (E := encS) rfl e_x31 (Nat.le_of_ble_eq_true rfl) rfl) trivial)))
              · rw [if_neg (by rw [c30]; exact Bool.false_ne_true)] at g_v33
                obtain rfl := Option.some.inj g_v33
                exact qp.ro fol [(3, (.done (.bool false)))] [(1, .str sling), (6, .ptr 0 0), (7, .ptr 2 0), (9, .gslice 3 l21.length 1), (11, .ptr 4 0), (12, .ptr 5 0), (13, .bool false), (27, vl qd l18), (28, .i n19), (29, .i n22)] [.cells [.gslice 1 l2.length 5, vl qd l17], .cells (l2.flatMap qb.c), .cells [.str s5, .str s6, .i n7, .i n8, .i n9, .i n10, .i n11, .i n12, .bool b13], .cells (l21.flatMap encI.c), .cells [.i x28.number, .i x28.register.Day, vl qa x28.register.Slings], .cells [.i x29.Number, .str x29.Kind, vl encS x29.Names, vl encI x29.Values, .str x29.Text]] [.done (.done (.bool (!(x29.Kind == [114, 101, 99, 97, 108, 108])))) (.bool false)] (And.intro (congrArg (fun x => Pg.done (.bool x)) c30) trivial)
            refine sq ?_
            refine sq ?_
            obtain ⟨b36, g_v37, g27⟩ := bnd g27
            refine Goes.cut (s' := (ofG 80 [(1, .str sling), (6, .ptr 0 0), (7, .ptr 2 0), (9, .gslice 3 l21.length 1), (11, .ptr 4 0), (13, .bool own_32), (27, vl qd l18), (28, .i n19), (29, .i n22), (64, .bool b36)], [.cells [.gslice 1 l2.length 5, vl qd l17], .cells (l2.flatMap qb.c), .cells [.str s5, .str s6, .i n7, .i n8, .i n9, .i n10, .i n11, .i n12, .bool b13], .cells (l21.flatMap encI.c), .cells [.i x28.number, .i x28.register.Day, vl qa x28.register.Slings], .cells [.i x29.Number, .str x29.Kind, vl encS x29.Names, vl encI x29.Values, .str x29.Text]])) ?_ ?_
            · rcases Bool.eq_false_or_eq_true (x29.Kind == [114, 101, 99, 97, 108, 108]) with c34 | c34
              · rw [if_pos (c34)] at g_v37
                obtain ⟨x35, e_x35, g_v37⟩ := bnd g_v37
                obtain rfl := Option.some.inj g_v37
                exact qp.ro fol [(3, (.done (.bool true))), (6, (.done (.fptr (x29.Names.flatMap encS.c) ((0 : Int).toNat * 1 + 0)))), (7, (.done (.str x35)))] [(1, .str sling), (6, .ptr 0 0), (7, .ptr 2 0), (9, .gslice 3 l21.length 1), (11, .ptr 4 0), (13, .bool own_32), (27, vl qd l18), (28, .i n19), (29, .i n22), (64, .bool (x35 == s6))] [.cells [.gslice 1 l2.length 5, vl qd l17], .cells (l2.flatMap qb.c), .cells [.str s5, .str s6, .i n7, .i n8, .i n9, .i n10, .i n11, .i n12, .bool b13], .cells (l21.flatMap encI.c), .cells [.i x28.number, .i x28.register.Day, vl qa x28.register.Slings], .cells [.i x29.Number, .str x29.Kind, vl encS x29.Names, vl encI x29.Values, .str x29.Text]] [.done (.done (.bool (x29.Kind == [114, 101, 99, 97, 108, 108]))) (.bool true), .done (.opt (qj Tryz.prog 23 (vl encS x29.Names) (.i 0))) (.fptr (x29.Names.flatMap encS.c) ((0 : Int).toNat * 1 + 0)), .done (qz Tryz.prog 9 (.fptr (x29.Names.flatMap encS.c) ((0 : Int).toNat * 1 + 0))) (.str x35)] (And.intro (congrArg (fun x => Pg.done (.bool x)) c34) (And.intro (qF xe (E := encS) rfl e_x35) (And.intro (qJ ce9 (E := encS) rfl e_x35 (Nat.le_of_ble_eq_true rfl) rfl) trivial)))
              · rw [if_neg (by rw [c34]; exact Bool.false_ne_true)] at g_v37
                obtain rfl := Option.some.inj g_v37
                exact qp.ro fol [(3, (.done (.bool false)))] [(1, .str sling), (6, .ptr 0 0), (7, .ptr 2 0), (9, .gslice 3 l21.length 1), (11, .ptr 4 0), (13, .bool own_32), (27, vl qd l18), (28, .i n19), (29, .i n22), (64, .bool false)] [.cells [.gslice 1 l2.length 5, vl qd l17], .cells (l2.flatMap qb.c), .cells [.str s5, .str s6, .i n7, .i n8, .i n9, .i n10, .i n11, .i n12, .bool b13], .cells (l21.flatMap encI.c), .cells [.i x28.number, .i x28.register.Day, vl qa x28.register.Slings], .cells [.i x29.Number, .str x29.Kind, vl encS x29.Names, vl encI x29.Values, .str x29.Text]] [.done (.done (.bool (x29.Kind == [114, 101, 99, 97, 108, 108]))) (.bool false)] (And.intro (congrArg (fun x => Pg.done (.bool x)) c34) trivial)
            obtain ⟨r39, g39, g27⟩ := bnd g27
            refine Goes.imp (Q := fun x s' => (x = .normal ∧ ∃ own_38, own_38 = r39 ∧ Sub s' (ofG 80 [(1, .str sling), (6, .ptr 0 0), (7, .ptr 2 0), (9, .gslice 3 l21.length 1), (11, .ptr 4 0), (13, .bool own_38), (27, vl qd l18), (28, .i n19), (29, .i n22)], [.cells [.gslice 1 l2.length 5, vl qd l17], .cells (l2.flatMap qb.c), .cells [.str s5, .str s6, .i n7, .i n8, .i n9, .i n10, .i n11, .i n12, .bool b13], .cells (l21.flatMap encI.c), .cells [.i x28.number, .i x28.register.Day, vl qa x28.register.Slings]]))) ?_ ?_
            · refine Goes.ifB (b := b36) (by kernel_rfl) (fun c40 => ?_) (fun c40 => ?_)
              · rw [if_pos (c40)] at g39
                obtain ⟨r41, e_r41, g39⟩ := bnd g39
                refine Goes.ro fol [(3, (.call [] [.agg [.i x28.register.Day, vl qa x28.register.Slings], .str sling] (.tuple [.i r41.1, .bool r41.2])))] [(1, .str sling), (6, .ptr 0 0), (7, .ptr 2 0), (9, .gslice 3 l21.length 1), (11, .ptr 4 0), (13, .bool r41.2), (27, vl qd l18), (28, .i n19), (29, .i n22)] [.cells [.gslice 1 l2.length 5, vl qd l17], .cells (l2.flatMap qb.c), .cells [.str s5, .str s6, .i n7, .i n8, .i n9, .i n10, .i n11, .i n12, .bool b13], .cells (l21.flatMap encI.c), .cells [.i x28.number, .i x28.register.Day, vl qa x28.register.Slings], .cells [.i x29.Number, .str x29.Kind, vl encS x29.Names, vl encI x29.Values, .str x29.Text]] [.call 93 [.agg [.i x28.register.Day, vl qa x28.register.Slings], .str sling] [.cells [.gslice 1 l2.length 5, vl qd l17], .cells (l2.flatMap qb.c), .cells [.str s5, .str s6, .i n7, .i n8, .i n9, .i n10, .i n11, .i n12, .bool b13], .cells (l21.flatMap encI.c), .cells [.i x28.number, .i x28.register.Day, vl qa x28.register.Slings], .cells [.i x29.Number, .str x29.Kind, vl encS x29.Names, vl encI x29.Values, .str x29.Text]] [] [.agg [.i x28.register.Day, vl qa x28.register.Slings], .str sling] (.tuple [.i r41.1, .bool r41.2])] (And.intro (qo (AllST.cons (Still.agg (AllST.cons (Still.int 10 _ _) (AllST.cons (qx qa _ (Nat.le_of_ble_eq_true rfl)) AllST.nil))) (AllST.cons (Still.str 11 _) AllST.nil)) (ja N (⟨x28.register.Day, x28.register.Slings⟩ : zA) sling e_r41) (Still.tuple (AllST.cons (Still.int 10 _ _) (AllST.cons (Still.bool 10 _) AllST.nil)))) trivial) ?_
                obtain rfl := Option.some.inj g39
                exact ⟨rfl, _, rfl, (Sub.norm [] [some 0, some 1, some 2, some 3, some 4] rfl rfl (.keep (.same (qc.str _)) (.keep (.ptr rfl) (.keep (.ptr rfl) (.keep (.gslice rfl) (.keep (.ptr rfl) (.keep (.same (qc.bool _)) (.keep (.same (ql qd _)) (.keep (.same (qc.int _ _)) (.keep (.same (qc.int _ _)) .nil))))))))) (.keep rfl (.cells (qg.cons (.gslice rfl) (qg.cons (.same (ql qd _)) qg.nil))) rfl rfl (.keep rfl (.same fa) rfl rfl (.keep rfl (.same (qf.cons (qc.str _) (qf.cons (qc.str _) (qf.cons (qc.int _ _) (qf.cons (qc.int _ _) (qf.cons (qc.int _ _) (qf.cons (qc.int _ _) (qf.cons (qc.int _ _) (qf.cons (qc.int _ _) (qf.cons (qc.bool _) qf.nil)))))))))) rfl rfl (.keep rfl (.same fa) rfl rfl (.keep rfl (.same (qf.cons (qc.int _ _) (qf.cons (qc.int _ _) (qf.cons (ql qa _) qf.nil)))) rfl rfl .nil))))))⟩
              · rw [if_neg (by rw [c40]; exact Bool.false_ne_true)] at g39
                refine Goes.skip ?_
                obtain rfl := Option.some.inj g39
                exact ⟨rfl, _, rfl, (Sub.norm [] [some 0, some 1, some 2, some 3, some 4] rfl rfl (.keep (.same (qc.str _)) (.keep (.ptr rfl) (.keep (.ptr rfl) (.keep (.gslice rfl) (.keep (.ptr rfl) (.keep (.same (qc.bool _)) (.keep (.same (ql qd _)) (.keep (.same (qc.int _ _)) (.keep (.same (qc.int _ _)) .nil))))))))) (.keep rfl (.cells (qg.cons (.gslice rfl) (qg.cons (.same (ql qd _)) qg.nil))) rfl rfl (.keep rfl (.same fa) rfl rfl (.keep rfl (.same (qf.cons (qc.str _) (qf.cons (qc.str _) (qf.cons (qc.int _ _) (qf.cons (qc.int _ _) (qf.cons (qc.int _ _) (qf.cons (qc.int _ _) (qf.cons (qc.int _ _) (qf.cons (qc.int _ _) (qf.cons (qc.bool _) qf.nil)))))))))) rfl rfl (.keep rfl (.same fa) rfl rfl (.keep rfl (.same (qf.cons (qc.int _ _) (qf.cons (qc.int _ _) (qf.cons (ql qa _) qf.nil)))) rfl rfl .nil))))))⟩
            rintro x s' ⟨rfl, own_38, rfl, hsub⟩
            refine Goes.sub hsub ?_
            refine sq ?_
            refine Goes.rg fol [(1, .str sling), (6, .ptr 0 0), (7, .ptr 2 0), (9, .gslice 3 l21.length 1), (11, .ptr 4 0), (27, vl qd l18), (28, .i n19), (29, .i n22), (72, .bool own_38)] [.cells [.gslice 1 l2.length 5, vl qd l17], .cells (l2.flatMap qb.c), .cells [.str s5, .str s6, .i n7, .i n8, .i n9, .i n10, .i n11, .i n12, .bool b13], .cells (l21.flatMap encI.c), .cells [.i x28.number, .i x28.register.Day, vl qa x28.register.Slings]] ?_
            refine Goes.ifB (b := own_38) (by kernel_rfl) (fun c42 => ?_) (fun c42 => ?_)
            · rw [if_pos (c42)] at g27
              obtain ⟨l43, e_l43, g27⟩ := bnd g27
              refine Goes.ro fol [(4, (.run (.gslice 6 l43.length 1) [.cells [.gslice 1 l2.length 5, vl qd l17], .cells (l2.flatMap qb.c), .cells [.str s5, .str s6, .i n7, .i n8, .i n9, .i n10, .i n11, .i n12, .bool b13], .dead, .cells [.i x28.number, .i x28.register.Day, vl qa x28.register.Slings], .cells [.i x28.number], .cells (l43.flatMap encI.c)] true))] [(1, .str sling), (6, .ptr 0 0), (7, .ptr 2 0), (9, .gslice 6 l43.length 1), (27, vl qd l18), (28, .i n19), (29, .i n22)] [.cells [.gslice 1 l2.length 5, vl qd l17], .cells (l2.flatMap qb.c), .cells [.str s5, .str s6, .i n7, .i n8, .i n9, .i n10, .i n11, .i n12, .bool b13], .dead, .cells [.i x28.number, .i x28.register.Day, vl qa x28.register.Slings], .cells [.i x28.number], .cells (l43.flatMap encI.c)] [.run [3, 5] (kV Tryz.prog [24, 24] (.gslice 3 l21.length 1) (.slice 5 0 1 1 1)) [.cells [.gslice 1 l2.length 5, vl qd l17], .cells (l2.flatMap qb.c), .cells [.str s5, .str s6, .i n7, .i n8, .i n9, .i n10, .i n11, .i n12, .bool b13], .cells (l21.flatMap encI.c), .cells [.i x28.number, .i x28.register.Day, vl qa x28.register.Slings], .cells [.i x28.number]] (.gslice 6 l43.length 1) [.cells [.gslice 1 l2.length 5, vl qd l17], .cells (l2.flatMap qb.c), .cells [.str s5, .str s6, .i n7, .i n8, .i n9, .i n10, .i n11, .i n12, .bool b13], .dead, .cells [.i x28.number, .i x28.register.Day, vl qa x28.register.Slings], .cells [.i x28.number], .cells (l43.flatMap encI.c)] true] (And.intro (jI vN (E := encI) rfl (qbp (E := encI) (ys := [x28.number]) rfl rfl rfl rfl) (qfj (E := encI) (l := l21) rfl rfl rfl e_l43 rfl)) trivial) ?_
              obtain rfl := Option.some.inj g27
              exact ⟨rfl, _, rfl, (Sub.norm [] [some 0, some 1, some 2, some 6] rfl rfl (.keep (.same (qc.str _)) (.keep (.ptr rfl) (.keep (.ptr rfl) (.keep (.gslice rfl) (.keep (.same (ql qd _)) (.keep (.same (qc.int _ _)) (.keep (.same (qc.int _ _)) .nil))))))) (.keep rfl (.cells (qg.cons (.gslice rfl) (qg.cons (.same (ql qd _)) qg.nil))) rfl rfl (.keep rfl (.same fa) rfl rfl (.keep rfl (.same (qf.cons (qc.str _) (qf.cons (qc.str _) (qf.cons (qc.int _ _) (qf.cons (qc.int _ _) (qf.cons (qc.int _ _) (qf.cons (qc.int _ _) (qf.cons (qc.int _ _) (qf.cons (qc.int _ _) (qf.cons (qc.bool _) qf.nil)))))))))) rfl rfl (.keep rfl (.same fa) rfl rfl .nil)))))⟩
            · rw [if_neg (by rw [c42]; exact Bool.false_ne_true)] at g27
              refine Goes.skip ?_
              obtain rfl := Option.some.inj g27
              exact ⟨rfl, _, rfl, (Sub.norm [] [some 0, some 1, some 2, some 3] rfl rfl (.keep (.same (qc.str _)) (.keep (.ptr rfl) (.keep (.ptr rfl) (.keep (.gslice rfl) (.drop (.keep (.same (ql qd _)) (.keep (.same (qc.int _ _)) (.keep (.same (qc.int _ _)) .nil)))))))) (.keep rfl (.cells (qg.cons (.gslice rfl) (qg.cons (.same (ql qd _)) qg.nil))) rfl rfl (.keep rfl (.same fa) rfl rfl (.keep rfl (.same (qf.cons (qc.str _) (qf.cons (qc.str _) (qf.cons (qc.int _ _) (qf.cons (qc.int _ _) (qf.cons (qc.int _ _) (qf.cons (qc.int _ _) (qf.cons (qc.int _ _) (qf.cons (qc.int _ _) (qf.cons (qc.bool _) qf.nil)))))))))) rfl rfl (.keep rfl (.same fa) rfl rfl .nil)))))⟩
          rintro x s' ⟨rfl, l26, rfl, hsub⟩
          refine Goes.sub hsub ?_
          refine Goes.rg fol [(1, .str sling), (6, .ptr 0 0), (7, .ptr 2 0), (9, .gslice 3 l26.length 1), (27, vl qd l18), (28, .i n19), (29, .i (w64 (n22 + 1)))] [.cells [.gslice 1 l2.length 5, vl qd l17], .cells (l2.flatMap qb.c), .cells [.str s5, .str s6, .i n7, .i n8, .i n9, .i n10, .i n11, .i n12, .bool b13], .cells (l26.flatMap encI.c)] ?_
          exact ⟨M, (ofG 80 [(1, .str sling), (6, .ptr 0 0), (7, .ptr 2 0), (9, .gslice 3 l26.length 1), (27, vl qd l18), (28, .i n19), (29, .i (w64 (n22 + 1)))], [.cells [.gslice 1 l2.length 5, vl qd l17], .cells (l2.flatMap qb.c), .cells [.str s5, .str s6, .i n7, .i n8, .i n9, .i n10, .i n11, .i n12, .bool b13], .cells (l26.flatMap encI.c)]), Nat.lt_succ_self _, (Sub.refl _), _, _, rfl, g24⟩
        · rw [if_neg (of_ c25)] at g24
          refine Goes.exit ?_
          obtain rfl := Option.some.inj g24
          exact ⟨rfl, _, rfl, (Sub.norm [] [some 3] rfl rfl (.drop (.drop (.drop (.keep (.gslice rfl) .nil)))) (.keep rfl (.same fa) rfl rfl .nil))⟩
    rintro x s' ⟨rfl, l23, rfl, hsub⟩
    refine Goes.sub hsub ?_
    refine sq ?_
    refine Goes.rg fol [(4, .gslice 0 l23.length 1), (5, .i 0)] [.cells (l23.flatMap encI.c)] ?_
    refine Goes.ret ?_
    obtain rfl := Option.some.inj h
    exact (Goes.retW (xs := [.gslice 0 l23.length 1, .i 0]) (by kernel_rfl) (FzW.tuple (qN.cons (FzW.fz (Fz.gs (E := encI) rfl rfl (Nat.le_of_ble_eq_true rfl))) (qN.cons (FzW.still (Still.int 10 _ _)) qN.nil))))
def yf (N : Nat) (l : List qm) (sling : Str) (day : Int) : Option (Bool × Int) :=
  (zD day).bind fun r1 =>
  (qU N l sling r1).bind fun (l3, o4, ok5, s6, s7, n8, n9, n10, n11, n12, n13, b14, other_15) =>
  if (!decide (other_15 = 0)) = true then
  some (false, other_15)
  else
  (kE (⟨s6, s7, n8, n9, n10, n11, n12, n13, b14⟩ : qh) day).bind fun r17 =>
  some (r17, 0)
theorem qb1 (N : Nat) (l : List qm) (sling : Str) (day : Int) {res : Bool × Int} (h : yf N l sling day = some res) : qw Tryz.prog (.fn 25) [vl qb l, .str sling, .i day] [] (.tuple [.bool res.1, .i res.2]) [] := by
  unfold yf at h
  refine Goes.fnW Tryz.func25 rfl rfl (m := 26) rfl (rs := [.tmp 6, .tmp 7]) rfl (l := [(0, vl qb l), (1, .str sling), (2, .i day)]) rfl ?_
  refine sq ?_
  refine Goes.rg fol [(0, vl qb l), (1, .str sling), (2, .i day)] [] ?_
  refine sq ?_
  obtain ⟨r1, e_r1, h⟩ := bnd h
  obtain ⟨⟨l3, o4, ok5, s6, s7, n8, n9, n10, n11, n12, n13, b14, other_15⟩, e_r2, h⟩ := bnd h
  try dsimp only at h
  refine Goes.ro fol [(3, (.call [] [.i day] (.i r1))), (4, (.callH [] (.tuple [pz ok5 0 0, .agg [.str s6, .str s7, .i n8, .i n9, .i n10, .i n11, .i n12, .i n13, .bool b14], .i other_15]) [.cells [.gslice 1 l3.length 5, hsl 2 3 o4], .cells (l3.flatMap qb.c), .cells ((hof o4).flatMap qd.c)]))] [(2, .i day), (9, .ptr 3 0), (10, .i other_15)] [.cells [.gslice 1 l3.length 5, hsl 2 3 o4], .cells (l3.flatMap qb.c), .cells ((hof o4).flatMap qd.c), .cells [.str s6, .str s7, .i n8, .i n9, .i n10, .i n11, .i n12, .i n13, .bool b14]] [.call 94 [.i day] [] [] [.i day] (.i r1), .callH 92 [vl qb l, .str sling, .i r1] [] [] (.tuple [pz ok5 0 0, .agg [.str s6, .str s7, .i n8, .i n9, .i n10, .i n11, .i n12, .i n13, .bool b14], .i other_15]) [.cells [.gslice 1 l3.length 5, hsl 2 3 o4], .cells (l3.flatMap qb.c), .cells ((hof o4).flatMap qd.c)]] (And.intro (qo (AllST.cons (Still.int 11 _ _) AllST.nil) (jZ day e_r1) (Still.int 11 _ _)) (And.intro (jf [] [some 0, some 1, some 2] (vX N l sling r1 e_r2) .nil rfl rfl (.new rfl rfl (.cells (qg.cons (.gslice rfl) (qg.cons ((qK.hs rfl)) qg.nil))) rfl (.new rfl rfl (.same fa) rfl (.new rfl rfl (.same fa) rfl .nil))) (qg.cons (.same (ql qb _)) (qg.cons (.same (qc.str _)) (qg.cons (.same (qc.int _ _)) qg.nil))) (.tupleL (qg.cons ((qK.pz rfl)) (qg.cons (.same (qc.agg (qf.cons (qc.str _) (qf.cons (qc.str _) (qf.cons (qc.int _ _) (qf.cons (qc.int _ _) (qf.cons (qc.int _ _) (qf.cons (qc.int _ _) (qf.cons (qc.int _ _) (qf.cons (qc.int _ _) (qf.cons (qc.bool _) qf.nil))))))))))) (qg.cons (.same (qc.int _ _)) qg.nil)))) rfl) trivial)) ?_
  refine sq ?_
  refine sq ?_
  refine Goes.rg fol [(2, .i day), (9, .ptr 3 0), (10, .i other_15), (21, .bool (!decide (other_15 = 0)))] [.cells [.gslice 1 l3.length 5, hsl 2 3 o4], .cells (l3.flatMap qb.c), .cells ((hof o4).flatMap qd.c), .cells [.str s6, .str s7, .i n8, .i n9, .i n10, .i n11, .i n12, .i n13, .bool b14]] ?_
  refine Goes.ifB (b := !decide (other_15 = 0)) (by kernel_rfl) (fun c16 => ?_) (fun c16 => ?_)
  · rw [if_pos (c16)] at h
    refine sq ?_
    refine Goes.rg fol [(6, .bool false), (7, .i other_15)] [.cells [.gslice 1 l3.length 5, hsl 2 3 o4], .cells (l3.flatMap qb.c), .cells ((hof o4).flatMap qd.c), .cells [.str s6, .str s7, .i n8, .i n9, .i n10, .i n11, .i n12, .i n13, .bool b14]] ?_
    refine Goes.ret ?_
    obtain rfl := Option.some.inj h
    exact (Goes.retW (xs := [.bool false, .i other_15]) (by kernel_rfl) (FzW.tuple (qN.cons (FzW.still (Still.bool 10 _)) (qN.cons (FzW.still (Still.int 10 _ _)) qN.nil))))
  · rw [if_neg (by rw [c16]; exact Bool.false_ne_true)] at h
    refine Goes.skip ?_
    refine sq ?_
    obtain ⟨r17, e_r17, h⟩ := bnd h
    refine Goes.ro fol [(2, (.call [] [.agg [.str s6, .str s7, .i n8, .i n9, .i n10, .i n11, .i n12, .i n13, .bool b14], .i day] (.bool r17)))] [(6, .bool r17), (7, .i 0)] [.cells [.gslice 1 l3.length 5, hsl 2 3 o4], .cells (l3.flatMap qb.c), .cells ((hof o4).flatMap qd.c), .cells [.str s6, .str s7, .i n8, .i n9, .i n10, .i n11, .i n12, .i n13, .bool b14]] [.call 95 [.agg [.str s6, .str s7, .i n8, .i n9, .i n10, .i n11, .i n12, .i n13, .bool b14], .i day] [.cells [.gslice 1 l3.length 5, hsl 2 3 o4], .cells (l3.flatMap qb.c), .cells ((hof o4).flatMap qd.c), .cells [.str s6, .str s7, .i n8, .i n9, .i n10, .i n11, .i n12, .i n13, .bool b14]] [] [.agg [.str s6, .str s7, .i n8, .i n9, .i n10, .i n11, .i n12, .i n13, .bool b14], .i day] (.bool r17)] (And.intro (qo (AllST.cons (Still.agg (AllST.cons (Still.str 10 _) (AllST.cons (Still.str 10 _) (AllST.cons (Still.int 10 _ _) (AllST.cons (Still.int 10 _ _) (AllST.cons (Still.int 10 _ _) (AllST.cons (Still.int 10 _ _) (AllST.cons (Still.int 10 _ _) (AllST.cons (Still.int 10 _ _) (AllST.cons (Still.bool 10 _) AllST.nil)))))))))) (AllST.cons (Still.int 11 _ _) AllST.nil)) (zZ (⟨s6, s7, n8, n9, n10, n11, n12, n13, b14⟩ : qh) day e_r17) (Still.bool 11 _)) trivial) ?_
    refine Goes.ret ?_
    obtain rfl := Option.some.inj h
    exact (Goes.retW (xs := [.bool r17, .i 0]) (by kernel_rfl) (FzW.tuple (qN.cons (FzW.still (Still.bool 10 _)) (qN.cons (FzW.still (Still.int 10 _ _)) qN.nil))))
def jX (N : Nat) (l : List qm) (sling : Str) (day : Int) : Option (Int × Int) :=
  (zD day).bind fun r1 =>
  (qU N l sling r1).bind fun (l3, o4, ok5, s6, s7, n8, n9, n10, n11, n12, n13, b14, other_15) =>
  (kE (⟨s6, s7, n8, n9, n10, n11, n12, n13, b14⟩ : qh) day).bind fun r16 =>
  (qZ r16 20).bind fun r17 =>
  (zL (⟨s6, s7, n8, n9, n10, n11, n12, n13, b14⟩ : qh) day).bind fun r18 =>
  (qZ (!r18) 24).bind fun r19 =>
  (kY N ([other_15, r17, r19] : List Int)).bind fun r20 =>
  if (!decide (r20 = 0)) = true then
  some (0, r20)
  else
  some (n12, 0)
theorem qaB (N : Nat) (l : List qm) (sling : Str) (day : Int) {res : Int × Int} (h : jX N l sling day = some res) : qw Tryz.prog (.fn 26) [vl qb l, .str sling, .i day] [] (.tuple [.i res.1, .i res.2]) [] := by
  unfold jX at h
  refine Goes.fnW Tryz.func26 rfl rfl (m := 37) rfl (rs := [.tmp 6, .tmp 7]) rfl (l := [(0, vl qb l), (1, .str sling), (2, .i day)]) rfl ?_
  refine sq ?_
  refine Goes.rg fol [(0, vl qb l), (1, .str sling), (2, .i day)] [] ?_
  refine sq ?_
  obtain ⟨r1, e_r1, h⟩ := bnd h
  obtain ⟨⟨l3, o4, ok5, s6, s7, n8, n9, n10, n11, n12, n13, b14, other_15⟩, e_r2, h⟩ := bnd h
  try dsimp only at h
  refine Goes.ro fol [(3, (.call [] [.i day] (.i r1))), (4, (.callH [] (.tuple [pz ok5 0 0, .agg [.str s6, .str s7, .i n8, .i n9, .i n10, .i n11, .i n12, .i n13, .bool b14], .i other_15]) [.cells [.gslice 1 l3.length 5, hsl 2 3 o4], .cells (l3.flatMap qb.c), .cells ((hof o4).flatMap qd.c)]))] [(2, .i day), (9, .ptr 3 0), (10, .i other_15)] [.cells [.gslice 1 l3.length 5, hsl 2 3 o4], .cells (l3.flatMap qb.c), .cells ((hof o4).flatMap qd.c), .cells [.str s6, .str s7, .i n8, .i n9, .i n10, .i n11, .i n12, .i n13, .bool b14]] [.call 94 [.i day] [] [] [.i day] (.i r1), .callH 92 [vl qb l, .str sling, .i r1] [] [] (.tuple [pz ok5 0 0, .agg [.str s6, .str s7, .i n8, .i n9, .i n10, .i n11, .i n12, .i n13, .bool b14], .i other_15]) [.cells [.gslice 1 l3.length 5, hsl 2 3 o4], .cells (l3.flatMap qb.c), .cells ((hof o4).flatMap qd.c)]] (And.intro (qo (AllST.cons (Still.int 11 _ _) AllST.nil) (jZ day e_r1) (Still.int 11 _ _)) (And.intro (jf [] [some 0, some 1, some 2] (vX N l sling r1 e_r2) .nil rfl rfl (.new rfl rfl (.cells (qg.cons (.gslice rfl) (qg.cons ((qK.hs rfl)) qg.nil))) rfl (.new rfl rfl (.same fa) rfl (.new rfl rfl (.same fa) rfl .nil))) (qg.cons (.same (ql qb _)) (qg.cons (.same (qc.str _)) (qg.cons (.same (qc.int _ _)) qg.nil))) (.tupleL (qg.cons ((qK.pz rfl)) (qg.cons (.same (qc.agg (qf.cons (qc.str _) (qf.cons (qc.str _) (qf.cons (qc.int _ _) (qf.cons (qc.int _ _) (qf.cons (qc.int _ _) (qf.cons (qc.int _ _) (qf.cons (qc.int _ _) (qf.cons (qc.int _ _) (qf.cons (qc.bool _) qf.nil))))))))))) (qg.cons (.same (qc.int _ _)) qg.nil)))) rfl) trivial)) ?_
  refine sq ?_
  refine sq ?_
  obtain ⟨r16, e_r16, h⟩ := bnd h
  obtain ⟨r17, e_r17, h⟩ := bnd h
  obtain ⟨r18, e_r18, h⟩ := bnd h
  obtain ⟨r19, e_r19, h⟩ := bnd h
  obtain ⟨r20, e_r20, h⟩ := bnd h
  refine Goes.ro fol [(3, (.call [] [.agg [.str s6, .str s7, .i n8, .i n9, .i n10, .i n11, .i n12, .i n13, .bool b14], .i day] (.bool r16))), (4, (.call [] [.bool r16, .i 20] (.i r17))), (7, (.call [] [.agg [.str s6, .str s7, .i n8, .i n9, .i n10, .i n11, .i n12, .i n13, .bool b14], .i day] (.bool r18))), (9, (.call [] [.bool (!r18), .i 24] (.i r19))), (11, (.call [4] [vl encI ([other_15, r17, r19] : List Int)] (.i r20)))] [(9, .ptr 3 0), (10, .i r20)] [.cells [.gslice 1 l3.length 5, hsl 2 3 o4], .cells (l3.flatMap qb.c), .cells ((hof o4).flatMap qd.c), .cells [.str s6, .str s7, .i n8, .i n9, .i n10, .i n11, .i n12, .i n13, .bool b14], .cells [.i other_15, .i r17, .i r19]] [.call 95 [.agg [.str s6, .str s7, .i n8, .i n9, .i n10, .i n11, .i n12, .i n13, .bool b14], .i day] [.cells [.gslice 1 l3.length 5, hsl 2 3 o4], .cells (l3.flatMap qb.c), .cells ((hof o4).flatMap qd.c), .cells [.str s6, .str s7, .i n8, .i n9, .i n10, .i n11, .i n12, .i n13, .bool b14]] [] [.agg [.str s6, .str s7, .i n8, .i n9, .i n10, .i n11, .i n12, .i n13, .bool b14], .i day] (.bool r16), .call 88 [.bool r16, .i 20] [.cells [.gslice 1 l3.length 5, hsl 2 3 o4], .cells (l3.flatMap qb.c), .cells ((hof o4).flatMap qd.c), .cells [.str s6, .str s7, .i n8, .i n9, .i n10, .i n11, .i n12, .i n13, .bool b14]] [] [.bool r16, .i 20] (.i r17), .call 96 [.agg [.str s6, .str s7, .i n8, .i n9, .i n10, .i n11, .i n12, .i n13, .bool b14], .i day] [.cells [.gslice 1 l3.length 5, hsl 2 3 o4], .cells (l3.flatMap qb.c), .cells ((hof o4).flatMap qd.c), .cells [.str s6, .str s7, .i n8, .i n9, .i n10, .i n11, .i n12, .i n13, .bool b14]] [] [.agg [.str s6, .str s7, .i n8, .i n9, .i n10, .i n11, .i n12, .i n13, .bool b14], .i day] (.bool r18), .call 88 [.bool (!r18), .i 24] [.cells [.gslice 1 l3.length 5, hsl 2 3 o4], .cells (l3.flatMap qb.c), .cells ((hof o4).flatMap qd.c), .cells [.str s6, .str s7, .i n8, .i n9, .i n10, .i n11, .i n12, .i n13, .bool b14]] [] [.bool (!r18), .i 24] (.i r19), .call 86 [.slice 4 0 3 3 1] [.cells [.gslice 1 l3.length 5, hsl 2 3 o4], .cells (l3.flatMap qb.c), .cells ((hof o4).flatMap qd.c), .cells [.str s6, .str s7, .i n8, .i n9, .i n10, .i n11, .i n12, .i n13, .bool b14], .cells [.i other_15, .i r17, .i r19]] [4] [vl encI ([other_15, r17, r19] : List Int)] (.i r20)] (And.intro (qo (AllST.cons (Still.agg (AllST.cons (Still.str 10 _) (AllST.cons (Still.str 10 _) (AllST.cons (Still.int 10 _ _) (AllST.cons (Still.int 10 _ _) (AllST.cons (Still.int 10 _ _) (AllST.cons (Still.int 10 _ _) (AllST.cons (Still.int 10 _ _) (AllST.cons (Still.int 10 _ _) (AllST.cons (Still.bool 10 _) AllST.nil)))))))))) (AllST.cons (Still.int 11 _ _) AllST.nil)) (zZ (⟨s6, s7, n8, n9, n10, n11, n12, n13, b14⟩ : qh) day e_r16) (Still.bool 11 _)) (And.intro (qo (AllST.cons (Still.bool 11 _) (AllST.cons (Still.int 11 _ _) AllST.nil)) (qI r16 20 e_r17) (Still.int 11 _ _)) (And.intro (qo (AllST.cons (Still.agg (AllST.cons (Still.str 10 _) (AllST.cons (Still.str 10 _) (AllST.cons (Still.int 10 _ _) (AllST.cons (Still.int 10 _ _) (AllST.cons (Still.int 10 _ _) (AllST.cons (Still.int 10 _ _) (AllST.cons (Still.int 10 _ _) (AllST.cons (Still.int 10 _ _) (AllST.cons (Still.bool 10 _) AllST.nil)))))))))) (AllST.cons (Still.int 11 _ _) AllST.nil)) (yu (⟨s6, s7, n8, n9, n10, n11, n12, n13, b14⟩ : qh) day e_r18) (Still.bool 11 _)) (And.intro (qo (AllST.cons (Still.bool 11 _) (AllST.cons (Still.int 11 _ _) AllST.nil)) (qI (!r18) 24 e_r19) (Still.int 11 _ _)) (And.intro (yg (FzL.cons (Fz.lit rfl rfl (FzL.still (AllST.cons (Still.int 10 _ _) (AllST.cons (Still.int 10 _ _) (AllST.cons (Still.int 10 _ _) AllST.nil))))) FzL.nil) (zC N ([other_15, r17, r19] : List Int) e_r20) (Still.int 11 _ _) rfl) trivial))))) ?_
  refine sq ?_
  refine Goes.rg fol [(9, .ptr 3 0), (10, .i r20), (33, .bool (!decide (r20 = 0)))] [.cells [.gslice 1 l3.length 5, hsl 2 3 o4], .cells (l3.flatMap qb.c), .cells ((hof o4).flatMap qd.c), .cells [.str s6, .str s7, .i n8, .i n9, .i n10, .i n11, .i n12, .i n13, .bool b14], .cells [.i other_15, .i r17, .i r19]] ?_
  refine Goes.ifB (b := !decide (r20 = 0)) (by kernel_rfl) (fun c21 => ?_) (fun c21 => ?_)
  · rw [if_pos (c21)] at h
    refine sq ?_
    refine Goes.rg fol [(6, .i 0), (7, .i r20)] [.cells [.gslice 1 l3.length 5, hsl 2 3 o4], .cells (l3.flatMap qb.c), .cells ((hof o4).flatMap qd.c), .cells [.str s6, .str s7, .i n8, .i n9, .i n10, .i n11, .i n12, .i n13, .bool b14], .cells [.i other_15, .i r17, .i r19]] ?_
    refine Goes.ret ?_
    obtain rfl := Option.some.inj h
    exact (Goes.retW (xs := [.i 0, .i r20]) (by kernel_rfl) (FzW.tuple (qN.cons (FzW.still (Still.int 10 _ _)) (qN.cons (FzW.still (Still.int 10 _ _)) qN.nil))))
  · rw [if_neg (by rw [c21]; exact Bool.false_ne_true)] at h
    refine Goes.skip ?_
    refine sq ?_
    refine Goes.rg fol [(6, .i n12), (7, .i 0)] [.cells [.gslice 1 l3.length 5, hsl 2 3 o4], .cells (l3.flatMap qb.c), .cells ((hof o4).flatMap qd.c), .cells [.str s6, .str s7, .i n8, .i n9, .i n10, .i n11, .i n12, .i n13, .bool b14], .cells [.i other_15, .i r17, .i r19]] ?_
    refine Goes.ret ?_
    obtain rfl := Option.some.inj h
    exact (Goes.retW (xs := [.i n12, .i 0]) (by kernel_rfl) (FzW.tuple (qN.cons (FzW.still (Still.int 10 _ _)) (qN.cons (FzW.still (Still.int 10 _ _)) qN.nil))))
def jk (l : List Int) : Nat → Int → Option (Unit ⊕ Int)
  | 0, _ => none
  | K + 1, n1 =>
    if n1 < (l.length : Int) then
    (idx l n1).bind fun x5 =>
    if (!decide (x5 = 0)) = true then
    some (.inr x5)
    else
    jk l K (w64 (n1 + 1))
    else
    some (.inl ())
def vE (N : Nat) (l : List Int) : Option Int :=
  (jk l N 0).bind (fun
  | (.inl ()) =>
  some 0
  | (.inr q7) =>
  some q7)
theorem xg (N : Nat) (l : List Int) {res : Int} (h : vE N l = some res) : qw Tryz.prog (.fn 28) [vl encI l] [] (.i res) [] := by
  unfold vE at h
  refine Goes.fnW Tryz.func28 rfl rfl (m := 15) rfl (rs := [.tmp 2]) rfl (l := [(0, vl encI l)]) rfl ?_
  refine sq ?_
  refine Goes.rg fol [(0, vl encI l)] [] ?_
  refine sq ?_
  refine sq ?_
  refine Goes.rg fol [(5, vl encI l), (6, .i (l.length : Int)), (7, .i 0)] [] ?_
  refine Goes.block ?_
  obtain ⟨r2, g2, h⟩ := bnd h
  refine Goes.imp (Q := fun x s' => (x = .exit 0 ∧ (.inl ()) = r2 ∧ Sub s' (ofG 15 [], [])) ∨ (x = .ret ∧ ∃ q3, (.inr q3) = r2 ∧ zG Tryz.prog [.tmp 2] (.i q3) .ret s')) ?_ ?_
  · refine Goes.loopS (fun M s => ∃ (n1 : Int), s = (ofG 15 [(5, vl encI l), (6, .i (l.length : Int)), (7, .i n1)], []) ∧ jk l M n1 = some r2) ?_ (m := N) ⟨_, rfl, g2⟩
    rintro M s ⟨n1, rfl, g2⟩
    cases M with
    | zero => simp only [jk] at g2; cases g2
    | succ M =>
      rw [jk] at g2
      refine sq ?_
      refine Goes.rg fol [(5, vl encI l), (6, .i (l.length : Int)), (7, .i n1), (8, .bool (decide (n1 < (l.length : Int))))] [] ?_
      refine sq ?_
      refine Goes.ifB (b := decide (n1 < (l.length : Int))) (by kernel_rfl) (fun c4 => ?_) (fun c4 => ?_)
      · rw [if_pos (ot c4)] at g2
        refine Goes.skip ?_
        refine sq ?_
        refine Goes.block ?_
        refine sq ?_
        obtain ⟨x5, e_x5, g2⟩ := bnd g2
        refine Goes.ro fol [(0, (.done (.fptr (l.flatMap encI.c) ((n1 : Int).toNat * 1 + 0)))), (1, (.done (.i x5)))] [(4, .i x5), (5, vl encI l), (6, .i (l.length : Int)), (7, .i n1)] [] [.done (.opt (qj Tryz.prog 24 (vl encI l) (.i n1))) (.fptr (l.flatMap encI.c) ((n1 : Int).toNat * 1 + 0)), .done (qz Tryz.prog 3 (.fptr (l.flatMap encI.c) ((n1 : Int).toNat * 1 + 0))) (.i x5)] (And.intro (qF vN (E := encI) rfl e_x5) (And.intro (qJ ce3 (E := encI) rfl e_x5 (Nat.le_of_ble_eq_true rfl) rfl) trivial)) ?_
        refine sq ?_
        refine Goes.rg fol [(4, .i x5), (5, vl encI l), (6, .i (l.length : Int)), (7, .i n1), (12, .bool (!decide (x5 = 0)))] [] ?_
        refine Goes.ifB (b := !decide (x5 = 0)) (by kernel_rfl) (fun c6 => ?_) (fun c6 => ?_)
        · rw [if_pos (c6)] at g2
          refine sq ?_
          refine Goes.rg fol [(2, .i x5)] [] ?_
          refine Goes.ret ?_
          obtain rfl := Option.some.inj g2
          exact Or.inr (⟨rfl, _, rfl, (Goes.retW (xs := [.i x5]) (by kernel_rfl) (FzW.still (Still.int 11 _ _)))⟩)
        · rw [if_neg (by rw [c6]; exact Bool.false_ne_true)] at g2
          refine Goes.skip ?_
          refine Goes.rg fol [(5, vl encI l), (6, .i (l.length : Int)), (7, .i (w64 (n1 + 1)))] [] ?_
          exact ⟨M, (ofG 15 [(5, vl encI l), (6, .i (l.length : Int)), (7, .i (w64 (n1 + 1)))], []), Nat.lt_succ_self _, (Sub.refl _), _, rfl, g2⟩
      · rw [if_neg (of_ c4)] at g2
        refine Goes.exit ?_
        obtain rfl := Option.some.inj g2
        exact Or.inl (⟨rfl, rfl, (Sub.keep [] rfl rfl)⟩)
  rintro x s' (⟨rfl, rfl, hsub⟩ | ⟨rfl, q7, rfl, hret⟩)
  · try dsimp only at h
    refine Goes.sub hsub ?_
    refine sq ?_
    refine Goes.rg fol [(2, .i 0)] [] ?_
    refine Goes.ret ?_
    obtain rfl := Option.some.inj h
    exact (Goes.retW (xs := [.i 0]) (by kernel_rfl) (FzW.still (Still.int 11 _ _)))
  · try dsimp only at h
    obtain rfl := Option.some.inj h
    exact hret
def jG (holds : Bool) (e : Int) : Option Int :=
  if holds = true then
  some e
  else
  some 0
theorem vg (holds : Bool) (e : Int) {res : Int} (h : jG holds e = some res) : qw Tryz.prog (.fn 30) [.bool holds, .i e] [] (.i res) [] := by
  unfold jG at h
  refine Goes.fnW Tryz.func30 rfl rfl (m := 7) rfl (rs := [.tmp 4]) rfl (l := [(0, .bool holds), (1, .i e)]) rfl ?_
  refine sq ?_
  refine Goes.rg fol [(0, .bool holds), (1, .i e)] [] ?_
  refine sq ?_
  refine sq ?_
  refine Goes.rg fol [(1, .i e), (5, .bool holds)] [] ?_
  refine Goes.ifB (b := holds) (by kernel_rfl) (fun c1 => ?_) (fun c1 => ?_)
  · rw [if_pos (c1)] at h
    refine sq ?_
    refine Goes.rg fol [(4, .i e)] [] ?_
    refine Goes.ret ?_
    obtain rfl := Option.some.inj h
    exact (Goes.retW (xs := [.i e]) (by kernel_rfl) (FzW.still (Still.int 11 _ _)))
  · rw [if_neg (by rw [c1]; exact Bool.false_ne_true)] at h
    refine Goes.skip ?_
    refine sq ?_
    refine Goes.rg fol [(4, .i 0)] [] ?_
    refine Goes.ret ?_
    obtain rfl := Option.some.inj h
    exact (Goes.retW (xs := [.i 0]) (by kernel_rfl) (FzW.still (Still.int 11 _ _)))
def vZ (N : Nat) (s_ : Str) : Option Int :=
  (vJ N s_).bind fun r1 =>
  (jG (!r1) 8).bind fun r2 =>
  some r2
theorem qaH (N : Nat) (s_ : Str) {res : Int} (h : vZ N s_ = some res) : qw Tryz.prog (.fn 29) [.str s_] [] (.i res) [] := by
  unfold vZ at h
  refine Goes.fnW Tryz.func29 rfl rfl (m := 7) rfl (rs := [.tmp 2]) rfl (l := [(0, .str s_)]) rfl ?_
  refine sq ?_
  refine Goes.rg fol [(0, .str s_)] [] ?_
  refine sq ?_
  obtain ⟨r1, e_r1, h⟩ := bnd h
  obtain ⟨r2, e_r2, h⟩ := bnd h
  refine Goes.ro fol [(1, (.call [] [.str s_] (.bool r1))), (3, (.call [] [.bool (!r1), .i 8] (.i r2)))] [(2, .i r2)] [] [.call 47 [.str s_] [] [] [.str s_] (.bool r1), .call 30 [.bool (!r1), .i 8] [] [] [.bool (!r1), .i 8] (.i r2)] (And.intro (qo (AllST.cons (Still.str 11 _) AllST.nil) (qau N s_ e_r1) (Still.bool 11 _)) (And.intro (qo (AllST.cons (Still.bool 11 _) (AllST.cons (Still.int 11 _ _) AllST.nil)) (vg (!r1) 8 e_r2) (Still.int 11 _ _)) trivial)) ?_
  refine Goes.ret ?_
  obtain rfl := Option.some.inj h
  exact (Goes.retW (xs := [.i r2]) (by kernel_rfl) (FzW.still (Still.int 11 _ _)))
def yO (day : Int) : Option Int :=
  (zf day 0 99999).bind fun r1 =>
  (jG r1 3).bind fun r2 =>
  some r2
theorem qc8 (day : Int) {res : Int} (h : yO day = some res) : qw Tryz.prog (.fn 31) [.i day] [] (.i res) [] := by
  unfold yO at h
  refine Goes.fnW Tryz.func31 rfl rfl (m := 6) rfl (rs := [.tmp 2]) rfl (l := [(0, .i day)]) rfl ?_
  refine sq ?_
  refine Goes.rg fol [(0, .i day)] [] ?_
  refine sq ?_
  obtain ⟨r1, e_r1, h⟩ := bnd h
  obtain ⟨r2, e_r2, h⟩ := bnd h
  refine Goes.ro fol [(1, (.call [] [.i day, .i 0, .i 99999] (.bool r1))), (2, (.call [] [.bool r1, .i 3] (.i r2)))] [(2, .i r2)] [] [.call 36 [.i day, .i 0, .i 99999] [] [] [.i day, .i 0, .i 99999] (.bool r1), .call 30 [.bool r1, .i 3] [] [] [.bool r1, .i 3] (.i r2)] (And.intro (qo (AllST.cons (Still.int 11 _ _) (AllST.cons (Still.int 11 _ _) (AllST.cons (Still.int 11 _ _) AllST.nil))) (kU day 0 99999 e_r1) (Still.bool 11 _)) (And.intro (qo (AllST.cons (Still.bool 11 _) (AllST.cons (Still.int 11 _ _) AllST.nil)) (vg r1 3 e_r2) (Still.int 11 _ _)) trivial)) ?_
  refine Goes.ret ?_
  obtain rfl := Option.some.inj h
  exact (Goes.retW (xs := [.i r2]) (by kernel_rfl) (FzW.still (Still.int 11 _ _)))
end Go.Av
