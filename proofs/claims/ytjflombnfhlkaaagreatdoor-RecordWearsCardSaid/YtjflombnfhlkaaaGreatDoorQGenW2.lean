/-
  Walks of functions: what each computes, as a plain function.
-/
import Derived.Test.YtjflombnfhlkaaaGreatDoorQGenW1
noncomputable section
namespace Go.Av
open Go.Proofs Go.RowKit
set_option linter.unusedSectionVars false
set_option linter.unusedVariables false
set_option linter.unusedSimpArgs false
set_option maxRecDepth 100000
variable [Glob]
def qH (a0_ : List ql) (a1_ : Option (List StateT)) : Option ((Option (List StateT)) × Int × (List qc)) :=
  ((match a1_ with
  | none =>
  some ((none : Option (List StateT)), decide (0 = 0))
  | some l4 =>
  some ((some l4), decide ((l4.length : Int) = 0))) : Option ((Option (List StateT)) × Bool)).bind fun (o5, b6) =>
  if b6 = true then
  some (o5, 0, [])
  else
  ((match o5 with
  | none =>
  (idx ([] : List StateT) (w64 (0 - 1))).bind fun x10 =>
  some ((none : Option (List StateT)), x10.register.Day, x10.register.Slings)
  | some l9 =>
  (idx l9 (w64 ((l9.length : Int) - 1))).bind fun x11 =>
  some ((some l9), x11.register.Day, x11.register.Slings)) : Option ((Option (List StateT)) × Int × (List qc))).bind fun (o12, n13, l14) =>
  some (o12, n13, l14)
theorem zy (a0_ : List ql) (a1_ : Option (List StateT)) {o1 : Option (List StateT)} {n2 : Int} {l3 : List qc} (h : qH a0_ a1_ = some (o1, n2, l3)) : qy Tryz.prog (.fn 81) [.ptr 0 0] [.cells [.gslice 1 a0_.length 5, hsl 2 3 a1_], .cells (a0_.flatMap qb.c), .cells ((hof a1_).flatMap qh.c)] (.agg [.i n2, vl qa l3]) [.cells [.gslice 1 a0_.length 5, hsl 2 3 o1], .cells (a0_.flatMap qb.c), .cells ((hof o1).flatMap qh.c)] := by
  unfold qH at h
  refine Goes.fnH Tryz.func81 rfl rfl (m := 23) rfl (rs := [.cell 2 31]) rfl (l := [(0, .ptr 0 0)]) rfl ?_
  intro B hB
  refine sq (Goes.rg fol [(0, .ptr 0 0), (2, .ptr 3 0)] [.cells [.gslice 1 a0_.length 5, hsl 2 3 a1_], .cells (a0_.flatMap qb.c), .cells ((hof a1_).flatMap qh.c), bZ] ?_)
  refine sq ?_
  refine sq ?_
  obtain ⟨⟨o5, b6⟩, g_v7, h⟩ := bnd h
  refine Goes.cutS (s' := (ofG 23 [(0, .ptr 0 0), (2, .ptr 3 0), (8, .bool b6)], [.cells [.gslice 1 a0_.length 5, hsl 2 3 o5], .cells (a0_.flatMap qb.c), .cells ((hof o5).flatMap qh.c), bZ])) ?_ ?_
  · rcases a1_ with _ | l4
    · try dsimp only at g_v7
      simp only [Option.some.injEq, Prod.mk.injEq] at g_v7
      obtain ⟨rfl, rfl⟩ := g_v7
      exact qm.sub (qm.rg fol [(0, .ptr 0 0), (2, .ptr 3 0), (8, .bool (decide (0 = 0)))] [.cells [.gslice 1 a0_.length 5, .nilslice], .cells (a0_.flatMap qb.c), .cells ((hof (none : Option (List StateT))).flatMap qh.c), bZ]) (Sub.norm [] [some 0, some 1, some 2, some 3] (by rw [hB]; rfl) rfl (.keep (.ptr rfl) (.keep (.ptr rfl) (.keep (.same nB) .nil))) (.keep rfl (.cells (qf.cons (.gslice rfl) (qf.cons (qM.hs0) qf.nil))) rfl rfl (.keep rfl (.same fa) rfl rfl (.keep rfl (.same fa) rfl rfl (.keep rfl (.same (qg.cons nI (qg.cons (qC.nilslice) qg.nil))) rfl rfl .nil)))))
    · try dsimp only at g_v7
      simp only [Option.some.injEq, Prod.mk.injEq] at g_v7
      obtain ⟨rfl, rfl⟩ := g_v7
      exact qm.sub (qm.rg fol [(0, .ptr 0 0), (2, .ptr 3 0), (8, .bool (decide ((l4.length : Int) = 0)))] [.cells [.gslice 1 a0_.length 5, .oslice 2 l4.length 3], .cells (a0_.flatMap qb.c), .cells (l4.flatMap qh.c), bZ]) (Sub.norm [] [some 0, some 1, some 2, some 3] (by rw [hB]; rfl) rfl (.keep (.ptr rfl) (.keep (.ptr rfl) (.keep (.same nB) .nil))) (.keep rfl (.cells (qf.cons (.gslice rfl) (qf.cons ((qM.hs1 rfl)) qf.nil))) rfl rfl (.keep rfl (.same fa) rfl rfl (.keep rfl (.same fa) rfl rfl (.keep rfl (.same (qg.cons nI (qg.cons (qC.nilslice) qg.nil))) rfl rfl .nil)))))
  intro _ hsub
  try dsimp only at h
  refine Goes.sub hsub ?_
  refine Goes.ifB (b := b6) (by kernel_rfl) (fun c8 => ?_) (fun c8 => ?_)
  · rw [if_pos (c8)] at h
    refine sq (Goes.rg fol [(2, .ptr 3 0)] [.cells [.gslice 1 a0_.length 5, hsl 2 3 o5], .cells (a0_.flatMap qb.c), .cells ((hof o5).flatMap qh.c), bZ] ?_)
    refine Goes.ret ?_
    simp only [Option.some.injEq, Prod.mk.injEq] at h
    obtain ⟨rfl, rfl, rfl⟩ := h
    exact (Goes.retH (xs := [.agg [.i 0, .nilslice]]) (by kernel_rfl) (Sub.norm [] [some 0, some 1, some 2] (by rw [hB]; rfl) rfl (.keep (.aggL (qf.cons (.same nI) (qf.cons (.nilv) qf.nil))) .nil) (.keep rfl (.cells (qf.cons (.gslice rfl) (qf.cons ((qM.hs rfl)) qf.nil))) rfl rfl (.keep rfl (.same fa) rfl rfl (.keep rfl (.same fa) rfl rfl .nil)))))
  · rw [if_neg (nb c8)] at h
    refine Goes.skip ?_
    refine sq ?_
    obtain ⟨⟨o12, n13, l14⟩, g_v15, h⟩ := bnd h
    refine Goes.cutS (s' := (ofG 23 [(2, .ptr 3 0)], [.cells [.gslice 1 a0_.length 5, hsl 2 3 o12], .cells (a0_.flatMap qb.c), .cells ((hof o12).flatMap qh.c), .cells [.i n13, vl qa l14]])) ?_ ?_
    · rcases o5 with _ | l9
      · try dsimp only at g_v15
        obtain ⟨x10, e_x10, g_v15⟩ := bnd g_v15
        simp only [Option.some.injEq, Prod.mk.injEq] at g_v15
        obtain ⟨rfl, rfl, rfl⟩ := g_v15
        exact qm.sub (qm.rp fol [10, 12] [(2, .ptr 3 0)] [.cells [.gslice 1 a0_.length 5, .nilslice], .cells (a0_.flatMap qb.c), .cells ((hof (none : Option (List StateT))).flatMap qh.c), .cells [.i x10.register.Day, vl qa x10.register.Slings]] [.done (.opt (qd Tryz.prog 163 (.nilslice) (.i (w64 (0 - 1))))) (.fptr (([] : List StateT).flatMap qh.c) ((w64 (0 - 1) : Int).toNat * 3 + 0)), .done (qx Tryz.prog 31 (.fptr (([] : List StateT).flatMap qh.c) ((w64 (0 - 1) : Int).toNat * 3 + 1))) (.agg [.i x10.register.Day, vl qa x10.register.Slings])] (an (yc e_x10) (an (ld_vp ag31 (E := qh) rfl e_x10 rfl rfl) trivial))) (Sub.norm [] [some 0, some 1, some 2, some 3] (by rw [hB]; rfl) rfl (.keep (.ptr rfl) .nil) (.keep rfl (.cells (qf.cons (.gslice rfl) (qf.cons (qM.hs0) qf.nil))) rfl rfl (.keep rfl (.same fa) rfl rfl (.keep rfl (.same fa) rfl rfl (.keep rfl (.same (qg.cons nI (qg.cons (qj qa _) qg.nil))) rfl rfl .nil)))))
      · try dsimp only at g_v15
        obtain ⟨x11, e_x11, g_v15⟩ := bnd g_v15
        simp only [Option.some.injEq, Prod.mk.injEq] at g_v15
        obtain ⟨rfl, rfl, rfl⟩ := g_v15
        exact qm.sub (qm.rp fol [10, 12] [(2, .ptr 3 0)] [.cells [.gslice 1 a0_.length 5, .oslice 2 l9.length 3], .cells (a0_.flatMap qb.c), .cells (l9.flatMap qh.c), .cells [.i x11.register.Day, vl qa x11.register.Slings]] [.done (.opt (qd Tryz.prog 163 (.oslice 2 l9.length 3) (.i (w64 ((l9.length : Int) - 1))))) (.ptr 2 ((w64 ((l9.length : Int) - 1) : Int).toNat * 3 + 0)), .run [2] (qx Tryz.prog 31 (.ptr 2 ((w64 ((l9.length : Int) - 1) : Int).toNat * 3 + 1))) [.cells [.gslice 1 a0_.length 5, .oslice 2 l9.length 3], .cells (a0_.flatMap qb.c), .cells (l9.flatMap qh.c), bZ] (.agg [.i x11.register.Day, vl qa x11.register.Slings]) [.cells [.gslice 1 a0_.length 5, .oslice 2 l9.length 3], .cells (a0_.flatMap qb.c), .cells (l9.flatMap qh.c), bZ] false] (an (qbo qgs e_x11) (an (ld_pp ag31 (E := qh) (l := l9) rfl rfl e_x11 rfl rfl) trivial))) (Sub.norm [] [some 0, some 1, some 2, some 3] (by rw [hB]; rfl) rfl (.keep (.ptr rfl) .nil) (.keep rfl (.cells (qf.cons (.gslice rfl) (qf.cons ((qM.hs1 rfl)) qf.nil))) rfl rfl (.keep rfl (.same fa) rfl rfl (.keep rfl (.same fa) rfl rfl (.keep rfl (.same (qg.cons nI (qg.cons (qj qa _) qg.nil))) rfl rfl .nil)))))
    intro _ hsub
    try dsimp only at h
    refine Goes.sub hsub ?_
    refine Goes.ret ?_
    simp only [Option.some.injEq, Prod.mk.injEq] at h
    obtain ⟨rfl, rfl, rfl⟩ := h
    exact (Goes.retH (xs := [.agg [.i n13, vl qa l14]]) (by kernel_rfl) (Sub.norm [] [some 0, some 1, some 2] (by rw [hB]; rfl) rfl (.keep (.aggL (qf.cons (.same nI) (qf.cons (.same (qj qa _)) qf.nil))) .nil) (.keep rfl (.cells (qf.cons (.gslice rfl) (qf.cons ((qM.hs rfl)) qf.nil))) rfl rfl (.keep rfl (.same fa) rfl rfl (.keep rfl (.same fa) rfl rfl .nil)))))
def qz (a0_ : Int) (a1_ : List qc) : Option (List qc) :=
  (mk 88 (a1_.length : Int) (⟨[], [], 0, 0, 0, 0, 0, 0, false⟩ : qc)).bind fun l2 =>
  (some (cpy l2 a1_)).bind fun l3 =>
  some l3
theorem qX (a0_ : Int) (a1_ : List qc) {l1 : List qc} (h : qz a0_ a1_ = some l1) : qy Tryz.prog (.fn 82) [.agg [.i a0_, vl qa a1_]] [] (.agg [.i a0_, .slice 0 0 l1.length l1.length 9]) [bS l1] := by
  unfold qz at h
  refine Goes.fnH Tryz.func82 rfl rfl (m := 16) rfl (rs := [.cell 2 31]) rfl (l := [(0, .agg [.i a0_, vl qa a1_])]) rfl ?_
  intro B hB
  refine sq (Goes.rg fol [(1, .ptr 0 0), (2, .ptr 1 0)] [.cells [.i a0_, vl qa a1_], bZ] ?_)
  refine sq ?_
  obtain ⟨l2, e_l2, h⟩ := bnd h
  refine Goes.rp fol [3] [(1, .ptr 0 0), (2, .ptr 1 0), (3, .slice 2 0 l2.length l2.length 9)] [.cells [.i a0_, vl qa a1_], bZ, bS l2] [.run [] (yK Tryz.prog 29 (.i (a1_.length : Int)) (.i (a1_.length : Int))) [.cells [.i a0_, vl qa a1_], bZ] (.slice 2 0 l2.length l2.length 9) [.cells [.i a0_, vl qa a1_], bZ, bS l2] false] (an (qju xK (E := qa) (z := (⟨[], [], 0, 0, 0, 0, 0, 0, false⟩ : qc)) rfl (by kernel_rfl) e_l2 rfl) trivial) ?_
  refine sq ?_
  obtain ⟨l3, e_l3, h⟩ := bnd h
  refine Goes.rp fol [3] [(1, .ptr 0 0), (2, .ptr 1 0), (3, .slice 2 0 l2.length l2.length 9)] [.cells [.i a0_, vl qa a1_], bZ, bS l3] [.run [2] (xV Tryz.prog [29, 29] (.slice 2 0 l2.length l2.length 9) (vl qa a1_)) [.cells [.i a0_, vl qa a1_], bZ, bS l2] (.i ((Nat.min a1_.length l2.length : Nat) : Int)) [.cells [.i a0_, vl qa a1_], bZ, bS l3] true] (an (qfN xK (E := qa) (l := l2) rfl (qbV (E := qa) rfl _) (.inl rfl) rfl rfl e_l3 rfl) trivial) ?_
  refine Goes.sub (show Sub (ofG 16 [(1, .ptr 0 0), (2, .ptr 1 0), (3, .slice 2 0 l2.length l2.length 9)], [.cells [.i a0_, vl qa a1_], bZ, bS l3]) (ofG 16 [(1, .ptr 0 0), (2, .ptr 1 0), (3, .slice 2 0 l3.length l3.length 9)], [.cells [.i a0_, vl qa a1_], bZ, bS l3]) from (Sub.norm [] [some 0, some 1, some 2] (by rw [hB]; rfl) rfl (.keep (.ptr rfl) (.keep (.ptr rfl) (.keep (.sliceE rfl (qc0 e_l3)) .nil))) (.keep rfl (.same (qg.cons nI (qg.cons (qj qa _) qg.nil))) rfl rfl (.keep rfl (.same (qg.cons nI (qg.cons (qC.nilslice) qg.nil))) rfl rfl (.keep rfl (.same fa) rfl rfl .nil))))) ?_
  refine sq (Goes.rg fol [(2, .ptr 1 0)] [.cells [.i a0_, vl qa a1_], .cells [.i a0_, .slice 2 0 l3.length l3.length 9], bS l3] ?_)
  refine Goes.ret ?_
  obtain rfl := si h
  exact (Goes.retH (xs := [.agg [.i a0_, .slice 2 0 l3.length l3.length 9]]) (by kernel_rfl) (Sub.norm [] [some 2] (by rw [hB]; rfl) rfl (.keep (.aggL (qf.cons (.same nI) (qf.cons (.slice rfl) qf.nil))) .nil) (.keep rfl (.same fa) rfl rfl .nil)))
def zK (a0_ : List qc) (a1_ : Int) (a2_ : Str) (a3_ : Str) (a4_ : Int) (a5_ : Int) (a6_ : Int) (a7_ : Int) (a8_ : Int) (a9_ : Int) (a10_ : Bool) : Option (List qc) :=
  (at' a0_ a1_).bind fun j2 =>
  if 1 = 0 then
  some a0_
  else
  if a1_ = (a0_.length : Int) then
  ((match a0_ with
  | [] =>
  some ([(⟨a2_, a3_, a4_, a5_, a6_, a7_, a8_, a9_, a10_⟩ : qc)] : List qc)
  | x5 :: xs6 =>
  (app 88 (x5 :: xs6) [(⟨a2_, a3_, a4_, a5_, a6_, a7_, a8_, a9_, a10_⟩ : qc)]).bind fun l7 =>
  some l7) : Option (List qc)).bind fun l8 =>
  some l8
  else
  if (w64 ((a0_.length : Int) + 1)) > (a0_.length : Int) then
  (qha 88 a0_ j2 (w64 ((w64 ((a0_.length : Int) + 1)) - a1_)) (⟨[], [], 0, 0, 0, 0, 0, 0, false⟩ : qc)).bind fun l11 =>
  (if a1_ = 0 then
  (some (cpy l11 ([(⟨a2_, a3_, a4_, a5_, a6_, a7_, a8_, a9_, a10_⟩ : qc)] : List qc))).bind fun l13 =>
  some l13
  else
  (at' l11 a1_).bind fun j14 =>
  ((if j14 < l11.length then some () else none : Option Unit)).bind fun u15 =>
  (some (qbQ l11 j14 ([(⟨a2_, a3_, a4_, a5_, a6_, a7_, a8_, a9_, a10_⟩ : qc)] : List qc))).bind fun l16 =>
  some l16 : Option (List qc)).bind fun l17 =>
  (if (w64 (a1_ + 1)) = 0 then
  (some (cpy l17 (a0_.drop j2))).bind fun l20 =>
  some l20
  else
  (at' l17 (w64 (a1_ + 1))).bind fun j21 =>
  ((if j21 < l17.length then some () else none : Option Unit)).bind fun u22 =>
  (some (qbQ l17 j21 (a0_.drop j2))).bind fun l23 =>
  some l23 : Option (List qc)).bind fun l24 =>
  some l24
  else
  none
theorem xL (a0_ : List qc) (a1_ : Int) (a2_ : Str) (a3_ : Str) (a4_ : Int) (a5_ : Int) (a6_ : Int) (a7_ : Int) (a8_ : Int) (a9_ : Int) (a10_ : Bool) {s_1 : List qc} (h : zK a0_ a1_ a2_ a3_ a4_ a5_ a6_ a7_ a8_ a9_ a10_ = some s_1) : qy Tryz.prog (.fn 181) [.slice 0 0 a0_.length a0_.length 9, .i a1_, .slice 1 0 1 1 9] [bS a0_, .cells (cT a2_ a3_ a4_ a5_ a6_ a7_ a8_ a9_ a10_)] (vl qa s_1) [.dead, .cells (cT a2_ a3_ a4_ a5_ a6_ a7_ a8_ a9_ a10_)] := by
  unfold zK at h
  refine Goes.fnH Tryz.func181 rfl rfl (m := 95) rfl (rs := [.tmp 6]) rfl (l := [(0, .slice 0 0 a0_.length a0_.length 9), (1, .i a1_), (2, .slice 1 0 1 1 9)]) rfl ?_
  intro B hB
  refine sq (Goes.rg fol [(0, .slice 0 0 a0_.length a0_.length 9), (1, .i a1_), (2, .slice 1 0 1 1 9)] [bS a0_, .cells (cT a2_ a3_ a4_ a5_ a6_ a7_ a8_ a9_ a10_)] ?_)
  refine sq ?_
  obtain ⟨j2, e_j2, h⟩ := bnd h
  refine Goes.rp fol [2] [(0, .slice 0 0 a0_.length a0_.length 9), (1, .i a1_), (2, .slice 1 0 1 1 9)] [bS a0_, .cells (cT a2_ a3_ a4_ a5_ a6_ a7_ a8_ a9_ a10_)] [.done (.opt (zg Tryz.prog 29 (.slice 0 0 a0_.length a0_.length 9) (some (.i a1_)) none none)) (qb9 0 9 a0_.length j2)] (an (qdR xK e_j2) trivial) ?_
  refine sq (Goes.rg fol [(0, .slice 0 0 a0_.length a0_.length 9), (1, .i a1_), (2, .slice 1 0 1 1 9), (7, .i 1)] [bS a0_, .cells (cT a2_ a3_ a4_ a5_ a6_ a7_ a8_ a9_ a10_)] ?_)
  refine sq ?_
  refine sq (Goes.rg fol [(0, .slice 0 0 a0_.length a0_.length 9), (1, .i a1_), (2, .slice 1 0 1 1 9), (7, .i 1), (16, .bool (decide (1 = 0)))] [bS a0_, .cells (cT a2_ a3_ a4_ a5_ a6_ a7_ a8_ a9_ a10_)] ?_)
  refine Goes.ifB (b := decide (1 = 0)) (by kernel_rfl) (fun c3 => ?_) (fun c3 => ?_)
  · rw [if_pos (ot c3)] at h
    refine sq (Goes.rg fol [(6, .slice 0 0 a0_.length a0_.length 9)] [bS a0_, .cells (cT a2_ a3_ a4_ a5_ a6_ a7_ a8_ a9_ a10_)] ?_)
    refine Goes.ret ?_
    obtain rfl := si h
    exact (Goes.retH (xs := [.slice 0 0 a0_.length a0_.length 9]) (by kernel_rfl) (Sub.norm [0] [some 0, some 1] (by rw [hB]; rfl) rfl (.keep (.frz (Fz.sl (E := qa) rfl rfl (nl rfl)) (qj qa _)) .nil) (.lost (.keep rfl (.same (qg.cons nS (qg.cons nS (qg.cons nI (qg.cons nI (qg.cons nI (qg.cons nI (qg.cons nI (qg.cons nI (qg.cons nB qg.nil)))))))))) rfl rfl .nil))))
  · rw [if_neg (of_ c3)] at h
    refine Goes.skip ?_
    refine sq (Goes.rg fol [(0, .slice 0 0 a0_.length a0_.length 9), (1, .i a1_), (2, .slice 1 0 1 1 9), (7, .i 1), (8, .i (a0_.length : Int))] [bS a0_, .cells (cT a2_ a3_ a4_ a5_ a6_ a7_ a8_ a9_ a10_)] ?_)
    refine sq ?_
    refine sq (Goes.rg fol [(0, .slice 0 0 a0_.length a0_.length 9), (1, .i a1_), (2, .slice 1 0 1 1 9), (7, .i 1), (8, .i (a0_.length : Int)), (22, .bool (decide (a1_ = (a0_.length : Int))))] [bS a0_, .cells (cT a2_ a3_ a4_ a5_ a6_ a7_ a8_ a9_ a10_)] ?_)
    refine Goes.ifB (b := decide (a1_ = (a0_.length : Int))) (by kernel_rfl) (fun c4 => ?_) (fun c4 => ?_)
    · rw [if_pos (ot c4)] at h
      refine sq ?_
      obtain ⟨l8, g_v9, h⟩ := bnd h
      refine Goes.cutS (s' := (ofG 95 [(6, .oslice 2 l8.length 9)], [.dead, .cells (cT a2_ a3_ a4_ a5_ a6_ a7_ a8_ a9_ a10_), bS l8])) ?_ ?_
      · rcases a0_ with _ | ⟨x5, xs6⟩
        · try dsimp only at g_v9
          obtain rfl := si g_v9
          exact qm.sub (qm.rg fol [(6, .oslice 2 1 9)] [.dead, .cells (cT a2_ a3_ a4_ a5_ a6_ a7_ a8_ a9_ a10_), .cells (cT a2_ a3_ a4_ a5_ a6_ a7_ a8_ a9_ a10_)]) (Sub.norm [] [some 0, some 1, some 2] (by rw [hB]; rfl) rfl (.keep (qM.osliceE rfl rfl) .nil) (.lost (.keep rfl (.same (qg.cons nS (qg.cons nS (qg.cons nI (qg.cons nI (qg.cons nI (qg.cons nI (qg.cons nI (qg.cons nI (qg.cons nB qg.nil)))))))))) rfl rfl (.keep rfl (.same fa) rfl rfl .nil))))
        · try dsimp only at g_v9
          obtain ⟨l7, e_l7, g_v9⟩ := bnd g_v9
          obtain rfl := si g_v9
          exact qm.sub (qm.rp fol [2] [(6, .oslice 2 l7.length 9)] [.cells ((x5 :: xs6).flatMap qa.c), .cells (cT a2_ a3_ a4_ a5_ a6_ a7_ a8_ a9_ a10_), bS l7] [.run [0, 1] (zz Tryz.prog [29, 29] (.slice 0 0 (x5 :: xs6).length (x5 :: xs6).length 9) (.slice 1 0 1 1 9)) [.cells ((x5 :: xs6).flatMap qa.c), .cells (cT a2_ a3_ a4_ a5_ a6_ a7_ a8_ a9_ a10_)] (.oslice 2 l7.length 9) [.cells ((x5 :: xs6).flatMap qa.c), .cells (cT a2_ a3_ a4_ a5_ a6_ a7_ a8_ a9_ a10_), bS l7] false] (an (qjw xK (E := qa) (l := (x5 :: xs6)) (ys := [(⟨a2_, a3_, a4_, a5_, a6_, a7_, a8_, a9_, a10_⟩ : qc)]) rfl rfl rfl rfl rfl rfl rfl rfl e_l7 rfl) trivial)) (Sub.norm [] [some 0, some 1, some 2] (by rw [hB]; rfl) rfl (.keep (.oslice rfl) .nil) (.lost (.keep rfl (.same (qg.cons nS (qg.cons nS (qg.cons nI (qg.cons nI (qg.cons nI (qg.cons nI (qg.cons nI (qg.cons nI (qg.cons nB qg.nil)))))))))) rfl rfl (.keep rfl (.same fa) rfl rfl .nil))))
      intro _ hsub
      refine Goes.sub hsub ?_
      refine Goes.ret ?_
      obtain rfl := si h
      exact (Goes.retH (xs := [.oslice 2 l8.length 9]) (by kernel_rfl) (Sub.norm [2] [some 0, some 1] (by rw [hB]; rfl) rfl (.keep (.frz (Fz.os (E := qa) rfl rfl (nl rfl)) (qj qa _)) .nil) (.lost (.keep rfl (.same (qg.cons nS (qg.cons nS (qg.cons nI (qg.cons nI (qg.cons nI (qg.cons nI (qg.cons nI (qg.cons nI (qg.cons nB qg.nil)))))))))) rfl rfl .nil))))
    · rw [if_neg (of_ c4)] at h
      refine Goes.skip ?_
      refine sq ?_
      refine sq (Goes.rg fol [(0, .slice 0 0 a0_.length a0_.length 9), (1, .i a1_), (2, .slice 1 0 1 1 9), (7, .i 1), (8, .i (a0_.length : Int)), (31, .bool (decide ((w64 ((a0_.length : Int) + 1)) > (a0_.length : Int))))] [bS a0_, .cells (cT a2_ a3_ a4_ a5_ a6_ a7_ a8_ a9_ a10_)] ?_)
      refine Goes.ifB (b := decide ((w64 ((a0_.length : Int) + 1)) > (a0_.length : Int))) (by kernel_rfl) (fun c10 => ?_) (fun c10 => ?_)
      · rw [if_pos (ot c10)] at h
        refine sq ?_
        obtain ⟨l11, e_l11, h⟩ := bnd h
        refine Goes.rp fol [2, 8] [(0, .slice 0 0 a0_.length a0_.length 9), (1, .i a1_), (2, .slice 1 0 1 1 9), (7, .i 1), (9, .oslice 2 l11.length 9)] [bS a0_, .cells (cT a2_ a3_ a4_ a5_ a6_ a7_ a8_ a9_ a10_), bS l11] [.done (.opt (zg Tryz.prog 29 (.slice 0 0 a0_.length a0_.length 9) none (some (.i a1_)) none)) (.slice 0 0 j2 a0_.length 9), .run [0] (zz Tryz.prog [29, 3] (.slice 0 0 j2 a0_.length 9) (.i (w64 ((w64 ((a0_.length : Int) + 1)) - a1_)))) [bS a0_, .cells (cT a2_ a3_ a4_ a5_ a6_ a7_ a8_ a9_ a10_)] (.oslice 2 l11.length 9) [bS a0_, .cells (cT a2_ a3_ a4_ a5_ a6_ a7_ a8_ a9_ a10_), bS l11] false] (an (qjs xK e_j2) (an (qiT xK it3 (E := qa) rfl (z := (⟨[], [], 0, 0, 0, 0, 0, 0, false⟩ : qc)) (by kernel_rfl) rfl rfl e_l11 rfl) trivial)) ?_
        refine sq ?_
        obtain ⟨l17, g_v18, h⟩ := bnd h
        refine Goes.cutS (s' := (ofG 95 [(0, .slice 0 0 a0_.length a0_.length 9), (1, .i a1_), (7, .i 1), (9, .oslice 2 l17.length 9)], [bS a0_, .cells (cT a2_ a3_ a4_ a5_ a6_ a7_ a8_ a9_ a10_), bS l17])) ?_ ?_
        · rcases Bool.eq_false_or_eq_true (decide (a1_ = 0)) with c12 | c12
          · rw [if_pos (ot c12)] at g_v18
            obtain ⟨l13, e_l13, g_v18⟩ := bnd g_v18
            obtain rfl := si g_v18
            exact qm.sub (qm.rp fol [2, 4] [(0, .slice 0 0 a0_.length a0_.length 9), (1, .i a1_), (7, .i 1), (9, .oslice 2 l11.length 9)] [bS a0_, .cells (cT a2_ a3_ a4_ a5_ a6_ a7_ a8_ a9_ a10_), bS l13] [.done (.opt (zg Tryz.prog 29 (.oslice 2 l11.length 9) (some (.i a1_)) none none)) (.oslice 2 l11.length 9), .run [2, 1] (xV Tryz.prog [29, 29] (.oslice 2 l11.length 9) (.slice 1 0 1 1 9)) [bS a0_, .cells (cT a2_ a3_ a4_ a5_ a6_ a7_ a8_ a9_ a10_), bS l11] (.i ((Nat.min ([(⟨a2_, a3_, a4_, a5_, a6_, a7_, a8_, a9_, a10_⟩ : qc)] : List qc).length l11.length : Nat) : Int)) [bS a0_, .cells (cT a2_ a3_ a4_ a5_ a6_ a7_ a8_ a9_ a10_), bS l13] true] (an (qgE xK (ot c12)) (an (qfN xK (E := qa) (l := l11) rfl (qdg (E := qa) (ys := ([(⟨a2_, a3_, a4_, a5_, a6_, a7_, a8_, a9_, a10_⟩ : qc)] : List qc)) rfl rfl rfl rfl) (.inr rfl) rfl rfl e_l13 rfl) trivial))) ((show Sub (ofG 95 [(0, .slice 0 0 a0_.length a0_.length 9), (1, .i a1_), (7, .i 1), (9, .oslice 2 l11.length 9)], [bS a0_, .cells (cT a2_ a3_ a4_ a5_ a6_ a7_ a8_ a9_ a10_), bS l13]) (ofG 95 [(0, .slice 0 0 a0_.length a0_.length 9), (1, .i a1_), (7, .i 1), (9, .oslice 2 l13.length 9)], [bS a0_, .cells (cT a2_ a3_ a4_ a5_ a6_ a7_ a8_ a9_ a10_), bS l13]) from (Sub.norm [] [some 0, some 1, some 2] (by rw [hB]; rfl) rfl (.keep (.slice rfl) (.keep (.same nI) (.keep (.same nI) (.keep (.osliceE rfl (qc0 e_l13)) .nil)))) (.keep rfl (.same fa) rfl rfl (.keep rfl (.same (qg.cons nS (qg.cons nS (qg.cons nI (qg.cons nI (qg.cons nI (qg.cons nI (qg.cons nI (qg.cons nI (qg.cons nB qg.nil)))))))))) rfl rfl (.keep rfl (.same fa) rfl rfl .nil))))).trans (Sub.refl _))
          · rw [if_neg (of_ c12)] at g_v18
            obtain ⟨j14, e_j14, g_v18⟩ := bnd g_v18
            obtain ⟨u15, e_u15, g_v18⟩ := bnd g_v18
            obtain ⟨l16, e_l16, g_v18⟩ := bnd g_v18
            obtain rfl := si g_v18
            exact qm.sub (qm.rp fol [2, 4] [(0, .slice 0 0 a0_.length a0_.length 9), (1, .i a1_), (7, .i 1), (9, .oslice 2 l11.length 9)] [bS a0_, .cells (cT a2_ a3_ a4_ a5_ a6_ a7_ a8_ a9_ a10_), bS l16] [.done (.opt (zg Tryz.prog 29 (.oslice 2 l11.length 9) (some (.i a1_)) none none)) (.wslice 2 (j14 * 9) (l11.length - j14) 9), .run [2, 1] (xV Tryz.prog [29, 29] (.wslice 2 (j14 * 9) (l11.length - j14) 9) (.slice 1 0 1 1 9)) [bS a0_, .cells (cT a2_ a3_ a4_ a5_ a6_ a7_ a8_ a9_ a10_), bS l11] (.i ((Nat.min ([(⟨a2_, a3_, a4_, a5_, a6_, a7_, a8_, a9_, a10_⟩ : qc)] : List qc).length (l11.length - j14) : Nat) : Int)) [bS a0_, .cells (cT a2_ a3_ a4_ a5_ a6_ a7_ a8_ a9_ a10_), bS l16] true] (an (qfI xK (of_decide_eq_false c12) e_j14 (qgu e_u15)) (an (qgC xK (E := qa) rfl (l := l11) (qdg (E := qa) (ys := ([(⟨a2_, a3_, a4_, a5_, a6_, a7_, a8_, a9_, a10_⟩ : qc)] : List qc)) rfl rfl rfl rfl) (qej e_j14) rfl rfl e_l16 rfl) trivial))) ((show Sub (ofG 95 [(0, .slice 0 0 a0_.length a0_.length 9), (1, .i a1_), (7, .i 1), (9, .oslice 2 l11.length 9)], [bS a0_, .cells (cT a2_ a3_ a4_ a5_ a6_ a7_ a8_ a9_ a10_), bS l16]) (ofG 95 [(0, .slice 0 0 a0_.length a0_.length 9), (1, .i a1_), (7, .i 1), (9, .oslice 2 l16.length 9)], [bS a0_, .cells (cT a2_ a3_ a4_ a5_ a6_ a7_ a8_ a9_ a10_), bS l16]) from (Sub.norm [] [some 0, some 1, some 2] (by rw [hB]; rfl) rfl (.keep (.slice rfl) (.keep (.same nI) (.keep (.same nI) (.keep (.osliceE rfl (qec (qej e_j14) e_l16)) .nil)))) (.keep rfl (.same fa) rfl rfl (.keep rfl (.same (qg.cons nS (qg.cons nS (qg.cons nI (qg.cons nI (qg.cons nI (qg.cons nI (qg.cons nI (qg.cons nI (qg.cons nB qg.nil)))))))))) rfl rfl (.keep rfl (.same fa) rfl rfl .nil))))).trans (Sub.refl _))
        intro _ hsub
        refine Goes.sub hsub ?_
        refine sq ?_
        obtain ⟨l24, g_v25, h⟩ := bnd h
        refine Goes.cutS (s' := (ofG 95 [(9, .oslice 2 l24.length 9)], [bS a0_, .cells (cT a2_ a3_ a4_ a5_ a6_ a7_ a8_ a9_ a10_), bS l24])) ?_ ?_
        · rcases Bool.eq_false_or_eq_true (decide ((w64 (a1_ + 1)) = 0)) with c19 | c19
          · rw [if_pos (ot c19)] at g_v25
            obtain ⟨l20, e_l20, g_v25⟩ := bnd g_v25
            obtain rfl := si g_v25
            exact qm.sub (qm.rp fol [4, 7, 8] [(9, .oslice 2 l17.length 9)] [bS a0_, .cells (cT a2_ a3_ a4_ a5_ a6_ a7_ a8_ a9_ a10_), bS l20] [.done (.opt (zg Tryz.prog 29 (.oslice 2 l17.length 9) (some (.i (w64 (a1_ + 1)))) none none)) (.oslice 2 l17.length 9), .done (.opt (zg Tryz.prog 29 (.slice 0 0 a0_.length a0_.length 9) (some (.i a1_)) none none)) (qb9 0 9 a0_.length j2), .run [2, 0] (xV Tryz.prog [29, 29] (.oslice 2 l17.length 9) (qb9 0 9 a0_.length j2)) [bS a0_, .cells (cT a2_ a3_ a4_ a5_ a6_ a7_ a8_ a9_ a10_), bS l17] (.i ((Nat.min (a0_.drop j2).length l17.length : Nat) : Int)) [bS a0_, .cells (cT a2_ a3_ a4_ a5_ a6_ a7_ a8_ a9_ a10_), bS l20] true] (an (qgE xK (ot c19)) (an (qdR xK e_j2) (an (qfN xK (E := qa) (l := l17) rfl (qen (E := qa) rfl rfl rfl (qej e_j2)) (.inr rfl) rfl rfl e_l20 rfl) trivial)))) ((show Sub (ofG 95 [(9, .oslice 2 l17.length 9)], [bS a0_, .cells (cT a2_ a3_ a4_ a5_ a6_ a7_ a8_ a9_ a10_), bS l20]) (ofG 95 [(9, .oslice 2 l20.length 9)], [bS a0_, .cells (cT a2_ a3_ a4_ a5_ a6_ a7_ a8_ a9_ a10_), bS l20]) from (Sub.norm [] [some 0, some 1, some 2] (by rw [hB]; rfl) rfl (.keep (.osliceE rfl (qc0 e_l20)) .nil) (.keep rfl (.same fa) rfl rfl (.keep rfl (.same (qg.cons nS (qg.cons nS (qg.cons nI (qg.cons nI (qg.cons nI (qg.cons nI (qg.cons nI (qg.cons nI (qg.cons nB qg.nil)))))))))) rfl rfl (.keep rfl (.same fa) rfl rfl .nil))))).trans (Sub.refl _))
          · rw [if_neg (of_ c19)] at g_v25
            obtain ⟨j21, e_j21, g_v25⟩ := bnd g_v25
            obtain ⟨u22, e_u22, g_v25⟩ := bnd g_v25
            obtain ⟨l23, e_l23, g_v25⟩ := bnd g_v25
            obtain rfl := si g_v25
            exact qm.sub (qm.rp fol [4, 7, 8] [(9, .oslice 2 l17.length 9)] [bS a0_, .cells (cT a2_ a3_ a4_ a5_ a6_ a7_ a8_ a9_ a10_), bS l23] [.done (.opt (zg Tryz.prog 29 (.oslice 2 l17.length 9) (some (.i (w64 (a1_ + 1)))) none none)) (.wslice 2 (j21 * 9) (l17.length - j21) 9), .done (.opt (zg Tryz.prog 29 (.slice 0 0 a0_.length a0_.length 9) (some (.i a1_)) none none)) (qb9 0 9 a0_.length j2), .run [2, 0] (xV Tryz.prog [29, 29] (.wslice 2 (j21 * 9) (l17.length - j21) 9) (qb9 0 9 a0_.length j2)) [bS a0_, .cells (cT a2_ a3_ a4_ a5_ a6_ a7_ a8_ a9_ a10_), bS l17] (.i ((Nat.min (a0_.drop j2).length (l17.length - j21) : Nat) : Int)) [bS a0_, .cells (cT a2_ a3_ a4_ a5_ a6_ a7_ a8_ a9_ a10_), bS l23] true] (an (qfI xK (of_decide_eq_false c19) e_j21 (qgu e_u22)) (an (qdR xK e_j2) (an (qgC xK (E := qa) rfl (l := l17) (qen (E := qa) rfl rfl rfl (qej e_j2)) (qej e_j21) rfl rfl e_l23 rfl) trivial)))) ((show Sub (ofG 95 [(9, .oslice 2 l17.length 9)], [bS a0_, .cells (cT a2_ a3_ a4_ a5_ a6_ a7_ a8_ a9_ a10_), bS l23]) (ofG 95 [(9, .oslice 2 l23.length 9)], [bS a0_, .cells (cT a2_ a3_ a4_ a5_ a6_ a7_ a8_ a9_ a10_), bS l23]) from (Sub.norm [] [some 0, some 1, some 2] (by rw [hB]; rfl) rfl (.keep (.osliceE rfl (qec (qej e_j21) e_l23)) .nil) (.keep rfl (.same fa) rfl rfl (.keep rfl (.same (qg.cons nS (qg.cons nS (qg.cons nI (qg.cons nI (qg.cons nI (qg.cons nI (qg.cons nI (qg.cons nI (qg.cons nB qg.nil)))))))))) rfl rfl (.keep rfl (.same fa) rfl rfl .nil))))).trans (Sub.refl _))
        intro _ hsub
        refine Goes.sub hsub ?_
        refine sq (Goes.rg fol [(6, .oslice 2 l24.length 9)] [bS a0_, .cells (cT a2_ a3_ a4_ a5_ a6_ a7_ a8_ a9_ a10_), bS l24] ?_)
        refine Goes.ret ?_
        obtain rfl := si h
        exact (Goes.retH (xs := [.oslice 2 l24.length 9]) (by kernel_rfl) (Sub.norm [2] [some 0, some 1] (by rw [hB]; rfl) rfl (.keep (.frz (Fz.os (E := qa) rfl rfl (nl rfl)) (qj qa _)) .nil) (.lost (.keep rfl (.same (qg.cons nS (qg.cons nS (qg.cons nI (qg.cons nI (qg.cons nI (qg.cons nI (qg.cons nI (qg.cons nI (qg.cons nB qg.nil)))))))))) rfl rfl .nil))))
      · rw [if_neg (of_ c10)] at h
        cases h
def vJ (N : Nat) (a0_ : Int) (a1_ : List qc) (a2_ : Int) (a3_ : Str) (a4_ : List Str) (a5_ : List Int) (a6_ : Str) : Option ((List qc) × Int) :=
  (idx a5_ 0).bind fun x3 =>
  (idx a5_ 1).bind fun x4 =>
  (idx a5_ 2).bind fun x5 =>
  (idx a4_ 0).bind fun x6 =>
  (kX N (⟨a0_, a1_⟩ : kU) x6).bind fun r7 =>
  (kg r7.2 9).bind fun r8 =>
  (zC x4 1 9999).bind fun r9 =>
  (zC x5 1 9999).bind fun r10 =>
  (zP (w64 (x3 + x4))).bind fun r11 =>
  (kg (decide ((a1_.length : Int) ≥ 256)) 5).bind fun r12 =>
  (zf N ([r8, r9, r10, r11, r12] : List Int)).bind fun r13 =>
  if (!decide (r13 = 0)) = true then
  some (a1_, r13)
  else
  (idx a4_ 1).bind fun x15 =>
  (zK a1_ r7.1 x6 x15 x3 (w64 (x3 + x4)) x5 0 0 0 false).bind fun s_17 =>
  some (s_17, 0)
theorem qce (N : Nat) (a0_ : Int) (a1_ : List qc) (a2_ : Int) (a3_ : Str) (a4_ : List Str) (a5_ : List Int) (a6_ : Str) {l1 : List qc} {e_2 : Int} (h : vJ N a0_ a1_ a2_ a3_ a4_ a5_ a6_ = some (l1, e_2)) : qy Tryz.prog (.fn 141) [.agg [.i a0_, .slice 0 0 a1_.length a1_.length 9], .agg (cF a2_ a3_ a4_ a5_ a6_)] [bS a1_] (.tuple [.agg [.i a0_, vl qa l1], .i e_2]) [.dead] := by
  unfold vJ at h
  refine Goes.fnH Tryz.func141 rfl rfl (m := 77) rfl (rs := [.cell 4 31, .tmp 5]) rfl (l := [(0, .agg [.i a0_, .slice 0 0 a1_.length a1_.length 9]), (1, .agg (cF a2_ a3_ a4_ a5_ a6_))]) rfl ?_
  intro B hB
  refine sq (Goes.rg fol [(2, .ptr 1 0), (3, .ptr 2 0), (4, .ptr 3 0)] [bS a1_, .cells [.i a0_, .slice 0 0 a1_.length a1_.length 9], .cells (cF a2_ a3_ a4_ a5_ a6_), bZ] ?_)
  refine sq ?_
  obtain ⟨x3, e_x3, h⟩ := bnd h
  obtain ⟨x4, e_x4, h⟩ := bnd h
  obtain ⟨x5, e_x5, h⟩ := bnd h
  refine Goes.rp fol [2, 3, 6, 7, 10, 11] [(2, .ptr 1 0), (3, .ptr 2 0), (4, .ptr 3 0), (6, .i x3), (7, .i x4), (8, .i x5)] [bS a1_, .cells [.i a0_, .slice 0 0 a1_.length a1_.length 9], .cells (cF a2_ a3_ a4_ a5_ a6_), bZ] [.done (.opt (qd Tryz.prog 24 (vl encI a5_) (.i 0))) (.fptr (a5_.flatMap encI.c) ((0 : Int).toNat * 1 + 0)), .done (qx Tryz.prog 3 (.fptr (a5_.flatMap encI.c) ((0 : Int).toNat * 1 + 0))) (.i x3), .done (.opt (qd Tryz.prog 24 (vl encI a5_) (.i 1))) (.fptr (a5_.flatMap encI.c) ((1 : Int).toNat * 1 + 0)), .done (qx Tryz.prog 3 (.fptr (a5_.flatMap encI.c) ((1 : Int).toNat * 1 + 0))) (.i x4), .done (.opt (qd Tryz.prog 24 (vl encI a5_) (.i 2))) (.fptr (a5_.flatMap encI.c) ((2 : Int).toNat * 1 + 0)), .done (qx Tryz.prog 3 (.fptr (a5_.flatMap encI.c) ((2 : Int).toNat * 1 + 0))) (.i x5)] (an (qB zA (E := encI) rfl e_x3) (an (qA ce3 (E := encI) rfl e_x3 (nl rfl) rfl) (an (qB zA (E := encI) rfl e_x4) (an (qA ce3 (E := encI) rfl e_x4 (nl rfl) rfl) (an (qB zA (E := encI) rfl e_x5) (an (qA ce3 (E := encI) rfl e_x5 (nl rfl) rfl) trivial)))))) ?_
  refine sq ?_
  obtain ⟨x6, e_x6, h⟩ := bnd h
  obtain ⟨r7, e_r7, h⟩ := bnd h
  refine Goes.rp fol [3, 4, 5] [(2, .ptr 1 0), (3, .ptr 2 0), (4, .ptr 3 0), (6, .i x3), (7, .i x4), (8, .i x5), (9, .i r7.1), (10, .bool r7.2)] [bS a1_, .cells [.i a0_, .slice 0 0 a1_.length a1_.length 9], .cells (cF a2_ a3_ a4_ a5_ a6_), bZ] [.done (.opt (qd Tryz.prog 23 (vl encS a4_) (.i 0))) (.fptr (a4_.flatMap encS.c) ((0 : Int).toNat * 1 + 0)), .done (qx Tryz.prog 9 (.fptr (a4_.flatMap encS.c) ((0 : Int).toNat * 1 + 0))) (.str x6), .call 93 [.agg [.i a0_, .slice 0 0 a1_.length a1_.length 9], .str x6] [bS a1_, .cells [.i a0_, .slice 0 0 a1_.length a1_.length 9], .cells (cF a2_ a3_ a4_ a5_ a6_), bZ] [0] [.agg [.i a0_, vl qa a1_], .str x6] (.tuple [.i r7.1, .bool r7.2])] (an (qB qaq (E := encS) rfl e_x6) (an (qA ce9 (E := encS) rfl e_x6 (nl rfl) rfl) (an (xz (FzL.cons (Fz.agg (FzL.cons (Fz.still tI) (FzL.cons (Fz.sl (E := qa) rfl rfl (nl rfl)) FzL.nil))) (FzL.cons (Fz.still tS) FzL.nil)) (jP N (⟨a0_, a1_⟩ : kU) x6 e_r7) (Still.tuple (AllST.cons tI (AllST.cons tB AllST.nil))) rfl) trivial))) ?_
  refine sq ?_
  refine sq ?_
  obtain ⟨r8, e_r8, h⟩ := bnd h
  obtain ⟨r9, e_r9, h⟩ := bnd h
  obtain ⟨r10, e_r10, h⟩ := bnd h
  obtain ⟨r11, e_r11, h⟩ := bnd h
  obtain ⟨r12, e_r12, h⟩ := bnd h
  obtain ⟨r13, e_r13, h⟩ := bnd h
  refine Goes.rp fol [1, 3, 5, 9, 14, 16] [(2, .ptr 1 0), (3, .ptr 2 0), (4, .ptr 3 0), (6, .i x3), (7, .i x4), (8, .i x5), (9, .i r7.1), (11, .i r13)] [bS a1_, .cells [.i a0_, .slice 0 0 a1_.length a1_.length 9], .cells (cF a2_ a3_ a4_ a5_ a6_), bZ, .cells [.i r8, .i r9, .i r10, .i r11, .i r12]] [.call 88 [.bool r7.2, .i 9] [bS a1_, .cells [.i a0_, .slice 0 0 a1_.length a1_.length 9], .cells (cF a2_ a3_ a4_ a5_ a6_), bZ] [] [.bool r7.2, .i 9] (.i r8), .call 87 [.i x4, .i 1, .i 9999] [bS a1_, .cells [.i a0_, .slice 0 0 a1_.length a1_.length 9], .cells (cF a2_ a3_ a4_ a5_ a6_), bZ] [] [.i x4, .i 1, .i 9999] (.i r9), .call 87 [.i x5, .i 1, .i 9999] [bS a1_, .cells [.i a0_, .slice 0 0 a1_.length a1_.length 9], .cells (cF a2_ a3_ a4_ a5_ a6_), bZ] [] [.i x5, .i 1, .i 9999] (.i r10), .call 94 [.i (w64 (x3 + x4))] [bS a1_, .cells [.i a0_, .slice 0 0 a1_.length a1_.length 9], .cells (cF a2_ a3_ a4_ a5_ a6_), bZ] [] [.i (w64 (x3 + x4))] (.i r11), .call 88 [.bool (decide ((a1_.length : Int) ≥ 256)), .i 5] [bS a1_, .cells [.i a0_, .slice 0 0 a1_.length a1_.length 9], .cells (cF a2_ a3_ a4_ a5_ a6_), bZ] [] [.bool (decide ((a1_.length : Int) ≥ 256)), .i 5] (.i r12), .call 86 [.slice 4 0 5 5 1] [bS a1_, .cells [.i a0_, .slice 0 0 a1_.length a1_.length 9], .cells (cF a2_ a3_ a4_ a5_ a6_), bZ, .cells [.i r8, .i r9, .i r10, .i r11, .i r12]] [4] [vl encI ([r8, r9, r10, r11, r12] : List Int)] (.i r13)] (an (qo (AllST.cons tB (AllST.cons tI AllST.nil)) (qN r7.2 9 e_r8) tI) (an (qo (AllST.cons tI (AllST.cons tI (AllST.cons tI AllST.nil))) (zT x4 1 9999 e_r9) tI) (an (qo (AllST.cons tI (AllST.cons tI (AllST.cons tI AllST.nil))) (zT x5 1 9999 e_r10) tI) (an (qo (AllST.cons tI AllST.nil) (j4 (w64 (x3 + x4)) e_r11) tI) (an (qo (AllST.cons tB (AllST.cons tI AllST.nil)) (qN (decide ((a1_.length : Int) ≥ 256)) 5 e_r12) tI) (an (xz (FzL.cons (Fz.lit rfl rfl (FzL.still (AllST.cons tI (AllST.cons tI (AllST.cons tI (AllST.cons tI (AllST.cons tI AllST.nil))))))) FzL.nil) (zN N ([r8, r9, r10, r11, r12] : List Int) e_r13) tI rfl) trivial)))))) ?_
  refine sq (Goes.rg fol [(2, .ptr 1 0), (3, .ptr 2 0), (4, .ptr 3 0), (6, .i x3), (7, .i x4), (8, .i x5), (9, .i r7.1), (11, .i r13), (52, .bool (!decide (r13 = 0)))] [bS a1_, .cells [.i a0_, .slice 0 0 a1_.length a1_.length 9], .cells (cF a2_ a3_ a4_ a5_ a6_), bZ, .cells [.i r8, .i r9, .i r10, .i r11, .i r12]] ?_)
  refine Goes.ifB (b := !decide (r13 = 0)) (by kernel_rfl) (fun c14 => ?_) (fun c14 => ?_)
  · rw [if_pos (c14)] at h
    refine sq (Goes.rg fol [(4, .ptr 3 0), (5, .i r13)] [bS a1_, .cells [.i a0_, .slice 0 0 a1_.length a1_.length 9], .cells (cF a2_ a3_ a4_ a5_ a6_), .cells [.i a0_, .slice 0 0 a1_.length a1_.length 9], .cells [.i r8, .i r9, .i r10, .i r11, .i r12]] ?_)
    refine Goes.ret ?_
    simp only [Option.some.injEq, Prod.mk.injEq] at h
    obtain ⟨rfl, rfl⟩ := h
    exact (Goes.retH (xs := [.agg [.i a0_, .slice 0 0 a1_.length a1_.length 9], .i r13]) (by kernel_rfl) (Sub.norm [0] [some 0] (by rw [hB]; rfl) rfl (.keep (.tupleL (qf.cons (.aggL (qf.cons (.same nI) (qf.cons (.frz (Fz.sl (E := qa) rfl rfl (nl rfl)) (qj qa _)) qf.nil))) (qf.cons (.same nI) qf.nil))) .nil) (.lost .nil)))
  · rw [if_neg (nb c14)] at h
    refine Goes.skip ?_
    refine sq ?_
    obtain ⟨x15, e_x15, h⟩ := bnd h
    refine Goes.rp fol [2, 3, 6, 7] [(2, .ptr 1 0), (4, .ptr 3 0), (9, .i r7.1), (12, .ptr 5 0)] [bS a1_, .cells [.i a0_, .slice 0 0 a1_.length a1_.length 9], .cells (cF a2_ a3_ a4_ a5_ a6_), bZ, .cells [.i r8, .i r9, .i r10, .i r11, .i r12], .cells [.str x6, .str x15, .i x3, .i (w64 (x3 + x4)), .i x5, .i 0, .i 0, .i 0, .bool false]] [.done (.opt (qd Tryz.prog 23 (vl encS a4_) (.i 0))) (.fptr (a4_.flatMap encS.c) ((0 : Int).toNat * 1 + 0)), .done (qx Tryz.prog 9 (.fptr (a4_.flatMap encS.c) ((0 : Int).toNat * 1 + 0))) (.str x6), .done (.opt (qd Tryz.prog 23 (vl encS a4_) (.i 1))) (.fptr (a4_.flatMap encS.c) ((1 : Int).toNat * 1 + 0)), .done (qx Tryz.prog 9 (.fptr (a4_.flatMap encS.c) ((1 : Int).toNat * 1 + 0))) (.str x15)] (an (qB qaq (E := encS) rfl e_x6) (an (qA ce9 (E := encS) rfl e_x6 (nl rfl) rfl) (an (qB qaq (E := encS) rfl e_x15) (an (qA ce9 (E := encS) rfl e_x15 (nl rfl) rfl) trivial)))) ?_
    refine sq ?_
    obtain ⟨s_17, e_r16, h⟩ := bnd h
    refine Goes.rp fol [5] [(2, .ptr 1 0), (4, .ptr 3 0)] [.dead, .cells [.i a0_, vl qa s_17], .cells (cF a2_ a3_ a4_ a5_ a6_), bZ, .cells [.i r8, .i r9, .i r10, .i r11, .i r12], .cells [.str x6, .str x15, .i x3, .i (w64 (x3 + x4)), .i x5, .i 0, .i 0, .i 0, .bool false], .cells [.str x6, .str x15, .i x3, .i (w64 (x3 + x4)), .i x5, .i 0, .i 0, .i 0, .bool false]] [.callH 181 [.slice 0 0 a1_.length a1_.length 9, .i r7.1, .slice 6 0 1 1 9] [bS a1_, .cells [.i a0_, .slice 0 0 a1_.length a1_.length 9], .cells (cF a2_ a3_ a4_ a5_ a6_), bZ, .cells [.i r8, .i r9, .i r10, .i r11, .i r12], .cells [.str x6, .str x15, .i x3, .i (w64 (x3 + x4)), .i x5, .i 0, .i 0, .i 0, .bool false], .cells [.str x6, .str x15, .i x3, .i (w64 (x3 + x4)), .i x5, .i 0, .i 0, .i 0, .bool false]] [0, 6] (vl qa s_17) [.dead, .cells [.i a0_, .slice 0 0 a1_.length a1_.length 9], .cells (cF a2_ a3_ a4_ a5_ a6_), bZ, .cells [.i r8, .i r9, .i r10, .i r11, .i r12], .cells [.str x6, .str x15, .i x3, .i (w64 (x3 + x4)), .i x5, .i 0, .i 0, .i 0, .bool false], .cells [.str x6, .str x15, .i x3, .i (w64 (x3 + x4)), .i x5, .i 0, .i 0, .i 0, .bool false]]] (an (je [some 0, some 6] [none, none, none, none, none, none, some 1] (xL a1_ r7.1 x6 x15 x3 (w64 (x3 + x4)) x5 0 0 0 false e_r16) (.keep rfl (.same fa) rfl rfl (.keep rfl (.cells (qf.cons (.same nS) (qf.cons (.same nS) (qf.cons (.same nI) (qf.cons (.same nI) (qf.cons (.same nI) (qf.cons (.same nI) (qf.cons (.same nI) (qf.cons (.same nI) (qf.cons (.same nB) qf.nil)))))))))) rfl rfl .nil)) rfl rfl (.dead (.old rfl rfl (.old rfl rfl (.old rfl rfl (.old rfl rfl (.old rfl rfl (.back rfl rfl (.cells (qf.cons (.same nS) (qf.cons (.same nS) (qf.cons (.same nI) (qf.cons (.same nI) (qf.cons (.same nI) (qf.cons (.same nI) (qf.cons (.same nI) (qf.cons (.same nI) (qf.cons (.same nB) qf.nil)))))))))) rfl .nil))))))) (qf.cons (.slice rfl) (qf.cons (.same nI) (qf.cons (.slice rfl) qf.nil))) (.same (qj qa _)) rfl) trivial) ?_
    refine sq (Goes.rg fol [(4, .ptr 3 0), (5, .i 0)] [.dead, .cells [.i a0_, vl qa s_17], .cells (cF a2_ a3_ a4_ a5_ a6_), .cells [.i a0_, vl qa s_17], .cells [.i r8, .i r9, .i r10, .i r11, .i r12], .cells [.str x6, .str x15, .i x3, .i (w64 (x3 + x4)), .i x5, .i 0, .i 0, .i 0, .bool false], .cells [.str x6, .str x15, .i x3, .i (w64 (x3 + x4)), .i x5, .i 0, .i 0, .i 0, .bool false]] ?_)
    refine Goes.ret ?_
    simp only [Option.some.injEq, Prod.mk.injEq] at h
    obtain ⟨rfl, rfl⟩ := h
    exact (Goes.retH (xs := [.agg [.i a0_, vl qa s_17], .i 0]) (by kernel_rfl) (Sub.norm [] [some 0] (by rw [hB]; rfl) rfl (.keep (.tupleL (qf.cons (.aggL (qf.cons (.same nI) (qf.cons (.same (qj qa _)) qf.nil))) (qf.cons (.same nI) qf.nil))) .nil) (.lost .nil)))
def kD (N : Nat) (a0_ : Int) (a1_ : List qc) (a2_ : Str) (a3_ : Int) : Option (Int × Bool × Int) :=
  (kX N (⟨a0_, a1_⟩ : kU) a2_).bind fun r4 =>
  if (!r4.2) = true then
  some (0, false, 10)
  else
  (idx a1_ r4.1).bind fun x6 =>
  (kG x6 a3_).bind fun r7 =>
  (kg r7 20).bind fun r8 =>
  some (r4.1, true, r8)
theorem jC (N : Nat) (a0_ : Int) (a1_ : List qc) (a2_ : Str) (a3_ : Int) {i1 : Int} {ok2 : Bool} {name_3 : Int} (h : kD N a0_ a1_ a2_ a3_ = some (i1, ok2, name_3)) : qy Tryz.prog (.fn 182) [.agg [.i a0_, .slice 0 0 a1_.length a1_.length 9], .str a2_, .i a3_] [bS a1_] (.tuple [pz ok2 0 ((i1 : Int).toNat * 9 + 0), .i name_3]) [bS a1_] := by
  unfold kD at h
  refine Goes.fnH Tryz.func182 rfl rfl (m := 30) rfl (rs := [.tmp 6, .tmp 7]) rfl (l := [(0, .agg [.i a0_, .slice 0 0 a1_.length a1_.length 9]), (1, .str a2_), (2, .i a3_)]) rfl ?_
  intro B hB
  refine sq (Goes.rg fol [(1, .str a2_), (2, .i a3_), (3, .ptr 1 0)] [bS a1_, .cells [.i a0_, .slice 0 0 a1_.length a1_.length 9]] ?_)
  refine sq ?_
  obtain ⟨r4, e_r4, h⟩ := bnd h
  refine Goes.rp fol [2] [(2, .i a3_), (3, .ptr 1 0), (8, .i r4.1), (9, .bool r4.2)] [bS a1_, .cells [.i a0_, .slice 0 0 a1_.length a1_.length 9]] [.call 93 [.agg [.i a0_, .slice 0 0 a1_.length a1_.length 9], .str a2_] [bS a1_, .cells [.i a0_, .slice 0 0 a1_.length a1_.length 9]] [0] [.agg [.i a0_, vl qa a1_], .str a2_] (.tuple [.i r4.1, .bool r4.2])] (an (xz (FzL.cons (Fz.agg (FzL.cons (Fz.still tI) (FzL.cons (Fz.sl (E := qa) rfl rfl (nl rfl)) FzL.nil))) (FzL.cons (Fz.still tS) FzL.nil)) (jP N (⟨a0_, a1_⟩ : kU) a2_ e_r4) (Still.tuple (AllST.cons tI (AllST.cons tB AllST.nil))) rfl) trivial) ?_
  refine sq ?_
  refine sq (Goes.rg fol [(2, .i a3_), (3, .ptr 1 0), (8, .i r4.1), (18, .bool (!r4.2))] [bS a1_, .cells [.i a0_, .slice 0 0 a1_.length a1_.length 9]] ?_)
  refine Goes.ifB (b := !r4.2) (by kernel_rfl) (fun c5 => ?_) (fun c5 => ?_)
  · rw [if_pos (c5)] at h
    refine sq (Goes.rg fol [(6, .nilptr), (7, .i 10)] [bS a1_, .cells [.i a0_, .slice 0 0 a1_.length a1_.length 9]] ?_)
    refine Goes.ret ?_
    simp only [Option.some.injEq, Prod.mk.injEq] at h
    obtain ⟨rfl, rfl, rfl⟩ := h
    exact (Goes.retH (xs := [.nilptr, .i 10]) (by kernel_rfl) (Sub.norm [] [some 0] (by rw [hB]; rfl) rfl (.keep (.tupleL (qf.cons (qM.pz0) (qf.cons (.same nI) qf.nil))) .nil) (.keep rfl (.same fa) rfl rfl .nil)))
  · rw [if_neg (nb c5)] at h
    refine Goes.skip ?_
    refine sq ?_
    obtain ⟨x6, e_x6, h⟩ := bnd h
    refine Goes.rp fol [3] [(2, .i a3_), (10, .ptr 0 ((r4.1 : Int).toNat * 9 + 0))] [bS a1_, .cells [.i a0_, .slice 0 0 a1_.length a1_.length 9]] [.done (.opt (qd Tryz.prog 29 (.slice 0 0 a1_.length a1_.length 9) (.i r4.1))) (.ptr 0 ((r4.1 : Int).toNat * 9 + 0))] (an (qjo xK e_x6) trivial) ?_
    refine sq ?_
    obtain ⟨r7, e_r7, h⟩ := bnd h
    obtain ⟨r8, e_r8, h⟩ := bnd h
    refine Goes.rp fol [3, 5, 6] [(6, .ptr 0 ((r4.1 : Int).toNat * 9 + 0)), (7, .i r8)] [bS a1_, .cells [.i a0_, .slice 0 0 a1_.length a1_.length 9]] [.run [0] (qx Tryz.prog 68 (.ptr 0 ((r4.1 : Int).toNat * 9 + 0))) [bS a1_, .cells [.i a0_, .slice 0 0 a1_.length a1_.length 9]] (.agg (cS x6)) [bS a1_, .cells [.i a0_, .slice 0 0 a1_.length a1_.length 9]] false, .call 95 [.agg (cS x6), .i a3_] [bS a1_, .cells [.i a0_, .slice 0 0 a1_.length a1_.length 9]] [] [.agg (cS x6), .i a3_] (.bool r7), .call 88 [.bool r7, .i 20] [bS a1_, .cells [.i a0_, .slice 0 0 a1_.length a1_.length 9]] [] [.bool r7, .i 20] (.i r8)] (an (qh1 qhk (E := qa) (l := a1_) rfl rfl e_x6) (an (qo (AllST.cons (Still.agg (AllST.cons tS (AllST.cons tS (AllST.cons tI (AllST.cons tI (AllST.cons tI (AllST.cons tI (AllST.cons tI (AllST.cons tI (AllST.cons tB AllST.nil)))))))))) (AllST.cons tI AllST.nil)) (jk x6 a3_ e_r7) tB) (an (qo (AllST.cons tB (AllST.cons tI AllST.nil)) (qN r7 20 e_r8) tI) trivial))) ?_
    refine Goes.ret ?_
    simp only [Option.some.injEq, Prod.mk.injEq] at h
    obtain ⟨rfl, rfl, rfl⟩ := h
    exact (Goes.retH (xs := [.ptr 0 ((r4.1 : Int).toNat * 9 + 0), .i r8]) (by kernel_rfl) (Sub.norm [] [some 0] (by rw [hB]; rfl) rfl (.keep (.tupleL (qf.cons ((qM.pz1 rfl)) (qf.cons (.same nI) qf.nil))) .nil) (.keep rfl (.same fa) rfl rfl .nil)))
def jO (N : Nat) (a0_ : Int) (a1_ : List qc) (a2_ : Int) (a3_ : Str) (a4_ : List Str) (a5_ : List Int) (a6_ : Str) : Option ((List qc) × Int) :=
  (idx a5_ 0).bind fun x3 =>
  (idx a5_ 1).bind fun x4 =>
  (idx a4_ 0).bind fun x5 =>
  (kD N a0_ a1_ x5 x3).bind fun (i7, ok8, name_9) =>
  (zC x4 2 999999999).bind fun r10 =>
  (zf N ([name_9, r10] : List Int)).bind fun r11 =>
  if (!decide (r11 = 0)) = true then
  some (a1_, r11)
  else
  ((match ok8 with
  | false =>
  none
  | true =>
  (idx a1_ i7).bind fun x13 =>
  (put a1_ i7 (⟨x13.Name, x13.Batch, x13.Born, x13.Last, x13.Uses, x13.Used, w64 (x4.tdiv 2), x13.Until, x13.Gone⟩ : qc)).bind fun l14 =>
  (idx l14 i7).bind fun x15 =>
  (put l14 i7 (⟨x15.Name, x15.Batch, x15.Born, x15.Last, x15.Uses, x15.Used, x15.Limit, (if x13.Last < (w64 (x3 + 365)) then x13.Last else (w64 (x3 + 365))), x15.Gone⟩ : qc)).bind fun l16 =>
  some l16) : Option (List qc)).bind fun l17 =>
  some (l17, 0)
theorem qbi (N : Nat) (a0_ : Int) (a1_ : List qc) (a2_ : Int) (a3_ : Str) (a4_ : List Str) (a5_ : List Int) (a6_ : Str) {l1 : List qc} {e_2 : Int} (h : jO N a0_ a1_ a2_ a3_ a4_ a5_ a6_ = some (l1, e_2)) : qy Tryz.prog (.fn 142) [.agg [.i a0_, .slice 0 0 a1_.length a1_.length 9], .agg (cF a2_ a3_ a4_ a5_ a6_)] [bS a1_] (.tuple [.agg [.i a0_, .slice 0 0 l1.length l1.length 9], .i e_2]) [bS l1] := by
  unfold jO at h
  refine Goes.fnH Tryz.func142 rfl rfl (m := 53) rfl (rs := [.cell 4 31, .tmp 5]) rfl (l := [(0, .agg [.i a0_, .slice 0 0 a1_.length a1_.length 9]), (1, .agg (cF a2_ a3_ a4_ a5_ a6_))]) rfl ?_
  intro B hB
  refine sq (Goes.rg fol [(2, .ptr 1 0), (3, .ptr 2 0), (4, .ptr 3 0)] [bS a1_, .cells [.i a0_, .slice 0 0 a1_.length a1_.length 9], .cells (cF a2_ a3_ a4_ a5_ a6_), bZ] ?_)
  refine sq ?_
  obtain ⟨x3, e_x3, h⟩ := bnd h
  obtain ⟨x4, e_x4, h⟩ := bnd h
  refine Goes.rp fol [2, 3, 6, 7] [(2, .ptr 1 0), (3, .ptr 2 0), (4, .ptr 3 0), (6, .i x3), (7, .i x4)] [bS a1_, .cells [.i a0_, .slice 0 0 a1_.length a1_.length 9], .cells (cF a2_ a3_ a4_ a5_ a6_), bZ] [.done (.opt (qd Tryz.prog 24 (vl encI a5_) (.i 0))) (.fptr (a5_.flatMap encI.c) ((0 : Int).toNat * 1 + 0)), .done (qx Tryz.prog 3 (.fptr (a5_.flatMap encI.c) ((0 : Int).toNat * 1 + 0))) (.i x3), .done (.opt (qd Tryz.prog 24 (vl encI a5_) (.i 1))) (.fptr (a5_.flatMap encI.c) ((1 : Int).toNat * 1 + 0)), .done (qx Tryz.prog 3 (.fptr (a5_.flatMap encI.c) ((1 : Int).toNat * 1 + 0))) (.i x4)] (an (qB zA (E := encI) rfl e_x3) (an (qA ce3 (E := encI) rfl e_x3 (nl rfl) rfl) (an (qB zA (E := encI) rfl e_x4) (an (qA ce3 (E := encI) rfl e_x4 (nl rfl) rfl) trivial)))) ?_
  refine sq ?_
  obtain ⟨x5, e_x5, h⟩ := bnd h
  obtain ⟨⟨i7, ok8, name_9⟩, e_r6, h⟩ := bnd h
  try dsimp only at h
  refine Goes.rp fol [3, 4, 6] [(2, .ptr 1 0), (4, .ptr 3 0), (6, .i x3), (7, .i x4), (8, pz ok8 0 ((i7 : Int).toNat * 9 + 0)), (9, .i name_9)] [bS a1_, .cells [.i a0_, .slice 0 0 a1_.length a1_.length 9], .cells (cF a2_ a3_ a4_ a5_ a6_), bZ] [.done (.opt (qd Tryz.prog 23 (vl encS a4_) (.i 0))) (.fptr (a4_.flatMap encS.c) ((0 : Int).toNat * 1 + 0)), .done (qx Tryz.prog 9 (.fptr (a4_.flatMap encS.c) ((0 : Int).toNat * 1 + 0))) (.str x5), .callH 182 [.agg [.i a0_, .slice 0 0 a1_.length a1_.length 9], .str x5, .i x3] [bS a1_, .cells [.i a0_, .slice 0 0 a1_.length a1_.length 9], .cells (cF a2_ a3_ a4_ a5_ a6_), bZ] [0] (.tuple [pz ok8 0 ((i7 : Int).toNat * 9 + 0), .i name_9]) [bS a1_, .cells [.i a0_, .slice 0 0 a1_.length a1_.length 9], .cells (cF a2_ a3_ a4_ a5_ a6_), bZ]] (an (qB qaq (E := encS) rfl e_x5) (an (qA ce9 (E := encS) rfl e_x5 (nl rfl) rfl) (an (je [some 0] [some 0, none, none, none] (jC N a0_ a1_ x5 x3 e_r6) (.keep rfl (.same fa) rfl rfl .nil) rfl rfl (.back rfl rfl (.same fa) rfl (.old rfl rfl (.old rfl rfl (.old rfl rfl .nil)))) (qf.cons (.aggL (qf.cons (.same nI) (qf.cons (.slice rfl) qf.nil))) (qf.cons (.same nS) (qf.cons (.same nI) qf.nil))) (.tupleL (qf.cons ((qM.pz rfl)) (qf.cons (.same nI) qf.nil))) rfl) trivial))) ?_
  refine sq ?_
  refine sq ?_
  obtain ⟨r10, e_r10, h⟩ := bnd h
  obtain ⟨r11, e_r11, h⟩ := bnd h
  refine Goes.rp fol [2, 4] [(2, .ptr 1 0), (4, .ptr 3 0), (6, .i x3), (7, .i x4), (8, pz ok8 0 ((i7 : Int).toNat * 9 + 0)), (9, .i r11)] [bS a1_, .cells [.i a0_, .slice 0 0 a1_.length a1_.length 9], .cells (cF a2_ a3_ a4_ a5_ a6_), bZ, .cells [.i name_9, .i r10]] [.call 87 [.i x4, .i 2, .i 999999999] [bS a1_, .cells [.i a0_, .slice 0 0 a1_.length a1_.length 9], .cells (cF a2_ a3_ a4_ a5_ a6_), bZ] [] [.i x4, .i 2, .i 999999999] (.i r10), .call 86 [.slice 4 0 2 2 1] [bS a1_, .cells [.i a0_, .slice 0 0 a1_.length a1_.length 9], .cells (cF a2_ a3_ a4_ a5_ a6_), bZ, .cells [.i name_9, .i r10]] [4] [vl encI ([name_9, r10] : List Int)] (.i r11)] (an (qo (AllST.cons tI (AllST.cons tI (AllST.cons tI AllST.nil))) (zT x4 2 999999999 e_r10) tI) (an (xz (FzL.cons (Fz.lit rfl rfl (FzL.still (AllST.cons tI (AllST.cons tI AllST.nil)))) FzL.nil) (zN N ([name_9, r10] : List Int) e_r11) tI rfl) trivial)) ?_
  refine sq (Goes.rg fol [(2, .ptr 1 0), (4, .ptr 3 0), (6, .i x3), (7, .i x4), (8, pz ok8 0 ((i7 : Int).toNat * 9 + 0)), (9, .i r11), (34, .bool (!decide (r11 = 0)))] [bS a1_, .cells [.i a0_, .slice 0 0 a1_.length a1_.length 9], .cells (cF a2_ a3_ a4_ a5_ a6_), bZ, .cells [.i name_9, .i r10]] ?_)
  refine Goes.ifB (b := !decide (r11 = 0)) (by kernel_rfl) (fun c12 => ?_) (fun c12 => ?_)
  · rw [if_pos (c12)] at h
    refine sq (Goes.rg fol [(4, .ptr 3 0), (5, .i r11)] [bS a1_, .cells [.i a0_, .slice 0 0 a1_.length a1_.length 9], .cells (cF a2_ a3_ a4_ a5_ a6_), .cells [.i a0_, .slice 0 0 a1_.length a1_.length 9], .cells [.i name_9, .i r10]] ?_)
    refine Goes.ret ?_
    simp only [Option.some.injEq, Prod.mk.injEq] at h
    obtain ⟨rfl, rfl⟩ := h
    exact (Goes.retH (xs := [.agg [.i a0_, .slice 0 0 a1_.length a1_.length 9], .i r11]) (by kernel_rfl) (Sub.norm [] [some 0] (by rw [hB]; rfl) rfl (.keep (.tupleL (qf.cons (.aggL (qf.cons (.same nI) (qf.cons (.slice rfl) qf.nil))) (qf.cons (.same nI) qf.nil))) .nil) (.keep rfl (.same fa) rfl rfl .nil)))
  · rw [if_neg (nb c12)] at h
    refine Goes.skip ?_
    refine sq ?_
    obtain ⟨l17, g_v18, h⟩ := bnd h
    refine Goes.cutS (s' := (ofG 53 [(2, .ptr 1 0), (4, .ptr 2 0)], [bS l17, .cells [.i a0_, .slice 0 0 l17.length l17.length 9], bZ])) ?_ ?_
    · rcases ok8 with _ | _
      · try dsimp only at g_v18
        cases g_v18
      · try dsimp only at g_v18
        obtain ⟨x13, e_x13, g_v18⟩ := bnd g_v18
        obtain ⟨l14, e_l14, g_v18⟩ := bnd g_v18
        obtain ⟨x15, e_x15, g_v18⟩ := bnd g_v18
        obtain ⟨l16, e_l16, g_v18⟩ := bnd g_v18
        obtain rfl := si g_v18
        exact qm.sub (qm.rp fol [9, 13, 16] [(2, .ptr 1 0), (4, .ptr 3 0)] [bS l16, .cells [.i a0_, .slice 0 0 a1_.length a1_.length 9], .cells (cF a2_ a3_ a4_ a5_ a6_), bZ, .cells [.i name_9, .i r10]] [.run [0] (qx Tryz.prog 3 (.ptr 0 ((i7 : Int).toNat * 9 + 3))) [bS a1_, .cells [.i a0_, .slice 0 0 a1_.length a1_.length 9], .cells (cF a2_ a3_ a4_ a5_ a6_), bZ, .cells [.i name_9, .i r10]] (.i x13.Last) [bS a1_, .cells [.i a0_, .slice 0 0 a1_.length a1_.length 9], .cells (cF a2_ a3_ a4_ a5_ a6_), bZ, .cells [.i name_9, .i r10]] false, .run [0] (yw Tryz.prog 3 (.ptr 0 ((i7 : Int).toNat * 9 + 6)) (.i (w64 (x4.tdiv 2)))) [bS a1_, .cells [.i a0_, .slice 0 0 a1_.length a1_.length 9], .cells (cF a2_ a3_ a4_ a5_ a6_), bZ, .cells [.i name_9, .i r10]] .undef [bS l14, .cells [.i a0_, .slice 0 0 a1_.length a1_.length 9], .cells (cF a2_ a3_ a4_ a5_ a6_), bZ, .cells [.i name_9, .i r10]] true, .run [0] (yw Tryz.prog 3 (.ptr 0 ((i7 : Int).toNat * 9 + 7)) (.i (if x13.Last < (w64 (x3 + 365)) then x13.Last else (w64 (x3 + 365))))) [bS l14, .cells [.i a0_, .slice 0 0 a1_.length a1_.length 9], .cells (cF a2_ a3_ a4_ a5_ a6_), bZ, .cells [.i name_9, .i r10]] .undef [bS l16, .cells [.i a0_, .slice 0 0 a1_.length a1_.length 9], .cells (cF a2_ a3_ a4_ a5_ a6_), bZ, .cells [.i name_9, .i r10]] true] (an (qeI ce3 (E := qa) (l := a1_) rfl rfl e_x13 (nl rfl) rfl) (an (qb3 (E := qa) (l := a1_) (y := (⟨x13.Name, x13.Batch, x13.Born, x13.Last, x13.Uses, x13.Used, w64 (x4.tdiv 2), x13.Until, x13.Gone⟩ : qc)) rfl (show _ = some 1 by kernel_rfl) rfl e_x13 rfl rfl rfl rfl rfl e_l14 rfl) (an (qb3 (E := qa) (l := l14) (y := (⟨x15.Name, x15.Batch, x15.Born, x15.Last, x15.Uses, x15.Used, x15.Limit, (if x13.Last < (w64 (x3 + 365)) then x13.Last else (w64 (x3 + 365))), x15.Gone⟩ : qc)) rfl (show _ = some 1 by kernel_rfl) rfl e_x15 rfl rfl rfl rfl rfl e_l16 rfl) trivial)))) ((show Sub (ofG 53 [(2, .ptr 1 0), (4, .ptr 3 0)], [bS l16, .cells [.i a0_, .slice 0 0 a1_.length a1_.length 9], .cells (cF a2_ a3_ a4_ a5_ a6_), bZ, .cells [.i name_9, .i r10]]) (ofG 53 [(2, .ptr 1 0), (4, .ptr 2 0)], [bS l16, .cells [.i a0_, .slice 0 0 l16.length l16.length 9], bZ]) from (Sub.norm [] [some 0, some 1, some 3] (by rw [hB]; rfl) rfl (.keep (.ptr rfl) (.keep (.ptr rfl) .nil)) (.keep rfl (.same fa) rfl rfl (.keep rfl (.cells (qf.cons (.same nI) (qf.cons (.sliceE rfl ((xk e_l14).trans (xk e_l16))) qf.nil))) rfl rfl (.keep rfl (.same (qg.cons nI (qg.cons (qC.nilslice) qg.nil))) rfl rfl .nil))))).trans (Sub.refl _))
    intro _ hsub
    refine Goes.sub hsub ?_
    refine sq (Goes.rg fol [(4, .ptr 2 0), (5, .i 0)] [bS l17, .cells [.i a0_, .slice 0 0 l17.length l17.length 9], .cells [.i a0_, .slice 0 0 l17.length l17.length 9]] ?_)
    refine Goes.ret ?_
    simp only [Option.some.injEq, Prod.mk.injEq] at h
    obtain ⟨rfl, rfl⟩ := h
    exact (Goes.retH (xs := [.agg [.i a0_, .slice 0 0 l17.length l17.length 9], .i 0]) (by kernel_rfl) (Sub.norm [] [some 0] (by rw [hB]; rfl) rfl (.keep (.tupleL (qf.cons (.aggL (qf.cons (.same nI) (qf.cons (.slice rfl) qf.nil))) (qf.cons (.same nI) qf.nil))) .nil) (.keep rfl (.same fa) rfl rfl .nil)))
def vI (N : Nat) (a0_ : Int) (a1_ : List qc) (a2_ : Int) (a3_ : Str) (a4_ : List Str) (a5_ : List Int) (a6_ : Str) : Option ((List qc) × Int) :=
  (idx a5_ 0).bind fun x3 =>
  (idx a5_ 1).bind fun x4 =>
  (idx a4_ 0).bind fun x5 =>
  (kD N a0_ a1_ x5 x3).bind fun (i7, ok8, name_9) =>
  if (!decide (name_9 = 0)) = true then
  some (a1_, name_9)
  else
  ((match ok8 with
  | false =>
  none
  | true =>
  (idx a1_ i7).bind fun x11 =>
  (zU x11 x3).bind fun r12 =>
  (kg (!r12) 24).bind fun r13 =>
  (kg (decide (x4 > x11.Limit)) 31).bind fun r14 =>
  (zf N ([r13, r14] : List Int)).bind fun r15 =>
  some (r13, r14, r15)) : Option (Int × Int × Int)).bind fun (n16, n17, bad_18) =>
  if (!decide (bad_18 = 0)) = true then
  some (a1_, bad_18)
  else
  (idx a1_ i7).bind fun x21 =>
  (put a1_ i7 (⟨x21.Name, x21.Batch, x21.Born, x21.Last, x21.Uses, w64 (x21.Used + 1), x21.Limit, x21.Until, x21.Gone⟩ : qc)).bind fun l22 =>
  some (l22, 0)
theorem qcg (N : Nat) (a0_ : Int) (a1_ : List qc) (a2_ : Int) (a3_ : Str) (a4_ : List Str) (a5_ : List Int) (a6_ : Str) {l1 : List qc} {e_2 : Int} (h : vI N a0_ a1_ a2_ a3_ a4_ a5_ a6_ = some (l1, e_2)) : qy Tryz.prog (.fn 143) [.agg [.i a0_, .slice 0 0 a1_.length a1_.length 9], .agg (cF a2_ a3_ a4_ a5_ a6_)] [bS a1_] (.tuple [.agg [.i a0_, .slice 0 0 l1.length l1.length 9], .i e_2]) [bS l1] := by
  unfold vI at h
  refine Goes.fnH Tryz.func143 rfl rfl (m := 60) rfl (rs := [.cell 4 31, .tmp 5]) rfl (l := [(0, .agg [.i a0_, .slice 0 0 a1_.length a1_.length 9]), (1, .agg (cF a2_ a3_ a4_ a5_ a6_))]) rfl ?_
  intro B hB
  refine sq (Goes.rg fol [(2, .ptr 1 0), (3, .ptr 2 0), (4, .ptr 3 0)] [bS a1_, .cells [.i a0_, .slice 0 0 a1_.length a1_.length 9], .cells (cF a2_ a3_ a4_ a5_ a6_), bZ] ?_)
  refine sq ?_
  obtain ⟨x3, e_x3, h⟩ := bnd h
  obtain ⟨x4, e_x4, h⟩ := bnd h
  refine Goes.rp fol [2, 3, 6, 7] [(2, .ptr 1 0), (3, .ptr 2 0), (4, .ptr 3 0), (6, .i x3), (7, .i x4)] [bS a1_, .cells [.i a0_, .slice 0 0 a1_.length a1_.length 9], .cells (cF a2_ a3_ a4_ a5_ a6_), bZ] [.done (.opt (qd Tryz.prog 24 (vl encI a5_) (.i 0))) (.fptr (a5_.flatMap encI.c) ((0 : Int).toNat * 1 + 0)), .done (qx Tryz.prog 3 (.fptr (a5_.flatMap encI.c) ((0 : Int).toNat * 1 + 0))) (.i x3), .done (.opt (qd Tryz.prog 24 (vl encI a5_) (.i 1))) (.fptr (a5_.flatMap encI.c) ((1 : Int).toNat * 1 + 0)), .done (qx Tryz.prog 3 (.fptr (a5_.flatMap encI.c) ((1 : Int).toNat * 1 + 0))) (.i x4)] (an (qB zA (E := encI) rfl e_x3) (an (qA ce3 (E := encI) rfl e_x3 (nl rfl) rfl) (an (qB zA (E := encI) rfl e_x4) (an (qA ce3 (E := encI) rfl e_x4 (nl rfl) rfl) trivial)))) ?_
  refine sq ?_
  obtain ⟨x5, e_x5, h⟩ := bnd h
  obtain ⟨⟨i7, ok8, name_9⟩, e_r6, h⟩ := bnd h
  try dsimp only at h
  refine Goes.rp fol [3, 4, 6] [(2, .ptr 1 0), (4, .ptr 3 0), (6, .i x3), (7, .i x4), (8, pz ok8 0 ((i7 : Int).toNat * 9 + 0)), (9, .i name_9)] [bS a1_, .cells [.i a0_, .slice 0 0 a1_.length a1_.length 9], .cells (cF a2_ a3_ a4_ a5_ a6_), bZ] [.done (.opt (qd Tryz.prog 23 (vl encS a4_) (.i 0))) (.fptr (a4_.flatMap encS.c) ((0 : Int).toNat * 1 + 0)), .done (qx Tryz.prog 9 (.fptr (a4_.flatMap encS.c) ((0 : Int).toNat * 1 + 0))) (.str x5), .callH 182 [.agg [.i a0_, .slice 0 0 a1_.length a1_.length 9], .str x5, .i x3] [bS a1_, .cells [.i a0_, .slice 0 0 a1_.length a1_.length 9], .cells (cF a2_ a3_ a4_ a5_ a6_), bZ] [0] (.tuple [pz ok8 0 ((i7 : Int).toNat * 9 + 0), .i name_9]) [bS a1_, .cells [.i a0_, .slice 0 0 a1_.length a1_.length 9], .cells (cF a2_ a3_ a4_ a5_ a6_), bZ]] (an (qB qaq (E := encS) rfl e_x5) (an (qA ce9 (E := encS) rfl e_x5 (nl rfl) rfl) (an (je [some 0] [some 0, none, none, none] (jC N a0_ a1_ x5 x3 e_r6) (.keep rfl (.same fa) rfl rfl .nil) rfl rfl (.back rfl rfl (.same fa) rfl (.old rfl rfl (.old rfl rfl (.old rfl rfl .nil)))) (qf.cons (.aggL (qf.cons (.same nI) (qf.cons (.slice rfl) qf.nil))) (qf.cons (.same nS) (qf.cons (.same nI) qf.nil))) (.tupleL (qf.cons ((qM.pz rfl)) (qf.cons (.same nI) qf.nil))) rfl) trivial))) ?_
  refine sq ?_
  refine sq (Goes.rg fol [(2, .ptr 1 0), (4, .ptr 3 0), (6, .i x3), (7, .i x4), (8, pz ok8 0 ((i7 : Int).toNat * 9 + 0)), (9, .i name_9), (29, .bool (!decide (name_9 = 0)))] [bS a1_, .cells [.i a0_, .slice 0 0 a1_.length a1_.length 9], .cells (cF a2_ a3_ a4_ a5_ a6_), bZ] ?_)
  refine Goes.ifB (b := !decide (name_9 = 0)) (by kernel_rfl) (fun c10 => ?_) (fun c10 => ?_)
  · rw [if_pos (c10)] at h
    refine sq (Goes.rg fol [(4, .ptr 3 0), (5, .i name_9)] [bS a1_, .cells [.i a0_, .slice 0 0 a1_.length a1_.length 9], .cells (cF a2_ a3_ a4_ a5_ a6_), .cells [.i a0_, .slice 0 0 a1_.length a1_.length 9]] ?_)
    refine Goes.ret ?_
    simp only [Option.some.injEq, Prod.mk.injEq] at h
    obtain ⟨rfl, rfl⟩ := h
    exact (Goes.retH (xs := [.agg [.i a0_, .slice 0 0 a1_.length a1_.length 9], .i name_9]) (by kernel_rfl) (Sub.norm [] [some 0] (by rw [hB]; rfl) rfl (.keep (.tupleL (qf.cons (.aggL (qf.cons (.same nI) (qf.cons (.slice rfl) qf.nil))) (qf.cons (.same nI) qf.nil))) .nil) (.keep rfl (.same fa) rfl rfl .nil)))
  · rw [if_neg (nb c10)] at h
    refine Goes.skip ?_
    refine sq ?_
    refine sq ?_
    obtain ⟨⟨n16, n17, bad_18⟩, g_v19, h⟩ := bnd h
    refine Goes.cut (s' := (ofG 60 [(2, .ptr 1 0), (4, .ptr 3 0), (8, .ptr 0 ((i7 : Int).toNat * 9 + 0)), (9, .i bad_18)], [bS a1_, .cells [.i a0_, .slice 0 0 a1_.length a1_.length 9], .cells (cF a2_ a3_ a4_ a5_ a6_), bZ, .cells [.i n16, .i n17]])) ?_ ?_
    · rcases ok8 with _ | _
      · try dsimp only at g_v19
        cases g_v19
      · try dsimp only at g_v19
        obtain ⟨x11, e_x11, g_v19⟩ := bnd g_v19
        obtain ⟨r12, e_r12, g_v19⟩ := bnd g_v19
        obtain ⟨r13, e_r13, g_v19⟩ := bnd g_v19
        obtain ⟨r14, e_r14, g_v19⟩ := bnd g_v19
        obtain ⟨r15, e_r15, g_v19⟩ := bnd g_v19
        simp only [Option.some.injEq, Prod.mk.injEq] at g_v19
        obtain ⟨rfl, rfl, rfl⟩ := g_v19
        exact qm.rp fol [2, 4, 6, 11, 13, 15] [(2, .ptr 1 0), (4, .ptr 3 0), (8, .ptr 0 ((i7 : Int).toNat * 9 + 0)), (9, .i r15)] [bS a1_, .cells [.i a0_, .slice 0 0 a1_.length a1_.length 9], .cells (cF a2_ a3_ a4_ a5_ a6_), bZ, .cells [.i r13, .i r14]] [.run [0] (qx Tryz.prog 68 (.ptr 0 ((i7 : Int).toNat * 9 + 0))) [bS a1_, .cells [.i a0_, .slice 0 0 a1_.length a1_.length 9], .cells (cF a2_ a3_ a4_ a5_ a6_), bZ] (.agg (cS x11)) [bS a1_, .cells [.i a0_, .slice 0 0 a1_.length a1_.length 9], .cells (cF a2_ a3_ a4_ a5_ a6_), bZ] false, .call 96 [.agg (cS x11), .i x3] [bS a1_, .cells [.i a0_, .slice 0 0 a1_.length a1_.length 9], .cells (cF a2_ a3_ a4_ a5_ a6_), bZ] [] [.agg (cS x11), .i x3] (.bool r12), .call 88 [.bool (!r12), .i 24] [bS a1_, .cells [.i a0_, .slice 0 0 a1_.length a1_.length 9], .cells (cF a2_ a3_ a4_ a5_ a6_), bZ] [] [.bool (!r12), .i 24] (.i r13), .run [0] (qx Tryz.prog 3 (.ptr 0 ((i7 : Int).toNat * 9 + 6))) [bS a1_, .cells [.i a0_, .slice 0 0 a1_.length a1_.length 9], .cells (cF a2_ a3_ a4_ a5_ a6_), bZ] (.i x11.Limit) [bS a1_, .cells [.i a0_, .slice 0 0 a1_.length a1_.length 9], .cells (cF a2_ a3_ a4_ a5_ a6_), bZ] false, .call 88 [.bool (decide (x4 > x11.Limit)), .i 31] [bS a1_, .cells [.i a0_, .slice 0 0 a1_.length a1_.length 9], .cells (cF a2_ a3_ a4_ a5_ a6_), bZ] [] [.bool (decide (x4 > x11.Limit)), .i 31] (.i r14), .call 86 [.slice 4 0 2 2 1] [bS a1_, .cells [.i a0_, .slice 0 0 a1_.length a1_.length 9], .cells (cF a2_ a3_ a4_ a5_ a6_), bZ, .cells [.i r13, .i r14]] [4] [vl encI ([r13, r14] : List Int)] (.i r15)] (an (qh1 qhk (E := qa) (l := a1_) rfl rfl e_x11) (an (qo (AllST.cons (Still.agg (AllST.cons tS (AllST.cons tS (AllST.cons tI (AllST.cons tI (AllST.cons tI (AllST.cons tI (AllST.cons tI (AllST.cons tI (AllST.cons tB AllST.nil)))))))))) (AllST.cons tI AllST.nil)) (yJ x11 x3 e_r12) tB) (an (qo (AllST.cons tB (AllST.cons tI AllST.nil)) (qN (!r12) 24 e_r13) tI) (an (qeI ce3 (E := qa) (l := a1_) rfl rfl e_x11 (nl rfl) rfl) (an (qo (AllST.cons tB (AllST.cons tI AllST.nil)) (qN (decide (x4 > x11.Limit)) 31 e_r14) tI) (an (xz (FzL.cons (Fz.lit rfl rfl (FzL.still (AllST.cons tI (AllST.cons tI AllST.nil)))) FzL.nil) (zN N ([r13, r14] : List Int) e_r15) tI rfl) trivial))))))
    try dsimp only at h
    refine sq (Goes.rg fol [(2, .ptr 1 0), (4, .ptr 3 0), (8, .ptr 0 ((i7 : Int).toNat * 9 + 0)), (9, .i bad_18), (49, .bool (!decide (bad_18 = 0)))] [bS a1_, .cells [.i a0_, .slice 0 0 a1_.length a1_.length 9], .cells (cF a2_ a3_ a4_ a5_ a6_), bZ, .cells [.i n16, .i n17]] ?_)
    refine Goes.ifB (b := !decide (bad_18 = 0)) (by kernel_rfl) (fun c20 => ?_) (fun c20 => ?_)
    · rw [if_pos (c20)] at h
      refine sq (Goes.rg fol [(4, .ptr 3 0), (5, .i bad_18)] [bS a1_, .cells [.i a0_, .slice 0 0 a1_.length a1_.length 9], .cells (cF a2_ a3_ a4_ a5_ a6_), .cells [.i a0_, .slice 0 0 a1_.length a1_.length 9], .cells [.i n16, .i n17]] ?_)
      refine Goes.ret ?_
      simp only [Option.some.injEq, Prod.mk.injEq] at h
      obtain ⟨rfl, rfl⟩ := h
      exact (Goes.retH (xs := [.agg [.i a0_, .slice 0 0 a1_.length a1_.length 9], .i bad_18]) (by kernel_rfl) (Sub.norm [] [some 0] (by rw [hB]; rfl) rfl (.keep (.tupleL (qf.cons (.aggL (qf.cons (.same nI) (qf.cons (.slice rfl) qf.nil))) (qf.cons (.same nI) qf.nil))) .nil) (.keep rfl (.same fa) rfl rfl .nil)))
    · rw [if_neg (nb c20)] at h
      refine Goes.skip ?_
      refine sq ?_
      obtain ⟨x21, e_x21, h⟩ := bnd h
      obtain ⟨l22, e_l22, h⟩ := bnd h
      refine Goes.rp fol [3, 7] [(2, .ptr 1 0), (4, .ptr 3 0)] [bS l22, .cells [.i a0_, .slice 0 0 a1_.length a1_.length 9], .cells (cF a2_ a3_ a4_ a5_ a6_), bZ, .cells [.i n16, .i n17]] [.run [0] (qx Tryz.prog 3 (.ptr 0 ((i7 : Int).toNat * 9 + 5))) [bS a1_, .cells [.i a0_, .slice 0 0 a1_.length a1_.length 9], .cells (cF a2_ a3_ a4_ a5_ a6_), bZ, .cells [.i n16, .i n17]] (.i x21.Used) [bS a1_, .cells [.i a0_, .slice 0 0 a1_.length a1_.length 9], .cells (cF a2_ a3_ a4_ a5_ a6_), bZ, .cells [.i n16, .i n17]] false, .run [0] (yw Tryz.prog 3 (.ptr 0 ((i7 : Int).toNat * 9 + 5)) (.i (w64 (x21.Used + 1)))) [bS a1_, .cells [.i a0_, .slice 0 0 a1_.length a1_.length 9], .cells (cF a2_ a3_ a4_ a5_ a6_), bZ, .cells [.i n16, .i n17]] .undef [bS l22, .cells [.i a0_, .slice 0 0 a1_.length a1_.length 9], .cells (cF a2_ a3_ a4_ a5_ a6_), bZ, .cells [.i n16, .i n17]] true] (an (qeI ce3 (E := qa) (l := a1_) rfl rfl e_x21 (nl rfl) rfl) (an (qb3 (E := qa) (l := a1_) (y := (⟨x21.Name, x21.Batch, x21.Born, x21.Last, x21.Uses, w64 (x21.Used + 1), x21.Limit, x21.Until, x21.Gone⟩ : qc)) rfl (show _ = some 1 by kernel_rfl) rfl e_x21 rfl rfl rfl rfl rfl e_l22 rfl) trivial)) ?_
      refine Goes.sub (show Sub (ofG 60 [(2, .ptr 1 0), (4, .ptr 3 0)], [bS l22, .cells [.i a0_, .slice 0 0 a1_.length a1_.length 9], .cells (cF a2_ a3_ a4_ a5_ a6_), bZ, .cells [.i n16, .i n17]]) (ofG 60 [(2, .ptr 1 0), (4, .ptr 2 0)], [bS l22, .cells [.i a0_, .slice 0 0 l22.length l22.length 9], bZ]) from (Sub.norm [] [some 0, some 1, some 3] (by rw [hB]; rfl) rfl (.keep (.ptr rfl) (.keep (.ptr rfl) .nil)) (.keep rfl (.same fa) rfl rfl (.keep rfl (.cells (qf.cons (.same nI) (qf.cons (.sliceE rfl (xk e_l22)) qf.nil))) rfl rfl (.keep rfl (.same (qg.cons nI (qg.cons (qC.nilslice) qg.nil))) rfl rfl .nil))))) ?_
      refine sq (Goes.rg fol [(4, .ptr 2 0), (5, .i 0)] [bS l22, .cells [.i a0_, .slice 0 0 l22.length l22.length 9], .cells [.i a0_, .slice 0 0 l22.length l22.length 9]] ?_)
      refine Goes.ret ?_
      simp only [Option.some.injEq, Prod.mk.injEq] at h
      obtain ⟨rfl, rfl⟩ := h
      exact (Goes.retH (xs := [.agg [.i a0_, .slice 0 0 l22.length l22.length 9], .i 0]) (by kernel_rfl) (Sub.norm [] [some 0] (by rw [hB]; rfl) rfl (.keep (.tupleL (qf.cons (.aggL (qf.cons (.same nI) (qf.cons (.slice rfl) qf.nil))) (qf.cons (.same nI) qf.nil))) .nil) (.keep rfl (.same fa) rfl rfl .nil)))
def jS (N : Nat) (a0_ : Int) (a1_ : List qc) (a2_ : Int) (a3_ : Str) (a4_ : List Str) (a5_ : List Int) (a6_ : Str) : Option ((List qc) × Int) :=
  (idx a4_ 0).bind fun x3 =>
  (idx a5_ 0).bind fun x4 =>
  (kD N a0_ a1_ x3 x4).bind fun (i6, ok7, name_8) =>
  if (!decide (name_8 = 0)) = true then
  some (a1_, name_8)
  else
  ((match ok7 with
  | false =>
  none
  | true =>
  (idx a1_ i6).bind fun x10 =>
  (put a1_ i6 (⟨x10.Name, x10.Batch, x10.Born, x10.Last, x10.Uses, x10.Used, x10.Limit, x10.Until, true⟩ : qc)).bind fun l11 =>
  some l11) : Option (List qc)).bind fun l12 =>
  some (l12, 0)
theorem qbj (N : Nat) (a0_ : Int) (a1_ : List qc) (a2_ : Int) (a3_ : Str) (a4_ : List Str) (a5_ : List Int) (a6_ : Str) {l1 : List qc} {e_2 : Int} (h : jS N a0_ a1_ a2_ a3_ a4_ a5_ a6_ = some (l1, e_2)) : qy Tryz.prog (.fn 144) [.agg [.i a0_, .slice 0 0 a1_.length a1_.length 9], .agg (cF a2_ a3_ a4_ a5_ a6_)] [bS a1_] (.tuple [.agg [.i a0_, .slice 0 0 l1.length l1.length 9], .i e_2]) [bS l1] := by
  unfold jS at h
  refine Goes.fnH Tryz.func144 rfl rfl (m := 29) rfl (rs := [.cell 4 31, .tmp 5]) rfl (l := [(0, .agg [.i a0_, .slice 0 0 a1_.length a1_.length 9]), (1, .agg (cF a2_ a3_ a4_ a5_ a6_))]) rfl ?_
  intro B hB
  refine sq (Goes.rg fol [(2, .ptr 1 0), (3, .ptr 2 0), (4, .ptr 3 0)] [bS a1_, .cells [.i a0_, .slice 0 0 a1_.length a1_.length 9], .cells (cF a2_ a3_ a4_ a5_ a6_), bZ] ?_)
  refine sq ?_
  obtain ⟨x3, e_x3, h⟩ := bnd h
  obtain ⟨x4, e_x4, h⟩ := bnd h
  obtain ⟨⟨i6, ok7, name_8⟩, e_r5, h⟩ := bnd h
  try dsimp only at h
  refine Goes.rp fol [3, 4, 7, 8, 9] [(2, .ptr 1 0), (4, .ptr 3 0), (6, pz ok7 0 ((i6 : Int).toNat * 9 + 0)), (7, .i name_8)] [bS a1_, .cells [.i a0_, .slice 0 0 a1_.length a1_.length 9], .cells (cF a2_ a3_ a4_ a5_ a6_), bZ] [.done (.opt (qd Tryz.prog 23 (vl encS a4_) (.i 0))) (.fptr (a4_.flatMap encS.c) ((0 : Int).toNat * 1 + 0)), .done (qx Tryz.prog 9 (.fptr (a4_.flatMap encS.c) ((0 : Int).toNat * 1 + 0))) (.str x3), .done (.opt (qd Tryz.prog 24 (vl encI a5_) (.i 0))) (.fptr (a5_.flatMap encI.c) ((0 : Int).toNat * 1 + 0)), .done (qx Tryz.prog 3 (.fptr (a5_.flatMap encI.c) ((0 : Int).toNat * 1 + 0))) (.i x4), .callH 182 [.agg [.i a0_, .slice 0 0 a1_.length a1_.length 9], .str x3, .i x4] [bS a1_, .cells [.i a0_, .slice 0 0 a1_.length a1_.length 9], .cells (cF a2_ a3_ a4_ a5_ a6_), bZ] [0] (.tuple [pz ok7 0 ((i6 : Int).toNat * 9 + 0), .i name_8]) [bS a1_, .cells [.i a0_, .slice 0 0 a1_.length a1_.length 9], .cells (cF a2_ a3_ a4_ a5_ a6_), bZ]] (an (qB qaq (E := encS) rfl e_x3) (an (qA ce9 (E := encS) rfl e_x3 (nl rfl) rfl) (an (qB zA (E := encI) rfl e_x4) (an (qA ce3 (E := encI) rfl e_x4 (nl rfl) rfl) (an (je [some 0] [some 0, none, none, none] (jC N a0_ a1_ x3 x4 e_r5) (.keep rfl (.same fa) rfl rfl .nil) rfl rfl (.back rfl rfl (.same fa) rfl (.old rfl rfl (.old rfl rfl (.old rfl rfl .nil)))) (qf.cons (.aggL (qf.cons (.same nI) (qf.cons (.slice rfl) qf.nil))) (qf.cons (.same nS) (qf.cons (.same nI) qf.nil))) (.tupleL (qf.cons ((qM.pz rfl)) (qf.cons (.same nI) qf.nil))) rfl) trivial))))) ?_
  refine sq ?_
  refine sq (Goes.rg fol [(2, .ptr 1 0), (4, .ptr 3 0), (6, pz ok7 0 ((i6 : Int).toNat * 9 + 0)), (7, .i name_8), (22, .bool (!decide (name_8 = 0)))] [bS a1_, .cells [.i a0_, .slice 0 0 a1_.length a1_.length 9], .cells (cF a2_ a3_ a4_ a5_ a6_), bZ] ?_)
  refine Goes.ifB (b := !decide (name_8 = 0)) (by kernel_rfl) (fun c9 => ?_) (fun c9 => ?_)
  · rw [if_pos (c9)] at h
    refine sq (Goes.rg fol [(4, .ptr 3 0), (5, .i name_8)] [bS a1_, .cells [.i a0_, .slice 0 0 a1_.length a1_.length 9], .cells (cF a2_ a3_ a4_ a5_ a6_), .cells [.i a0_, .slice 0 0 a1_.length a1_.length 9]] ?_)
    refine Goes.ret ?_
    simp only [Option.some.injEq, Prod.mk.injEq] at h
    obtain ⟨rfl, rfl⟩ := h
    exact (Goes.retH (xs := [.agg [.i a0_, .slice 0 0 a1_.length a1_.length 9], .i name_8]) (by kernel_rfl) (Sub.norm [] [some 0] (by rw [hB]; rfl) rfl (.keep (.tupleL (qf.cons (.aggL (qf.cons (.same nI) (qf.cons (.slice rfl) qf.nil))) (qf.cons (.same nI) qf.nil))) .nil) (.keep rfl (.same fa) rfl rfl .nil)))
  · rw [if_neg (nb c9)] at h
    refine Goes.skip ?_
    refine sq ?_
    obtain ⟨l12, g_v13, h⟩ := bnd h
    refine Goes.cutS (s' := (ofG 29 [(2, .ptr 1 0), (4, .ptr 2 0)], [bS l12, .cells [.i a0_, .slice 0 0 l12.length l12.length 9], bZ])) ?_ ?_
    · rcases ok7 with _ | _
      · try dsimp only at g_v13
        cases g_v13
      · try dsimp only at g_v13
        obtain ⟨x10, e_x10, g_v13⟩ := bnd g_v13
        obtain ⟨l11, e_l11, g_v13⟩ := bnd g_v13
        obtain rfl := si g_v13
        exact qm.sub (qm.rp fol [3] [(2, .ptr 1 0), (4, .ptr 3 0)] [bS l11, .cells [.i a0_, .slice 0 0 a1_.length a1_.length 9], .cells (cF a2_ a3_ a4_ a5_ a6_), bZ] [.run [0] (yw Tryz.prog 4 (.ptr 0 ((i6 : Int).toNat * 9 + 8)) (.bool true)) [bS a1_, .cells [.i a0_, .slice 0 0 a1_.length a1_.length 9], .cells (cF a2_ a3_ a4_ a5_ a6_), bZ] .undef [bS l11, .cells [.i a0_, .slice 0 0 a1_.length a1_.length 9], .cells (cF a2_ a3_ a4_ a5_ a6_), bZ] true] (an (qb3 (E := qa) (l := a1_) (y := (⟨x10.Name, x10.Batch, x10.Born, x10.Last, x10.Uses, x10.Used, x10.Limit, x10.Until, true⟩ : qc)) rfl (show _ = some 1 by kernel_rfl) rfl e_x10 rfl rfl rfl rfl rfl e_l11 rfl) trivial)) ((show Sub (ofG 29 [(2, .ptr 1 0), (4, .ptr 3 0)], [bS l11, .cells [.i a0_, .slice 0 0 a1_.length a1_.length 9], .cells (cF a2_ a3_ a4_ a5_ a6_), bZ]) (ofG 29 [(2, .ptr 1 0), (4, .ptr 2 0)], [bS l11, .cells [.i a0_, .slice 0 0 l11.length l11.length 9], bZ]) from (Sub.norm [] [some 0, some 1, some 3] (by rw [hB]; rfl) rfl (.keep (.ptr rfl) (.keep (.ptr rfl) .nil)) (.keep rfl (.same fa) rfl rfl (.keep rfl (.cells (qf.cons (.same nI) (qf.cons (.sliceE rfl (xk e_l11)) qf.nil))) rfl rfl (.keep rfl (.same (qg.cons nI (qg.cons (qC.nilslice) qg.nil))) rfl rfl .nil))))).trans (Sub.refl _))
    intro _ hsub
    refine Goes.sub hsub ?_
    refine sq (Goes.rg fol [(4, .ptr 2 0), (5, .i 0)] [bS l12, .cells [.i a0_, .slice 0 0 l12.length l12.length 9], .cells [.i a0_, .slice 0 0 l12.length l12.length 9]] ?_)
    refine Goes.ret ?_
    simp only [Option.some.injEq, Prod.mk.injEq] at h
    obtain ⟨rfl, rfl⟩ := h
    exact (Goes.retH (xs := [.agg [.i a0_, .slice 0 0 l12.length l12.length 9], .i 0]) (by kernel_rfl) (Sub.norm [] [some 0] (by rw [hB]; rfl) rfl (.keep (.tupleL (qf.cons (.aggL (qf.cons (.same nI) (qf.cons (.slice rfl) qf.nil))) (qf.cons (.same nI) qf.nil))) .nil) (.keep rfl (.same fa) rfl rfl .nil)))
def qR (a1_ : List qc) (a4_ : List Str) (a5_ : List Int) : Nat → (List qc) → Int → Int → Option ((List qc) × Int)
  | 0, _, _, _ => none
  | K + 1, l3, n4, bad_5 =>
    if n4 < (a1_.length : Int) then
    (((idx l3 n4).bind fun x13 =>
    (idx a4_ 0).bind fun x14 =>
    if (!(x13.Batch == x14)) = true then
    some (l3, bad_5)
    else
    ((if bad_5 = 10 then
    some 20
    else
    some bad_5 : Option Int)).bind fun bad_16 =>
    (idx a5_ 0).bind fun x19 =>
    (kG x13 x19).bind fun r20 =>
    ((if (!r20) = true then
    some 0
    else
    some bad_16 : Option Int)).bind fun bad_21 =>
    (put l3 n4 (⟨x13.Name, x13.Batch, x13.Born, x13.Last, x13.Uses, x13.Used, x13.Limit, x13.Until, true⟩ : qc)).bind fun l24 =>
    some (l24, bad_21) : Option ((List qc) × Int))).bind fun (l10, bad_11) =>
    qR a1_ a4_ a5_ K l10 (w64 (n4 + 1)) bad_11
    else
    some (l3, bad_5)
def jy (N : Nat) (a0_ : Int) (a1_ : List qc) (a2_ : Int) (a3_ : Str) (a4_ : List Str) (a5_ : List Int) (a6_ : Str) : Option ((List qc) × Int) :=
  (qR a1_ a4_ a5_ N a1_ 0 10).bind fun (l6, bad_7) =>
  some (l6, bad_7)
theorem qaJ (N : Nat) (a0_ : Int) (a1_ : List qc) (a2_ : Int) (a3_ : Str) (a4_ : List Str) (a5_ : List Int) (a6_ : Str) {l1 : List qc} {e_2 : Int} (h : jy N a0_ a1_ a2_ a3_ a4_ a5_ a6_ = some (l1, e_2)) : qy Tryz.prog (.fn 145) [.agg [.i a0_, .slice 0 0 a1_.length a1_.length 9], .agg (cF a2_ a3_ a4_ a5_ a6_)] [bS a1_] (.tuple [.agg [.i a0_, .slice 0 0 l1.length l1.length 9], .i e_2]) [bS l1] := by
  unfold jy at h
  refine Goes.fnH Tryz.func145 rfl rfl (m := 45) rfl (rs := [.cell 4 31, .tmp 5]) rfl (l := [(0, .agg [.i a0_, .slice 0 0 a1_.length a1_.length 9]), (1, .agg (cF a2_ a3_ a4_ a5_ a6_))]) rfl ?_
  intro B hB
  refine sq (Goes.rg fol [(2, .ptr 1 0), (3, .ptr 2 0), (4, .ptr 3 0)] [bS a1_, .cells [.i a0_, .slice 0 0 a1_.length a1_.length 9], .cells (cF a2_ a3_ a4_ a5_ a6_), bZ] ?_)
  refine sq (Goes.rg fol [(2, .ptr 1 0), (3, .ptr 2 0), (4, .ptr 3 0), (6, .i 10)] [bS a1_, .cells [.i a0_, .slice 0 0 a1_.length a1_.length 9], .cells (cF a2_ a3_ a4_ a5_ a6_), bZ] ?_)
  refine sq ?_
  refine sq (Goes.rg fol [(2, .ptr 1 0), (3, .ptr 2 0), (4, .ptr 3 0), (6, .i 10), (11, .i (a1_.length : Int)), (12, .i 0)] [bS a1_, .cells [.i a0_, .slice 0 0 a1_.length a1_.length 9], .cells (cF a2_ a3_ a4_ a5_ a6_), bZ] ?_)
  refine Goes.block ?_
  obtain ⟨r8, g8, h⟩ := bnd h
  refine Goes.imp (Q := fun x s' => (x = .exit 0 ∧ ∃ l6 bad_7, (l6, bad_7) = r8 ∧ Sub s' (ofG 45 [(2, .ptr 1 0), (4, .ptr 2 0), (6, .i bad_7)], [bS l6, .cells [.i a0_, .slice 0 0 l6.length l6.length 9], bZ]))) ?_ ?_
  · refine Goes.loopS (fun M s => ∃ (l3 : List qc) (n4 : Int) (bad_5 : Int), s = (ofG 45 [(2, .ptr 1 0), (3, .ptr 2 0), (4, .ptr 3 0), (6, .i bad_5), (11, .i (a1_.length : Int)), (12, .i n4)], [bS l3, .cells [.i a0_, .slice 0 0 l3.length l3.length 9], .cells (cF a2_ a3_ a4_ a5_ a6_), bZ]) ∧ qR a1_ a4_ a5_ M l3 n4 bad_5 = some r8) ?_ (m := N) ⟨_, _, _, rfl, g8⟩
    rintro M s ⟨l3, n4, bad_5, rfl, g8⟩
    cases M with
    | zero => simp only [qR] at g8; cases g8
    | succ M =>
      rw [qR] at g8
      refine sq (Goes.rg fol [(2, .ptr 1 0), (3, .ptr 2 0), (4, .ptr 3 0), (6, .i bad_5), (11, .i (a1_.length : Int)), (12, .i n4), (13, .bool (decide (n4 < (a1_.length : Int))))] [bS l3, .cells [.i a0_, .slice 0 0 l3.length l3.length 9], .cells (cF a2_ a3_ a4_ a5_ a6_), bZ] ?_)
      refine sq ?_
      refine Goes.ifB (b := decide (n4 < (a1_.length : Int))) (by kernel_rfl) (fun c9 => ?_) (fun c9 => ?_)
      · rw [if_pos (ot c9)] at g8
        refine Goes.skip ?_
        refine sq ?_
        obtain ⟨r12, g12, g8⟩ := bnd g8
        refine Goes.imp (Q := fun x s' => (x = .normal ∧ ∃ l10 bad_11, (l10, bad_11) = r12 ∧ Sub s' (ofG 45 [(2, .ptr 1 0), (3, .ptr 2 0), (4, .ptr 3 0), (6, .i bad_11), (11, .i (a1_.length : Int)), (12, .i n4)], [bS l10, .cells [.i a0_, .slice 0 0 l10.length l10.length 9], .cells (cF a2_ a3_ a4_ a5_ a6_), bZ]))) ?_ ?_
        · refine Goes.block ?_
          refine sq (Goes.rg fol [(2, .ptr 1 0), (3, .ptr 2 0), (4, .ptr 3 0), (6, .i bad_5), (7, .i n4), (11, .i (a1_.length : Int)), (12, .i n4)] [bS l3, .cells [.i a0_, .slice 0 0 l3.length l3.length 9], .cells (cF a2_ a3_ a4_ a5_ a6_), bZ] ?_)
          refine sq ?_
          obtain ⟨x13, e_x13, g12⟩ := bnd g12
          refine Goes.rp fol [3] [(2, .ptr 1 0), (3, .ptr 2 0), (4, .ptr 3 0), (6, .i bad_5), (8, .ptr 0 ((n4 : Int).toNat * 9 + 0)), (11, .i (a1_.length : Int)), (12, .i n4)] [bS l3, .cells [.i a0_, .slice 0 0 l3.length l3.length 9], .cells (cF a2_ a3_ a4_ a5_ a6_), bZ] [.done (.opt (qd Tryz.prog 29 (.slice 0 0 l3.length l3.length 9) (.i n4))) (.ptr 0 ((n4 : Int).toNat * 9 + 0))] (an (qjo xK e_x13) trivial) ?_
          refine sq ?_
          refine sq ?_
          obtain ⟨x14, e_x14, g12⟩ := bnd g12
          refine Goes.rp fol [3, 6, 7] [(2, .ptr 1 0), (3, .ptr 2 0), (4, .ptr 3 0), (6, .i bad_5), (8, .ptr 0 ((n4 : Int).toNat * 9 + 0)), (11, .i (a1_.length : Int)), (12, .i n4), (27, .bool (!(x13.Batch == x14)))] [bS l3, .cells [.i a0_, .slice 0 0 l3.length l3.length 9], .cells (cF a2_ a3_ a4_ a5_ a6_), bZ] [.run [0] (qx Tryz.prog 9 (.ptr 0 ((n4 : Int).toNat * 9 + 1))) [bS l3, .cells [.i a0_, .slice 0 0 l3.length l3.length 9], .cells (cF a2_ a3_ a4_ a5_ a6_), bZ] (.str x13.Batch) [bS l3, .cells [.i a0_, .slice 0 0 l3.length l3.length 9], .cells (cF a2_ a3_ a4_ a5_ a6_), bZ] false, .done (.opt (qd Tryz.prog 23 (vl encS a4_) (.i 0))) (.fptr (a4_.flatMap encS.c) ((0 : Int).toNat * 1 + 0)), .done (qx Tryz.prog 9 (.fptr (a4_.flatMap encS.c) ((0 : Int).toNat * 1 + 0))) (.str x14)] (an (qeI ce9 (E := qa) (l := l3) rfl rfl e_x13 (nl rfl) rfl) (an (qB qaq (E := encS) rfl e_x14) (an (qA ce9 (E := encS) rfl e_x14 (nl rfl) rfl) trivial))) ?_
          refine Goes.ifB (b := !(x13.Batch == x14)) (by kernel_rfl) (fun c15 => ?_) (fun c15 => ?_)
          · rw [if_pos (c15)] at g12
            refine Goes.exit ?_
            obtain rfl := si g12
            exact ⟨rfl, _, _, rfl, (Sub.keep [2, 3, 4, 6, 11, 12] rfl rfl)⟩
          · rw [if_neg (nb c15)] at g12
            refine Goes.skip ?_
            refine sq ?_
            refine sq (Goes.rg fol [(2, .ptr 1 0), (3, .ptr 2 0), (4, .ptr 3 0), (6, .i bad_5), (8, .ptr 0 ((n4 : Int).toNat * 9 + 0)), (11, .i (a1_.length : Int)), (12, .i n4), (29, .bool (decide (bad_5 = 10)))] [bS l3, .cells [.i a0_, .slice 0 0 l3.length l3.length 9], .cells (cF a2_ a3_ a4_ a5_ a6_), bZ] ?_)
            obtain ⟨r17, g17, g12⟩ := bnd g12
            refine Goes.imp (Q := fun x s' => (x = .normal ∧ ∃ bad_16, bad_16 = r17 ∧ Sub s' (ofG 45 [(2, .ptr 1 0), (3, .ptr 2 0), (4, .ptr 3 0), (6, .i bad_16), (8, .ptr 0 ((n4 : Int).toNat * 9 + 0)), (11, .i (a1_.length : Int)), (12, .i n4)], [bS l3, .cells [.i a0_, .slice 0 0 l3.length l3.length 9], .cells (cF a2_ a3_ a4_ a5_ a6_), bZ]))) ?_ ?_
            · refine Goes.ifB (b := decide (bad_5 = 10)) (by kernel_rfl) (fun c18 => ?_) (fun c18 => ?_)
              · rw [if_pos (ot c18)] at g17
                refine Goes.rg fol [(2, .ptr 1 0), (3, .ptr 2 0), (4, .ptr 3 0), (6, .i 20), (8, .ptr 0 ((n4 : Int).toNat * 9 + 0)), (11, .i (a1_.length : Int)), (12, .i n4)] [bS l3, .cells [.i a0_, .slice 0 0 l3.length l3.length 9], .cells (cF a2_ a3_ a4_ a5_ a6_), bZ] ?_
                obtain rfl := si g17
                exact ⟨rfl, _, rfl, (Sub.refl _)⟩
              · rw [if_neg (of_ c18)] at g17
                refine Goes.skip ?_
                obtain rfl := si g17
                exact ⟨rfl, _, rfl, (Sub.keep [2, 3, 4, 6, 8, 11, 12] rfl rfl)⟩
            rintro x s' ⟨rfl, bad_16, rfl, hsub⟩
            refine Goes.sub hsub ?_
            refine sq ?_
            refine sq ?_
            obtain ⟨x19, e_x19, g12⟩ := bnd g12
            obtain ⟨r20, e_r20, g12⟩ := bnd g12
            refine Goes.rp fol [2, 5, 6, 7] [(2, .ptr 1 0), (3, .ptr 2 0), (4, .ptr 3 0), (6, .i bad_16), (8, .ptr 0 ((n4 : Int).toNat * 9 + 0)), (11, .i (a1_.length : Int)), (12, .i n4), (38, .bool (!r20))] [bS l3, .cells [.i a0_, .slice 0 0 l3.length l3.length 9], .cells (cF a2_ a3_ a4_ a5_ a6_), bZ] [.run [0] (qx Tryz.prog 68 (.ptr 0 ((n4 : Int).toNat * 9 + 0))) [bS l3, .cells [.i a0_, .slice 0 0 l3.length l3.length 9], .cells (cF a2_ a3_ a4_ a5_ a6_), bZ] (.agg (cS x13)) [bS l3, .cells [.i a0_, .slice 0 0 l3.length l3.length 9], .cells (cF a2_ a3_ a4_ a5_ a6_), bZ] false, .done (.opt (qd Tryz.prog 24 (vl encI a5_) (.i 0))) (.fptr (a5_.flatMap encI.c) ((0 : Int).toNat * 1 + 0)), .done (qx Tryz.prog 3 (.fptr (a5_.flatMap encI.c) ((0 : Int).toNat * 1 + 0))) (.i x19), .call 95 [.agg (cS x13), .i x19] [bS l3, .cells [.i a0_, .slice 0 0 l3.length l3.length 9], .cells (cF a2_ a3_ a4_ a5_ a6_), bZ] [] [.agg (cS x13), .i x19] (.bool r20)] (an (qh1 qhk (E := qa) (l := l3) rfl rfl e_x13) (an (qB zA (E := encI) rfl e_x19) (an (qA ce3 (E := encI) rfl e_x19 (nl rfl) rfl) (an (qo (AllST.cons (Still.agg (AllST.cons tS (AllST.cons tS (AllST.cons tI (AllST.cons tI (AllST.cons tI (AllST.cons tI (AllST.cons tI (AllST.cons tI (AllST.cons tB AllST.nil)))))))))) (AllST.cons tI AllST.nil)) (jk x13 x19 e_r20) tB) trivial)))) ?_
            obtain ⟨r22, g22, g12⟩ := bnd g12
            refine Goes.imp (Q := fun x s' => (x = .normal ∧ ∃ bad_21, bad_21 = r22 ∧ Sub s' (ofG 45 [(2, .ptr 1 0), (3, .ptr 2 0), (4, .ptr 3 0), (6, .i bad_21), (8, .ptr 0 ((n4 : Int).toNat * 9 + 0)), (11, .i (a1_.length : Int)), (12, .i n4)], [bS l3, .cells [.i a0_, .slice 0 0 l3.length l3.length 9], .cells (cF a2_ a3_ a4_ a5_ a6_), bZ]))) ?_ ?_
            · refine Goes.ifB (b := !r20) (by kernel_rfl) (fun c23 => ?_) (fun c23 => ?_)
              · rw [if_pos (c23)] at g22
                refine Goes.rg fol [(2, .ptr 1 0), (3, .ptr 2 0), (4, .ptr 3 0), (6, .i 0), (8, .ptr 0 ((n4 : Int).toNat * 9 + 0)), (11, .i (a1_.length : Int)), (12, .i n4)] [bS l3, .cells [.i a0_, .slice 0 0 l3.length l3.length 9], .cells (cF a2_ a3_ a4_ a5_ a6_), bZ] ?_
                obtain rfl := si g22
                exact ⟨rfl, _, rfl, (Sub.refl _)⟩
              · rw [if_neg (nb c23)] at g22
                refine Goes.skip ?_
                obtain rfl := si g22
                exact ⟨rfl, _, rfl, (Sub.keep [2, 3, 4, 6, 8, 11, 12] rfl rfl)⟩
            rintro x s' ⟨rfl, bad_21, rfl, hsub⟩
            refine Goes.sub hsub ?_
            obtain ⟨l24, e_l24, g12⟩ := bnd g12
            refine Goes.rp fol [3] [(2, .ptr 1 0), (3, .ptr 2 0), (4, .ptr 3 0), (6, .i bad_21), (11, .i (a1_.length : Int)), (12, .i n4)] [bS l24, .cells [.i a0_, .slice 0 0 l3.length l3.length 9], .cells (cF a2_ a3_ a4_ a5_ a6_), bZ] [.run [0] (yw Tryz.prog 4 (.ptr 0 ((n4 : Int).toNat * 9 + 8)) (.bool true)) [bS l3, .cells [.i a0_, .slice 0 0 l3.length l3.length 9], .cells (cF a2_ a3_ a4_ a5_ a6_), bZ] .undef [bS l24, .cells [.i a0_, .slice 0 0 l3.length l3.length 9], .cells (cF a2_ a3_ a4_ a5_ a6_), bZ] true] (an (qb3 (E := qa) (l := l3) (y := (⟨x13.Name, x13.Batch, x13.Born, x13.Last, x13.Uses, x13.Used, x13.Limit, x13.Until, true⟩ : qc)) rfl (show _ = some 1 by kernel_rfl) rfl e_x13 rfl rfl rfl rfl rfl e_l24 rfl) trivial) ?_
            obtain rfl := si g12
            exact ⟨rfl, _, _, rfl, ((show Sub (ofG 45 [(2, .ptr 1 0), (3, .ptr 2 0), (4, .ptr 3 0), (6, .i bad_21), (11, .i (a1_.length : Int)), (12, .i n4)], [bS l24, .cells [.i a0_, .slice 0 0 l3.length l3.length 9], .cells (cF a2_ a3_ a4_ a5_ a6_), bZ]) (ofG 45 [(2, .ptr 1 0), (3, .ptr 2 0), (4, .ptr 3 0), (6, .i bad_21), (11, .i (a1_.length : Int)), (12, .i n4)], [bS l24, .cells [.i a0_, .slice 0 0 l24.length l24.length 9], .cells (cF a2_ a3_ a4_ a5_ a6_), bZ]) from (Sub.norm [] [some 0, some 1, some 2, some 3] (by rw [hB]; rfl) rfl (.keep (.ptr rfl) (.keep (.ptr rfl) (.keep (.ptr rfl) (.keep (.same nI) (.keep (.same nI) (.keep (.same nI) .nil)))))) (.keep rfl (.same fa) rfl rfl (.keep rfl (.cells (qf.cons (.same nI) (qf.cons (.sliceE rfl (xk e_l24)) qf.nil))) rfl rfl (.keep rfl (.same (qg.cons nI (qg.cons nS (qg.cons (qj encS _) (qg.cons (qj encI _) (qg.cons nS qg.nil)))))) rfl rfl (.keep rfl (.same (qg.cons nI (qg.cons (qC.nilslice) qg.nil))) rfl rfl .nil)))))).trans (Sub.refl _))⟩
        rintro x s' ⟨rfl, l10, bad_11, rfl, hsub⟩
        try dsimp only at g8
        refine Goes.sub hsub ?_
        refine Goes.rg fol [(2, .ptr 1 0), (3, .ptr 2 0), (4, .ptr 3 0), (6, .i bad_11), (11, .i (a1_.length : Int)), (12, .i (w64 (n4 + 1)))] [bS l10, .cells [.i a0_, .slice 0 0 l10.length l10.length 9], .cells (cF a2_ a3_ a4_ a5_ a6_), bZ] ?_
        exact ⟨M, (ofG 45 [(2, .ptr 1 0), (3, .ptr 2 0), (4, .ptr 3 0), (6, .i bad_11), (11, .i (a1_.length : Int)), (12, .i (w64 (n4 + 1)))], [bS l10, .cells [.i a0_, .slice 0 0 l10.length l10.length 9], .cells (cF a2_ a3_ a4_ a5_ a6_), bZ]), Nat.lt_succ_self _, (Sub.refl _), _, _, _, rfl, g8⟩
      · rw [if_neg (of_ c9)] at g8
        refine Goes.exit ?_
        obtain rfl := si g8
        exact ⟨rfl, _, _, rfl, (Sub.norm [] [some 0, some 1, some 3] (by rw [hB]; rfl) rfl (.keep (.ptr rfl) (.drop (.keep (.ptr rfl) (.keep (.same nI) .nil)))) (.keep rfl (.same fa) rfl rfl (.keep rfl (.cells (qf.cons (.same nI) (qf.cons (.slice rfl) qf.nil))) rfl rfl (.keep rfl (.same (qg.cons nI (qg.cons (qC.nilslice) qg.nil))) rfl rfl .nil))))⟩
  rintro x s' ⟨rfl, l6, bad_7, rfl, hsub⟩
  try dsimp only at h
  refine Goes.sub hsub ?_
  refine sq (Goes.rg fol [(4, .ptr 2 0), (5, .i bad_7)] [bS l6, .cells [.i a0_, .slice 0 0 l6.length l6.length 9], .cells [.i a0_, .slice 0 0 l6.length l6.length 9]] ?_)
  refine Goes.ret ?_
  simp only [Option.some.injEq, Prod.mk.injEq] at h
  obtain ⟨rfl, rfl⟩ := h
  exact (Goes.retH (xs := [.agg [.i a0_, .slice 0 0 l6.length l6.length 9], .i bad_7]) (by kernel_rfl) (Sub.norm [] [some 0] (by rw [hB]; rfl) rfl (.keep (.tupleL (qf.cons (.aggL (qf.cons (.same nI) (qf.cons (.slice rfl) qf.nil))) (qf.cons (.same nI) qf.nil))) .nil) (.keep rfl (.same fa) rfl rfl .nil)))
def qE (N : Nat) (a0_ : Int) (a1_ : List qc) (a2_ : Int) (a3_ : Str) (a4_ : List Str) (a5_ : List Int) (a6_ : Str) : Option (Int × (List qc) × Int) :=
  (idx a5_ 0).bind fun x4 =>
  (zP x4).bind fun r5 =>
  (kg (decide (x4 < a0_)) 19).bind fun r6 =>
  (zf N ([r5, r6] : List Int)).bind fun r7 =>
  if (!decide (r7 = 0)) = true then
  some (0, [], r7)
  else
  ((zu).bind fun r9 =>
  if (a3_ == [109, 97, 107, 101]) = true then
  (qz a0_ a1_).bind fun l12 =>
  (vJ N a0_ l12 a2_ a3_ a4_ a5_ a6_).bind fun (l14, e_15) =>
  some (l14, e_15)
  else
  if (a3_ == [116, 101, 115, 116]) = true then
  (qz a0_ a1_).bind fun l18 =>
  (jO N a0_ l18 a2_ a3_ a4_ a5_ a6_).bind fun (l20, e_21) =>
  some (l20, e_21)
  else
  if (a3_ == [117, 115, 101]) = true then
  (qz a0_ a1_).bind fun l24 =>
  (vI N a0_ l24 a2_ a3_ a4_ a5_ a6_).bind fun (l26, e_27) =>
  some (l26, e_27)
  else
  if (a3_ == [102, 97, 105, 108]) = true then
  (qz a0_ a1_).bind fun l30 =>
  (jS N a0_ l30 a2_ a3_ a4_ a5_ a6_).bind fun (l32, e_33) =>
  some (l32, e_33)
  else
  if (a3_ == [114, 101, 99, 97, 108, 108]) = true then
  (qz a0_ a1_).bind fun l36 =>
  (jy N a0_ l36 a2_ a3_ a4_ a5_ a6_).bind fun (l38, e_39) =>
  some (l38, e_39)
  else
  if (a3_ == [117, 110, 100, 111]) = true then
  none
  else
  none : Option ((List qc) × Int)).bind fun (l45, bad_46) =>
  some (x4, l45, bad_46)
theorem xh (N : Nat) (a0_ : Int) (a1_ : List qc) (a2_ : Int) (a3_ : Str) (a4_ : List Str) (a5_ : List Int) (a6_ : Str) {n1 : Int} {l2 : List qc} {e_3 : Int} (h : qE N a0_ a1_ a2_ a3_ a4_ a5_ a6_ = some (n1, l2, e_3)) : qy Tryz.prog (.fn 147) [.agg [.i a0_, vl qa a1_], .agg (cF a2_ a3_ a4_ a5_ a6_)] [] (.tuple [.agg [.i n1, vl qa l2], .i e_3]) [] := by
  unfold qE at h
  refine Goes.fnH Tryz.func147 rfl rfl (m := 43) rfl (rs := [.cell 4 31, .tmp 5]) rfl (l := [(0, .agg [.i a0_, vl qa a1_]), (1, .agg (cF a2_ a3_ a4_ a5_ a6_))]) rfl ?_
  intro B hB
  refine sq (Goes.rg fol [(2, .ptr 0 0), (3, .ptr 1 0), (4, .ptr 2 0)] [.cells [.i a0_, vl qa a1_], .cells (cF a2_ a3_ a4_ a5_ a6_), bZ] ?_)
  refine sq ?_
  obtain ⟨x4, e_x4, h⟩ := bnd h
  refine Goes.rp fol [2, 3] [(2, .ptr 0 0), (3, .ptr 1 0), (4, .ptr 2 0), (6, .i x4)] [.cells [.i a0_, vl qa a1_], .cells (cF a2_ a3_ a4_ a5_ a6_), bZ] [.done (.opt (qd Tryz.prog 24 (vl encI a5_) (.i 0))) (.fptr (a5_.flatMap encI.c) ((0 : Int).toNat * 1 + 0)), .done (qx Tryz.prog 3 (.fptr (a5_.flatMap encI.c) ((0 : Int).toNat * 1 + 0))) (.i x4)] (an (qB zA (E := encI) rfl e_x4) (an (qA ce3 (E := encI) rfl e_x4 (nl rfl) rfl) trivial)) ?_
  refine sq ?_
  refine sq ?_
  obtain ⟨r5, e_r5, h⟩ := bnd h
  obtain ⟨r6, e_r6, h⟩ := bnd h
  obtain ⟨r7, e_r7, h⟩ := bnd h
  refine Goes.rp fol [1, 6, 8] [(2, .ptr 0 0), (3, .ptr 1 0), (4, .ptr 2 0), (6, .i x4), (7, .i r7)] [.cells [.i a0_, vl qa a1_], .cells (cF a2_ a3_ a4_ a5_ a6_), bZ, .cells [.i r5, .i r6]] [.call 94 [.i x4] [.cells [.i a0_, vl qa a1_], .cells (cF a2_ a3_ a4_ a5_ a6_), bZ] [] [.i x4] (.i r5), .call 88 [.bool (decide (x4 < a0_)), .i 19] [.cells [.i a0_, vl qa a1_], .cells (cF a2_ a3_ a4_ a5_ a6_), bZ] [] [.bool (decide (x4 < a0_)), .i 19] (.i r6), .call 86 [.slice 3 0 2 2 1] [.cells [.i a0_, vl qa a1_], .cells (cF a2_ a3_ a4_ a5_ a6_), bZ, .cells [.i r5, .i r6]] [3] [vl encI ([r5, r6] : List Int)] (.i r7)] (an (qo (AllST.cons tI AllST.nil) (j4 x4 e_r5) tI) (an (qo (AllST.cons tB (AllST.cons tI AllST.nil)) (qN (decide (x4 < a0_)) 19 e_r6) tI) (an (xz (FzL.cons (Fz.lit rfl rfl (FzL.still (AllST.cons tI (AllST.cons tI AllST.nil)))) FzL.nil) (zN N ([r5, r6] : List Int) e_r7) tI rfl) trivial))) ?_
  refine sq (Goes.rg fol [(2, .ptr 0 0), (3, .ptr 1 0), (4, .ptr 2 0), (6, .i x4), (7, .i r7), (24, .bool (!decide (r7 = 0)))] [.cells [.i a0_, vl qa a1_], .cells (cF a2_ a3_ a4_ a5_ a6_), bZ, .cells [.i r5, .i r6]] ?_)
  refine Goes.ifB (b := !decide (r7 = 0)) (by kernel_rfl) (fun c8 => ?_) (fun c8 => ?_)
  · rw [if_pos (c8)] at h
    refine sq (Goes.rg fol [(4, .ptr 2 0), (5, .i r7)] [.cells [.i a0_, vl qa a1_], .cells (cF a2_ a3_ a4_ a5_ a6_), bZ, .cells [.i r5, .i r6]] ?_)
    refine Goes.ret ?_
    simp only [Option.some.injEq, Prod.mk.injEq] at h
    obtain ⟨rfl, rfl, rfl⟩ := h
    exact (Goes.retH (xs := [.agg [.i 0, .nilslice], .i r7]) (by kernel_rfl) (Sub.norm [] [] (by rw [hB]; rfl) rfl (.keep (.tupleL (qf.cons (.aggL (qf.cons (.same nI) (qf.cons (.nilv) qf.nil))) (qf.cons (.same nI) qf.nil))) .nil) .nil))
  · rw [if_neg (nb c8)] at h
    refine Goes.skip ?_
    refine sq ?_
    obtain ⟨⟨l45, bad_46⟩, g_v47, h⟩ := bnd h
    refine Goes.cutS (s' := (ofG 43 [(4, .ptr 0 0), (6, .i x4), (8, .ptr 1 0), (9, .i bad_46)], [bZ, .cells [.i a0_, vl qa l45]])) ?_ ?_
    · obtain ⟨r9, e_r9, g_v47⟩ := bnd g_v47
      rcases Bool.eq_false_or_eq_true (a3_ == [109, 97, 107, 101]) with c10 | c10
      · rw [if_pos (c10)] at g_v47
        obtain ⟨l12, e_r11, g_v47⟩ := bnd g_v47
        obtain ⟨⟨l14, e_15⟩, e_r13, g_v47⟩ := bnd g_v47
        try dsimp only at g_v47
        simp only [Option.some.injEq, Prod.mk.injEq] at g_v47
        obtain ⟨rfl, rfl⟩ := g_v47
        exact qm.sub (qm.rp fol [0, 3, 6, 8] [(4, .ptr 2 0), (6, .i x4), (8, .ptr 5 0), (9, .i e_15)] [.cells [.i a0_, vl qa a1_], .cells (cF a2_ a3_ a4_ a5_ a6_), bZ, .cells [.i r5, .i r6], .dead, .cells [.i a0_, vl qa l14]] [.call 85 [] [.cells [.i a0_, vl qa a1_], .cells (cF a2_ a3_ a4_ a5_ a6_), bZ, .cells [.i r5, .i r6]] [] [] fm1, .done (qp Tryz.prog 154 (fm1) (.str a3_) false) (.agg [.i 2, .i 3, .func (.func 141) [] []]), .callH 82 [.agg [.i a0_, vl qa a1_]] [.cells [.i a0_, vl qa a1_], .cells (cF a2_ a3_ a4_ a5_ a6_), bZ, .cells [.i r5, .i r6]] [] (.agg [.i a0_, .slice 4 0 l12.length l12.length 9]) [.cells [.i a0_, vl qa a1_], .cells (cF a2_ a3_ a4_ a5_ a6_), bZ, .cells [.i r5, .i r6], bS l12], .callH 141 [.agg [.i a0_, .slice 4 0 l12.length l12.length 9], .agg (cF a2_ a3_ a4_ a5_ a6_)] [.cells [.i a0_, vl qa a1_], .cells (cF a2_ a3_ a4_ a5_ a6_), bZ, .cells [.i r5, .i r6], bS l12] [4] (.tuple [.agg [.i a0_, vl qa l14], .i e_15]) [.cells [.i a0_, vl qa a1_], .cells (cF a2_ a3_ a4_ a5_ a6_), bZ, .cells [.i r5, .i r6], .dead]] (an (qo AllST.nil (kC e_r9) (Still.fmap (AllST.cons tS (AllST.cons tS (AllST.cons tS (AllST.cons tS (AllST.cons tS (AllST.cons tS AllST.nil)))))) (AllST.cons (Still.agg (AllST.cons tI (AllST.cons tI (AllST.cons (Still.func AllST.nil AllST.nil) AllST.nil)))) (AllST.cons (Still.agg (AllST.cons tI (AllST.cons tI (AllST.cons (Still.func AllST.nil AllST.nil) AllST.nil)))) (AllST.cons (Still.agg (AllST.cons tI (AllST.cons tI (AllST.cons (Still.func AllST.nil AllST.nil) AllST.nil)))) (AllST.cons (Still.agg (AllST.cons tI (AllST.cons tI (AllST.cons (Still.func AllST.nil AllST.nil) AllST.nil)))) (AllST.cons (Still.agg (AllST.cons tI (AllST.cons tI (AllST.cons (Still.func AllST.nil AllST.nil) AllST.nil)))) (AllST.cons (Still.agg (AllST.cons tI (AllST.cons tI (AllST.cons (Still.nilfunc 9) AllST.nil)))) AllST.nil)))))))) (an (qbW qaF [[109, 97, 107, 101], [116, 101, 115, 116], [117, 115, 101], [102, 97, 105, 108], [114, 101, 99, 97, 108, 108], [117, 110, 100, 111]] (jQ c10) rfl) (an (je [] [none, none, none, none, some 0] (qX a0_ a1_ e_r11) .nil rfl rfl (.old rfl rfl (.old rfl rfl (.old rfl rfl (.old rfl rfl (.new rfl rfl (.same fa) rfl .nil))))) (qf.cons (.same (qC.agg (qg.cons nI (qg.cons (qj qa _) qg.nil)))) qf.nil) (.aggL (qf.cons (.same nI) (qf.cons (.slice rfl) qf.nil))) rfl) (an (je [some 4] [none, none, none, none, none] (qce N a0_ l12 a2_ a3_ a4_ a5_ a6_ e_r13) (.keep rfl (.same fa) rfl rfl .nil) rfl rfl (.old rfl rfl (.old rfl rfl (.old rfl rfl (.old rfl rfl (.dead .nil))))) (qf.cons (.aggL (qf.cons (.same nI) (qf.cons (.slice rfl) qf.nil))) (qf.cons (.same (qC.agg (qg.cons nI (qg.cons nS (qg.cons (qj encS _) (qg.cons (qj encI _) (qg.cons nS qg.nil))))))) qf.nil)) (.same (qC.tuple (qg.cons (qC.agg (qg.cons nI (qg.cons (qj qa _) qg.nil))) (qg.cons nI qg.nil)))) rfl) trivial))))) (Sub.norm [] [some 2, some 5] (by rw [hB]; rfl) rfl (.keep (.ptr rfl) (.keep (.same nI) (.keep (.ptr rfl) (.keep (.same nI) .nil)))) (.keep rfl (.same (qg.cons nI (qg.cons (qC.nilslice) qg.nil))) rfl rfl (.keep rfl (.same (qg.cons nI (qg.cons (qj qa _) qg.nil))) rfl rfl .nil)))
      · rw [if_neg (nb c10)] at g_v47
        rcases Bool.eq_false_or_eq_true (a3_ == [116, 101, 115, 116]) with c16 | c16
        · rw [if_pos (c16)] at g_v47
          obtain ⟨l18, e_r17, g_v47⟩ := bnd g_v47
          obtain ⟨⟨l20, e_21⟩, e_r19, g_v47⟩ := bnd g_v47
          try dsimp only at g_v47
          simp only [Option.some.injEq, Prod.mk.injEq] at g_v47
          obtain ⟨rfl, rfl⟩ := g_v47
          exact qm.sub (qm.rp fol [0, 3, 6, 8] [(4, .ptr 2 0), (6, .i x4), (8, .ptr 5 0), (9, .i e_21)] [.cells [.i a0_, vl qa a1_], .cells (cF a2_ a3_ a4_ a5_ a6_), bZ, .cells [.i r5, .i r6], bS l20, .cells [.i a0_, .slice 4 0 l20.length l20.length 9]] [.call 85 [] [.cells [.i a0_, vl qa a1_], .cells (cF a2_ a3_ a4_ a5_ a6_), bZ, .cells [.i r5, .i r6]] [] [] fm1, .done (qp Tryz.prog 154 (fm1) (.str a3_) false) (.agg [.i 1, .i 2, .func (.func 142) [] []]), .callH 82 [.agg [.i a0_, vl qa a1_]] [.cells [.i a0_, vl qa a1_], .cells (cF a2_ a3_ a4_ a5_ a6_), bZ, .cells [.i r5, .i r6]] [] (.agg [.i a0_, .slice 4 0 l18.length l18.length 9]) [.cells [.i a0_, vl qa a1_], .cells (cF a2_ a3_ a4_ a5_ a6_), bZ, .cells [.i r5, .i r6], bS l18], .callH 142 [.agg [.i a0_, .slice 4 0 l18.length l18.length 9], .agg (cF a2_ a3_ a4_ a5_ a6_)] [.cells [.i a0_, vl qa a1_], .cells (cF a2_ a3_ a4_ a5_ a6_), bZ, .cells [.i r5, .i r6], bS l18] [4] (.tuple [.agg [.i a0_, .slice 4 0 l20.length l20.length 9], .i e_21]) [.cells [.i a0_, vl qa a1_], .cells (cF a2_ a3_ a4_ a5_ a6_), bZ, .cells [.i r5, .i r6], bS l20]] (an (qo AllST.nil (kC e_r9) (Still.fmap (AllST.cons tS (AllST.cons tS (AllST.cons tS (AllST.cons tS (AllST.cons tS (AllST.cons tS AllST.nil)))))) (AllST.cons (Still.agg (AllST.cons tI (AllST.cons tI (AllST.cons (Still.func AllST.nil AllST.nil) AllST.nil)))) (AllST.cons (Still.agg (AllST.cons tI (AllST.cons tI (AllST.cons (Still.func AllST.nil AllST.nil) AllST.nil)))) (AllST.cons (Still.agg (AllST.cons tI (AllST.cons tI (AllST.cons (Still.func AllST.nil AllST.nil) AllST.nil)))) (AllST.cons (Still.agg (AllST.cons tI (AllST.cons tI (AllST.cons (Still.func AllST.nil AllST.nil) AllST.nil)))) (AllST.cons (Still.agg (AllST.cons tI (AllST.cons tI (AllST.cons (Still.func AllST.nil AllST.nil) AllST.nil)))) (AllST.cons (Still.agg (AllST.cons tI (AllST.cons tI (AllST.cons (Still.nilfunc 9) AllST.nil)))) AllST.nil)))))))) (an (qbW qaF [[109, 97, 107, 101], [116, 101, 115, 116], [117, 115, 101], [102, 97, 105, 108], [114, 101, 99, 97, 108, 108], [117, 110, 100, 111]] (qF c10 (jQ c16)) rfl) (an (je [] [none, none, none, none, some 0] (qX a0_ a1_ e_r17) .nil rfl rfl (.old rfl rfl (.old rfl rfl (.old rfl rfl (.old rfl rfl (.new rfl rfl (.same fa) rfl .nil))))) (qf.cons (.same (qC.agg (qg.cons nI (qg.cons (qj qa _) qg.nil)))) qf.nil) (.aggL (qf.cons (.same nI) (qf.cons (.slice rfl) qf.nil))) rfl) (an (je [some 4] [none, none, none, none, some 0] (qbi N a0_ l18 a2_ a3_ a4_ a5_ a6_ e_r19) (.keep rfl (.same fa) rfl rfl .nil) rfl rfl (.old rfl rfl (.old rfl rfl (.old rfl rfl (.old rfl rfl (.back rfl rfl (.same fa) rfl .nil))))) (qf.cons (.aggL (qf.cons (.same nI) (qf.cons (.slice rfl) qf.nil))) (qf.cons (.same (qC.agg (qg.cons nI (qg.cons nS (qg.cons (qj encS _) (qg.cons (qj encI _) (qg.cons nS qg.nil))))))) qf.nil)) (.tupleL (qf.cons (.aggL (qf.cons (.same nI) (qf.cons (.slice rfl) qf.nil))) (qf.cons (.same nI) qf.nil))) rfl) trivial))))) (Sub.norm [4] [some 2, some 5] (by rw [hB]; rfl) rfl (.keep (.ptr rfl) (.keep (.same nI) (.keep (.ptr rfl) (.keep (.same nI) .nil)))) (.keep rfl (.same (qg.cons nI (qg.cons (qC.nilslice) qg.nil))) rfl rfl (.keep rfl (.cells (qf.cons (.same nI) (qf.cons (.frz (Fz.sl (E := qa) rfl rfl (nl rfl)) (qj qa _)) qf.nil))) rfl rfl .nil)))
        · rw [if_neg (nb c16)] at g_v47
          rcases Bool.eq_false_or_eq_true (a3_ == [117, 115, 101]) with c22 | c22
          · rw [if_pos (c22)] at g_v47
            obtain ⟨l24, e_r23, g_v47⟩ := bnd g_v47
            obtain ⟨⟨l26, e_27⟩, e_r25, g_v47⟩ := bnd g_v47
            try dsimp only at g_v47
            simp only [Option.some.injEq, Prod.mk.injEq] at g_v47
            obtain ⟨rfl, rfl⟩ := g_v47
            exact qm.sub (qm.rp fol [0, 3, 6, 8] [(4, .ptr 2 0), (6, .i x4), (8, .ptr 5 0), (9, .i e_27)] [.cells [.i a0_, vl qa a1_], .cells (cF a2_ a3_ a4_ a5_ a6_), bZ, .cells [.i r5, .i r6], bS l26, .cells [.i a0_, .slice 4 0 l26.length l26.length 9]] [.call 85 [] [.cells [.i a0_, vl qa a1_], .cells (cF a2_ a3_ a4_ a5_ a6_), bZ, .cells [.i r5, .i r6]] [] [] fm1, .done (qp Tryz.prog 154 (fm1) (.str a3_) false) (.agg [.i 1, .i 2, .func (.func 143) [] []]), .callH 82 [.agg [.i a0_, vl qa a1_]] [.cells [.i a0_, vl qa a1_], .cells (cF a2_ a3_ a4_ a5_ a6_), bZ, .cells [.i r5, .i r6]] [] (.agg [.i a0_, .slice 4 0 l24.length l24.length 9]) [.cells [.i a0_, vl qa a1_], .cells (cF a2_ a3_ a4_ a5_ a6_), bZ, .cells [.i r5, .i r6], bS l24], .callH 143 [.agg [.i a0_, .slice 4 0 l24.length l24.length 9], .agg (cF a2_ a3_ a4_ a5_ a6_)] [.cells [.i a0_, vl qa a1_], .cells (cF a2_ a3_ a4_ a5_ a6_), bZ, .cells [.i r5, .i r6], bS l24] [4] (.tuple [.agg [.i a0_, .slice 4 0 l26.length l26.length 9], .i e_27]) [.cells [.i a0_, vl qa a1_], .cells (cF a2_ a3_ a4_ a5_ a6_), bZ, .cells [.i r5, .i r6], bS l26]] (an (qo AllST.nil (kC e_r9) (Still.fmap (AllST.cons tS (AllST.cons tS (AllST.cons tS (AllST.cons tS (AllST.cons tS (AllST.cons tS AllST.nil)))))) (AllST.cons (Still.agg (AllST.cons tI (AllST.cons tI (AllST.cons (Still.func AllST.nil AllST.nil) AllST.nil)))) (AllST.cons (Still.agg (AllST.cons tI (AllST.cons tI (AllST.cons (Still.func AllST.nil AllST.nil) AllST.nil)))) (AllST.cons (Still.agg (AllST.cons tI (AllST.cons tI (AllST.cons (Still.func AllST.nil AllST.nil) AllST.nil)))) (AllST.cons (Still.agg (AllST.cons tI (AllST.cons tI (AllST.cons (Still.func AllST.nil AllST.nil) AllST.nil)))) (AllST.cons (Still.agg (AllST.cons tI (AllST.cons tI (AllST.cons (Still.func AllST.nil AllST.nil) AllST.nil)))) (AllST.cons (Still.agg (AllST.cons tI (AllST.cons tI (AllST.cons (Still.nilfunc 9) AllST.nil)))) AllST.nil)))))))) (an (qbW qaF [[109, 97, 107, 101], [116, 101, 115, 116], [117, 115, 101], [102, 97, 105, 108], [114, 101, 99, 97, 108, 108], [117, 110, 100, 111]] (qF c10 (qF c16 (jQ c22))) rfl) (an (je [] [none, none, none, none, some 0] (qX a0_ a1_ e_r23) .nil rfl rfl (.old rfl rfl (.old rfl rfl (.old rfl rfl (.old rfl rfl (.new rfl rfl (.same fa) rfl .nil))))) (qf.cons (.same (qC.agg (qg.cons nI (qg.cons (qj qa _) qg.nil)))) qf.nil) (.aggL (qf.cons (.same nI) (qf.cons (.slice rfl) qf.nil))) rfl) (an (je [some 4] [none, none, none, none, some 0] (qcg N a0_ l24 a2_ a3_ a4_ a5_ a6_ e_r25) (.keep rfl (.same fa) rfl rfl .nil) rfl rfl (.old rfl rfl (.old rfl rfl (.old rfl rfl (.old rfl rfl (.back rfl rfl (.same fa) rfl .nil))))) (qf.cons (.aggL (qf.cons (.same nI) (qf.cons (.slice rfl) qf.nil))) (qf.cons (.same (qC.agg (qg.cons nI (qg.cons nS (qg.cons (qj encS _) (qg.cons (qj encI _) (qg.cons nS qg.nil))))))) qf.nil)) (.tupleL (qf.cons (.aggL (qf.cons (.same nI) (qf.cons (.slice rfl) qf.nil))) (qf.cons (.same nI) qf.nil))) rfl) trivial))))) (Sub.norm [4] [some 2, some 5] (by rw [hB]; rfl) rfl (.keep (.ptr rfl) (.keep (.same nI) (.keep (.ptr rfl) (.keep (.same nI) .nil)))) (.keep rfl (.same (qg.cons nI (qg.cons (qC.nilslice) qg.nil))) rfl rfl (.keep rfl (.cells (qf.cons (.same nI) (qf.cons (.frz (Fz.sl (E := qa) rfl rfl (nl rfl)) (qj qa _)) qf.nil))) rfl rfl .nil)))
          · rw [if_neg (nb c22)] at g_v47
            rcases Bool.eq_false_or_eq_true (a3_ == [102, 97, 105, 108]) with c28 | c28
            · rw [if_pos (c28)] at g_v47
              obtain ⟨l30, e_r29, g_v47⟩ := bnd g_v47
              obtain ⟨⟨l32, e_33⟩, e_r31, g_v47⟩ := bnd g_v47
              try dsimp only at g_v47
              simp only [Option.some.injEq, Prod.mk.injEq] at g_v47
              obtain ⟨rfl, rfl⟩ := g_v47
              exact qm.sub (qm.rp fol [0, 3, 6, 8] [(4, .ptr 2 0), (6, .i x4), (8, .ptr 5 0), (9, .i e_33)] [.cells [.i a0_, vl qa a1_], .cells (cF a2_ a3_ a4_ a5_ a6_), bZ, .cells [.i r5, .i r6], bS l32, .cells [.i a0_, .slice 4 0 l32.length l32.length 9]] [.call 85 [] [.cells [.i a0_, vl qa a1_], .cells (cF a2_ a3_ a4_ a5_ a6_), bZ, .cells [.i r5, .i r6]] [] [] fm1, .done (qp Tryz.prog 154 (fm1) (.str a3_) false) (.agg [.i 1, .i 1, .func (.func 144) [] []]), .callH 82 [.agg [.i a0_, vl qa a1_]] [.cells [.i a0_, vl qa a1_], .cells (cF a2_ a3_ a4_ a5_ a6_), bZ, .cells [.i r5, .i r6]] [] (.agg [.i a0_, .slice 4 0 l30.length l30.length 9]) [.cells [.i a0_, vl qa a1_], .cells (cF a2_ a3_ a4_ a5_ a6_), bZ, .cells [.i r5, .i r6], bS l30], .callH 144 [.agg [.i a0_, .slice 4 0 l30.length l30.length 9], .agg (cF a2_ a3_ a4_ a5_ a6_)] [.cells [.i a0_, vl qa a1_], .cells (cF a2_ a3_ a4_ a5_ a6_), bZ, .cells [.i r5, .i r6], bS l30] [4] (.tuple [.agg [.i a0_, .slice 4 0 l32.length l32.length 9], .i e_33]) [.cells [.i a0_, vl qa a1_], .cells (cF a2_ a3_ a4_ a5_ a6_), bZ, .cells [.i r5, .i r6], bS l32]] (an (qo AllST.nil (kC e_r9) (Still.fmap (AllST.cons tS (AllST.cons tS (AllST.cons tS (AllST.cons tS (AllST.cons tS (AllST.cons tS AllST.nil)))))) (AllST.cons (Still.agg (AllST.cons tI (AllST.cons tI (AllST.cons (Still.func AllST.nil AllST.nil) AllST.nil)))) (AllST.cons (Still.agg (AllST.cons tI (AllST.cons tI (AllST.cons (Still.func AllST.nil AllST.nil) AllST.nil)))) (AllST.cons (Still.agg (AllST.cons tI (AllST.cons tI (AllST.cons (Still.func AllST.nil AllST.nil) AllST.nil)))) (AllST.cons (Still.agg (AllST.cons tI (AllST.cons tI (AllST.cons (Still.func AllST.nil AllST.nil) AllST.nil)))) (AllST.cons (Still.agg (AllST.cons tI (AllST.cons tI (AllST.cons (Still.func AllST.nil AllST.nil) AllST.nil)))) (AllST.cons (Still.agg (AllST.cons tI (AllST.cons tI (AllST.cons (Still.nilfunc 9) AllST.nil)))) AllST.nil)))))))) (an (qbW qaF [[109, 97, 107, 101], [116, 101, 115, 116], [117, 115, 101], [102, 97, 105, 108], [114, 101, 99, 97, 108, 108], [117, 110, 100, 111]] (qF c10 (qF c16 (qF c22 (jQ c28)))) rfl) (an (je [] [none, none, none, none, some 0] (qX a0_ a1_ e_r29) .nil rfl rfl (.old rfl rfl (.old rfl rfl (.old rfl rfl (.old rfl rfl (.new rfl rfl (.same fa) rfl .nil))))) (qf.cons (.same (qC.agg (qg.cons nI (qg.cons (qj qa _) qg.nil)))) qf.nil) (.aggL (qf.cons (.same nI) (qf.cons (.slice rfl) qf.nil))) rfl) (an (je [some 4] [none, none, none, none, some 0] (qbj N a0_ l30 a2_ a3_ a4_ a5_ a6_ e_r31) (.keep rfl (.same fa) rfl rfl .nil) rfl rfl (.old rfl rfl (.old rfl rfl (.old rfl rfl (.old rfl rfl (.back rfl rfl (.same fa) rfl .nil))))) (qf.cons (.aggL (qf.cons (.same nI) (qf.cons (.slice rfl) qf.nil))) (qf.cons (.same (qC.agg (qg.cons nI (qg.cons nS (qg.cons (qj encS _) (qg.cons (qj encI _) (qg.cons nS qg.nil))))))) qf.nil)) (.tupleL (qf.cons (.aggL (qf.cons (.same nI) (qf.cons (.slice rfl) qf.nil))) (qf.cons (.same nI) qf.nil))) rfl) trivial))))) (Sub.norm [4] [some 2, some 5] (by rw [hB]; rfl) rfl (.keep (.ptr rfl) (.keep (.same nI) (.keep (.ptr rfl) (.keep (.same nI) .nil)))) (.keep rfl (.same (qg.cons nI (qg.cons (qC.nilslice) qg.nil))) rfl rfl (.keep rfl (.cells (qf.cons (.same nI) (qf.cons (.frz (Fz.sl (E := qa) rfl rfl (nl rfl)) (qj qa _)) qf.nil))) rfl rfl .nil)))
            · rw [if_neg (nb c28)] at g_v47
              rcases Bool.eq_false_or_eq_true (a3_ == [114, 101, 99, 97, 108, 108]) with c34 | c34
              · rw [if_pos (c34)] at g_v47
                obtain ⟨l36, e_r35, g_v47⟩ := bnd g_v47
                obtain ⟨⟨l38, e_39⟩, e_r37, g_v47⟩ := bnd g_v47
                try dsimp only at g_v47
                simp only [Option.some.injEq, Prod.mk.injEq] at g_v47
                obtain ⟨rfl, rfl⟩ := g_v47
                exact qm.sub (qm.rp fol [0, 3, 6, 8] [(4, .ptr 2 0), (6, .i x4), (8, .ptr 5 0), (9, .i e_39)] [.cells [.i a0_, vl qa a1_], .cells (cF a2_ a3_ a4_ a5_ a6_), bZ, .cells [.i r5, .i r6], bS l38, .cells [.i a0_, .slice 4 0 l38.length l38.length 9]] [.call 85 [] [.cells [.i a0_, vl qa a1_], .cells (cF a2_ a3_ a4_ a5_ a6_), bZ, .cells [.i r5, .i r6]] [] [] fm1, .done (qp Tryz.prog 154 (fm1) (.str a3_) false) (.agg [.i 1, .i 1, .func (.func 145) [] []]), .callH 82 [.agg [.i a0_, vl qa a1_]] [.cells [.i a0_, vl qa a1_], .cells (cF a2_ a3_ a4_ a5_ a6_), bZ, .cells [.i r5, .i r6]] [] (.agg [.i a0_, .slice 4 0 l36.length l36.length 9]) [.cells [.i a0_, vl qa a1_], .cells (cF a2_ a3_ a4_ a5_ a6_), bZ, .cells [.i r5, .i r6], bS l36], .callH 145 [.agg [.i a0_, .slice 4 0 l36.length l36.length 9], .agg (cF a2_ a3_ a4_ a5_ a6_)] [.cells [.i a0_, vl qa a1_], .cells (cF a2_ a3_ a4_ a5_ a6_), bZ, .cells [.i r5, .i r6], bS l36] [4] (.tuple [.agg [.i a0_, .slice 4 0 l38.length l38.length 9], .i e_39]) [.cells [.i a0_, vl qa a1_], .cells (cF a2_ a3_ a4_ a5_ a6_), bZ, .cells [.i r5, .i r6], bS l38]] (an (qo AllST.nil (kC e_r9) (Still.fmap (AllST.cons tS (AllST.cons tS (AllST.cons tS (AllST.cons tS (AllST.cons tS (AllST.cons tS AllST.nil)))))) (AllST.cons (Still.agg (AllST.cons tI (AllST.cons tI (AllST.cons (Still.func AllST.nil AllST.nil) AllST.nil)))) (AllST.cons (Still.agg (AllST.cons tI (AllST.cons tI (AllST.cons (Still.func AllST.nil AllST.nil) AllST.nil)))) (AllST.cons (Still.agg (AllST.cons tI (AllST.cons tI (AllST.cons (Still.func AllST.nil AllST.nil) AllST.nil)))) (AllST.cons (Still.agg (AllST.cons tI (AllST.cons tI (AllST.cons (Still.func AllST.nil AllST.nil) AllST.nil)))) (AllST.cons (Still.agg (AllST.cons tI (AllST.cons tI (AllST.cons (Still.func AllST.nil AllST.nil) AllST.nil)))) (AllST.cons (Still.agg (AllST.cons tI (AllST.cons tI (AllST.cons (Still.nilfunc 9) AllST.nil)))) AllST.nil)))))))) (an (qbW qaF [[109, 97, 107, 101], [116, 101, 115, 116], [117, 115, 101], [102, 97, 105, 108], [114, 101, 99, 97, 108, 108], [117, 110, 100, 111]] (qF c10 (qF c16 (qF c22 (qF c28 (jQ c34))))) rfl) (an (je [] [none, none, none, none, some 0] (qX a0_ a1_ e_r35) .nil rfl rfl (.old rfl rfl (.old rfl rfl (.old rfl rfl (.old rfl rfl (.new rfl rfl (.same fa) rfl .nil))))) (qf.cons (.same (qC.agg (qg.cons nI (qg.cons (qj qa _) qg.nil)))) qf.nil) (.aggL (qf.cons (.same nI) (qf.cons (.slice rfl) qf.nil))) rfl) (an (je [some 4] [none, none, none, none, some 0] (qaJ N a0_ l36 a2_ a3_ a4_ a5_ a6_ e_r37) (.keep rfl (.same fa) rfl rfl .nil) rfl rfl (.old rfl rfl (.old rfl rfl (.old rfl rfl (.old rfl rfl (.back rfl rfl (.same fa) rfl .nil))))) (qf.cons (.aggL (qf.cons (.same nI) (qf.cons (.slice rfl) qf.nil))) (qf.cons (.same (qC.agg (qg.cons nI (qg.cons nS (qg.cons (qj encS _) (qg.cons (qj encI _) (qg.cons nS qg.nil))))))) qf.nil)) (.tupleL (qf.cons (.aggL (qf.cons (.same nI) (qf.cons (.slice rfl) qf.nil))) (qf.cons (.same nI) qf.nil))) rfl) trivial))))) (Sub.norm [4] [some 2, some 5] (by rw [hB]; rfl) rfl (.keep (.ptr rfl) (.keep (.same nI) (.keep (.ptr rfl) (.keep (.same nI) .nil)))) (.keep rfl (.same (qg.cons nI (qg.cons (qC.nilslice) qg.nil))) rfl rfl (.keep rfl (.cells (qf.cons (.same nI) (qf.cons (.frz (Fz.sl (E := qa) rfl rfl (nl rfl)) (qj qa _)) qf.nil))) rfl rfl .nil)))
              · rw [if_neg (nb c34)] at g_v47
                rcases Bool.eq_false_or_eq_true (a3_ == [117, 110, 100, 111]) with c40 | c40
                · rw [if_pos (c40)] at g_v47
                  cases g_v47
                · rw [if_neg (nb c40)] at g_v47
                  cases g_v47
    intro _ hsub
    try dsimp only at h
    refine Goes.sub hsub ?_
    refine sq (Goes.rg fol [(4, .ptr 0 0), (8, .ptr 1 0), (9, .i bad_46)] [bZ, .cells [.i x4, vl qa l45]] ?_)
    refine sq (Goes.rg fol [(4, .ptr 0 0), (5, .i bad_46)] [.cells [.i x4, vl qa l45], .cells [.i x4, vl qa l45]] ?_)
    refine Goes.ret ?_
    simp only [Option.some.injEq, Prod.mk.injEq] at h
    obtain ⟨rfl, rfl, rfl⟩ := h
    exact (Goes.retH (xs := [.agg [.i x4, vl qa l45], .i bad_46]) (by kernel_rfl) (Sub.norm [] [] (by rw [hB]; rfl) rfl (.keep (.tupleL (qf.cons (.aggL (qf.cons (.same nI) (qf.cons (.same (qj qa _)) qf.nil))) (qf.cons (.same nI) qf.nil))) .nil) .nil))
def zJ (N : Nat) (a0_ : List ql) (a1_ : Option (List StateT)) (a2_ : Int) (a3_ : Str) (a4_ : List Str) (a5_ : List Int) (a6_ : Str) : Option ((List ql) × (Option (List StateT)) × Int) :=
  if (!decide (a2_ = (w64 ((a0_.length : Int) + 1)))) = true then
  some (a0_, a1_, 11)
  else
  if (a3_ == [117, 110, 100, 111]) = true then
  ((match a1_ with
  | none =>
  some ((none : Option (List StateT)), decide (0 = 0))
  | some l6 =>
  some ((some l6), decide ((l6.length : Int) = 0))) : Option ((Option (List StateT)) × Bool)).bind fun (o7, b8) =>
  if b8 = true then
  some (a0_, o7, 12)
  else
  ((match o7 with
  | none =>
  (cut ([] : List StateT) 0 (w64 (0 - 1))).bind fun s12 =>
  some (none : Option (List StateT))
  | some l11 =>
  (cut l11 0 (w64 ((l11.length : Int) - 1))).bind fun l13 =>
  some (some l13)) : Option (Option (List StateT))).bind fun o14 =>
  (zw (⟨a2_, a3_, a4_, a5_, a6_⟩ : ql)).bind fun r16 =>
  (app 88 a0_ [r16]).bind fun l17 =>
  some (l17, o14, 0)
  else
  (qH a0_ a1_).bind fun (o19, n20, l21) =>
  (qE N n20 l21 a2_ a3_ a4_ a5_ a6_).bind fun (n23, l24, e_25) =>
  if (!decide (e_25 = 0)) = true then
  some (a0_, o19, e_25)
  else
  ((match o19 with
  | none =>
  some ([(⟨a2_, (⟨n23, l24⟩ : kU)⟩ : StateT)] : List StateT)
  | some l27 =>
  (app 40 l27 [(⟨a2_, (⟨n23, l24⟩ : kU)⟩ : StateT)]).bind fun l28 =>
  some l28) : Option (List StateT)).bind fun l29 =>
  (zw (⟨a2_, a3_, a4_, a5_, a6_⟩ : ql)).bind fun r31 =>
  (app 88 a0_ [r31]).bind fun l32 =>
  some (l32, (some l29), 0)
theorem xN (N : Nat) (a0_ : List ql) (a1_ : Option (List StateT)) (a2_ : Int) (a3_ : Str) (a4_ : List Str) (a5_ : List Int) (a6_ : Str) {l1 : List ql} {o2 : Option (List StateT)} {h_3 : Int} (h : zJ N a0_ a1_ a2_ a3_ a4_ a5_ a6_ = some (l1, o2, h_3)) : qy Tryz.prog (.fn 91) [.ptr 0 0, .agg (cF a2_ a3_ a4_ a5_ a6_)] [.cells [.gslice 1 a0_.length 5, hsl 2 3 a1_], .cells (a0_.flatMap qb.c), .cells ((hof a1_).flatMap qh.c)] (.i h_3) [.cells [.gslice 3 l1.length 5, hsl 4 3 o2], .dead, .dead, .cells (l1.flatMap qb.c), .cells ((hof o2).flatMap qh.c)] := by
  unfold zJ at h
  refine Goes.fnH Tryz.func91 rfl rfl (m := 73) rfl (rs := [.tmp 4]) rfl (l := [(0, .ptr 0 0), (1, .agg (cF a2_ a3_ a4_ a5_ a6_))]) rfl ?_
  intro B hB
  refine sq (Goes.rg fol [(0, .ptr 0 0), (3, .ptr 3 0)] [.cells [.gslice 1 a0_.length 5, hsl 2 3 a1_], .cells (a0_.flatMap qb.c), .cells ((hof a1_).flatMap qh.c), .cells (cF a2_ a3_ a4_ a5_ a6_)] ?_)
  refine sq ?_
  refine sq (Goes.rg fol [(0, .ptr 0 0), (3, .ptr 3 0), (15, .bool (!decide (a2_ = (w64 ((a0_.length : Int) + 1)))))] [.cells [.gslice 1 a0_.length 5, hsl 2 3 a1_], .cells (a0_.flatMap qb.c), .cells ((hof a1_).flatMap qh.c), .cells (cF a2_ a3_ a4_ a5_ a6_)] ?_)
  refine Goes.ifB (b := !decide (a2_ = (w64 ((a0_.length : Int) + 1)))) (by kernel_rfl) (fun c4 => ?_) (fun c4 => ?_)
  · rw [if_pos (c4)] at h
    refine sq (Goes.rg fol [(4, .i 11)] [.cells [.gslice 1 a0_.length 5, hsl 2 3 a1_], .cells (a0_.flatMap qb.c), .cells ((hof a1_).flatMap qh.c), .cells (cF a2_ a3_ a4_ a5_ a6_)] ?_)
    refine Goes.ret ?_
    simp only [Option.some.injEq, Prod.mk.injEq] at h
    obtain ⟨rfl, rfl, rfl⟩ := h
    exact (Goes.retH (xs := [.i 11]) (by kernel_rfl) (Sub.norm [] [some 0, some 1, some 2, some 1, some 2] (by rw [hB]; rfl) rfl (.keep (.same nI) .nil) (.keep rfl (.cells (qf.cons (.gslice rfl) (qf.cons ((qM.hs rfl)) qf.nil))) rfl rfl (.lost (.lost (.keep rfl (.same fa) rfl rfl (.keep rfl (.same fa) rfl rfl .nil)))))))
  · rw [if_neg (nb c4)] at h
    refine Goes.skip ?_
    refine sq ?_
    refine sq (Goes.rg fol [(0, .ptr 0 0), (3, .ptr 3 0), (18, .bool (a3_ == [117, 110, 100, 111]))] [.cells [.gslice 1 a0_.length 5, hsl 2 3 a1_], .cells (a0_.flatMap qb.c), .cells ((hof a1_).flatMap qh.c), .cells (cF a2_ a3_ a4_ a5_ a6_)] ?_)
    refine Goes.ifB (b := a3_ == [117, 110, 100, 111]) (by kernel_rfl) (fun c5 => ?_) (fun c5 => ?_)
    · rw [if_pos (c5)] at h
      refine sq ?_
      refine sq ?_
      obtain ⟨⟨o7, b8⟩, g_v9, h⟩ := bnd h
      refine Goes.cutS (s' := (ofG 73 [(0, .ptr 0 0), (3, .ptr 3 0), (24, .bool b8)], [.cells [.gslice 1 a0_.length 5, hsl 2 3 o7], .cells (a0_.flatMap qb.c), .cells ((hof o7).flatMap qh.c), .cells (cF a2_ a3_ a4_ a5_ a6_)])) ?_ ?_
      · rcases a1_ with _ | l6
        · try dsimp only at g_v9
          simp only [Option.some.injEq, Prod.mk.injEq] at g_v9
          obtain ⟨rfl, rfl⟩ := g_v9
          exact qm.sub (qm.rg fol [(0, .ptr 0 0), (3, .ptr 3 0), (24, .bool (decide (0 = 0)))] [.cells [.gslice 1 a0_.length 5, .nilslice], .cells (a0_.flatMap qb.c), .cells ((hof (none : Option (List StateT))).flatMap qh.c), .cells (cF a2_ a3_ a4_ a5_ a6_)]) (Sub.norm [] [some 0, some 1, some 2, some 3] (by rw [hB]; rfl) rfl (.keep (.ptr rfl) (.keep (.ptr rfl) (.keep (.same nB) .nil))) (.keep rfl (.cells (qf.cons (.gslice rfl) (qf.cons (qM.hs0) qf.nil))) rfl rfl (.keep rfl (.same fa) rfl rfl (.keep rfl (.same fa) rfl rfl (.keep rfl (.same (qg.cons nI (qg.cons nS (qg.cons (qj encS _) (qg.cons (qj encI _) (qg.cons nS qg.nil)))))) rfl rfl .nil)))))
        · try dsimp only at g_v9
          simp only [Option.some.injEq, Prod.mk.injEq] at g_v9
          obtain ⟨rfl, rfl⟩ := g_v9
          exact qm.sub (qm.rg fol [(0, .ptr 0 0), (3, .ptr 3 0), (24, .bool (decide ((l6.length : Int) = 0)))] [.cells [.gslice 1 a0_.length 5, .oslice 2 l6.length 3], .cells (a0_.flatMap qb.c), .cells (l6.flatMap qh.c), .cells (cF a2_ a3_ a4_ a5_ a6_)]) (Sub.norm [] [some 0, some 1, some 2, some 3] (by rw [hB]; rfl) rfl (.keep (.ptr rfl) (.keep (.ptr rfl) (.keep (.same nB) .nil))) (.keep rfl (.cells (qf.cons (.gslice rfl) (qf.cons ((qM.hs1 rfl)) qf.nil))) rfl rfl (.keep rfl (.same fa) rfl rfl (.keep rfl (.same fa) rfl rfl (.keep rfl (.same (qg.cons nI (qg.cons nS (qg.cons (qj encS _) (qg.cons (qj encI _) (qg.cons nS qg.nil)))))) rfl rfl .nil)))))
      intro _ hsub
      try dsimp only at h
      refine Goes.sub hsub ?_
      refine Goes.ifB (b := b8) (by kernel_rfl) (fun c10 => ?_) (fun c10 => ?_)
      · rw [if_pos (c10)] at h
        refine sq (Goes.rg fol [(4, .i 12)] [.cells [.gslice 1 a0_.length 5, hsl 2 3 o7], .cells (a0_.flatMap qb.c), .cells ((hof o7).flatMap qh.c), .cells (cF a2_ a3_ a4_ a5_ a6_)] ?_)
        refine Goes.ret ?_
        simp only [Option.some.injEq, Prod.mk.injEq] at h
        obtain ⟨rfl, rfl, rfl⟩ := h
        exact (Goes.retH (xs := [.i 12]) (by kernel_rfl) (Sub.norm [] [some 0, some 1, some 2, some 1, some 2] (by rw [hB]; rfl) rfl (.keep (.same nI) .nil) (.keep rfl (.cells (qf.cons (.gslice rfl) (qf.cons ((qM.hs rfl)) qf.nil))) rfl rfl (.lost (.lost (.keep rfl (.same fa) rfl rfl (.keep rfl (.same fa) rfl rfl .nil)))))))
      · rw [if_neg (nb c10)] at h
        refine Goes.skip ?_
        obtain ⟨o14, g_v15, h⟩ := bnd h
        refine Goes.cutS (s' := (ofG 73 [(0, .ptr 0 0), (3, .ptr 3 0)], [.cells [.gslice 1 a0_.length 5, hsl 2 3 o14], .cells (a0_.flatMap qb.c), .cells ((hof o14).flatMap qh.c), .cells (cF a2_ a3_ a4_ a5_ a6_)])) ?_ ?_
        · rcases o7 with _ | l11
          · try dsimp only at g_v15
            obtain ⟨s12, e_s12, g_v15⟩ := bnd g_v15
            obtain rfl := si g_v15
            exact qm.sub (qm.rp fol [11] [(0, .ptr 0 0), (3, .ptr 3 0)] [.cells [.gslice 1 a0_.length 5, .nilslice], .cells (a0_.flatMap qb.c), .cells ((hof (none : Option (List StateT))).flatMap qh.c), .cells (cF a2_ a3_ a4_ a5_ a6_)] [.done (.opt (zg Tryz.prog 163 .nilslice none (some (.i (w64 (0 - 1)))) none)) .nilslice] (an (qjB (α := StateT) qgs none (some (w64 (0 - 1))) e_s12) trivial)) (Sub.norm [] [some 0, some 1, some 2, some 3] (by rw [hB]; rfl) rfl (.keep (.ptr rfl) (.keep (.ptr rfl) .nil)) (.keep rfl (.cells (qf.cons (.gslice rfl) (qf.cons (qM.hs0) qf.nil))) rfl rfl (.keep rfl (.same fa) rfl rfl (.keep rfl (.same fa) rfl rfl (.keep rfl (.same (qg.cons nI (qg.cons nS (qg.cons (qj encS _) (qg.cons (qj encI _) (qg.cons nS qg.nil)))))) rfl rfl .nil)))))
          · try dsimp only at g_v15
            obtain ⟨l13, e_l13, g_v15⟩ := bnd g_v15
            obtain rfl := si g_v15
            exact qm.sub (qm.rp fol [11] [(0, .ptr 0 0), (3, .ptr 3 0)] [.cells [.gslice 1 a0_.length 5, .oslice 2 l13.length 3], .cells (a0_.flatMap qb.c), .cells (l11.flatMap qh.c), .cells (cF a2_ a3_ a4_ a5_ a6_)] [.done (.opt (zg Tryz.prog 163 (.oslice 2 l11.length 3) none (some (.i (w64 ((l11.length : Int) - 1)))) none)) (.oslice 2 l13.length 3)] (an (sh_os qgs e_l13) trivial)) ((show Sub (ofG 73 [(0, .ptr 0 0), (3, .ptr 3 0)], [.cells [.gslice 1 a0_.length 5, .oslice 2 l13.length 3], .cells (a0_.flatMap qb.c), .cells (l11.flatMap qh.c), .cells (cF a2_ a3_ a4_ a5_ a6_)]) (ofG 73 [(0, .ptr 0 0), (3, .ptr 3 0)], [.cells [.gslice 1 a0_.length 5, .oslice 2 l13.length 3], .cells (a0_.flatMap qb.c), .cells (l13.flatMap qh.c), .cells (cF a2_ a3_ a4_ a5_ a6_)]) from (Sub.norm [] [some 0, some 1, some 2, some 3] (by rw [hB]; rfl) rfl (.keep (.ptr rfl) (.keep (.ptr rfl) .nil)) (.keep rfl (.cells (qf.cons (.gslice rfl) (qf.cons (.oslice rfl) qf.nil))) rfl rfl (.keep rfl (.same fa) rfl rfl (.keep rfl (xO.cut e_l13) rfl rfl (.keep rfl (.same (qg.cons nI (qg.cons nS (qg.cons (qj encS _) (qg.cons (qj encI _) (qg.cons nS qg.nil)))))) rfl rfl .nil)))))).trans (Sub.norm [] [some 0, some 1, some 2, some 3] (by rw [hB]; rfl) rfl (.keep (.ptr rfl) (.keep (.ptr rfl) .nil)) (.keep rfl (.cells (qf.cons (.gslice rfl) (qf.cons ((qM.hs1 rfl)) qf.nil))) rfl rfl (.keep rfl (.same fa) rfl rfl (.keep rfl (.same fa) rfl rfl (.keep rfl (.same (qg.cons nI (qg.cons nS (qg.cons (qj encS _) (qg.cons (qj encI _) (qg.cons nS qg.nil)))))) rfl rfl .nil))))))
        intro _ hsub
        refine Goes.sub hsub ?_
        refine sq ?_
        obtain ⟨r16, e_r16, h⟩ := bnd h
        obtain ⟨l17, e_l17, h⟩ := bnd h
        refine Goes.rp fol [6, 8] [] [.cells [.gslice 5 l17.length 5, hsl 2 3 o14], .dead, .cells ((hof o14).flatMap qh.c), .cells (cF a2_ a3_ a4_ a5_ a6_), .cells (cE r16), .cells (l17.flatMap qb.c)] [.call 115 [.agg (cF a2_ a3_ a4_ a5_ a6_)] [.cells [.gslice 1 a0_.length 5, hsl 2 3 o14], .cells (a0_.flatMap qb.c), .cells ((hof o14).flatMap qh.c), .cells (cF a2_ a3_ a4_ a5_ a6_)] [] [.agg (cF a2_ a3_ a4_ a5_ a6_)] (.agg (cE r16)), .run [1, 4] (zz Tryz.prog [22, 22] (.gslice 1 a0_.length 5) (.slice 4 0 1 1 5)) [.cells [.gslice 1 a0_.length 5, hsl 2 3 o14], .cells (a0_.flatMap qb.c), .cells ((hof o14).flatMap qh.c), .cells (cF a2_ a3_ a4_ a5_ a6_), .cells (cE r16)] (.gslice 5 l17.length 5) [.cells [.gslice 1 a0_.length 5, hsl 2 3 o14], .dead, .cells ((hof o14).flatMap qh.c), .cells (cF a2_ a3_ a4_ a5_ a6_), .cells (cE r16), .cells (l17.flatMap qb.c)] true] (an (qo (AllST.cons (Still.agg (AllST.cons tI (AllST.cons tS (AllST.cons (qD encS _ (nl rfl)) (AllST.cons (qD encI _ (nl rfl)) (AllST.cons tS AllST.nil)))))) AllST.nil) (yH (⟨a2_, a3_, a4_, a5_, a6_⟩ : ql) e_r16) (Still.agg (AllST.cons tI (AllST.cons tS (AllST.cons (qD encS _ (nl rfl)) (AllST.cons (qD encI _ (nl rfl)) (AllST.cons tS AllST.nil))))))) (an (vO yA (E := qb) rfl (qdg (E := qb) (ys := [r16]) rfl rfl rfl rfl) (qjl (E := qb) (l := a0_) rfl rfl rfl e_l17 rfl)) trivial)) ?_
        refine sq (Goes.rg fol [(4, .i 0)] [.cells [.gslice 5 l17.length 5, hsl 2 3 o14], .dead, .cells ((hof o14).flatMap qh.c), .cells (cF a2_ a3_ a4_ a5_ a6_), .cells (cE r16), .cells (l17.flatMap qb.c)] ?_)
        refine Goes.ret ?_
        simp only [Option.some.injEq, Prod.mk.injEq] at h
        obtain ⟨rfl, rfl, rfl⟩ := h
        exact (Goes.retH (xs := [.i 0]) (by kernel_rfl) (Sub.norm [] [some 0, some 1, some 2, some 5, some 2] (by rw [hB]; rfl) rfl (.keep (.same nI) .nil) (.keep rfl (.cells (qf.cons (.gslice rfl) (qf.cons ((qM.hs rfl)) qf.nil))) rfl rfl (.lost (.lost (.keep rfl (.same fa) rfl rfl (.keep rfl (.same fa) rfl rfl .nil)))))))
    · rw [if_neg (nb c5)] at h
      refine sq ?_
      obtain ⟨⟨o19, n20, l21⟩, e_r18, h⟩ := bnd h
      try dsimp only at h
      obtain ⟨⟨n23, l24, e_25⟩, e_r22, h⟩ := bnd h
      try dsimp only at h
      refine Goes.rp fol [1, 3] [(0, .ptr 0 0), (3, .ptr 3 0), (5, .ptr 4 0), (6, .i e_25)] [.cells [.gslice 1 a0_.length 5, hsl 2 3 o19], .cells (a0_.flatMap qb.c), .cells ((hof o19).flatMap qh.c), .cells (cF a2_ a3_ a4_ a5_ a6_), .cells [.i n23, vl qa l24]] [.callH 81 [.ptr 0 0] [.cells [.gslice 1 a0_.length 5, hsl 2 3 a1_], .cells (a0_.flatMap qb.c), .cells ((hof a1_).flatMap qh.c), .cells (cF a2_ a3_ a4_ a5_ a6_)] [0, 1, 2] (.agg [.i n20, vl qa l21]) [.cells [.gslice 1 a0_.length 5, hsl 2 3 o19], .cells (a0_.flatMap qb.c), .cells ((hof o19).flatMap qh.c), .cells (cF a2_ a3_ a4_ a5_ a6_)], .callH 147 [.agg [.i n20, vl qa l21], .agg (cF a2_ a3_ a4_ a5_ a6_)] [.cells [.gslice 1 a0_.length 5, hsl 2 3 o19], .cells (a0_.flatMap qb.c), .cells ((hof o19).flatMap qh.c), .cells (cF a2_ a3_ a4_ a5_ a6_)] [] (.tuple [.agg [.i n23, vl qa l24], .i e_25]) [.cells [.gslice 1 a0_.length 5, hsl 2 3 o19], .cells (a0_.flatMap qb.c), .cells ((hof o19).flatMap qh.c), .cells (cF a2_ a3_ a4_ a5_ a6_)]] (an (je [some 0, some 1, some 2] [some 0, some 1, some 2, none] (zy a0_ a1_ e_r18) (.keep rfl (.cells (qf.cons (.gslice rfl) (qf.cons ((qM.hs rfl)) qf.nil))) rfl rfl (.keep rfl (.same fa) rfl rfl (.keep rfl (.same fa) rfl rfl .nil))) rfl rfl (.back rfl rfl (.cells (qf.cons (.gslice rfl) (qf.cons ((qM.hs rfl)) qf.nil))) rfl (.back rfl rfl (.same fa) rfl (.back rfl rfl (.same fa) rfl (.old rfl rfl .nil)))) (qf.cons (.ptr rfl) qf.nil) (.same (qC.agg (qg.cons nI (qg.cons (qj qa _) qg.nil)))) rfl) (an (je [] [none, none, none, none] (xh N n20 l21 a2_ a3_ a4_ a5_ a6_ e_r22) .nil rfl rfl (.old rfl rfl (.old rfl rfl (.old rfl rfl (.old rfl rfl .nil)))) (qf.cons (.same (qC.agg (qg.cons nI (qg.cons (qj qa _) qg.nil)))) (qf.cons (.same (qC.agg (qg.cons nI (qg.cons nS (qg.cons (qj encS _) (qg.cons (qj encI _) (qg.cons nS qg.nil))))))) qf.nil)) (.same (qC.tuple (qg.cons (qC.agg (qg.cons nI (qg.cons (qj qa _) qg.nil))) (qg.cons nI qg.nil)))) rfl) trivial)) ?_
      refine sq ?_
      refine sq (Goes.rg fol [(0, .ptr 0 0), (3, .ptr 3 0), (5, .ptr 4 0), (6, .i e_25), (47, .bool (!decide (e_25 = 0)))] [.cells [.gslice 1 a0_.length 5, hsl 2 3 o19], .cells (a0_.flatMap qb.c), .cells ((hof o19).flatMap qh.c), .cells (cF a2_ a3_ a4_ a5_ a6_), .cells [.i n23, vl qa l24]] ?_)
      refine Goes.ifB (b := !decide (e_25 = 0)) (by kernel_rfl) (fun c26 => ?_) (fun c26 => ?_)
      · rw [if_pos (c26)] at h
        refine sq (Goes.rg fol [(4, .i e_25)] [.cells [.gslice 1 a0_.length 5, hsl 2 3 o19], .cells (a0_.flatMap qb.c), .cells ((hof o19).flatMap qh.c), .cells (cF a2_ a3_ a4_ a5_ a6_), .cells [.i n23, vl qa l24]] ?_)
        refine Goes.ret ?_
        simp only [Option.some.injEq, Prod.mk.injEq] at h
        obtain ⟨rfl, rfl, rfl⟩ := h
        exact (Goes.retH (xs := [.i e_25]) (by kernel_rfl) (Sub.norm [] [some 0, some 1, some 2, some 1, some 2] (by rw [hB]; rfl) rfl (.keep (.same nI) .nil) (.keep rfl (.cells (qf.cons (.gslice rfl) (qf.cons ((qM.hs rfl)) qf.nil))) rfl rfl (.lost (.lost (.keep rfl (.same fa) rfl rfl (.keep rfl (.same fa) rfl rfl .nil)))))))
      · rw [if_neg (nb c26)] at h
        refine Goes.skip ?_
        obtain ⟨l29, g_v30, h⟩ := bnd h
        refine Goes.cutS (s' := (ofG 73 [(0, .ptr 0 0), (3, .ptr 4 0)], [.cells [.gslice 1 a0_.length 5, .oslice 3 l29.length 3], .cells (a0_.flatMap qb.c), .dead, .cells (l29.flatMap qh.c), .cells (cF a2_ a3_ a4_ a5_ a6_)])) ?_ ?_
        · rcases o19 with _ | l27
          · try dsimp only at g_v30
            obtain rfl := si g_v30
            exact qm.sub (qm.rg fol [(0, .ptr 0 0), (3, .ptr 3 0)] [.cells [.gslice 1 a0_.length 5, .oslice 6 1 3], .cells (a0_.flatMap qb.c), .cells ((hof (none : Option (List StateT))).flatMap qh.c), .cells (cF a2_ a3_ a4_ a5_ a6_), .cells [.i n23, vl qa l24], .cells [.i a2_, .i n23, vl qa l24], .cells [.i a2_, .i n23, vl qa l24]]) (Sub.norm [] [some 0, some 1, some 2, some 6, some 3] (by rw [hB]; rfl) rfl (.keep (.ptr rfl) (.keep (.ptr rfl) .nil)) (.keep rfl (.cells (qf.cons (.gslice rfl) (qf.cons ((qM.osliceE rfl rfl)) qf.nil))) rfl rfl (.keep rfl (.same fa) rfl rfl (.lost (.keep rfl (.same fa) rfl rfl (.keep rfl (.same (qg.cons nI (qg.cons nS (qg.cons (qj encS _) (qg.cons (qj encI _) (qg.cons nS qg.nil)))))) rfl rfl .nil))))))
          · try dsimp only at g_v30
            obtain ⟨l28, e_l28, g_v30⟩ := bnd g_v30
            obtain rfl := si g_v30
            exact qm.sub (qm.rp fol [10] [(0, .ptr 0 0), (3, .ptr 3 0)] [.cells [.gslice 1 a0_.length 5, .oslice 6 l28.length 3], .cells (a0_.flatMap qb.c), .dead, .cells (cF a2_ a3_ a4_ a5_ a6_), .cells [.i n23, vl qa l24], .cells [.i a2_, .i n23, vl qa l24], .cells (l28.flatMap qh.c)] [.run [2, 5] (zz Tryz.prog [163, 163] (.oslice 2 l27.length 3) (.slice 5 0 1 1 3)) [.cells [.gslice 1 a0_.length 5, .oslice 2 l27.length 3], .cells (a0_.flatMap qb.c), .cells (l27.flatMap qh.c), .cells (cF a2_ a3_ a4_ a5_ a6_), .cells [.i n23, vl qa l24], .cells [.i a2_, .i n23, vl qa l24]] (.oslice 6 l28.length 3) [.cells [.gslice 1 a0_.length 5, .oslice 2 l27.length 3], .cells (a0_.flatMap qb.c), .dead, .cells (cF a2_ a3_ a4_ a5_ a6_), .cells [.i n23, vl qa l24], .cells [.i a2_, .i n23, vl qa l24], .cells (l28.flatMap qh.c)] true] (an (vO qgs (E := qh) rfl (qdg (E := qh) (ys := [(⟨a2_, (⟨n23, l24⟩ : kU)⟩ : StateT)]) rfl rfl rfl rfl) (qgz (E := qh) (l := l27) rfl rfl rfl e_l28 rfl)) trivial)) (Sub.norm [] [some 0, some 1, some 2, some 6, some 3] (by rw [hB]; rfl) rfl (.keep (.ptr rfl) (.keep (.ptr rfl) .nil)) (.keep rfl (.cells (qf.cons (.gslice rfl) (qf.cons (.oslice rfl) qf.nil))) rfl rfl (.keep rfl (.same fa) rfl rfl (.lost (.keep rfl (.same fa) rfl rfl (.keep rfl (.same (qg.cons nI (qg.cons nS (qg.cons (qj encS _) (qg.cons (qj encI _) (qg.cons nS qg.nil)))))) rfl rfl .nil))))))
        intro _ hsub
        refine Goes.sub hsub ?_
        refine sq ?_
        obtain ⟨r31, e_r31, h⟩ := bnd h
        obtain ⟨l32, e_l32, h⟩ := bnd h
        refine Goes.rp fol [6, 8] [] [.cells [.gslice 6 l32.length 5, .oslice 3 l29.length 3], .dead, .dead, .cells (l29.flatMap qh.c), .cells (cF a2_ a3_ a4_ a5_ a6_), .cells (cE r31), .cells (l32.flatMap qb.c)] [.call 115 [.agg (cF a2_ a3_ a4_ a5_ a6_)] [.cells [.gslice 1 a0_.length 5, .oslice 3 l29.length 3], .cells (a0_.flatMap qb.c), .dead, .cells (l29.flatMap qh.c), .cells (cF a2_ a3_ a4_ a5_ a6_)] [] [.agg (cF a2_ a3_ a4_ a5_ a6_)] (.agg (cE r31)), .run [1, 5] (zz Tryz.prog [22, 22] (.gslice 1 a0_.length 5) (.slice 5 0 1 1 5)) [.cells [.gslice 1 a0_.length 5, .oslice 3 l29.length 3], .cells (a0_.flatMap qb.c), .dead, .cells (l29.flatMap qh.c), .cells (cF a2_ a3_ a4_ a5_ a6_), .cells (cE r31)] (.gslice 6 l32.length 5) [.cells [.gslice 1 a0_.length 5, .oslice 3 l29.length 3], .dead, .dead, .cells (l29.flatMap qh.c), .cells (cF a2_ a3_ a4_ a5_ a6_), .cells (cE r31), .cells (l32.flatMap qb.c)] true] (an (qo (AllST.cons (Still.agg (AllST.cons tI (AllST.cons tS (AllST.cons (qD encS _ (nl rfl)) (AllST.cons (qD encI _ (nl rfl)) (AllST.cons tS AllST.nil)))))) AllST.nil) (yH (⟨a2_, a3_, a4_, a5_, a6_⟩ : ql) e_r31) (Still.agg (AllST.cons tI (AllST.cons tS (AllST.cons (qD encS _ (nl rfl)) (AllST.cons (qD encI _ (nl rfl)) (AllST.cons tS AllST.nil))))))) (an (vO yA (E := qb) rfl (qdg (E := qb) (ys := [r31]) rfl rfl rfl rfl) (qjl (E := qb) (l := a0_) rfl rfl rfl e_l32 rfl)) trivial)) ?_
        refine sq (Goes.rg fol [(4, .i 0)] [.cells [.gslice 6 l32.length 5, .oslice 3 l29.length 3], .dead, .dead, .cells (l29.flatMap qh.c), .cells (cF a2_ a3_ a4_ a5_ a6_), .cells (cE r31), .cells (l32.flatMap qb.c)] ?_)
        refine Goes.ret ?_
        simp only [Option.some.injEq, Prod.mk.injEq] at h
        obtain ⟨rfl, rfl, rfl⟩ := h
        exact (Goes.retH (xs := [.i 0]) (by kernel_rfl) (Sub.norm [] [some 0, some 1, some 2, some 6, some 3] (by rw [hB]; rfl) rfl (.keep (.same nI) .nil) (.keep rfl (.cells (qf.cons (.gslice rfl) (qf.cons ((qM.hs1 rfl)) qf.nil))) rfl rfl (.lost (.lost (.keep rfl (.same fa) rfl rfl (.keep rfl (.same fa) rfl rfl .nil)))))))
def jv (N : Nat) (a0_ : List ql) (a1_ : Option (List StateT)) (a2_ : Int) (a3_ : Str) (a4_ : List Str) (a5_ : List Int) (a6_ : Str) : Option ((List ql) × (Option (List StateT)) × Int) :=
  (jK N (⟨a2_, a3_, a4_, a5_, a6_⟩ : ql)).bind fun r4 =>
  if (!decide (r4 = 0)) = true then
  some (a0_, a1_, r4)
  else
  (zJ N a0_ a1_ a2_ a3_ a4_ a5_ a6_).bind fun (l7, o8, h_9) =>
  some (l7, o8, h_9)
theorem qav (N : Nat) (a0_ : List ql) (a1_ : Option (List StateT)) (a2_ : Int) (a3_ : Str) (a4_ : List Str) (a5_ : List Int) (a6_ : Str) {l1 : List ql} {o2 : Option (List StateT)} {h_3 : Int} (h : jv N a0_ a1_ a2_ a3_ a4_ a5_ a6_ = some (l1, o2, h_3)) : qy Tryz.prog (.fn 128) [.ptr 0 0, .agg (cF a2_ a3_ a4_ a5_ a6_)] [.cells [.gslice 1 a0_.length 5, hsl 2 3 a1_], .cells (a0_.flatMap qb.c), .cells ((hof a1_).flatMap qh.c)] (.i h_3) [.cells [.gslice 3 l1.length 5, hsl 4 3 o2], .dead, .dead, .cells (l1.flatMap qb.c), .cells ((hof o2).flatMap qh.c)] := by
  unfold jv at h
  refine Goes.fnH Tryz.func128 rfl rfl (m := 14) rfl (rs := [.tmp 4]) rfl (l := [(0, .ptr 0 0), (1, .agg (cF a2_ a3_ a4_ a5_ a6_))]) rfl ?_
  intro B hB
  refine sq (Goes.rg fol [(0, .ptr 0 0), (3, .ptr 3 0)] [.cells [.gslice 1 a0_.length 5, hsl 2 3 a1_], .cells (a0_.flatMap qb.c), .cells ((hof a1_).flatMap qh.c), .cells (cF a2_ a3_ a4_ a5_ a6_)] ?_)
  refine sq ?_
  refine sq ?_
  obtain ⟨r4, e_r4, h⟩ := bnd h
  refine Goes.rp fol [1] [(0, .ptr 0 0), (3, .ptr 3 0), (5, .i r4)] [.cells [.gslice 1 a0_.length 5, hsl 2 3 a1_], .cells (a0_.flatMap qb.c), .cells ((hof a1_).flatMap qh.c), .cells (cF a2_ a3_ a4_ a5_ a6_)] [.call 18 [.agg (cF a2_ a3_ a4_ a5_ a6_)] [.cells [.gslice 1 a0_.length 5, hsl 2 3 a1_], .cells (a0_.flatMap qb.c), .cells ((hof a1_).flatMap qh.c), .cells (cF a2_ a3_ a4_ a5_ a6_)] [] [.agg (cF a2_ a3_ a4_ a5_ a6_)] (.i r4)] (an (qo (AllST.cons (Still.agg (AllST.cons tI (AllST.cons tS (AllST.cons (qD encS _ (nl rfl)) (AllST.cons (qD encI _ (nl rfl)) (AllST.cons tS AllST.nil)))))) AllST.nil) (qa3 N (⟨a2_, a3_, a4_, a5_, a6_⟩ : ql) e_r4) tI) trivial) ?_
  refine sq (Goes.rg fol [(0, .ptr 0 0), (3, .ptr 3 0), (5, .i r4), (9, .bool (!decide (r4 = 0)))] [.cells [.gslice 1 a0_.length 5, hsl 2 3 a1_], .cells (a0_.flatMap qb.c), .cells ((hof a1_).flatMap qh.c), .cells (cF a2_ a3_ a4_ a5_ a6_)] ?_)
  refine Goes.ifB (b := !decide (r4 = 0)) (by kernel_rfl) (fun c5 => ?_) (fun c5 => ?_)
  · rw [if_pos (c5)] at h
    refine sq (Goes.rg fol [(4, .i r4)] [.cells [.gslice 1 a0_.length 5, hsl 2 3 a1_], .cells (a0_.flatMap qb.c), .cells ((hof a1_).flatMap qh.c), .cells (cF a2_ a3_ a4_ a5_ a6_)] ?_)
    refine Goes.ret ?_
    simp only [Option.some.injEq, Prod.mk.injEq] at h
    obtain ⟨rfl, rfl, rfl⟩ := h
    exact (Goes.retH (xs := [.i r4]) (by kernel_rfl) (Sub.norm [] [some 0, some 1, some 2, some 1, some 2] (by rw [hB]; rfl) rfl (.keep (.same nI) .nil) (.keep rfl (.cells (qf.cons (.gslice rfl) (qf.cons ((qM.hs rfl)) qf.nil))) rfl rfl (.lost (.lost (.keep rfl (.same fa) rfl rfl (.keep rfl (.same fa) rfl rfl .nil)))))))
  · rw [if_neg (nb c5)] at h
    refine Goes.skip ?_
    refine sq ?_
    obtain ⟨⟨l7, o8, h_9⟩, e_r6, h⟩ := bnd h
    try dsimp only at h
    refine Goes.rp fol [2] [(4, .i h_9)] [.cells [.gslice 4 l7.length 5, hsl 5 3 o8], .dead, .dead, .cells (cF a2_ a3_ a4_ a5_ a6_), .cells (l7.flatMap qb.c), .cells ((hof o8).flatMap qh.c)] [.callH 91 [.ptr 0 0, .agg (cF a2_ a3_ a4_ a5_ a6_)] [.cells [.gslice 1 a0_.length 5, hsl 2 3 a1_], .cells (a0_.flatMap qb.c), .cells ((hof a1_).flatMap qh.c), .cells (cF a2_ a3_ a4_ a5_ a6_)] [0, 1, 2] (.i h_9) [.cells [.gslice 4 l7.length 5, hsl 5 3 o8], .dead, .dead, .cells (cF a2_ a3_ a4_ a5_ a6_), .cells (l7.flatMap qb.c), .cells ((hof o8).flatMap qh.c)]] (an (je [some 0, some 1, some 2] [some 0, none, none, none, some 3, some 4] (xN N a0_ a1_ a2_ a3_ a4_ a5_ a6_ e_r6) (.keep rfl (.cells (qf.cons (.gslice rfl) (qf.cons ((qM.hs rfl)) qf.nil))) rfl rfl (.keep rfl (.same fa) rfl rfl (.keep rfl (.same fa) rfl rfl .nil))) rfl rfl (.back rfl rfl (.cells (qf.cons (.gslice rfl) (qf.cons ((qM.hs rfl)) qf.nil))) rfl (.dead (.dead (.old rfl rfl (.new rfl rfl (.same fa) rfl (.new rfl rfl (.same fa) rfl .nil)))))) (qf.cons (.ptr rfl) (qf.cons (.same (qC.agg (qg.cons nI (qg.cons nS (qg.cons (qj encS _) (qg.cons (qj encI _) (qg.cons nS qg.nil))))))) qf.nil)) (.same nI) rfl) trivial) ?_
    refine Goes.ret ?_
    simp only [Option.some.injEq, Prod.mk.injEq] at h
    obtain ⟨rfl, rfl, rfl⟩ := h
    exact (Goes.retH (xs := [.i h_9]) (by kernel_rfl) (Sub.norm [] [some 0, some 1, some 2, some 4, some 5] (by rw [hB]; rfl) rfl (.keep (.same nI) .nil) (.keep rfl (.cells (qf.cons (.gslice rfl) (qf.cons ((qM.hs rfl)) qf.nil))) rfl rfl (.lost (.lost (.keep rfl (.same fa) rfl rfl (.keep rfl (.same fa) rfl rfl .nil)))))))
def qU (N : Nat) (a0_ : List ql) : Nat → (List ql) → (Option (List StateT)) → Int → Option (((List ql) × (Option (List StateT))) ⊕ ((List ql) × (Option (List StateT)) × Bool × Int × Int))
  | 0, _, _, _ => none
  | K + 1, l7, o8, n9 =>
    if n9 < (a0_.length : Int) then
    (idx a0_ n9).bind fun x15 =>
    (jv N l7 o8 x15.Number x15.Kind x15.Names x15.Values x15.Text).bind fun (l17, o18, h_19) =>
    if (!decide (h_19 = 0)) = true then
    some (.inr (([] : List ql), (none : Option (List StateT)), false, w64 (n9 + 1), h_19))
    else
    qU N a0_ K l17 o18 (w64 (n9 + 1))
    else
    some (.inl (l7, o8))
def zh (N : Nat) (a0_ : List ql) : Option ((List ql) × (Option (List StateT)) × Bool × Int × Int) :=
  if (a0_.length : Int) > 1000 then
  some (([] : List ql), (none : Option (List StateT)), false, 0, 5)
  else
  (qU N a0_ N ([] : List ql) (none : Option (List StateT)) 0).bind (fun
  | (.inl (l10, o11)) =>
  some (l10, o11, true, 0, 0)
  | (.inr q21) =>
  some q21)
theorem xe (N : Nat) (a0_ : List ql) {l1 : List ql} {o2 : Option (List StateT)} {ok3 : Bool} {l_4 : Int} {n5 : Int} (h : zh N a0_ = some (l1, o2, ok3, l_4, n5)) : qy Tryz.prog (.fn 80) [vl qb a0_] [] (.tuple [pz ok3 0 0, .i l_4, .i n5]) [.cells [.gslice 1 l1.length 5, hsl 2 3 o2], .cells (l1.flatMap qb.c), .cells ((hof o2).flatMap qh.c)] := by
  unfold zh at h
  refine Goes.fnH Tryz.func80 rfl rfl (m := 31) rfl (rs := [.tmp 2, .tmp 3, .tmp 4]) rfl (l := [(0, vl qb a0_)]) rfl ?_
  intro B hB
  refine sq (Goes.rg fol [(0, vl qb a0_)] [] ?_)
  refine sq ?_
  refine sq (Goes.rg fol [(0, vl qb a0_), (11, .bool (decide ((a0_.length : Int) > 1000)))] [] ?_)
  refine Goes.ifB (b := decide ((a0_.length : Int) > 1000)) (by kernel_rfl) (fun c6 => ?_) (fun c6 => ?_)
  · rw [if_pos (ot c6)] at h
    refine sq (Goes.rg fol [(2, .nilptr), (3, .i 0), (4, .i 5)] [] ?_)
    refine Goes.ret ?_
    simp only [Option.some.injEq, Prod.mk.injEq] at h
    obtain ⟨rfl, rfl, rfl, rfl, rfl⟩ := h
    exact (Goes.retH (xs := [.nilptr, .i 0, .i 5]) (by kernel_rfl) (Sub.norm [] [none, none, none] (by rw [hB]; rfl) rfl (.keep (.tupleL (qf.cons (qM.pz0) (qf.cons (.same nI) (qf.cons (.same nI) qf.nil)))) .nil) (.fresh (.fresh (.fresh .nil)))))
  · rw [if_neg (of_ c6)] at h
    refine Goes.skip ?_
    refine sq (Goes.rg fol [(0, vl qb a0_), (5, .ptr 0 0)] [.cells [.nilslice, .nilslice]] ?_)
    refine sq ?_
    refine sq (Goes.rg fol [(5, .ptr 0 0), (14, vl qb a0_), (15, .i (a0_.length : Int)), (16, .i 0)] [.cells [.nilslice, .nilslice]] ?_)
    refine Goes.block ?_
    obtain ⟨r12, g12, h⟩ := bnd h
    refine Goes.imp (Q := fun x s' => (x = .exit 0 ∧ ∃ l10 o11, (.inl (l10, o11)) = r12 ∧ Sub s' (ofG 31 [(5, .ptr 0 0)], [.cells [.gslice 1 l10.length 5, hsl 2 3 o11], .cells (l10.flatMap qb.c), .cells ((hof o11).flatMap qh.c)])) ∨ (x = .ret ∧ ∃ q13, (.inr q13) = r12 ∧ qdE Tryz.prog [.tmp 2, .tmp 3, .tmp 4] (.tuple [pz q13.2.2.1 0 0, .i q13.2.2.2.1, .i q13.2.2.2.2]) [.cells [.gslice 1 q13.1.length 5, hsl 2 3 q13.2.1], .cells (q13.1.flatMap qb.c), .cells ((hof q13.2.1).flatMap qh.c)] .ret s')) ?_ ?_
    · refine Goes.sub (s' := (ofG 31 [(5, .ptr 0 0), (14, vl qb a0_), (15, .i (a0_.length : Int)), (16, .i 0)], [.cells [.gslice 1 ([] : List ql).length 5, hsl 2 3 (none : Option (List StateT))], .cells (([] : List ql).flatMap qb.c), .cells ((hof (none : Option (List StateT))).flatMap qh.c)])) (Sub.norm [] [some 0, none, none] (by rw [hB]; rfl) rfl (.keep (.ptr rfl) (.keep (.same (qj qb _)) (.keep (.same nI) (.keep (.same nI) .nil)))) (.keep rfl (.cells (qf.cons (.nil) (qf.cons (qM.hs0) qf.nil))) rfl rfl (.fresh (.fresh .nil)))) ?_
      refine Goes.loopS (fun M s => ∃ (l7 : List ql) (o8 : Option (List StateT)) (n9 : Int), s = (ofG 31 [(5, .ptr 0 0), (14, vl qb a0_), (15, .i (a0_.length : Int)), (16, .i n9)], [.cells [.gslice 1 l7.length 5, hsl 2 3 o8], .cells (l7.flatMap qb.c), .cells ((hof o8).flatMap qh.c)]) ∧ qU N a0_ M l7 o8 n9 = some r12) ?_ (m := N) ⟨_, _, _, rfl, g12⟩
      rintro M s ⟨l7, o8, n9, rfl, g12⟩
      cases M with
      | zero => simp only [qU] at g12; cases g12
      | succ M =>
        rw [qU] at g12
        refine sq (Goes.rg fol [(5, .ptr 0 0), (14, vl qb a0_), (15, .i (a0_.length : Int)), (16, .i n9), (17, .bool (decide (n9 < (a0_.length : Int))))] [.cells [.gslice 1 l7.length 5, hsl 2 3 o8], .cells (l7.flatMap qb.c), .cells ((hof o8).flatMap qh.c)] ?_)
        refine sq ?_
        refine Goes.ifB (b := decide (n9 < (a0_.length : Int))) (by kernel_rfl) (fun c14 => ?_) (fun c14 => ?_)
        · rw [if_pos (ot c14)] at g12
          refine Goes.skip ?_
          refine sq (Goes.block ?_)
          refine sq ?_
          obtain ⟨x15, e_x15, g12⟩ := bnd g12
          refine Goes.rp fol [1, 2] [(5, .ptr 0 0), (6, .i n9), (7, .ptr 3 0), (14, vl qb a0_), (15, .i (a0_.length : Int)), (16, .i n9)] [.cells [.gslice 1 l7.length 5, hsl 2 3 o8], .cells (l7.flatMap qb.c), .cells ((hof o8).flatMap qh.c), .cells (cE x15)] [.done (.opt (qd Tryz.prog 22 (vl qb a0_) (.i n9))) (.fptr (a0_.flatMap qb.c) ((n9 : Int).toNat * 5 + 0)), .done (qx Tryz.prog 26 (.fptr (a0_.flatMap qb.c) ((n9 : Int).toNat * 5 + 0))) (.agg (cE x15))] (an (qB yA (E := qb) rfl e_x15) (an (qaT qhi (E := qb) rfl e_x15) trivial)) ?_
          refine sq ?_
          obtain ⟨⟨l17, o18, h_19⟩, e_r16, g12⟩ := bnd g12
          try dsimp only at g12
          refine Goes.rp fol [2] [(5, .ptr 0 0), (6, .i n9), (8, .i h_19), (14, vl qb a0_), (15, .i (a0_.length : Int)), (16, .i n9)] [.cells [.gslice 4 l17.length 5, hsl 5 3 o18], .dead, .dead, .cells (cE x15), .cells (l17.flatMap qb.c), .cells ((hof o18).flatMap qh.c)] [.callH 128 [.ptr 0 0, .agg (cE x15)] [.cells [.gslice 1 l7.length 5, hsl 2 3 o8], .cells (l7.flatMap qb.c), .cells ((hof o8).flatMap qh.c), .cells (cE x15)] [0, 1, 2] (.i h_19) [.cells [.gslice 4 l17.length 5, hsl 5 3 o18], .dead, .dead, .cells (cE x15), .cells (l17.flatMap qb.c), .cells ((hof o18).flatMap qh.c)]] (an (je [some 0, some 1, some 2] [some 0, none, none, none, some 3, some 4] (qav N l7 o8 x15.Number x15.Kind x15.Names x15.Values x15.Text e_r16) (.keep rfl (.cells (qf.cons (.gslice rfl) (qf.cons ((qM.hs rfl)) qf.nil))) rfl rfl (.keep rfl (.same fa) rfl rfl (.keep rfl (.same fa) rfl rfl .nil))) rfl rfl (.back rfl rfl (.cells (qf.cons (.gslice rfl) (qf.cons ((qM.hs rfl)) qf.nil))) rfl (.dead (.dead (.old rfl rfl (.new rfl rfl (.same fa) rfl (.new rfl rfl (.same fa) rfl .nil)))))) (qf.cons (.ptr rfl) (qf.cons (.same (qC.agg (qg.cons nI (qg.cons nS (qg.cons (qj encS _) (qg.cons (qj encI _) (qg.cons nS qg.nil))))))) qf.nil)) (.same nI) rfl) trivial) ?_
          refine sq (Goes.rg fol [(5, .ptr 0 0), (6, .i n9), (8, .i h_19), (14, vl qb a0_), (15, .i (a0_.length : Int)), (16, .i n9), (25, .bool (!decide (h_19 = 0)))] [.cells [.gslice 4 l17.length 5, hsl 5 3 o18], .dead, .dead, .cells (cE x15), .cells (l17.flatMap qb.c), .cells ((hof o18).flatMap qh.c)] ?_)
          refine Goes.ifB (b := !decide (h_19 = 0)) (by kernel_rfl) (fun c20 => ?_) (fun c20 => ?_)
          · rw [if_pos (c20)] at g12
            refine sq (Goes.rg fol [(2, .nilptr), (3, .i (w64 (n9 + 1))), (4, .i h_19)] [.cells [.gslice 4 l17.length 5, hsl 5 3 o18], .dead, .dead, .cells (cE x15), .cells (l17.flatMap qb.c), .cells ((hof o18).flatMap qh.c)] ?_)
            refine Goes.ret ?_
            obtain rfl := si g12
            exact Or.inr (⟨rfl, _, rfl, (Goes.retH (xs := [.nilptr, .i (w64 (n9 + 1)), .i h_19]) (by kernel_rfl) (Sub.norm [] [none, none, none] (by rw [hB]; rfl) rfl (.keep (.tupleL (qf.cons (qM.pz0) (qf.cons (.same nI) (qf.cons (.same nI) qf.nil)))) .nil) (.fresh (.fresh (.fresh .nil)))))⟩)
          · rw [if_neg (nb c20)] at g12
            refine Goes.skip ?_
            refine Goes.rg fol [(5, .ptr 0 0), (14, vl qb a0_), (15, .i (a0_.length : Int)), (16, .i (w64 (n9 + 1)))] [.cells [.gslice 4 l17.length 5, hsl 5 3 o18], .dead, .dead, .cells (cE x15), .cells (l17.flatMap qb.c), .cells ((hof o18).flatMap qh.c)] ?_
            exact ⟨M, (ofG 31 [(5, .ptr 0 0), (14, vl qb a0_), (15, .i (a0_.length : Int)), (16, .i (w64 (n9 + 1)))], [.cells [.gslice 1 l17.length 5, hsl 2 3 o18], .cells (l17.flatMap qb.c), .cells ((hof o18).flatMap qh.c)]), Nat.lt_succ_self _, (Sub.norm [] [some 0, some 4, some 5] (by rw [hB]; rfl) rfl (.keep (.ptr rfl) (.keep (.same (qj qb _)) (.keep (.same nI) (.keep (.same nI) .nil)))) (.keep rfl (.cells (qf.cons (.gslice rfl) (qf.cons ((qM.hs rfl)) qf.nil))) rfl rfl (.keep rfl (.same fa) rfl rfl (.keep rfl (.same fa) rfl rfl .nil)))), _, _, _, rfl, g12⟩
        · rw [if_neg (of_ c14)] at g12
          refine Goes.exit ?_
          obtain rfl := si g12
          exact Or.inl (⟨rfl, _, _, rfl, (Sub.keep [5] rfl rfl)⟩)
    rintro x s' (⟨rfl, l10, o11, rfl, hsub⟩ | ⟨rfl, q21, rfl, hret⟩)
    · try dsimp only at h
      refine Goes.sub hsub ?_
      refine sq (Goes.rg fol [(2, .ptr 0 0), (3, .i 0), (4, .i 0)] [.cells [.gslice 1 l10.length 5, hsl 2 3 o11], .cells (l10.flatMap qb.c), .cells ((hof o11).flatMap qh.c)] ?_)
      refine Goes.ret ?_
      simp only [Option.some.injEq, Prod.mk.injEq] at h
      obtain ⟨rfl, rfl, rfl, rfl, rfl⟩ := h
      exact (Goes.retH (xs := [.ptr 0 0, .i 0, .i 0]) (by kernel_rfl) (qd8.refl _ _))
    · try dsimp only at h
      obtain rfl := si h
      exact hret
def vV (N : Nat) (l : List ql) : Option (kU × Int × Int) :=
  (zh N l).bind fun (l2, o3, ok4, l_5, n6) =>
  if (!decide (n6 = 0)) = true then
  some ((⟨0, []⟩ : kU), l_5, n6)
  else
  ((match ok4 with
  | false =>
  none
  | true =>
  (qH l2 o3).bind fun (o9, n10, l11) =>
  (qz n10 l11).bind fun l13 =>
  some (n10, o9, l13)) : Option (Int × (Option (List StateT)) × (List qc))).bind fun (n14, o15, l16) =>
  some ((⟨n14, l16⟩ : kU), 0, 0)
theorem qcw (N : Nat) (l : List ql) {res : kU × Int × Int} (h : vV N l = some res) : qy Tryz.prog (.fn 16) [vl qb l] [] (.tuple [.agg [.i res.1.Day, vl qa res.1.Slings], .i res.2.1, .i res.2.2]) [] := by
  unfold vV at h
  refine Goes.fnW Tryz.func16 rfl rfl (m := 22) rfl (rs := [.cell 2 31, .tmp 3, .tmp 4]) rfl (l := [(0, vl qb l)]) rfl ?_
  refine sq (Goes.rg fol [(0, vl qb l), (2, .ptr 0 0)] [bZ] ?_)
  refine sq ?_
  obtain ⟨⟨l2, o3, ok4, l_5, n6⟩, e_r1, h⟩ := bnd h
  try dsimp only at h
  refine Goes.rp fol [1] [(2, .ptr 0 0), (5, pz ok4 1 0), (6, .i l_5), (7, .i n6)] [bZ, .cells [.gslice 2 l2.length 5, hsl 3 3 o3], .cells (l2.flatMap qb.c), .cells ((hof o3).flatMap qh.c)] [.callH 80 [vl qb l] [bZ] [] (.tuple [pz ok4 1 0, .i l_5, .i n6]) [bZ, .cells [.gslice 2 l2.length 5, hsl 3 3 o3], .cells (l2.flatMap qb.c), .cells ((hof o3).flatMap qh.c)]] (an (je [] [none, some 0, some 1, some 2] (xe N l e_r1) .nil rfl rfl (.old rfl rfl (.new rfl rfl (.cells (qf.cons (.gslice rfl) (qf.cons ((qM.hs rfl)) qf.nil))) rfl (.new rfl rfl (.same fa) rfl (.new rfl rfl (.same fa) rfl .nil)))) (qf.cons (.same (qj qb _)) qf.nil) (.tupleL (qf.cons ((qM.pz rfl)) (qf.cons (.same nI) (qf.cons (.same nI) qf.nil)))) rfl) trivial) ?_
  refine sq ?_
  refine sq (Goes.rg fol [(2, .ptr 0 0), (5, pz ok4 1 0), (6, .i l_5), (7, .i n6), (15, .bool (!decide (n6 = 0)))] [bZ, .cells [.gslice 2 l2.length 5, hsl 3 3 o3], .cells (l2.flatMap qb.c), .cells ((hof o3).flatMap qh.c)] ?_)
  refine Goes.ifB (b := !decide (n6 = 0)) (by kernel_rfl) (fun c7 => ?_) (fun c7 => ?_)
  · rw [if_pos (c7)] at h
    refine sq (Goes.rg fol [(2, .ptr 0 0), (3, .i l_5), (4, .i n6)] [bZ, .cells [.gslice 2 l2.length 5, hsl 3 3 o3], .cells (l2.flatMap qb.c), .cells ((hof o3).flatMap qh.c)] ?_)
    refine Goes.ret ?_
    obtain rfl := si h
    exact (Goes.retW (xs := [.agg [.i 0, .nilslice], .i l_5, .i n6]) (by kernel_rfl) (FzW.tuple (qK.cons (FzW.agg (qK.cons (FzW.still tI) (qK.cons (FzW.nilv (E := qa)) qK.nil))) (qK.cons (FzW.still tI) (qK.cons (FzW.still tI) qK.nil)))))
  · rw [if_neg (nb c7)] at h
    refine Goes.skip ?_
    refine sq ?_
    obtain ⟨⟨n14, o15, l16⟩, g_v17, h⟩ := bnd h
    refine Goes.cut (s' := (ofG 22 [(2, .ptr 0 0), (3, .i 0), (4, .i 0)], [.cells [.i n14, .slice 4 0 l16.length l16.length 9], .cells [.gslice 2 l2.length 5, hsl 3 3 o15], .cells (l2.flatMap qb.c), .cells ((hof o15).flatMap qh.c), bS l16])) ?_ ?_
    · rcases ok4 with _ | _
      · try dsimp only at g_v17
        cases g_v17
      · try dsimp only at g_v17
        obtain ⟨⟨o9, n10, l11⟩, e_r8, g_v17⟩ := bnd g_v17
        try dsimp only at g_v17
        obtain ⟨l13, e_r12, g_v17⟩ := bnd g_v17
        simp only [Option.some.injEq, Prod.mk.injEq] at g_v17
        obtain ⟨rfl, rfl, rfl⟩ := g_v17
        exact qm.rp fol [1, 2] [(2, .ptr 0 0), (3, .i 0), (4, .i 0)] [.cells [.i n10, .slice 4 0 l13.length l13.length 9], .cells [.gslice 2 l2.length 5, hsl 3 3 o9], .cells (l2.flatMap qb.c), .cells ((hof o9).flatMap qh.c), bS l13] [.callH 81 [.ptr 1 0] [bZ, .cells [.gslice 2 l2.length 5, hsl 3 3 o3], .cells (l2.flatMap qb.c), .cells ((hof o3).flatMap qh.c)] [1, 2, 3] (.agg [.i n10, vl qa l11]) [bZ, .cells [.gslice 2 l2.length 5, hsl 3 3 o9], .cells (l2.flatMap qb.c), .cells ((hof o9).flatMap qh.c)], .callH 82 [.agg [.i n10, vl qa l11]] [bZ, .cells [.gslice 2 l2.length 5, hsl 3 3 o9], .cells (l2.flatMap qb.c), .cells ((hof o9).flatMap qh.c)] [] (.agg [.i n10, .slice 4 0 l13.length l13.length 9]) [bZ, .cells [.gslice 2 l2.length 5, hsl 3 3 o9], .cells (l2.flatMap qb.c), .cells ((hof o9).flatMap qh.c), bS l13]] (an (je [some 1, some 2, some 3] [none, some 0, some 1, some 2] (zy l2 o3 e_r8) (.keep rfl (.cells (qf.cons (.gslice rfl) (qf.cons ((qM.hs rfl)) qf.nil))) rfl rfl (.keep rfl (.same fa) rfl rfl (.keep rfl (.same fa) rfl rfl .nil))) rfl rfl (.old rfl rfl (.back rfl rfl (.cells (qf.cons (.gslice rfl) (qf.cons ((qM.hs rfl)) qf.nil))) rfl (.back rfl rfl (.same fa) rfl (.back rfl rfl (.same fa) rfl .nil)))) (qf.cons (.ptr rfl) qf.nil) (.same (qC.agg (qg.cons nI (qg.cons (qj qa _) qg.nil)))) rfl) (an (je [] [none, none, none, none, some 0] (qX n10 l11 e_r12) .nil rfl rfl (.old rfl rfl (.old rfl rfl (.old rfl rfl (.old rfl rfl (.new rfl rfl (.same fa) rfl .nil))))) (qf.cons (.same (qC.agg (qg.cons nI (qg.cons (qj qa _) qg.nil)))) qf.nil) (.aggL (qf.cons (.same nI) (qf.cons (.slice rfl) qf.nil))) rfl) trivial))
    try dsimp only at h
    refine Goes.ret ?_
    obtain rfl := si h
    exact (Goes.retW (xs := [.agg [.i n14, .slice 4 0 l16.length l16.length 9], .i 0, .i 0]) (by kernel_rfl) (FzW.tuple (qK.cons (FzW.agg (qK.cons (FzW.still tI) (qK.cons (FzW.fz (Fz.sl (E := qa) rfl rfl (nl rfl))) qK.nil))) (qK.cons (FzW.still tI) (qK.cons (FzW.still tI) qK.nil)))))
def kZ (n : Int) (low : Int) (high : Int) : Option Bool :=
  (if n < low then
  some true
  else
  some (decide (n > high)) : Option Bool).bind fun b2 =>
  some b2
theorem kN (n : Int) (low : Int) (high : Int) {res : Bool} (h : kZ n low high = some res) : qy Tryz.prog (.fn 36) [.i n, .i low, .i high] [] (.bool res) [] := by
  unfold kZ at h
  refine Goes.fnW Tryz.func36 rfl rfl (m := 15) rfl (rs := [.tmp 6]) rfl (l := [(0, .i n), (1, .i low), (2, .i high)]) rfl ?_
  refine sq (Goes.rg fol [(0, .i n), (1, .i low), (2, .i high)] [] ?_)
  refine sq ?_
  obtain ⟨b2, g_v3, h⟩ := bnd h
  refine Goes.cut (s' := (ofG 15 [(6, .bool b2)], [])) ?_ ?_
  · rcases Bool.eq_false_or_eq_true (decide (n < low)) with c1 | c1
    · rw [if_pos (ot c1)] at g_v3
      obtain rfl := si g_v3
      exact qm.rp fol [3] [(6, .bool true)] [] [.done (.done (.bool (decide (n < low)))) (.bool true)] (an (congrArg (fun x => Pg.done (.bool x)) c1) trivial)
    · rw [if_neg (of_ c1)] at g_v3
      obtain rfl := si g_v3
      exact qm.rp fol [3] [(6, .bool (decide (n > high)))] [] [.done (.done (.bool (decide (n < low)))) (.bool false)] (an (congrArg (fun x => Pg.done (.bool x)) c1) trivial)
  refine Goes.ret ?_
  obtain rfl := si h
  exact (Goes.retW (xs := [.bool b2]) (by kernel_rfl) (FzW.still tB))
def jl (s_ : Str) : Nat → Int → Option (Unit ⊕ Bool)
  | 0, _ => none
  | K + 1, i_5 =>
    if i_5 < (s_.length : Int) then
    (idx s_ i_5).bind fun c9 =>
    (if (c9.toNat : Int) ≥ 97 then
    if (c9.toNat : Int) ≤ 122 then
    some true
    else
    if (c9.toNat : Int) ≥ 65 then
    some (decide ((c9.toNat : Int) ≤ 90))
    else
    some false
    else
    if (c9.toNat : Int) ≥ 65 then
    some (decide ((c9.toNat : Int) ≤ 90))
    else
    some false : Option Bool).bind fun letter_14 =>
    (if (!letter_14) = true then
    if i_5 = 0 then
    some true
    else
    if (c9.toNat : Int) ≥ 48 then
    if (c9.toNat : Int) ≤ 57 then
    some false
    else
    some (!(decide ((c9.toNat : Int) = 95)))
    else
    some (!(decide ((c9.toNat : Int) = 95)))
    else
    some false : Option Bool).bind fun b20 =>
    if b20 = true then
    some (.inr false)
    else
    jl s_ K (w64 (i_5 + 1))
    else
    some (.inl ())
def yC (N : Nat) (s_ : Str) : Option Bool :=
  (if (s_.length : Int) < 1 then
  some true
  else
  some (decide ((s_.length : Int) > 24)) : Option Bool).bind fun b2 =>
  if b2 = true then
  some false
  else
  (jl s_ N 0).bind (fun
  | (.inl ()) =>
  some true
  | (.inr q23) =>
  some q23)
theorem qcL (N : Nat) (s_ : Str) {res : Bool} (h : yC N s_ = some res) : qy Tryz.prog (.fn 47) [.str s_] [] (.bool res) [] := by
  unfold yC at h
  refine Goes.fnW Tryz.func47 rfl rfl (m := 56) rfl (rs := [.tmp 2]) rfl (l := [(0, .str s_)]) rfl ?_
  refine sq (Goes.rg fol [(0, .str s_)] [] ?_)
  refine sq ?_
  refine sq ?_
  obtain ⟨b2, g_v3, h⟩ := bnd h
  refine Goes.cut (s' := (ofG 56 [(0, .str s_), (13, .bool b2)], [])) ?_ ?_
  · rcases Bool.eq_false_or_eq_true (decide ((s_.length : Int) < 1)) with c1 | c1
    · rw [if_pos (ot c1)] at g_v3
      obtain rfl := si g_v3
      exact qm.rp fol [3] [(0, .str s_), (13, .bool true)] [] [.done (.done (.bool (decide ((s_.length : Int) < 1)))) (.bool true)] (an (congrArg (fun x => Pg.done (.bool x)) c1) trivial)
    · rw [if_neg (of_ c1)] at g_v3
      obtain rfl := si g_v3
      exact qm.rp fol [3] [(0, .str s_), (13, .bool (decide ((s_.length : Int) > 24)))] [] [.done (.done (.bool (decide ((s_.length : Int) < 1)))) (.bool false)] (an (congrArg (fun x => Pg.done (.bool x)) c1) trivial)
  refine Goes.ifB (b := b2) (by kernel_rfl) (fun c4 => ?_) (fun c4 => ?_)
  · rw [if_pos (c4)] at h
    refine sq (Goes.rg fol [(2, .bool false)] [] ?_)
    refine Goes.ret ?_
    obtain rfl := si h
    exact (Goes.retW (xs := [.bool false]) (by kernel_rfl) (FzW.still tB))
  · rw [if_neg (nb c4)] at h
    refine Goes.skip ?_
    refine sq ?_
    refine sq (Goes.rg fol [(0, .str s_), (3, .i 0)] [] ?_)
    refine Goes.block ?_
    obtain ⟨r6, g6, h⟩ := bnd h
    refine Goes.imp (Q := fun x s' => (x = .exit 0 ∧ (.inl ()) = r6 ∧ Sub s' (ofG 56 [], [])) ∨ (x = .ret ∧ ∃ q7, (.inr q7) = r6 ∧ zH Tryz.prog [.tmp 2] (.bool q7) .ret s')) ?_ ?_
    · refine Goes.loopS (fun M s => ∃ (i_5 : Int), s = (ofG 56 [(0, .str s_), (3, .i i_5)], []) ∧ jl s_ M i_5 = some r6) ?_ (m := N) ⟨_, rfl, g6⟩
      rintro M s ⟨i_5, rfl, g6⟩
      cases M with
      | zero => simp only [jl] at g6; cases g6
      | succ M =>
        rw [jl] at g6
        refine sq ?_
        refine sq (Goes.rg fol [(0, .str s_), (3, .i i_5), (17, .bool (decide (i_5 < (s_.length : Int))))] [] ?_)
        refine Goes.ifB (b := decide (i_5 < (s_.length : Int))) (by kernel_rfl) (fun c8 => ?_) (fun c8 => ?_)
        · rw [if_pos (ot c8)] at g6
          refine Goes.skip ?_
          refine sq (Goes.block ?_)
          refine sq ?_
          obtain ⟨c9, e_c9, g6⟩ := bnd g6
          refine Goes.rp fol [2] [(0, .str s_), (3, .i i_5), (4, .int .u8 (c9.toNat : Int))] [] [.done (.opt (qbB Tryz.prog 9 (.str s_) (.i i_5))) (.int .u8 (c9.toNat : Int))] (an (qjU st9 e_c9) trivial) ?_
          refine sq ?_
          obtain ⟨letter_14, g_v15, g6⟩ := bnd g6
          refine Goes.cut (s' := (ofG 56 [(0, .str s_), (3, .i i_5), (4, .int .u8 (c9.toNat : Int)), (5, .bool letter_14)], [])) ?_ ?_
          · rcases Bool.eq_false_or_eq_true (decide ((c9.toNat : Int) ≥ 97)) with c10 | c10
            · rw [if_pos (ot c10)] at g_v15
              rcases Bool.eq_false_or_eq_true (decide ((c9.toNat : Int) ≤ 122)) with c11 | c11
              · rw [if_pos (ot c11)] at g_v15
                obtain rfl := si g_v15
                exact qm.rp fol [2, 6] [(0, .str s_), (3, .i i_5), (4, .int .u8 (c9.toNat : Int)), (5, .bool true)] [] [.done (.done (.bool (decide ((c9.toNat : Int) ≥ 97)))) (.bool true), .done (.done (.bool (decide ((c9.toNat : Int) ≤ 122)))) (.bool true)] (an (congrArg (fun x => Pg.done (.bool x)) c10) (an (congrArg (fun x => Pg.done (.bool x)) c11) trivial))
              · rw [if_neg (of_ c11)] at g_v15
                rcases Bool.eq_false_or_eq_true (decide ((c9.toNat : Int) ≥ 65)) with c12 | c12
                · rw [if_pos (ot c12)] at g_v15
                  obtain rfl := si g_v15
                  exact qm.rp fol [2, 6, 9] [(0, .str s_), (3, .i i_5), (4, .int .u8 (c9.toNat : Int)), (5, .bool (decide ((c9.toNat : Int) ≤ 90)))] [] [.done (.done (.bool (decide ((c9.toNat : Int) ≥ 97)))) (.bool true), .done (.done (.bool (decide ((c9.toNat : Int) ≤ 122)))) (.bool false), .done (.done (.bool (decide ((c9.toNat : Int) ≥ 65)))) (.bool true)] (an (congrArg (fun x => Pg.done (.bool x)) c10) (an (congrArg (fun x => Pg.done (.bool x)) c11) (an (congrArg (fun x => Pg.done (.bool x)) c12) trivial)))
                · rw [if_neg (of_ c12)] at g_v15
                  obtain rfl := si g_v15
                  exact qm.rp fol [2, 6, 9] [(0, .str s_), (3, .i i_5), (4, .int .u8 (c9.toNat : Int)), (5, .bool false)] [] [.done (.done (.bool (decide ((c9.toNat : Int) ≥ 97)))) (.bool true), .done (.done (.bool (decide ((c9.toNat : Int) ≤ 122)))) (.bool false), .done (.done (.bool (decide ((c9.toNat : Int) ≥ 65)))) (.bool false)] (an (congrArg (fun x => Pg.done (.bool x)) c10) (an (congrArg (fun x => Pg.done (.bool x)) c11) (an (congrArg (fun x => Pg.done (.bool x)) c12) trivial)))
            · rw [if_neg (of_ c10)] at g_v15
              rcases Bool.eq_false_or_eq_true (decide ((c9.toNat : Int) ≥ 65)) with c13 | c13
              · rw [if_pos (ot c13)] at g_v15
                obtain rfl := si g_v15
                exact qm.rp fol [2, 9] [(0, .str s_), (3, .i i_5), (4, .int .u8 (c9.toNat : Int)), (5, .bool (decide ((c9.toNat : Int) ≤ 90)))] [] [.done (.done (.bool (decide ((c9.toNat : Int) ≥ 97)))) (.bool false), .done (.done (.bool (decide ((c9.toNat : Int) ≥ 65)))) (.bool true)] (an (congrArg (fun x => Pg.done (.bool x)) c10) (an (congrArg (fun x => Pg.done (.bool x)) c13) trivial))
              · rw [if_neg (of_ c13)] at g_v15
                obtain rfl := si g_v15
                exact qm.rp fol [2, 9] [(0, .str s_), (3, .i i_5), (4, .int .u8 (c9.toNat : Int)), (5, .bool false)] [] [.done (.done (.bool (decide ((c9.toNat : Int) ≥ 97)))) (.bool false), .done (.done (.bool (decide ((c9.toNat : Int) ≥ 65)))) (.bool false)] (an (congrArg (fun x => Pg.done (.bool x)) c10) (an (congrArg (fun x => Pg.done (.bool x)) c13) trivial))
          refine sq ?_
          obtain ⟨b20, g_v21, g6⟩ := bnd g6
          refine Goes.cut (s' := (ofG 56 [(0, .str s_), (3, .i i_5), (55, .bool b20)], [])) ?_ ?_
          · rcases Bool.eq_false_or_eq_true (!letter_14) with c16 | c16
            · rw [if_pos (c16)] at g_v21
              rcases Bool.eq_false_or_eq_true (decide (i_5 = 0)) with c17 | c17
              · rw [if_pos (ot c17)] at g_v21
                obtain rfl := si g_v21
                exact qm.rp fol [2, 5] [(0, .str s_), (3, .i i_5), (55, .bool true)] [] [.done (.done (.bool (!letter_14))) (.bool true), .done (.done (.bool (decide (i_5 = 0)))) (.bool true)] (an (congrArg (fun x => Pg.done (.bool x)) c16) (an (congrArg (fun x => Pg.done (.bool x)) c17) trivial))
              · rw [if_neg (of_ c17)] at g_v21
                rcases Bool.eq_false_or_eq_true (decide ((c9.toNat : Int) ≥ 48)) with c18 | c18
                · rw [if_pos (ot c18)] at g_v21
                  rcases Bool.eq_false_or_eq_true (decide ((c9.toNat : Int) ≤ 57)) with c19 | c19
                  · rw [if_pos (ot c19)] at g_v21
                    obtain rfl := si g_v21
                    exact qm.rp fol [2, 5, 8, 12] [(0, .str s_), (3, .i i_5), (55, .bool false)] [] [.done (.done (.bool (!letter_14))) (.bool true), .done (.done (.bool (decide (i_5 = 0)))) (.bool false), .done (.done (.bool (decide ((c9.toNat : Int) ≥ 48)))) (.bool true), .done (.done (.bool (decide ((c9.toNat : Int) ≤ 57)))) (.bool true)] (an (congrArg (fun x => Pg.done (.bool x)) c16) (an (congrArg (fun x => Pg.done (.bool x)) c17) (an (congrArg (fun x => Pg.done (.bool x)) c18) (an (congrArg (fun x => Pg.done (.bool x)) c19) trivial))))
                  · rw [if_neg (of_ c19)] at g_v21
                    obtain rfl := si g_v21
                    exact qm.rp fol [2, 5, 8, 12] [(0, .str s_), (3, .i i_5), (55, .bool (!(decide ((c9.toNat : Int) = 95))))] [] [.done (.done (.bool (!letter_14))) (.bool true), .done (.done (.bool (decide (i_5 = 0)))) (.bool false), .done (.done (.bool (decide ((c9.toNat : Int) ≥ 48)))) (.bool true), .done (.done (.bool (decide ((c9.toNat : Int) ≤ 57)))) (.bool false)] (an (congrArg (fun x => Pg.done (.bool x)) c16) (an (congrArg (fun x => Pg.done (.bool x)) c17) (an (congrArg (fun x => Pg.done (.bool x)) c18) (an (congrArg (fun x => Pg.done (.bool x)) c19) trivial))))
                · rw [if_neg (of_ c18)] at g_v21
                  obtain rfl := si g_v21
                  exact qm.rp fol [2, 5, 8] [(0, .str s_), (3, .i i_5), (55, .bool (!(decide ((c9.toNat : Int) = 95))))] [] [.done (.done (.bool (!letter_14))) (.bool true), .done (.done (.bool (decide (i_5 = 0)))) (.bool false), .done (.done (.bool (decide ((c9.toNat : Int) ≥ 48)))) (.bool false)] (an (congrArg (fun x => Pg.done (.bool x)) c16) (an (congrArg (fun x => Pg.done (.bool x)) c17) (an (congrArg (fun x => Pg.done (.bool x)) c18) trivial)))
            · rw [if_neg (nb c16)] at g_v21
              obtain rfl := si g_v21
              exact qm.rp fol [2] [(0, .str s_), (3, .i i_5), (55, .bool false)] [] [.done (.done (.bool (!letter_14))) (.bool false)] (an (congrArg (fun x => Pg.done (.bool x)) c16) trivial)
          refine Goes.ifB (b := b20) (by kernel_rfl) (fun c22 => ?_) (fun c22 => ?_)
          · rw [if_pos (c22)] at g6
            refine sq (Goes.rg fol [(2, .bool false)] [] ?_)
            refine Goes.ret ?_
            obtain rfl := si g6
            exact Or.inr (⟨rfl, _, rfl, (Goes.retW (xs := [.bool false]) (by kernel_rfl) (FzW.still tB))⟩)
          · rw [if_neg (nb c22)] at g6
            refine Goes.skip ?_
            refine Goes.rg fol [(0, .str s_), (3, .i (w64 (i_5 + 1)))] [] ?_
            exact ⟨M, (ofG 56 [(0, .str s_), (3, .i (w64 (i_5 + 1)))], []), Nat.lt_succ_self _, (Sub.refl _), _, rfl, g6⟩
        · rw [if_neg (of_ c8)] at g6
          refine Goes.exit ?_
          obtain rfl := si g6
          exact Or.inl (⟨rfl, rfl, (Sub.keep [] rfl rfl)⟩)
    rintro x s' (⟨rfl, rfl, hsub⟩ | ⟨rfl, q23, rfl, hret⟩)
    · try dsimp only at h
      refine Goes.sub hsub ?_
      refine sq (Goes.rg fol [(2, .bool true)] [] ?_)
      refine Goes.ret ?_
      obtain rfl := si h
      exact (Goes.retW (xs := [.bool true]) (by kernel_rfl) (FzW.still tB))
    · try dsimp only at h
      obtain rfl := si h
      exact hret
def xJ (kind : Str) : Option (Int × Int × Bool) :=
  if (kind == [109, 97, 107, 101]) = true then
  some (2, 3, true)
  else
  ((if (kind == [116, 101, 115, 116]) = true then
  some (kind == [116, 101, 115, 116])
  else
  some (kind == [117, 115, 101]) : Option Bool)).bind fun b2 =>
  if b2 = true then
  some (1, 2, true)
  else
  ((if (kind == [102, 97, 105, 108]) = true then
  some (kind == [102, 97, 105, 108])
  else
  some (kind == [114, 101, 99, 97, 108, 108]) : Option Bool)).bind fun b6 =>
  if b6 = true then
  some (1, 1, true)
  else
  if (kind == [117, 110, 100, 111]) = true then
  some (0, 0, true)
  else
  some (0, 0, false)
theorem qd1 (kind : Str) {res : Int × Int × Bool} (h : xJ kind = some res) : qy Tryz.prog (.fn 90) [.str kind] [] (.tuple [.i res.1, .i res.2.1, .bool res.2.2]) [] := by
  unfold xJ at h
  refine Goes.fnW Tryz.func90 rfl rfl (m := 16) rfl (rs := [.tmp 2, .tmp 3, .tmp 4]) rfl (l := [(0, .str kind)]) rfl ?_
  refine sq (Goes.rg fol [(0, .str kind)] [] ?_)
  refine sq ?_
  refine sq (Goes.rg fol [(5, .str kind)] [] ?_)
  refine Goes.block ?_
  refine sq (Goes.rg fol [(5, .str kind), (6, .bool (kind == [109, 97, 107, 101]))] [] ?_)
  refine Goes.ifB (b := kind == [109, 97, 107, 101]) (by kernel_rfl) (fun c1 => ?_) (fun c1 => ?_)
  · rw [if_pos (c1)] at h
    refine sq (Goes.rg fol [(2, .i 2), (3, .i 3), (4, .bool true)] [] ?_)
    refine Goes.ret ?_
    obtain rfl := si h
    exact (Goes.retW (xs := [.i 2, .i 3, .bool true]) (by kernel_rfl) (FzW.tuple (qK.cons (FzW.still tI) (qK.cons (FzW.still tI) (qK.cons (FzW.still tB) qK.nil)))))
  · rw [if_neg (nb c1)] at h
    refine sq ?_
    refine sq (Goes.rg fol [(5, .str kind), (8, .bool (kind == [116, 101, 115, 116]))] [] ?_)
    obtain ⟨r3, g3, h⟩ := bnd h
    refine Goes.imp (Q := fun x s' => (x = .normal ∧ ∃ b2, b2 = r3 ∧ Sub s' (ofG 16 [(5, .str kind), (8, .bool b2)], []))) ?_ ?_
    · refine Goes.ifB (b := kind == [116, 101, 115, 116]) (by kernel_rfl) (fun c4 => ?_) (fun c4 => ?_)
      · rw [if_pos (c4)] at g3
        refine Goes.skip ?_
        obtain rfl := si g3
        exact ⟨rfl, _, rfl, (Sub.refl _)⟩
      · rw [if_neg (nb c4)] at g3
        refine Goes.rg fol [(5, .str kind), (8, .bool (kind == [117, 115, 101]))] [] ?_
        obtain rfl := si g3
        exact ⟨rfl, _, rfl, (Sub.refl _)⟩
    rintro x s' ⟨rfl, b2, rfl, hsub⟩
    refine Goes.sub hsub ?_
    refine Goes.ifB (b := b2) (by kernel_rfl) (fun c5 => ?_) (fun c5 => ?_)
    · rw [if_pos (c5)] at h
      refine sq (Goes.rg fol [(2, .i 1), (3, .i 2), (4, .bool true)] [] ?_)
      refine Goes.ret ?_
      obtain rfl := si h
      exact (Goes.retW (xs := [.i 1, .i 2, .bool true]) (by kernel_rfl) (FzW.tuple (qK.cons (FzW.still tI) (qK.cons (FzW.still tI) (qK.cons (FzW.still tB) qK.nil)))))
    · rw [if_neg (nb c5)] at h
      refine sq ?_
      refine sq (Goes.rg fol [(5, .str kind), (11, .bool (kind == [102, 97, 105, 108]))] [] ?_)
      obtain ⟨r7, g7, h⟩ := bnd h
      refine Goes.imp (Q := fun x s' => (x = .normal ∧ ∃ b6, b6 = r7 ∧ Sub s' (ofG 16 [(5, .str kind), (11, .bool b6)], []))) ?_ ?_
      · refine Goes.ifB (b := kind == [102, 97, 105, 108]) (by kernel_rfl) (fun c8 => ?_) (fun c8 => ?_)
        · rw [if_pos (c8)] at g7
          refine Goes.skip ?_
          obtain rfl := si g7
          exact ⟨rfl, _, rfl, (Sub.refl _)⟩
        · rw [if_neg (nb c8)] at g7
          refine Goes.rg fol [(5, .str kind), (11, .bool (kind == [114, 101, 99, 97, 108, 108]))] [] ?_
          obtain rfl := si g7
          exact ⟨rfl, _, rfl, (Sub.refl _)⟩
      rintro x s' ⟨rfl, b6, rfl, hsub⟩
      refine Goes.sub hsub ?_
      refine Goes.ifB (b := b6) (by kernel_rfl) (fun c9 => ?_) (fun c9 => ?_)
      · rw [if_pos (c9)] at h
        refine sq (Goes.rg fol [(2, .i 1), (3, .i 1), (4, .bool true)] [] ?_)
        refine Goes.ret ?_
        obtain rfl := si h
        exact (Goes.retW (xs := [.i 1, .i 1, .bool true]) (by kernel_rfl) (FzW.tuple (qK.cons (FzW.still tI) (qK.cons (FzW.still tI) (qK.cons (FzW.still tB) qK.nil)))))
      · rw [if_neg (nb c9)] at h
        refine sq (Goes.rg fol [(14, .bool (kind == [117, 110, 100, 111]))] [] ?_)
        refine Goes.ifB (b := kind == [117, 110, 100, 111]) (by kernel_rfl) (fun c10 => ?_) (fun c10 => ?_)
        · rw [if_pos (c10)] at h
          refine sq (Goes.rg fol [(2, .i 0), (3, .i 0), (4, .bool true)] [] ?_)
          refine Goes.ret ?_
          obtain rfl := si h
          exact (Goes.retW (xs := [.i 0, .i 0, .bool true]) (by kernel_rfl) (FzW.tuple (qK.cons (FzW.still tI) (qK.cons (FzW.still tI) (qK.cons (FzW.still tB) qK.nil)))))
        · rw [if_neg (nb c10)] at h
          refine Goes.skip ?_
          refine sq (Goes.rg fol [(2, .i 0), (3, .i 0), (4, .bool false)] [] ?_)
          refine Goes.ret ?_
          obtain rfl := si h
          exact (Goes.retW (xs := [.i 0, .i 0, .bool false]) (by kernel_rfl) (FzW.tuple (qK.cons (FzW.still tI) (qK.cons (FzW.still tI) (qK.cons (FzW.still tB) qK.nil)))))
def zm (N : Nat) (e : ql) (r3 : Int × Int × Bool) : Nat → Int → Option (Unit ⊕ Int)
  | 0, _ => none
  | K + 1, i_9 =>
    if i_9 < r3.1 then
    (idx e.Names i_9).bind fun x13 =>
    (yC N x13).bind fun r14 =>
    if (!r14) = true then
    some (.inr 8)
    else
    zm N e r3 K (w64 (i_9 + 1))
    else
    some (.inl ())
def zl (e : ql) (r3 : Int × Int × Bool) : Nat → Int → Option (Unit ⊕ Int)
  | 0, _ => none
  | K + 1, i_16 =>
    if i_16 < r3.2.1 then
    (idx e.Values i_16).bind fun x20 =>
    (kZ x20 0 999999999).bind fun r21 =>
    if r21 = true then
    some (.inr 3)
    else
    zl e r3 K (w64 (i_16 + 1))
    else
    some (.inl ())
def jV (N : Nat) (e : ql) : Option Int :=
  (kZ e.Number 1 1000).bind fun r1 =>
  if r1 = true then
  some 3
  else
  (xJ e.Kind).bind fun r3 =>
  if (!r3.2.2) = true then
  some 13
  else
  (if (!decide ((e.Names.length : Int) = r3.1)) = true then
  some true
  else
  some (!decide ((e.Values.length : Int) = r3.2.1)) : Option Bool).bind fun b6 =>
  if b6 = true then
  some 2
  else
  (zm N e r3 N 0).bind (fun
  | (.inl ()) =>
  (zl e r3 N 0).bind (fun
  | (.inl ()) =>
  if (!(e.Text == [])) = true then
  some 1
  else
  some 0
  | (.inr q24) =>
  some q24)
  | (.inr q25) =>
  some q25)
theorem qbm (N : Nat) (e : ql) {res : Int} (h : jV N e = some res) : qy Tryz.prog (.fn 19) [.agg (cE e)] [] (.i res) [] := by
  unfold jV at h
  refine Goes.fnW Tryz.func19 rfl rfl (m := 58) rfl (rs := [.tmp 2]) rfl (l := [(0, .agg (cE e))]) rfl ?_
  refine sq (Goes.rg fol [(1, .ptr 0 0)] [.cells (cE e)] ?_)
  refine sq ?_
  refine sq ?_
  obtain ⟨r1, e_r1, h⟩ := bnd h
  refine Goes.rp fol [2] [(1, .ptr 0 0), (10, .bool r1)] [.cells (cE e)] [.call 36 [.i e.Number, .i 1, .i 1000] [.cells (cE e)] [] [.i e.Number, .i 1, .i 1000] (.bool r1)] (an (qo (AllST.cons tI (AllST.cons tI (AllST.cons tI AllST.nil))) (kN e.Number 1 1000 e_r1) tB) trivial) ?_
  refine Goes.ifB (b := r1) (by kernel_rfl) (fun c2 => ?_) (fun c2 => ?_)
  · rw [if_pos (c2)] at h
    refine sq (Goes.rg fol [(2, .i 3)] [.cells (cE e)] ?_)
    refine Goes.ret ?_
    obtain rfl := si h
    exact (Goes.retW (xs := [.i 3]) (by kernel_rfl) (FzW.still tI))
  · rw [if_neg (nb c2)] at h
    refine Goes.skip ?_
    refine sq ?_
    obtain ⟨r3, e_r3, h⟩ := bnd h
    refine Goes.rp fol [2] [(1, .ptr 0 0), (3, .i r3.1), (4, .i r3.2.1), (5, .bool r3.2.2)] [.cells (cE e)] [.call 90 [.str e.Kind] [.cells (cE e)] [] [.str e.Kind] (.tuple [.i r3.1, .i r3.2.1, .bool r3.2.2])] (an (qo (AllST.cons tS AllST.nil) (qd1 e.Kind e_r3) (Still.tuple (AllST.cons tI (AllST.cons tI (AllST.cons tB AllST.nil))))) trivial) ?_
    refine sq ?_
    refine sq (Goes.rg fol [(1, .ptr 0 0), (3, .i r3.1), (4, .i r3.2.1), (19, .bool (!r3.2.2))] [.cells (cE e)] ?_)
    refine Goes.ifB (b := !r3.2.2) (by kernel_rfl) (fun c4 => ?_) (fun c4 => ?_)
    · rw [if_pos (c4)] at h
      refine sq (Goes.rg fol [(2, .i 13)] [.cells (cE e)] ?_)
      refine Goes.ret ?_
      obtain rfl := si h
      exact (Goes.retW (xs := [.i 13]) (by kernel_rfl) (FzW.still tI))
    · rw [if_neg (nb c4)] at h
      refine Goes.skip ?_
      refine sq ?_
      refine sq ?_
      obtain ⟨b6, g_v7, h⟩ := bnd h
      refine Goes.cut (s' := (ofG 58 [(1, .ptr 0 0), (3, .i r3.1), (4, .i r3.2.1), (31, .bool b6)], [.cells (cE e)])) ?_ ?_
      · rcases Bool.eq_false_or_eq_true (!decide ((e.Names.length : Int) = r3.1)) with c5 | c5
        · rw [if_pos (c5)] at g_v7
          obtain rfl := si g_v7
          exact qm.rp fol [5] [(1, .ptr 0 0), (3, .i r3.1), (4, .i r3.2.1), (31, .bool true)] [.cells (cE e)] [.done (.done (.bool (!decide ((e.Names.length : Int) = r3.1)))) (.bool true)] (an (congrArg (fun x => Pg.done (.bool x)) c5) trivial)
        · rw [if_neg (nb c5)] at g_v7
          obtain rfl := si g_v7
          exact qm.rp fol [5] [(1, .ptr 0 0), (3, .i r3.1), (4, .i r3.2.1), (31, .bool (!decide ((e.Values.length : Int) = r3.2.1)))] [.cells (cE e)] [.done (.done (.bool (!decide ((e.Names.length : Int) = r3.1)))) (.bool false)] (an (congrArg (fun x => Pg.done (.bool x)) c5) trivial)
      refine Goes.ifB (b := b6) (by kernel_rfl) (fun c8 => ?_) (fun c8 => ?_)
      · rw [if_pos (c8)] at h
        refine sq (Goes.rg fol [(2, .i 2)] [.cells (cE e)] ?_)
        refine Goes.ret ?_
        obtain rfl := si h
        exact (Goes.retW (xs := [.i 2]) (by kernel_rfl) (FzW.still tI))
      · rw [if_neg (nb c8)] at h
        refine Goes.skip ?_
        refine sq ?_
        refine sq (Goes.rg fol [(1, .ptr 0 0), (3, .i r3.1), (4, .i r3.2.1), (6, .i 0)] [.cells (cE e)] ?_)
        refine Goes.block ?_
        obtain ⟨r10, g10, h⟩ := bnd h
        refine Goes.imp (Q := fun x s' => (x = .exit 0 ∧ (.inl ()) = r10 ∧ Sub s' (ofG 58 [(1, .ptr 0 0), (4, .i r3.2.1)], [.cells (cE e)])) ∨ (x = .ret ∧ ∃ q11, (.inr q11) = r10 ∧ zH Tryz.prog [.tmp 2] (.i q11) .ret s')) ?_ ?_
        · refine Goes.loopS (fun M s => ∃ (i_9 : Int), s = (ofG 58 [(1, .ptr 0 0), (3, .i r3.1), (4, .i r3.2.1), (6, .i i_9)], [.cells (cE e)]) ∧ zm N e r3 M i_9 = some r10) ?_ (m := N) ⟨_, rfl, g10⟩
          rintro M s ⟨i_9, rfl, g10⟩
          cases M with
          | zero => simp only [zm] at g10; cases g10
          | succ M =>
            rw [zm] at g10
            refine sq ?_
            refine sq (Goes.rg fol [(1, .ptr 0 0), (3, .i r3.1), (4, .i r3.2.1), (6, .i i_9), (34, .bool (decide (i_9 < r3.1)))] [.cells (cE e)] ?_)
            refine Goes.ifB (b := decide (i_9 < r3.1)) (by kernel_rfl) (fun c12 => ?_) (fun c12 => ?_)
            · rw [if_pos (ot c12)] at g10
              refine Goes.skip ?_
              refine sq (Goes.block ?_)
              refine sq ?_
              obtain ⟨x13, e_x13, g10⟩ := bnd g10
              obtain ⟨r14, e_r14, g10⟩ := bnd g10
              refine Goes.rp fol [3, 4, 5] [(1, .ptr 0 0), (3, .i r3.1), (4, .i r3.2.1), (6, .i i_9), (43, .bool (!r14))] [.cells (cE e)] [.done (.opt (qd Tryz.prog 23 (vl encS e.Names) (.i i_9))) (.fptr (e.Names.flatMap encS.c) ((i_9 : Int).toNat * 1 + 0)), .done (qx Tryz.prog 9 (.fptr (e.Names.flatMap encS.c) ((i_9 : Int).toNat * 1 + 0))) (.str x13), .call 47 [.str x13] [.cells (cE e)] [] [.str x13] (.bool r14)] (an (qB qaq (E := encS) rfl e_x13) (an (qA ce9 (E := encS) rfl e_x13 (nl rfl) rfl) (an (qo (AllST.cons tS AllST.nil) (qcL N x13 e_r14) tB) trivial))) ?_
              refine Goes.ifB (b := !r14) (by kernel_rfl) (fun c15 => ?_) (fun c15 => ?_)
              · rw [if_pos (c15)] at g10
                refine sq (Goes.rg fol [(2, .i 8)] [.cells (cE e)] ?_)
                refine Goes.ret ?_
                obtain rfl := si g10
                exact Or.inr (⟨rfl, _, rfl, (Goes.retW (xs := [.i 8]) (by kernel_rfl) (FzW.still tI))⟩)
              · rw [if_neg (nb c15)] at g10
                refine Goes.skip ?_
                refine Goes.rg fol [(1, .ptr 0 0), (3, .i r3.1), (4, .i r3.2.1), (6, .i (w64 (i_9 + 1)))] [.cells (cE e)] ?_
                exact ⟨M, (ofG 58 [(1, .ptr 0 0), (3, .i r3.1), (4, .i r3.2.1), (6, .i (w64 (i_9 + 1)))], [.cells (cE e)]), Nat.lt_succ_self _, (Sub.refl _), _, rfl, g10⟩
            · rw [if_neg (of_ c12)] at g10
              refine Goes.exit ?_
              obtain rfl := si g10
              exact Or.inl (⟨rfl, rfl, (Sub.keep [1, 4] rfl rfl)⟩)
        rintro x s' (⟨rfl, rfl, hsub⟩ | ⟨rfl, q25, rfl, hret⟩)
        · try dsimp only at h
          refine Goes.sub hsub ?_
          refine sq ?_
          refine sq (Goes.rg fol [(1, .ptr 0 0), (4, .i r3.2.1), (7, .i 0)] [.cells (cE e)] ?_)
          refine Goes.block ?_
          obtain ⟨r17, g17, h⟩ := bnd h
          refine Goes.imp (Q := fun x s' => (x = .exit 2 ∧ (.inl ()) = r17 ∧ Sub s' (ofG 58 [(1, .ptr 0 0)], [.cells (cE e)])) ∨ (x = .ret ∧ ∃ q18, (.inr q18) = r17 ∧ zH Tryz.prog [.tmp 2] (.i q18) .ret s')) ?_ ?_
          · refine Goes.loopS (fun M s => ∃ (i_16 : Int), s = (ofG 58 [(1, .ptr 0 0), (4, .i r3.2.1), (7, .i i_16)], [.cells (cE e)]) ∧ zl e r3 M i_16 = some r17) ?_ (m := N) ⟨_, rfl, g17⟩
            rintro M s ⟨i_16, rfl, g17⟩
            cases M with
            | zero => simp only [zl] at g17; cases g17
            | succ M =>
              rw [zl] at g17
              refine sq ?_
              refine sq (Goes.rg fol [(1, .ptr 0 0), (4, .i r3.2.1), (7, .i i_16), (46, .bool (decide (i_16 < r3.2.1)))] [.cells (cE e)] ?_)
              refine Goes.ifB (b := decide (i_16 < r3.2.1)) (by kernel_rfl) (fun c19 => ?_) (fun c19 => ?_)
              · rw [if_pos (ot c19)] at g17
                refine Goes.skip ?_
                refine sq (Goes.block ?_)
                refine sq ?_
                obtain ⟨x20, e_x20, g17⟩ := bnd g17
                obtain ⟨r21, e_r21, g17⟩ := bnd g17
                refine Goes.rp fol [3, 4, 5] [(1, .ptr 0 0), (4, .i r3.2.1), (7, .i i_16), (54, .bool r21)] [.cells (cE e)] [.done (.opt (qd Tryz.prog 24 (vl encI e.Values) (.i i_16))) (.fptr (e.Values.flatMap encI.c) ((i_16 : Int).toNat * 1 + 0)), .done (qx Tryz.prog 3 (.fptr (e.Values.flatMap encI.c) ((i_16 : Int).toNat * 1 + 0))) (.i x20), .call 36 [.i x20, .i 0, .i 999999999] [.cells (cE e)] [] [.i x20, .i 0, .i 999999999] (.bool r21)] (an (qB zA (E := encI) rfl e_x20) (an (qA ce3 (E := encI) rfl e_x20 (nl rfl) rfl) (an (qo (AllST.cons tI (AllST.cons tI (AllST.cons tI AllST.nil))) (kN x20 0 999999999 e_r21) tB) trivial))) ?_
                refine Goes.ifB (b := r21) (by kernel_rfl) (fun c22 => ?_) (fun c22 => ?_)
                · rw [if_pos (c22)] at g17
                  refine sq (Goes.rg fol [(2, .i 3)] [.cells (cE e)] ?_)
                  refine Goes.ret ?_
                  obtain rfl := si g17
                  exact Or.inr (⟨rfl, _, rfl, (Goes.retW (xs := [.i 3]) (by kernel_rfl) (FzW.still tI))⟩)
                · rw [if_neg (nb c22)] at g17
                  refine Goes.skip ?_
                  refine Goes.rg fol [(1, .ptr 0 0), (4, .i r3.2.1), (7, .i (w64 (i_16 + 1)))] [.cells (cE e)] ?_
                  exact ⟨M, (ofG 58 [(1, .ptr 0 0), (4, .i r3.2.1), (7, .i (w64 (i_16 + 1)))], [.cells (cE e)]), Nat.lt_succ_self _, (Sub.refl _), _, rfl, g17⟩
              · rw [if_neg (of_ c19)] at g17
                refine Goes.exit ?_
                obtain rfl := si g17
                exact Or.inl (⟨rfl, rfl, (Sub.keep [1] rfl rfl)⟩)
          rintro x s' (⟨rfl, rfl, hsub⟩ | ⟨rfl, q24, rfl, hret⟩)
          · try dsimp only at h
            refine Goes.sub hsub ?_
            refine sq ?_
            refine sq (Goes.rg fol [(57, .bool (!(e.Text == [])))] [.cells (cE e)] ?_)
            refine Goes.ifB (b := !(e.Text == [])) (by kernel_rfl) (fun c23 => ?_) (fun c23 => ?_)
            · rw [if_pos (c23)] at h
              refine sq (Goes.rg fol [(2, .i 1)] [.cells (cE e)] ?_)
              refine Goes.ret ?_
              obtain rfl := si h
              exact (Goes.retW (xs := [.i 1]) (by kernel_rfl) (FzW.still tI))
            · rw [if_neg (nb c23)] at h
              refine Goes.skip ?_
              refine sq (Goes.rg fol [(2, .i 0)] [.cells (cE e)] ?_)
              refine Goes.ret ?_
              obtain rfl := si h
              exact (Goes.retW (xs := [.i 0]) (by kernel_rfl) (FzW.still tI))
          · try dsimp only at h
            obtain rfl := si h
            exact hret
        · try dsimp only at h
          obtain rfl := si h
          exact hret
end Go.Av
