/-
  Walks of functions: what each computes, as a plain function.
-/
import Derived.Test.YtjflombnfhlkaaaGreatDoorGenL2
noncomputable section
namespace Go.Av
open Go.Proofs Go.RowKit
set_option linter.unusedSectionVars false
set_option linter.unusedVariables false
set_option linter.unusedSimpArgs false
set_option maxRecDepth 100000
variable [Glob]
def record_story_register_h1 (a0_ : List EventT) (a1_ : Option (List StateT)) : Option ((Option (List StateT)) × Int × (List SlingT)) :=
  ((match a1_ with
  | none =>
  some ((none : Option (List StateT)), decide (0 = 0))
  | some l4 =>
  some ((some l4), decide ((l4.length : Int) = 0))) : Option ((Option (List StateT)) × Bool)).bind fun (o5, b6) =>
  if b6 = true then
  some (o5, 0, [])
  else
  ((match o5 with
  | none =>
  (idx ([] : List StateT) (w64 (0 - 1))).bind fun x10 =>
  some ((none : Option (List StateT)), x10.register.Day, x10.register.Slings)
  | some l9 =>
  (idx l9 (w64 ((l9.length : Int) - 1))).bind fun x11 =>
  some ((some l9), x11.register.Day, x11.register.Slings)) : Option ((Option (List StateT)) × Int × (List SlingT))).bind fun (o12, n13, l14) =>
  some (o12, n13, l14)
theorem record_story_register_h1_ok (a0_ : List EventT) (a1_ : Option (List StateT)) {o1 : Option (List StateT)} {n2 : Int} {l3 : List SlingT} (h : record_story_register_h1 a0_ a1_ = some (o1, n2, l3)) : CallOK Tryz.prog (.fn 81) [.ptr 0 0] [.cells [.gslice 1 a0_.length 5, hsl 2 3 a1_], .cells (a0_.flatMap encEventT.c), .cells ((hof a1_).flatMap encStateT.c)] (.agg [.i n2, vl encSlingT l3]) [.cells [.gslice 1 a0_.length 5, hsl 2 3 o1], .cells (a0_.flatMap encEventT.c), .cells ((hof o1).flatMap encStateT.c)] := by
  unfold record_story_register_h1 at h
  refine Goes.fnH Tryz.func81 rfl rfl (m := 23) rfl (rs := [.cell 2 31]) rfl (l := [(0, .ptr 0 0)]) rfl ?_
  intro B hB
  refine sq ?_
  refine Goes.rg fol [(0, .ptr 0 0), (2, .ptr 3 0)] [.cells [.gslice 1 a0_.length 5, hsl 2 3 a1_], .cells (a0_.flatMap encEventT.c), .cells ((hof a1_).flatMap encStateT.c), .cells [.i 0, .nilslice]] ?_
  refine sq ?_
  refine sq ?_
  obtain ⟨⟨o5, b6⟩, g_v7, h⟩ := bnd h
  refine Goes.cutS (s' := (ofG 23 [(0, .ptr 0 0), (2, .ptr 3 0), (8, .bool b6)], [.cells [.gslice 1 a0_.length 5, hsl 2 3 o5], .cells (a0_.flatMap encEventT.c), .cells ((hof o5).flatMap encStateT.c), .cells [.i 0, .nilslice]])) ?_ ?_
  · rcases a1_ with _ | l4
    · try dsimp only at g_v7
      simp only [Option.some.injEq, Prod.mk.injEq] at g_v7
      obtain ⟨rfl, rfl⟩ := g_v7
      exact RegTo.sub (RegTo.rg fol [(0, .ptr 0 0), (2, .ptr 3 0), (8, .bool (decide (0 = 0)))] [.cells [.gslice 1 a0_.length 5, .nilslice], .cells (a0_.flatMap encEventT.c), .cells ((hof (none : Option (List StateT))).flatMap encStateT.c), .cells [.i 0, .nilslice]]) (Sub.norm [] [some 0, some 1, some 2, some 3] (by rw [hB]; rfl) rfl (.keep (.ptr rfl) (.keep (.ptr rfl) (.keep (.same (NoRef.bool _)) .nil))) (.keep rfl (.cells (RenL.cons (.gslice rfl) (RenL.cons (RenV.hs0) RenL.nil))) rfl rfl (.keep rfl (.same fa) rfl rfl (.keep rfl (.same fa) rfl rfl (.keep rfl (.same (AllN.cons (NoRef.int _ _) (AllN.cons (NoRef.nilslice) AllN.nil))) rfl rfl .nil)))))
    · try dsimp only at g_v7
      simp only [Option.some.injEq, Prod.mk.injEq] at g_v7
      obtain ⟨rfl, rfl⟩ := g_v7
      exact RegTo.sub (RegTo.rg fol [(0, .ptr 0 0), (2, .ptr 3 0), (8, .bool (decide ((l4.length : Int) = 0)))] [.cells [.gslice 1 a0_.length 5, .oslice 2 l4.length 3], .cells (a0_.flatMap encEventT.c), .cells (l4.flatMap encStateT.c), .cells [.i 0, .nilslice]]) (Sub.norm [] [some 0, some 1, some 2, some 3] (by rw [hB]; rfl) rfl (.keep (.ptr rfl) (.keep (.ptr rfl) (.keep (.same (NoRef.bool _)) .nil))) (.keep rfl (.cells (RenL.cons (.gslice rfl) (RenL.cons ((RenV.hs1 rfl)) RenL.nil))) rfl rfl (.keep rfl (.same fa) rfl rfl (.keep rfl (.same fa) rfl rfl (.keep rfl (.same (AllN.cons (NoRef.int _ _) (AllN.cons (NoRef.nilslice) AllN.nil))) rfl rfl .nil)))))
  intro _ hsub
  try dsimp only at h
  refine Goes.sub hsub ?_
  refine Goes.ifB (b := b6) (by kernel_rfl) (fun c8 => ?_) (fun c8 => ?_)
  · rw [if_pos (c8)] at h
    refine sq ?_
    refine Goes.rg fol [(2, .ptr 3 0)] [.cells [.gslice 1 a0_.length 5, hsl 2 3 o5], .cells (a0_.flatMap encEventT.c), .cells ((hof o5).flatMap encStateT.c), .cells [.i 0, .nilslice]] ?_
    refine Goes.ret ?_
    simp only [Option.some.injEq, Prod.mk.injEq] at h
    obtain ⟨rfl, rfl, rfl⟩ := h
    exact (Goes.retH (xs := [.agg [.i 0, .nilslice]]) (by kernel_rfl) (Sub.norm [] [some 0, some 1, some 2] (by rw [hB]; rfl) rfl (.keep (.aggL (RenL.cons (.same (NoRef.int _ _)) (RenL.cons (.nilv) RenL.nil))) .nil) (.keep rfl (.cells (RenL.cons (.gslice rfl) (RenL.cons ((RenV.hs rfl)) RenL.nil))) rfl rfl (.keep rfl (.same fa) rfl rfl (.keep rfl (.same fa) rfl rfl .nil)))))
  · rw [if_neg (by rw [c8]; exact Bool.false_ne_true)] at h
    refine Goes.skip ?_
    refine sq ?_
    obtain ⟨⟨o12, n13, l14⟩, g_v15, h⟩ := bnd h
    refine Goes.cutS (s' := (ofG 23 [(2, .ptr 3 0)], [.cells [.gslice 1 a0_.length 5, hsl 2 3 o12], .cells (a0_.flatMap encEventT.c), .cells ((hof o12).flatMap encStateT.c), .cells [.i n13, vl encSlingT l14]])) ?_ ?_
    · rcases o5 with _ | l9
      · try dsimp only at g_v15
        obtain ⟨x10, e_x10, g_v15⟩ := bnd g_v15
        simp only [Option.some.injEq, Prod.mk.injEq] at g_v15
        obtain ⟨rfl, rfl, rfl⟩ := g_v15
        exact RegTo.sub (RegTo.ro fol [(10, (.done (.fptr (([] : List StateT).flatMap encStateT.c) ((w64 (0 - 1) : Int).toNat * 3 + 0)))), (12, (.done (.agg [.i x10.register.Day, vl encSlingT x10.register.Slings])))] [(2, .ptr 3 0)] [.cells [.gslice 1 a0_.length 5, .nilslice], .cells (a0_.flatMap encEventT.c), .cells ((hof (none : Option (List StateT))).flatMap encStateT.c), .cells [.i x10.register.Day, vl encSlingT x10.register.Slings]] [.done (.opt (aIndexAddr Tryz.prog 163 (.nilslice) (.i (w64 (0 - 1))))) (.fptr (([] : List StateT).flatMap encStateT.c) ((w64 (0 - 1) : Int).toNat * 3 + 0)), .done (aLoad Tryz.prog 31 (.fptr (([] : List StateT).flatMap encStateT.c) ((w64 (0 - 1) : Int).toNat * 3 + 1))) (.agg [.i x10.register.Day, vl encSlingT x10.register.Slings])] (And.intro (ix_nil e_x10) (And.intro (ld_vp ag31 (E := encStateT) rfl e_x10 rfl rfl) trivial))) (Sub.norm [] [some 0, some 1, some 2, some 3] (by rw [hB]; rfl) rfl (.keep (.ptr rfl) .nil) (.keep rfl (.cells (RenL.cons (.gslice rfl) (RenL.cons (RenV.hs0) RenL.nil))) rfl rfl (.keep rfl (.same fa) rfl rfl (.keep rfl (.same fa) rfl rfl (.keep rfl (.same (AllN.cons (NoRef.int _ _) (AllN.cons (vl_noRef encSlingT _) AllN.nil))) rfl rfl .nil)))))
      · try dsimp only at g_v15
        obtain ⟨x11, e_x11, g_v15⟩ := bnd g_v15
        simp only [Option.some.injEq, Prod.mk.injEq] at g_v15
        obtain ⟨rfl, rfl, rfl⟩ := g_v15
        exact RegTo.sub (RegTo.ro fol [(10, (.done (.ptr 2 ((w64 ((l9.length : Int) - 1) : Int).toNat * 3 + 0)))), (12, (.run (.agg [.i x11.register.Day, vl encSlingT x11.register.Slings]) [.cells [.gslice 1 a0_.length 5, .oslice 2 l9.length 3], .cells (a0_.flatMap encEventT.c), .cells (l9.flatMap encStateT.c), .cells [.i 0, .nilslice]] false))] [(2, .ptr 3 0)] [.cells [.gslice 1 a0_.length 5, .oslice 2 l9.length 3], .cells (a0_.flatMap encEventT.c), .cells (l9.flatMap encStateT.c), .cells [.i x11.register.Day, vl encSlingT x11.register.Slings]] [.done (.opt (aIndexAddr Tryz.prog 163 (.oslice 2 l9.length 3) (.i (w64 ((l9.length : Int) - 1))))) (.ptr 2 ((w64 ((l9.length : Int) - 1) : Int).toNat * 3 + 0)), .run [2] (aLoad Tryz.prog 31 (.ptr 2 ((w64 ((l9.length : Int) - 1) : Int).toNat * 3 + 1))) [.cells [.gslice 1 a0_.length 5, .oslice 2 l9.length 3], .cells (a0_.flatMap encEventT.c), .cells (l9.flatMap encStateT.c), .cells [.i 0, .nilslice]] (.agg [.i x11.register.Day, vl encSlingT x11.register.Slings]) [.cells [.gslice 1 a0_.length 5, .oslice 2 l9.length 3], .cells (a0_.flatMap encEventT.c), .cells (l9.flatMap encStateT.c), .cells [.i 0, .nilslice]] false] (And.intro (ix_os sl163 e_x11) (And.intro (ld_pp ag31 (E := encStateT) (l := l9) rfl rfl e_x11 rfl rfl) trivial))) (Sub.norm [] [some 0, some 1, some 2, some 3] (by rw [hB]; rfl) rfl (.keep (.ptr rfl) .nil) (.keep rfl (.cells (RenL.cons (.gslice rfl) (RenL.cons ((RenV.hs1 rfl)) RenL.nil))) rfl rfl (.keep rfl (.same fa) rfl rfl (.keep rfl (.same fa) rfl rfl (.keep rfl (.same (AllN.cons (NoRef.int _ _) (AllN.cons (vl_noRef encSlingT _) AllN.nil))) rfl rfl .nil)))))
    intro _ hsub
    try dsimp only at h
    refine Goes.sub hsub ?_
    refine Goes.ret ?_
    simp only [Option.some.injEq, Prod.mk.injEq] at h
    obtain ⟨rfl, rfl, rfl⟩ := h
    exact (Goes.retH (xs := [.agg [.i n13, vl encSlingT l14]]) (by kernel_rfl) (Sub.norm [] [some 0, some 1, some 2] (by rw [hB]; rfl) rfl (.keep (.aggL (RenL.cons (.same (NoRef.int _ _)) (RenL.cons (.same (vl_noRef encSlingT _)) RenL.nil))) .nil) (.keep rfl (.cells (RenL.cons (.gslice rfl) (RenL.cons ((RenV.hs rfl)) RenL.nil))) rfl rfl (.keep rfl (.same fa) rfl rfl (.keep rfl (.same fa) rfl rfl .nil)))))
def record_Register_copied_h1 (a0_ : Int) (a1_ : List SlingT) : Option (List SlingT) :=
  (mk 88 (a1_.length : Int) (⟨[], [], 0, 0, 0, 0, 0, 0, false⟩ : SlingT)).bind fun l2 =>
  (some (cpy l2 a1_)).bind fun l3 =>
  some l3
theorem record_Register_copied_h1_ok (a0_ : Int) (a1_ : List SlingT) {l1 : List SlingT} (h : record_Register_copied_h1 a0_ a1_ = some l1) : CallOK Tryz.prog (.fn 82) [.agg [.i a0_, vl encSlingT a1_]] [] (.agg [.i a0_, .slice 0 0 l1.length l1.length 9]) [.cells (l1.flatMap encSlingT.c)] := by
  unfold record_Register_copied_h1 at h
  refine Goes.fnH Tryz.func82 rfl rfl (m := 16) rfl (rs := [.cell 2 31]) rfl (l := [(0, .agg [.i a0_, vl encSlingT a1_])]) rfl ?_
  intro B hB
  refine sq ?_
  refine Goes.rg fol [(1, .ptr 0 0), (2, .ptr 1 0)] [.cells [.i a0_, vl encSlingT a1_], .cells [.i 0, .nilslice]] ?_
  refine sq ?_
  obtain ⟨l2, e_l2, h⟩ := bnd h
  refine Goes.ro fol [(3, (.run (.slice 2 0 l2.length l2.length 9) [.cells [.i a0_, vl encSlingT a1_], .cells [.i 0, .nilslice], .cells (l2.flatMap encSlingT.c)] false))] [(1, .ptr 0 0), (2, .ptr 1 0), (3, .slice 2 0 l2.length l2.length 9)] [.cells [.i a0_, vl encSlingT a1_], .cells [.i 0, .nilslice], .cells (l2.flatMap encSlingT.c)] [.run [] (aMakeSlice Tryz.prog 29 (.i (a1_.length : Int)) (.i (a1_.length : Int))) [.cells [.i a0_, vl encSlingT a1_], .cells [.i 0, .nilslice]] (.slice 2 0 l2.length l2.length 9) [.cells [.i a0_, vl encSlingT a1_], .cells [.i 0, .nilslice], .cells (l2.flatMap encSlingT.c)] false] (And.intro (mk_run sl29 (E := encSlingT) (z := (⟨[], [], 0, 0, 0, 0, 0, 0, false⟩ : SlingT)) rfl (by kernel_rfl) e_l2 rfl) trivial) ?_
  refine sq ?_
  obtain ⟨l3, e_l3, h⟩ := bnd h
  refine Goes.ro fol [(3, (.run (.i ((Nat.min a1_.length l2.length : Nat) : Int)) [.cells [.i a0_, vl encSlingT a1_], .cells [.i 0, .nilslice], .cells (l3.flatMap encSlingT.c)] true))] [(1, .ptr 0 0), (2, .ptr 1 0), (3, .slice 2 0 l2.length l2.length 9)] [.cells [.i a0_, vl encSlingT a1_], .cells [.i 0, .nilslice], .cells (l3.flatMap encSlingT.c)] [.run [2] (aCopy Tryz.prog [29, 29] (.slice 2 0 l2.length l2.length 9) (vl encSlingT a1_)) [.cells [.i a0_, vl encSlingT a1_], .cells [.i 0, .nilslice], .cells (l2.flatMap encSlingT.c)] (.i ((Nat.min a1_.length l2.length : Nat) : Int)) [.cells [.i a0_, vl encSlingT a1_], .cells [.i 0, .nilslice], .cells (l3.flatMap encSlingT.c)] true] (And.intro (cp_run sl29 (E := encSlingT) (l := l2) rfl (src_v (E := encSlingT) rfl _) (.inl rfl) rfl rfl e_l3 rfl) trivial) ?_
  refine Goes.sub (show Sub (ofG 16 [(1, .ptr 0 0), (2, .ptr 1 0), (3, .slice 2 0 l2.length l2.length 9)], [.cells [.i a0_, vl encSlingT a1_], .cells [.i 0, .nilslice], .cells (l3.flatMap encSlingT.c)]) (ofG 16 [(1, .ptr 0 0), (2, .ptr 1 0), (3, .slice 2 0 l3.length l3.length 9)], [.cells [.i a0_, vl encSlingT a1_], .cells [.i 0, .nilslice], .cells (l3.flatMap encSlingT.c)]) from (Sub.norm [] [some 0, some 1, some 2] (by rw [hB]; rfl) rfl (.keep (.ptr rfl) (.keep (.ptr rfl) (.keep (.sliceE rfl (cpy_len e_l3)) .nil))) (.keep rfl (.same (AllN.cons (NoRef.int _ _) (AllN.cons (vl_noRef encSlingT _) AllN.nil))) rfl rfl (.keep rfl (.same (AllN.cons (NoRef.int _ _) (AllN.cons (NoRef.nilslice) AllN.nil))) rfl rfl (.keep rfl (.same fa) rfl rfl .nil))))) ?_
  refine sq ?_
  refine Goes.rg fol [(2, .ptr 1 0)] [.cells [.i a0_, vl encSlingT a1_], .cells [.i a0_, .slice 2 0 l3.length l3.length 9], .cells (l3.flatMap encSlingT.c)] ?_
  refine Goes.ret ?_
  obtain rfl := Option.some.inj h
  exact (Goes.retH (xs := [.agg [.i a0_, .slice 2 0 l3.length l3.length 9]]) (by kernel_rfl) (Sub.norm [] [some 2] (by rw [hB]; rfl) rfl (.keep (.aggL (RenL.cons (.same (NoRef.int _ _)) (RenL.cons (.slice rfl) RenL.nil))) .nil) (.keep rfl (.same fa) rfl rfl .nil)))
def slices_Insert_Sling_h1 (a0_ : List SlingT) (a1_ : Int) (a2_ : Str) (a3_ : Str) (a4_ : Int) (a5_ : Int) (a6_ : Int) (a7_ : Int) (a8_ : Int) (a9_ : Int) (a10_ : Bool) : Option (List SlingT) :=
  (at' a0_ a1_).bind fun j2 =>
  if 1 = 0 then
  some a0_
  else
  if a1_ = (a0_.length : Int) then
  ((match a0_ with
  | [] =>
  some ([(⟨a2_, a3_, a4_, a5_, a6_, a7_, a8_, a9_, a10_⟩ : SlingT)] : List SlingT)
  | x5 :: xs6 =>
  (app 88 (x5 :: xs6) [(⟨a2_, a3_, a4_, a5_, a6_, a7_, a8_, a9_, a10_⟩ : SlingT)]).bind fun l7 =>
  some l7) : Option (List SlingT)).bind fun l8 =>
  some l8
  else
  if (w64 ((a0_.length : Int) + 1)) > (a0_.length : Int) then
  (appz 88 a0_ j2 (w64 ((w64 ((a0_.length : Int) + 1)) - a1_)) (⟨[], [], 0, 0, 0, 0, 0, 0, false⟩ : SlingT)).bind fun l11 =>
  (if a1_ = 0 then
  (some (cpy l11 ([(⟨a2_, a3_, a4_, a5_, a6_, a7_, a8_, a9_, a10_⟩ : SlingT)] : List SlingT))).bind fun l13 =>
  some l13
  else
  (at' l11 a1_).bind fun j14 =>
  ((if j14 < l11.length then some () else none : Option Unit)).bind fun u15 =>
  (some (cpyAt l11 j14 ([(⟨a2_, a3_, a4_, a5_, a6_, a7_, a8_, a9_, a10_⟩ : SlingT)] : List SlingT))).bind fun l16 =>
  some l16 : Option (List SlingT)).bind fun l17 =>
  (if (w64 (a1_ + 1)) = 0 then
  (some (cpy l17 (a0_.drop j2))).bind fun l20 =>
  some l20
  else
  (at' l17 (w64 (a1_ + 1))).bind fun j21 =>
  ((if j21 < l17.length then some () else none : Option Unit)).bind fun u22 =>
  (some (cpyAt l17 j21 (a0_.drop j2))).bind fun l23 =>
  some l23 : Option (List SlingT)).bind fun l24 =>
  some l24
  else
  none
theorem slices_Insert_Sling_h1_ok (a0_ : List SlingT) (a1_ : Int) (a2_ : Str) (a3_ : Str) (a4_ : Int) (a5_ : Int) (a6_ : Int) (a7_ : Int) (a8_ : Int) (a9_ : Int) (a10_ : Bool) {s_1 : List SlingT} (h : slices_Insert_Sling_h1 a0_ a1_ a2_ a3_ a4_ a5_ a6_ a7_ a8_ a9_ a10_ = some s_1) : CallOK Tryz.prog (.fn 181) [.slice 0 0 a0_.length a0_.length 9, .i a1_, .slice 1 0 1 1 9] [.cells (a0_.flatMap encSlingT.c), .cells [.str a2_, .str a3_, .i a4_, .i a5_, .i a6_, .i a7_, .i a8_, .i a9_, .bool a10_]] (vl encSlingT s_1) [.dead, .cells [.str a2_, .str a3_, .i a4_, .i a5_, .i a6_, .i a7_, .i a8_, .i a9_, .bool a10_]] := by
  unfold slices_Insert_Sling_h1 at h
  refine Goes.fnH Tryz.func181 rfl rfl (m := 95) rfl (rs := [.tmp 6]) rfl (l := [(0, .slice 0 0 a0_.length a0_.length 9), (1, .i a1_), (2, .slice 1 0 1 1 9)]) rfl ?_
  intro B hB
  refine sq ?_
  refine Goes.rg fol [(0, .slice 0 0 a0_.length a0_.length 9), (1, .i a1_), (2, .slice 1 0 1 1 9)] [.cells (a0_.flatMap encSlingT.c), .cells [.str a2_, .str a3_, .i a4_, .i a5_, .i a6_, .i a7_, .i a8_, .i a9_, .bool a10_]] ?_
  refine sq ?_
  obtain ⟨j2, e_j2, h⟩ := bnd h
  refine Goes.ro fol [(2, (.done (fromS 0 9 a0_.length j2)))] [(0, .slice 0 0 a0_.length a0_.length 9), (1, .i a1_), (2, .slice 1 0 1 1 9)] [.cells (a0_.flatMap encSlingT.c), .cells [.str a2_, .str a3_, .i a4_, .i a5_, .i a6_, .i a7_, .i a8_, .i a9_, .bool a10_]] [.done (.opt (aSlice Tryz.prog 29 (.slice 0 0 a0_.length a0_.length 9) (some (.i a1_)) none none)) (fromS 0 9 a0_.length j2)] (And.intro (fromS_ix sl29 e_j2) trivial) ?_
  refine sq ?_
  refine Goes.rg fol [(0, .slice 0 0 a0_.length a0_.length 9), (1, .i a1_), (2, .slice 1 0 1 1 9), (7, .i 1)] [.cells (a0_.flatMap encSlingT.c), .cells [.str a2_, .str a3_, .i a4_, .i a5_, .i a6_, .i a7_, .i a8_, .i a9_, .bool a10_]] ?_
  refine sq ?_
  refine sq ?_
  refine Goes.rg fol [(0, .slice 0 0 a0_.length a0_.length 9), (1, .i a1_), (2, .slice 1 0 1 1 9), (7, .i 1), (16, .bool (decide (1 = 0)))] [.cells (a0_.flatMap encSlingT.c), .cells [.str a2_, .str a3_, .i a4_, .i a5_, .i a6_, .i a7_, .i a8_, .i a9_, .bool a10_]] ?_
  refine Goes.ifB (b := decide (1 = 0)) (by kernel_rfl) (fun c3 => ?_) (fun c3 => ?_)
  · rw [if_pos (ot c3)] at h
    refine sq ?_
    refine Goes.rg fol [(6, .slice 0 0 a0_.length a0_.length 9)] [.cells (a0_.flatMap encSlingT.c), .cells [.str a2_, .str a3_, .i a4_, .i a5_, .i a6_, .i a7_, .i a8_, .i a9_, .bool a10_]] ?_
    refine Goes.ret ?_
    obtain rfl := Option.some.inj h
    exact (Goes.retH (xs := [.slice 0 0 a0_.length a0_.length 9]) (by kernel_rfl) (Sub.norm [0] [some 0, some 1] (by rw [hB]; rfl) rfl (.keep (.frz (Fz.sl (E := encSlingT) rfl rfl (Nat.le_of_ble_eq_true rfl)) (vl_noRef encSlingT _)) .nil) (.lost (.keep rfl (.same (AllN.cons (NoRef.str _) (AllN.cons (NoRef.str _) (AllN.cons (NoRef.int _ _) (AllN.cons (NoRef.int _ _) (AllN.cons (NoRef.int _ _) (AllN.cons (NoRef.int _ _) (AllN.cons (NoRef.int _ _) (AllN.cons (NoRef.int _ _) (AllN.cons (NoRef.bool _) AllN.nil)))))))))) rfl rfl .nil))))
  · rw [if_neg (of_ c3)] at h
    refine Goes.skip ?_
    refine sq ?_
    refine Goes.rg fol [(0, .slice 0 0 a0_.length a0_.length 9), (1, .i a1_), (2, .slice 1 0 1 1 9), (7, .i 1), (8, .i (a0_.length : Int))] [.cells (a0_.flatMap encSlingT.c), .cells [.str a2_, .str a3_, .i a4_, .i a5_, .i a6_, .i a7_, .i a8_, .i a9_, .bool a10_]] ?_
    refine sq ?_
    refine sq ?_
    refine Goes.rg fol [(0, .slice 0 0 a0_.length a0_.length 9), (1, .i a1_), (2, .slice 1 0 1 1 9), (7, .i 1), (8, .i (a0_.length : Int)), (22, .bool (decide (a1_ = (a0_.length : Int))))] [.cells (a0_.flatMap encSlingT.c), .cells [.str a2_, .str a3_, .i a4_, .i a5_, .i a6_, .i a7_, .i a8_, .i a9_, .bool a10_]] ?_
    refine Goes.ifB (b := decide (a1_ = (a0_.length : Int))) (by kernel_rfl) (fun c4 => ?_) (fun c4 => ?_)
    · rw [if_pos (ot c4)] at h
      refine sq ?_
      obtain ⟨l8, g_v9, h⟩ := bnd h
      refine Goes.cutS (s' := (ofG 95 [(6, .oslice 2 l8.length 9)], [.dead, .cells [.str a2_, .str a3_, .i a4_, .i a5_, .i a6_, .i a7_, .i a8_, .i a9_, .bool a10_], .cells (l8.flatMap encSlingT.c)])) ?_ ?_
      · rcases a0_ with _ | ⟨x5, xs6⟩
        · try dsimp only at g_v9
          obtain rfl := Option.some.inj g_v9
          exact RegTo.sub (RegTo.rg fol [(6, .oslice 2 1 9)] [.dead, .cells [.str a2_, .str a3_, .i a4_, .i a5_, .i a6_, .i a7_, .i a8_, .i a9_, .bool a10_], .cells [.str a2_, .str a3_, .i a4_, .i a5_, .i a6_, .i a7_, .i a8_, .i a9_, .bool a10_]]) (Sub.norm [] [some 0, some 1, some 2] (by rw [hB]; rfl) rfl (.keep (RenV.osliceE rfl rfl) .nil) (.lost (.keep rfl (.same (AllN.cons (NoRef.str _) (AllN.cons (NoRef.str _) (AllN.cons (NoRef.int _ _) (AllN.cons (NoRef.int _ _) (AllN.cons (NoRef.int _ _) (AllN.cons (NoRef.int _ _) (AllN.cons (NoRef.int _ _) (AllN.cons (NoRef.int _ _) (AllN.cons (NoRef.bool _) AllN.nil)))))))))) rfl rfl (.keep rfl (.same fa) rfl rfl .nil))))
        · try dsimp only at g_v9
          obtain ⟨l7, e_l7, g_v9⟩ := bnd g_v9
          obtain rfl := Option.some.inj g_v9
          exact RegTo.sub (RegTo.ro fol [(2, (.run (.oslice 2 l7.length 9) [.cells ((x5 :: xs6).flatMap encSlingT.c), .cells [.str a2_, .str a3_, .i a4_, .i a5_, .i a6_, .i a7_, .i a8_, .i a9_, .bool a10_], .cells (l7.flatMap encSlingT.c)] false))] [(6, .oslice 2 l7.length 9)] [.cells ((x5 :: xs6).flatMap encSlingT.c), .cells [.str a2_, .str a3_, .i a4_, .i a5_, .i a6_, .i a7_, .i a8_, .i a9_, .bool a10_], .cells (l7.flatMap encSlingT.c)] [.run [0, 1] (aAppend Tryz.prog [29, 29] (.slice 0 0 (x5 :: xs6).length (x5 :: xs6).length 9) (.slice 1 0 1 1 9)) [.cells ((x5 :: xs6).flatMap encSlingT.c), .cells [.str a2_, .str a3_, .i a4_, .i a5_, .i a6_, .i a7_, .i a8_, .i a9_, .bool a10_]] (.oslice 2 l7.length 9) [.cells ((x5 :: xs6).flatMap encSlingT.c), .cells [.str a2_, .str a3_, .i a4_, .i a5_, .i a6_, .i a7_, .i a8_, .i a9_, .bool a10_], .cells (l7.flatMap encSlingT.c)] false] (And.intro (app_sl sl29 (E := encSlingT) (l := (x5 :: xs6)) (ys := [(⟨a2_, a3_, a4_, a5_, a6_, a7_, a8_, a9_, a10_⟩ : SlingT)]) rfl rfl rfl rfl rfl rfl rfl rfl e_l7 rfl) trivial)) (Sub.norm [] [some 0, some 1, some 2] (by rw [hB]; rfl) rfl (.keep (.oslice rfl) .nil) (.lost (.keep rfl (.same (AllN.cons (NoRef.str _) (AllN.cons (NoRef.str _) (AllN.cons (NoRef.int _ _) (AllN.cons (NoRef.int _ _) (AllN.cons (NoRef.int _ _) (AllN.cons (NoRef.int _ _) (AllN.cons (NoRef.int _ _) (AllN.cons (NoRef.int _ _) (AllN.cons (NoRef.bool _) AllN.nil)))))))))) rfl rfl (.keep rfl (.same fa) rfl rfl .nil))))
      intro _ hsub
      refine Goes.sub hsub ?_
      refine Goes.ret ?_
      obtain rfl := Option.some.inj h
      exact (Goes.retH (xs := [.oslice 2 l8.length 9]) (by kernel_rfl) (Sub.norm [2] [some 0, some 1] (by rw [hB]; rfl) rfl (.keep (.frz (Fz.os (E := encSlingT) rfl rfl (Nat.le_of_ble_eq_true rfl)) (vl_noRef encSlingT _)) .nil) (.lost (.keep rfl (.same (AllN.cons (NoRef.str _) (AllN.cons (NoRef.str _) (AllN.cons (NoRef.int _ _) (AllN.cons (NoRef.int _ _) (AllN.cons (NoRef.int _ _) (AllN.cons (NoRef.int _ _) (AllN.cons (NoRef.int _ _) (AllN.cons (NoRef.int _ _) (AllN.cons (NoRef.bool _) AllN.nil)))))))))) rfl rfl .nil))))
    · rw [if_neg (of_ c4)] at h
      refine Goes.skip ?_
      refine sq ?_
      refine sq ?_
      refine Goes.rg fol [(0, .slice 0 0 a0_.length a0_.length 9), (1, .i a1_), (2, .slice 1 0 1 1 9), (7, .i 1), (8, .i (a0_.length : Int)), (31, .bool (decide ((w64 ((a0_.length : Int) + 1)) > (a0_.length : Int))))] [.cells (a0_.flatMap encSlingT.c), .cells [.str a2_, .str a3_, .i a4_, .i a5_, .i a6_, .i a7_, .i a8_, .i a9_, .bool a10_]] ?_
      refine Goes.ifB (b := decide ((w64 ((a0_.length : Int) + 1)) > (a0_.length : Int))) (by kernel_rfl) (fun c10 => ?_) (fun c10 => ?_)
      · rw [if_pos (ot c10)] at h
        refine sq ?_
        obtain ⟨l11, e_l11, h⟩ := bnd h
        refine Goes.ro fol [(2, (.done (.slice 0 0 j2 a0_.length 9))), (8, (.run (.oslice 2 l11.length 9) [.cells (a0_.flatMap encSlingT.c), .cells [.str a2_, .str a3_, .i a4_, .i a5_, .i a6_, .i a7_, .i a8_, .i a9_, .bool a10_], .cells (l11.flatMap encSlingT.c)] false))] [(0, .slice 0 0 a0_.length a0_.length 9), (1, .i a1_), (2, .slice 1 0 1 1 9), (7, .i 1), (9, .oslice 2 l11.length 9)] [.cells (a0_.flatMap encSlingT.c), .cells [.str a2_, .str a3_, .i a4_, .i a5_, .i a6_, .i a7_, .i a8_, .i a9_, .bool a10_], .cells (l11.flatMap encSlingT.c)] [.done (.opt (aSlice Tryz.prog 29 (.slice 0 0 a0_.length a0_.length 9) none (some (.i a1_)) none)) (.slice 0 0 j2 a0_.length 9), .run [0] (aAppend Tryz.prog [29, 3] (.slice 0 0 j2 a0_.length 9) (.i (w64 ((w64 ((a0_.length : Int) + 1)) - a1_)))) [.cells (a0_.flatMap encSlingT.c), .cells [.str a2_, .str a3_, .i a4_, .i a5_, .i a6_, .i a7_, .i a8_, .i a9_, .bool a10_]] (.oslice 2 l11.length 9) [.cells (a0_.flatMap encSlingT.c), .cells [.str a2_, .str a3_, .i a4_, .i a5_, .i a6_, .i a7_, .i a8_, .i a9_, .bool a10_], .cells (l11.flatMap encSlingT.c)] false] (And.intro (toS_ix sl29 e_j2) (And.intro (app_cnt sl29 it3 (E := encSlingT) rfl (z := (⟨[], [], 0, 0, 0, 0, 0, 0, false⟩ : SlingT)) (by kernel_rfl) rfl rfl e_l11 rfl) trivial)) ?_
        refine sq ?_
        obtain ⟨l17, g_v18, h⟩ := bnd h
        refine Goes.cutS (s' := (ofG 95 [(0, .slice 0 0 a0_.length a0_.length 9), (1, .i a1_), (7, .i 1), (9, .oslice 2 l17.length 9)], [.cells (a0_.flatMap encSlingT.c), .cells [.str a2_, .str a3_, .i a4_, .i a5_, .i a6_, .i a7_, .i a8_, .i a9_, .bool a10_], .cells (l17.flatMap encSlingT.c)])) ?_ ?_
        · rcases Bool.eq_false_or_eq_true (decide (a1_ = 0)) with c12 | c12
          · rw [if_pos (ot c12)] at g_v18
            obtain ⟨l13, e_l13, g_v18⟩ := bnd g_v18
            obtain rfl := Option.some.inj g_v18
            exact RegTo.sub (RegTo.ro fol [(2, (.done (.oslice 2 l11.length 9))), (4, (.run (.i ((Nat.min ([(⟨a2_, a3_, a4_, a5_, a6_, a7_, a8_, a9_, a10_⟩ : SlingT)] : List SlingT).length l11.length : Nat) : Int)) [.cells (a0_.flatMap encSlingT.c), .cells [.str a2_, .str a3_, .i a4_, .i a5_, .i a6_, .i a7_, .i a8_, .i a9_, .bool a10_], .cells (l13.flatMap encSlingT.c)] true))] [(0, .slice 0 0 a0_.length a0_.length 9), (1, .i a1_), (7, .i 1), (9, .oslice 2 l11.length 9)] [.cells (a0_.flatMap encSlingT.c), .cells [.str a2_, .str a3_, .i a4_, .i a5_, .i a6_, .i a7_, .i a8_, .i a9_, .bool a10_], .cells (l13.flatMap encSlingT.c)] [.done (.opt (aSlice Tryz.prog 29 (.oslice 2 l11.length 9) (some (.i a1_)) none none)) (.oslice 2 l11.length 9), .run [2, 1] (aCopy Tryz.prog [29, 29] (.oslice 2 l11.length 9) (.slice 1 0 1 1 9)) [.cells (a0_.flatMap encSlingT.c), .cells [.str a2_, .str a3_, .i a4_, .i a5_, .i a6_, .i a7_, .i a8_, .i a9_, .bool a10_], .cells (l11.flatMap encSlingT.c)] (.i ((Nat.min ([(⟨a2_, a3_, a4_, a5_, a6_, a7_, a8_, a9_, a10_⟩ : SlingT)] : List SlingT).length l11.length : Nat) : Int)) [.cells (a0_.flatMap encSlingT.c), .cells [.str a2_, .str a3_, .i a4_, .i a5_, .i a6_, .i a7_, .i a8_, .i a9_, .bool a10_], .cells (l13.flatMap encSlingT.c)] true] (And.intro (fromO_0 sl29 (ot c12)) (And.intro (cp_run sl29 (E := encSlingT) (l := l11) rfl (src_c (E := encSlingT) (ys := ([(⟨a2_, a3_, a4_, a5_, a6_, a7_, a8_, a9_, a10_⟩ : SlingT)] : List SlingT)) rfl rfl rfl rfl) (.inr rfl) rfl rfl e_l13 rfl) trivial))) ((show Sub (ofG 95 [(0, .slice 0 0 a0_.length a0_.length 9), (1, .i a1_), (7, .i 1), (9, .oslice 2 l11.length 9)], [.cells (a0_.flatMap encSlingT.c), .cells [.str a2_, .str a3_, .i a4_, .i a5_, .i a6_, .i a7_, .i a8_, .i a9_, .bool a10_], .cells (l13.flatMap encSlingT.c)]) (ofG 95 [(0, .slice 0 0 a0_.length a0_.length 9), (1, .i a1_), (7, .i 1), (9, .oslice 2 l13.length 9)], [.cells (a0_.flatMap encSlingT.c), .cells [.str a2_, .str a3_, .i a4_, .i a5_, .i a6_, .i a7_, .i a8_, .i a9_, .bool a10_], .cells (l13.flatMap encSlingT.c)]) from (Sub.norm [] [some 0, some 1, some 2] (by rw [hB]; rfl) rfl (.keep (.slice rfl) (.keep (.same (NoRef.int _ _)) (.keep (.same (NoRef.int _ _)) (.keep (.osliceE rfl (cpy_len e_l13)) .nil)))) (.keep rfl (.same fa) rfl rfl (.keep rfl (.same (AllN.cons (NoRef.str _) (AllN.cons (NoRef.str _) (AllN.cons (NoRef.int _ _) (AllN.cons (NoRef.int _ _) (AllN.cons (NoRef.int _ _) (AllN.cons (NoRef.int _ _) (AllN.cons (NoRef.int _ _) (AllN.cons (NoRef.int _ _) (AllN.cons (NoRef.bool _) AllN.nil)))))))))) rfl rfl (.keep rfl (.same fa) rfl rfl .nil))))).trans (Sub.refl _))
          · rw [if_neg (of_ c12)] at g_v18
            obtain ⟨j14, e_j14, g_v18⟩ := bnd g_v18
            obtain ⟨u15, e_u15, g_v18⟩ := bnd g_v18
            obtain ⟨l16, e_l16, g_v18⟩ := bnd g_v18
            obtain rfl := Option.some.inj g_v18
            exact RegTo.sub (RegTo.ro fol [(2, (.done (.wslice 2 (j14 * 9) (l11.length - j14) 9))), (4, (.run (.i ((Nat.min ([(⟨a2_, a3_, a4_, a5_, a6_, a7_, a8_, a9_, a10_⟩ : SlingT)] : List SlingT).length (l11.length - j14) : Nat) : Int)) [.cells (a0_.flatMap encSlingT.c), .cells [.str a2_, .str a3_, .i a4_, .i a5_, .i a6_, .i a7_, .i a8_, .i a9_, .bool a10_], .cells (l16.flatMap encSlingT.c)] true))] [(0, .slice 0 0 a0_.length a0_.length 9), (1, .i a1_), (7, .i 1), (9, .oslice 2 l11.length 9)] [.cells (a0_.flatMap encSlingT.c), .cells [.str a2_, .str a3_, .i a4_, .i a5_, .i a6_, .i a7_, .i a8_, .i a9_, .bool a10_], .cells (l16.flatMap encSlingT.c)] [.done (.opt (aSlice Tryz.prog 29 (.oslice 2 l11.length 9) (some (.i a1_)) none none)) (.wslice 2 (j14 * 9) (l11.length - j14) 9), .run [2, 1] (aCopy Tryz.prog [29, 29] (.wslice 2 (j14 * 9) (l11.length - j14) 9) (.slice 1 0 1 1 9)) [.cells (a0_.flatMap encSlingT.c), .cells [.str a2_, .str a3_, .i a4_, .i a5_, .i a6_, .i a7_, .i a8_, .i a9_, .bool a10_], .cells (l11.flatMap encSlingT.c)] (.i ((Nat.min ([(⟨a2_, a3_, a4_, a5_, a6_, a7_, a8_, a9_, a10_⟩ : SlingT)] : List SlingT).length (l11.length - j14) : Nat) : Int)) [.cells (a0_.flatMap encSlingT.c), .cells [.str a2_, .str a3_, .i a4_, .i a5_, .i a6_, .i a7_, .i a8_, .i a9_, .bool a10_], .cells (l16.flatMap encSlingT.c)] true] (And.intro (fromO_ix sl29 (of_decide_eq_false c12) e_j14 (need_lt e_u15)) (And.intro (cp_from sl29 (E := encSlingT) rfl (l := l11) (src_c (E := encSlingT) (ys := ([(⟨a2_, a3_, a4_, a5_, a6_, a7_, a8_, a9_, a10_⟩ : SlingT)] : List SlingT)) rfl rfl rfl rfl) (at_le e_j14) rfl rfl e_l16 rfl) trivial))) ((show Sub (ofG 95 [(0, .slice 0 0 a0_.length a0_.length 9), (1, .i a1_), (7, .i 1), (9, .oslice 2 l11.length 9)], [.cells (a0_.flatMap encSlingT.c), .cells [.str a2_, .str a3_, .i a4_, .i a5_, .i a6_, .i a7_, .i a8_, .i a9_, .bool a10_], .cells (l16.flatMap encSlingT.c)]) (ofG 95 [(0, .slice 0 0 a0_.length a0_.length 9), (1, .i a1_), (7, .i 1), (9, .oslice 2 l16.length 9)], [.cells (a0_.flatMap encSlingT.c), .cells [.str a2_, .str a3_, .i a4_, .i a5_, .i a6_, .i a7_, .i a8_, .i a9_, .bool a10_], .cells (l16.flatMap encSlingT.c)]) from (Sub.norm [] [some 0, some 1, some 2] (by rw [hB]; rfl) rfl (.keep (.slice rfl) (.keep (.same (NoRef.int _ _)) (.keep (.same (NoRef.int _ _)) (.keep (.osliceE rfl (cpyAt_len (at_le e_j14) e_l16)) .nil)))) (.keep rfl (.same fa) rfl rfl (.keep rfl (.same (AllN.cons (NoRef.str _) (AllN.cons (NoRef.str _) (AllN.cons (NoRef.int _ _) (AllN.cons (NoRef.int _ _) (AllN.cons (NoRef.int _ _) (AllN.cons (NoRef.int _ _) (AllN.cons (NoRef.int _ _) (AllN.cons (NoRef.int _ _) (AllN.cons (NoRef.bool _) AllN.nil)))))))))) rfl rfl (.keep rfl (.same fa) rfl rfl .nil))))).trans (Sub.refl _))
        intro _ hsub
        refine Goes.sub hsub ?_
        refine sq ?_
        obtain ⟨l24, g_v25, h⟩ := bnd h
        refine Goes.cutS (s' := (ofG 95 [(9, .oslice 2 l24.length 9)], [.cells (a0_.flatMap encSlingT.c), .cells [.str a2_, .str a3_, .i a4_, .i a5_, .i a6_, .i a7_, .i a8_, .i a9_, .bool a10_], .cells (l24.flatMap encSlingT.c)])) ?_ ?_
        · rcases Bool.eq_false_or_eq_true (decide ((w64 (a1_ + 1)) = 0)) with c19 | c19
          · rw [if_pos (ot c19)] at g_v25
            obtain ⟨l20, e_l20, g_v25⟩ := bnd g_v25
            obtain rfl := Option.some.inj g_v25
            exact RegTo.sub (RegTo.ro fol [(4, (.done (.oslice 2 l17.length 9))), (7, (.done (fromS 0 9 a0_.length j2))), (8, (.run (.i ((Nat.min (a0_.drop j2).length l17.length : Nat) : Int)) [.cells (a0_.flatMap encSlingT.c), .cells [.str a2_, .str a3_, .i a4_, .i a5_, .i a6_, .i a7_, .i a8_, .i a9_, .bool a10_], .cells (l20.flatMap encSlingT.c)] true))] [(9, .oslice 2 l17.length 9)] [.cells (a0_.flatMap encSlingT.c), .cells [.str a2_, .str a3_, .i a4_, .i a5_, .i a6_, .i a7_, .i a8_, .i a9_, .bool a10_], .cells (l20.flatMap encSlingT.c)] [.done (.opt (aSlice Tryz.prog 29 (.oslice 2 l17.length 9) (some (.i (w64 (a1_ + 1)))) none none)) (.oslice 2 l17.length 9), .done (.opt (aSlice Tryz.prog 29 (.slice 0 0 a0_.length a0_.length 9) (some (.i a1_)) none none)) (fromS 0 9 a0_.length j2), .run [2, 0] (aCopy Tryz.prog [29, 29] (.oslice 2 l17.length 9) (fromS 0 9 a0_.length j2)) [.cells (a0_.flatMap encSlingT.c), .cells [.str a2_, .str a3_, .i a4_, .i a5_, .i a6_, .i a7_, .i a8_, .i a9_, .bool a10_], .cells (l17.flatMap encSlingT.c)] (.i ((Nat.min (a0_.drop j2).length l17.length : Nat) : Int)) [.cells (a0_.flatMap encSlingT.c), .cells [.str a2_, .str a3_, .i a4_, .i a5_, .i a6_, .i a7_, .i a8_, .i a9_, .bool a10_], .cells (l20.flatMap encSlingT.c)] true] (And.intro (fromO_0 sl29 (ot c19)) (And.intro (fromS_ix sl29 e_j2) (And.intro (cp_run sl29 (E := encSlingT) (l := l17) rfl (src_fromS (E := encSlingT) rfl rfl rfl (at_le e_j2)) (.inr rfl) rfl rfl e_l20 rfl) trivial)))) ((show Sub (ofG 95 [(9, .oslice 2 l17.length 9)], [.cells (a0_.flatMap encSlingT.c), .cells [.str a2_, .str a3_, .i a4_, .i a5_, .i a6_, .i a7_, .i a8_, .i a9_, .bool a10_], .cells (l20.flatMap encSlingT.c)]) (ofG 95 [(9, .oslice 2 l20.length 9)], [.cells (a0_.flatMap encSlingT.c), .cells [.str a2_, .str a3_, .i a4_, .i a5_, .i a6_, .i a7_, .i a8_, .i a9_, .bool a10_], .cells (l20.flatMap encSlingT.c)]) from (Sub.norm [] [some 0, some 1, some 2] (by rw [hB]; rfl) rfl (.keep (.osliceE rfl (cpy_len e_l20)) .nil) (.keep rfl (.same fa) rfl rfl (.keep rfl (.same (AllN.cons (NoRef.str _) (AllN.cons (NoRef.str _) (AllN.cons (NoRef.int _ _) (AllN.cons (NoRef.int _ _) (AllN.cons (NoRef.int _ _) (AllN.cons (NoRef.int _ _) (AllN.cons (NoRef.int _ _) (AllN.cons (NoRef.int _ _) (AllN.cons (NoRef.bool _) AllN.nil)))))))))) rfl rfl (.keep rfl (.same fa) rfl rfl .nil))))).trans (Sub.refl _))
          · rw [if_neg (of_ c19)] at g_v25
            obtain ⟨j21, e_j21, g_v25⟩ := bnd g_v25
            obtain ⟨u22, e_u22, g_v25⟩ := bnd g_v25
            obtain ⟨l23, e_l23, g_v25⟩ := bnd g_v25
            obtain rfl := Option.some.inj g_v25
            exact RegTo.sub (RegTo.ro fol [(4, (.done (.wslice 2 (j21 * 9) (l17.length - j21) 9))), (7, (.done (fromS 0 9 a0_.length j2))), (8, (.run (.i ((Nat.min (a0_.drop j2).length (l17.length - j21) : Nat) : Int)) [.cells (a0_.flatMap encSlingT.c), .cells [.str a2_, .str a3_, .i a4_, .i a5_, .i a6_, .i a7_, .i a8_, .i a9_, .bool a10_], .cells (l23.flatMap encSlingT.c)] true))] [(9, .oslice 2 l17.length 9)] [.cells (a0_.flatMap encSlingT.c), .cells [.str a2_, .str a3_, .i a4_, .i a5_, .i a6_, .i a7_, .i a8_, .i a9_, .bool a10_], .cells (l23.flatMap encSlingT.c)] [.done (.opt (aSlice Tryz.prog 29 (.oslice 2 l17.length 9) (some (.i (w64 (a1_ + 1)))) none none)) (.wslice 2 (j21 * 9) (l17.length - j21) 9), .done (.opt (aSlice Tryz.prog 29 (.slice 0 0 a0_.length a0_.length 9) (some (.i a1_)) none none)) (fromS 0 9 a0_.length j2), .run [2, 0] (aCopy Tryz.prog [29, 29] (.wslice 2 (j21 * 9) (l17.length - j21) 9) (fromS 0 9 a0_.length j2)) [.cells (a0_.flatMap encSlingT.c), .cells [.str a2_, .str a3_, .i a4_, .i a5_, .i a6_, .i a7_, .i a8_, .i a9_, .bool a10_], .cells (l17.flatMap encSlingT.c)] (.i ((Nat.min (a0_.drop j2).length (l17.length - j21) : Nat) : Int)) [.cells (a0_.flatMap encSlingT.c), .cells [.str a2_, .str a3_, .i a4_, .i a5_, .i a6_, .i a7_, .i a8_, .i a9_, .bool a10_], .cells (l23.flatMap encSlingT.c)] true] (And.intro (fromO_ix sl29 (of_decide_eq_false c19) e_j21 (need_lt e_u22)) (And.intro (fromS_ix sl29 e_j2) (And.intro (cp_from sl29 (E := encSlingT) rfl (l := l17) (src_fromS (E := encSlingT) rfl rfl rfl (at_le e_j2)) (at_le e_j21) rfl rfl e_l23 rfl) trivial)))) ((show Sub (ofG 95 [(9, .oslice 2 l17.length 9)], [.cells (a0_.flatMap encSlingT.c), .cells [.str a2_, .str a3_, .i a4_, .i a5_, .i a6_, .i a7_, .i a8_, .i a9_, .bool a10_], .cells (l23.flatMap encSlingT.c)]) (ofG 95 [(9, .oslice 2 l23.length 9)], [.cells (a0_.flatMap encSlingT.c), .cells [.str a2_, .str a3_, .i a4_, .i a5_, .i a6_, .i a7_, .i a8_, .i a9_, .bool a10_], .cells (l23.flatMap encSlingT.c)]) from (Sub.norm [] [some 0, some 1, some 2] (by rw [hB]; rfl) rfl (.keep (.osliceE rfl (cpyAt_len (at_le e_j21) e_l23)) .nil) (.keep rfl (.same fa) rfl rfl (.keep rfl (.same (AllN.cons (NoRef.str _) (AllN.cons (NoRef.str _) (AllN.cons (NoRef.int _ _) (AllN.cons (NoRef.int _ _) (AllN.cons (NoRef.int _ _) (AllN.cons (NoRef.int _ _) (AllN.cons (NoRef.int _ _) (AllN.cons (NoRef.int _ _) (AllN.cons (NoRef.bool _) AllN.nil)))))))))) rfl rfl (.keep rfl (.same fa) rfl rfl .nil))))).trans (Sub.refl _))
        intro _ hsub
        refine Goes.sub hsub ?_
        refine sq ?_
        refine Goes.rg fol [(6, .oslice 2 l24.length 9)] [.cells (a0_.flatMap encSlingT.c), .cells [.str a2_, .str a3_, .i a4_, .i a5_, .i a6_, .i a7_, .i a8_, .i a9_, .bool a10_], .cells (l24.flatMap encSlingT.c)] ?_
        refine Goes.ret ?_
        obtain rfl := Option.some.inj h
        exact (Goes.retH (xs := [.oslice 2 l24.length 9]) (by kernel_rfl) (Sub.norm [2] [some 0, some 1] (by rw [hB]; rfl) rfl (.keep (.frz (Fz.os (E := encSlingT) rfl rfl (Nat.le_of_ble_eq_true rfl)) (vl_noRef encSlingT _)) .nil) (.lost (.keep rfl (.same (AllN.cons (NoRef.str _) (AllN.cons (NoRef.str _) (AllN.cons (NoRef.int _ _) (AllN.cons (NoRef.int _ _) (AllN.cons (NoRef.int _ _) (AllN.cons (NoRef.int _ _) (AllN.cons (NoRef.int _ _) (AllN.cons (NoRef.int _ _) (AllN.cons (NoRef.bool _) AllN.nil)))))))))) rfl rfl .nil))))
      · rw [if_neg (of_ c10)] at h
        cases h
def record_made_h1 (N : Nat) (a0_ : Int) (a1_ : List SlingT) (a2_ : Int) (a3_ : Str) (a4_ : List Str) (a5_ : List Int) (a6_ : Str) : Option ((List SlingT) × Int) :=
  (idx a5_ 0).bind fun x3 =>
  (idx a5_ 1).bind fun x4 =>
  (idx a5_ 2).bind fun x5 =>
  (idx a4_ 0).bind fun x6 =>
  (record_Register_find N (⟨a0_, a1_⟩ : RegisterT) x6).bind fun r7 =>
  (record_when r7.2 9).bind fun r8 =>
  (record_within x4 1 9999).bind fun r9 =>
  (record_within x5 1 9999).bind fun r10 =>
  (record_checkDay (w64 (x3 + x4))).bind fun r11 =>
  (record_when (decide ((a1_.length : Int) ≥ 256)) 5).bind fun r12 =>
  (record_first N ([r8, r9, r10, r11, r12] : List Int)).bind fun r13 =>
  if (!decide (r13 = 0)) = true then
  some (a1_, r13)
  else
  (idx a4_ 1).bind fun x15 =>
  (slices_Insert_Sling_h1 a1_ r7.1 x6 x15 x3 (w64 (x3 + x4)) x5 0 0 0 false).bind fun s_17 =>
  some (s_17, 0)
theorem record_made_h1_ok (N : Nat) (a0_ : Int) (a1_ : List SlingT) (a2_ : Int) (a3_ : Str) (a4_ : List Str) (a5_ : List Int) (a6_ : Str) {l1 : List SlingT} {e_2 : Int} (h : record_made_h1 N a0_ a1_ a2_ a3_ a4_ a5_ a6_ = some (l1, e_2)) : CallOK Tryz.prog (.fn 141) [.agg [.i a0_, .slice 0 0 a1_.length a1_.length 9], .agg [.i a2_, .str a3_, vl encS a4_, vl encI a5_, .str a6_]] [.cells (a1_.flatMap encSlingT.c)] (.tuple [.agg [.i a0_, vl encSlingT l1], .i e_2]) [.dead] := by
  unfold record_made_h1 at h
  refine Goes.fnH Tryz.func141 rfl rfl (m := 77) rfl (rs := [.cell 4 31, .tmp 5]) rfl (l := [(0, .agg [.i a0_, .slice 0 0 a1_.length a1_.length 9]), (1, .agg [.i a2_, .str a3_, vl encS a4_, vl encI a5_, .str a6_])]) rfl ?_
  intro B hB
  refine sq ?_
  refine Goes.rg fol [(2, .ptr 1 0), (3, .ptr 2 0), (4, .ptr 3 0)] [.cells (a1_.flatMap encSlingT.c), .cells [.i a0_, .slice 0 0 a1_.length a1_.length 9], .cells [.i a2_, .str a3_, vl encS a4_, vl encI a5_, .str a6_], .cells [.i 0, .nilslice]] ?_
  refine sq ?_
  obtain ⟨x3, e_x3, h⟩ := bnd h
  obtain ⟨x4, e_x4, h⟩ := bnd h
  obtain ⟨x5, e_x5, h⟩ := bnd h
  refine Goes.ro fol [(2, (.done (.fptr (a5_.flatMap encI.c) ((0 : Int).toNat * 1 + 0)))), (3, (.done (.i x3))), (6, (.done (.fptr (a5_.flatMap encI.c) ((1 : Int).toNat * 1 + 0)))), (7, (.done (.i x4))), (10, (.done (.fptr (a5_.flatMap encI.c) ((2 : Int).toNat * 1 + 0)))), (11, (.done (.i x5)))] [(2, .ptr 1 0), (3, .ptr 2 0), (4, .ptr 3 0), (6, .i x3), (7, .i x4), (8, .i x5)] [.cells (a1_.flatMap encSlingT.c), .cells [.i a0_, .slice 0 0 a1_.length a1_.length 9], .cells [.i a2_, .str a3_, vl encS a4_, vl encI a5_, .str a6_], .cells [.i 0, .nilslice]] [.done (.opt (aIndexAddr Tryz.prog 24 (vl encI a5_) (.i 0))) (.fptr (a5_.flatMap encI.c) ((0 : Int).toNat * 1 + 0)), .done (aLoad Tryz.prog 3 (.fptr (a5_.flatMap encI.c) ((0 : Int).toNat * 1 + 0))) (.i x3), .done (.opt (aIndexAddr Tryz.prog 24 (vl encI a5_) (.i 1))) (.fptr (a5_.flatMap encI.c) ((1 : Int).toNat * 1 + 0)), .done (aLoad Tryz.prog 3 (.fptr (a5_.flatMap encI.c) ((1 : Int).toNat * 1 + 0))) (.i x4), .done (.opt (aIndexAddr Tryz.prog 24 (vl encI a5_) (.i 2))) (.fptr (a5_.flatMap encI.c) ((2 : Int).toNat * 1 + 0)), .done (aLoad Tryz.prog 3 (.fptr (a5_.flatMap encI.c) ((2 : Int).toNat * 1 + 0))) (.i x5)] (And.intro (ix_vl sl24 (E := encI) rfl e_x3) (And.intro (ld_vl ce3 (E := encI) rfl e_x3 (Nat.le_of_ble_eq_true rfl) rfl) (And.intro (ix_vl sl24 (E := encI) rfl e_x4) (And.intro (ld_vl ce3 (E := encI) rfl e_x4 (Nat.le_of_ble_eq_true rfl) rfl) (And.intro (ix_vl sl24 (E := encI) rfl e_x5) (And.intro (ld_vl ce3 (E := encI) rfl e_x5 (Nat.le_of_ble_eq_true rfl) rfl) trivial)))))) ?_
  refine sq ?_
  obtain ⟨x6, e_x6, h⟩ := bnd h
  obtain ⟨r7, e_r7, h⟩ := bnd h
  refine Goes.ro fol [(3, (.done (.fptr (a4_.flatMap encS.c) ((0 : Int).toNat * 1 + 0)))), (4, (.done (.str x6))), (5, (.call [0] [.agg [.i a0_, vl encSlingT a1_], .str x6] (.tuple [.i r7.1, .bool r7.2])))] [(2, .ptr 1 0), (3, .ptr 2 0), (4, .ptr 3 0), (6, .i x3), (7, .i x4), (8, .i x5), (9, .i r7.1), (10, .bool r7.2)] [.cells (a1_.flatMap encSlingT.c), .cells [.i a0_, .slice 0 0 a1_.length a1_.length 9], .cells [.i a2_, .str a3_, vl encS a4_, vl encI a5_, .str a6_], .cells [.i 0, .nilslice]] [.done (.opt (aIndexAddr Tryz.prog 23 (vl encS a4_) (.i 0))) (.fptr (a4_.flatMap encS.c) ((0 : Int).toNat * 1 + 0)), .done (aLoad Tryz.prog 9 (.fptr (a4_.flatMap encS.c) ((0 : Int).toNat * 1 + 0))) (.str x6), .call 93 [.agg [.i a0_, .slice 0 0 a1_.length a1_.length 9], .str x6] [.cells (a1_.flatMap encSlingT.c), .cells [.i a0_, .slice 0 0 a1_.length a1_.length 9], .cells [.i a2_, .str a3_, vl encS a4_, vl encI a5_, .str a6_], .cells [.i 0, .nilslice]] [0] [.agg [.i a0_, vl encSlingT a1_], .str x6] (.tuple [.i r7.1, .bool r7.2])] (And.intro (ix_vl sl23 (E := encS) rfl e_x6) (And.intro (ld_vl ce9 (E := encS) rfl e_x6 (Nat.le_of_ble_eq_true rfl) rfl) (And.intro (call_S (FzL.cons (Fz.agg (FzL.cons (Fz.still (Still.int 10 _ _)) (FzL.cons (Fz.sl (E := encSlingT) rfl rfl (Nat.le_of_ble_eq_true rfl)) FzL.nil))) (FzL.cons (Fz.still (Still.str 11 _)) FzL.nil)) (record_Register_find_ok N (⟨a0_, a1_⟩ : RegisterT) x6 e_r7) (Still.tuple (AllST.cons (Still.int 10 _ _) (AllST.cons (Still.bool 10 _) AllST.nil))) rfl) trivial))) ?_
  refine sq ?_
  refine sq ?_
  obtain ⟨r8, e_r8, h⟩ := bnd h
  obtain ⟨r9, e_r9, h⟩ := bnd h
  obtain ⟨r10, e_r10, h⟩ := bnd h
  obtain ⟨r11, e_r11, h⟩ := bnd h
  obtain ⟨r12, e_r12, h⟩ := bnd h
  obtain ⟨r13, e_r13, h⟩ := bnd h
  refine Goes.ro fol [(1, (.call [] [.bool r7.2, .i 9] (.i r8))), (3, (.call [] [.i x4, .i 1, .i 9999] (.i r9))), (5, (.call [] [.i x5, .i 1, .i 9999] (.i r10))), (9, (.call [] [.i (w64 (x3 + x4))] (.i r11))), (14, (.call [] [.bool (decide ((a1_.length : Int) ≥ 256)), .i 5] (.i r12))), (16, (.call [4] [vl encI ([r8, r9, r10, r11, r12] : List Int)] (.i r13)))] [(2, .ptr 1 0), (3, .ptr 2 0), (4, .ptr 3 0), (6, .i x3), (7, .i x4), (8, .i x5), (9, .i r7.1), (11, .i r13)] [.cells (a1_.flatMap encSlingT.c), .cells [.i a0_, .slice 0 0 a1_.length a1_.length 9], .cells [.i a2_, .str a3_, vl encS a4_, vl encI a5_, .str a6_], .cells [.i 0, .nilslice], .cells [.i r8, .i r9, .i r10, .i r11, .i r12]] [.call 88 [.bool r7.2, .i 9] [.cells (a1_.flatMap encSlingT.c), .cells [.i a0_, .slice 0 0 a1_.length a1_.length 9], .cells [.i a2_, .str a3_, vl encS a4_, vl encI a5_, .str a6_], .cells [.i 0, .nilslice]] [] [.bool r7.2, .i 9] (.i r8), .call 87 [.i x4, .i 1, .i 9999] [.cells (a1_.flatMap encSlingT.c), .cells [.i a0_, .slice 0 0 a1_.length a1_.length 9], .cells [.i a2_, .str a3_, vl encS a4_, vl encI a5_, .str a6_], .cells [.i 0, .nilslice]] [] [.i x4, .i 1, .i 9999] (.i r9), .call 87 [.i x5, .i 1, .i 9999] [.cells (a1_.flatMap encSlingT.c), .cells [.i a0_, .slice 0 0 a1_.length a1_.length 9], .cells [.i a2_, .str a3_, vl encS a4_, vl encI a5_, .str a6_], .cells [.i 0, .nilslice]] [] [.i x5, .i 1, .i 9999] (.i r10), .call 94 [.i (w64 (x3 + x4))] [.cells (a1_.flatMap encSlingT.c), .cells [.i a0_, .slice 0 0 a1_.length a1_.length 9], .cells [.i a2_, .str a3_, vl encS a4_, vl encI a5_, .str a6_], .cells [.i 0, .nilslice]] [] [.i (w64 (x3 + x4))] (.i r11), .call 88 [.bool (decide ((a1_.length : Int) ≥ 256)), .i 5] [.cells (a1_.flatMap encSlingT.c), .cells [.i a0_, .slice 0 0 a1_.length a1_.length 9], .cells [.i a2_, .str a3_, vl encS a4_, vl encI a5_, .str a6_], .cells [.i 0, .nilslice]] [] [.bool (decide ((a1_.length : Int) ≥ 256)), .i 5] (.i r12), .call 86 [.slice 4 0 5 5 1] [.cells (a1_.flatMap encSlingT.c), .cells [.i a0_, .slice 0 0 a1_.length a1_.length 9], .cells [.i a2_, .str a3_, vl encS a4_, vl encI a5_, .str a6_], .cells [.i 0, .nilslice], .cells [.i r8, .i r9, .i r10, .i r11, .i r12]] [4] [vl encI ([r8, r9, r10, r11, r12] : List Int)] (.i r13)] (And.intro (call_val (AllST.cons (Still.bool 11 _) (AllST.cons (Still.int 11 _ _) AllST.nil)) (record_when_ok r7.2 9 e_r8) (Still.int 11 _ _)) (And.intro (call_val (AllST.cons (Still.int 11 _ _) (AllST.cons (Still.int 11 _ _) (AllST.cons (Still.int 11 _ _) AllST.nil))) (record_within_ok x4 1 9999 e_r9) (Still.int 11 _ _)) (And.intro (call_val (AllST.cons (Still.int 11 _ _) (AllST.cons (Still.int 11 _ _) (AllST.cons (Still.int 11 _ _) AllST.nil))) (record_within_ok x5 1 9999 e_r10) (Still.int 11 _ _)) (And.intro (call_val (AllST.cons (Still.int 11 _ _) AllST.nil) (record_checkDay_ok (w64 (x3 + x4)) e_r11) (Still.int 11 _ _)) (And.intro (call_val (AllST.cons (Still.bool 11 _) (AllST.cons (Still.int 11 _ _) AllST.nil)) (record_when_ok (decide ((a1_.length : Int) ≥ 256)) 5 e_r12) (Still.int 11 _ _)) (And.intro (call_S (FzL.cons (Fz.lit rfl rfl (FzL.still (AllST.cons (Still.int 10 _ _) (AllST.cons (Still.int 10 _ _) (AllST.cons (Still.int 10 _ _) (AllST.cons (Still.int 10 _ _) (AllST.cons (Still.int 10 _ _) AllST.nil))))))) FzL.nil) (record_first_ok N ([r8, r9, r10, r11, r12] : List Int) e_r13) (Still.int 11 _ _) rfl) trivial)))))) ?_
  refine sq ?_
  refine Goes.rg fol [(2, .ptr 1 0), (3, .ptr 2 0), (4, .ptr 3 0), (6, .i x3), (7, .i x4), (8, .i x5), (9, .i r7.1), (11, .i r13), (52, .bool (!decide (r13 = 0)))] [.cells (a1_.flatMap encSlingT.c), .cells [.i a0_, .slice 0 0 a1_.length a1_.length 9], .cells [.i a2_, .str a3_, vl encS a4_, vl encI a5_, .str a6_], .cells [.i 0, .nilslice], .cells [.i r8, .i r9, .i r10, .i r11, .i r12]] ?_
  refine Goes.ifB (b := !decide (r13 = 0)) (by kernel_rfl) (fun c14 => ?_) (fun c14 => ?_)
  · rw [if_pos (c14)] at h
    refine sq ?_
    refine Goes.rg fol [(4, .ptr 3 0), (5, .i r13)] [.cells (a1_.flatMap encSlingT.c), .cells [.i a0_, .slice 0 0 a1_.length a1_.length 9], .cells [.i a2_, .str a3_, vl encS a4_, vl encI a5_, .str a6_], .cells [.i a0_, .slice 0 0 a1_.length a1_.length 9], .cells [.i r8, .i r9, .i r10, .i r11, .i r12]] ?_
    refine Goes.ret ?_
    simp only [Option.some.injEq, Prod.mk.injEq] at h
    obtain ⟨rfl, rfl⟩ := h
    exact (Goes.retH (xs := [.agg [.i a0_, .slice 0 0 a1_.length a1_.length 9], .i r13]) (by kernel_rfl) (Sub.norm [0] [some 0] (by rw [hB]; rfl) rfl (.keep (.tupleL (RenL.cons (.aggL (RenL.cons (.same (NoRef.int _ _)) (RenL.cons (.frz (Fz.sl (E := encSlingT) rfl rfl (Nat.le_of_ble_eq_true rfl)) (vl_noRef encSlingT _)) RenL.nil))) (RenL.cons (.same (NoRef.int _ _)) RenL.nil))) .nil) (.lost .nil)))
  · rw [if_neg (by rw [c14]; exact Bool.false_ne_true)] at h
    refine Goes.skip ?_
    refine sq ?_
    obtain ⟨x15, e_x15, h⟩ := bnd h
    refine Goes.ro fol [(2, (.done (.fptr (a4_.flatMap encS.c) ((0 : Int).toNat * 1 + 0)))), (3, (.done (.str x6))), (6, (.done (.fptr (a4_.flatMap encS.c) ((1 : Int).toNat * 1 + 0)))), (7, (.done (.str x15)))] [(2, .ptr 1 0), (4, .ptr 3 0), (9, .i r7.1), (12, .ptr 5 0)] [.cells (a1_.flatMap encSlingT.c), .cells [.i a0_, .slice 0 0 a1_.length a1_.length 9], .cells [.i a2_, .str a3_, vl encS a4_, vl encI a5_, .str a6_], .cells [.i 0, .nilslice], .cells [.i r8, .i r9, .i r10, .i r11, .i r12], .cells [.str x6, .str x15, .i x3, .i (w64 (x3 + x4)), .i x5, .i 0, .i 0, .i 0, .bool false]] [.done (.opt (aIndexAddr Tryz.prog 23 (vl encS a4_) (.i 0))) (.fptr (a4_.flatMap encS.c) ((0 : Int).toNat * 1 + 0)), .done (aLoad Tryz.prog 9 (.fptr (a4_.flatMap encS.c) ((0 : Int).toNat * 1 + 0))) (.str x6), .done (.opt (aIndexAddr Tryz.prog 23 (vl encS a4_) (.i 1))) (.fptr (a4_.flatMap encS.c) ((1 : Int).toNat * 1 + 0)), .done (aLoad Tryz.prog 9 (.fptr (a4_.flatMap encS.c) ((1 : Int).toNat * 1 + 0))) (.str x15)] (And.intro (ix_vl sl23 (E := encS) rfl e_x6) (And.intro (ld_vl ce9 (E := encS) rfl e_x6 (Nat.le_of_ble_eq_true rfl) rfl) (And.intro (ix_vl sl23 (E := encS) rfl e_x15) (And.intro (ld_vl ce9 (E := encS) rfl e_x15 (Nat.le_of_ble_eq_true rfl) rfl) trivial)))) ?_
    refine sq ?_
    obtain ⟨s_17, e_r16, h⟩ := bnd h
    refine Goes.ro fol [(5, (.callH [0, 6] (vl encSlingT s_17) [.dead, .cells [.i a0_, .slice 0 0 a1_.length a1_.length 9], .cells [.i a2_, .str a3_, vl encS a4_, vl encI a5_, .str a6_], .cells [.i 0, .nilslice], .cells [.i r8, .i r9, .i r10, .i r11, .i r12], .cells [.str x6, .str x15, .i x3, .i (w64 (x3 + x4)), .i x5, .i 0, .i 0, .i 0, .bool false], .cells [.str x6, .str x15, .i x3, .i (w64 (x3 + x4)), .i x5, .i 0, .i 0, .i 0, .bool false]]))] [(2, .ptr 1 0), (4, .ptr 3 0)] [.dead, .cells [.i a0_, vl encSlingT s_17], .cells [.i a2_, .str a3_, vl encS a4_, vl encI a5_, .str a6_], .cells [.i 0, .nilslice], .cells [.i r8, .i r9, .i r10, .i r11, .i r12], .cells [.str x6, .str x15, .i x3, .i (w64 (x3 + x4)), .i x5, .i 0, .i 0, .i 0, .bool false], .cells [.str x6, .str x15, .i x3, .i (w64 (x3 + x4)), .i x5, .i 0, .i 0, .i 0, .bool false]] [.callH 181 [.slice 0 0 a1_.length a1_.length 9, .i r7.1, .slice 6 0 1 1 9] [.cells (a1_.flatMap encSlingT.c), .cells [.i a0_, .slice 0 0 a1_.length a1_.length 9], .cells [.i a2_, .str a3_, vl encS a4_, vl encI a5_, .str a6_], .cells [.i 0, .nilslice], .cells [.i r8, .i r9, .i r10, .i r11, .i r12], .cells [.str x6, .str x15, .i x3, .i (w64 (x3 + x4)), .i x5, .i 0, .i 0, .i 0, .bool false], .cells [.str x6, .str x15, .i x3, .i (w64 (x3 + x4)), .i x5, .i 0, .i 0, .i 0, .bool false]] [0, 6] (vl encSlingT s_17) [.dead, .cells [.i a0_, .slice 0 0 a1_.length a1_.length 9], .cells [.i a2_, .str a3_, vl encS a4_, vl encI a5_, .str a6_], .cells [.i 0, .nilslice], .cells [.i r8, .i r9, .i r10, .i r11, .i r12], .cells [.str x6, .str x15, .i x3, .i (w64 (x3 + x4)), .i x5, .i 0, .i 0, .i 0, .bool false], .cells [.str x6, .str x15, .i x3, .i (w64 (x3 + x4)), .i x5, .i 0, .i 0, .i 0, .bool false]]] (And.intro (call_H [some 0, some 6] [none, none, none, none, none, none, some 1] (slices_Insert_Sling_h1_ok a1_ r7.1 x6 x15 x3 (w64 (x3 + x4)) x5 0 0 0 false e_r16) (.keep rfl (.same fa) rfl rfl (.keep rfl (.cells (RenL.cons (.same (NoRef.str _)) (RenL.cons (.same (NoRef.str _)) (RenL.cons (.same (NoRef.int _ _)) (RenL.cons (.same (NoRef.int _ _)) (RenL.cons (.same (NoRef.int _ _)) (RenL.cons (.same (NoRef.int _ _)) (RenL.cons (.same (NoRef.int _ _)) (RenL.cons (.same (NoRef.int _ _)) (RenL.cons (.same (NoRef.bool _)) RenL.nil)))))))))) rfl rfl .nil)) rfl rfl (.dead (.old rfl rfl (.old rfl rfl (.old rfl rfl (.old rfl rfl (.old rfl rfl (.back rfl rfl (.cells (RenL.cons (.same (NoRef.str _)) (RenL.cons (.same (NoRef.str _)) (RenL.cons (.same (NoRef.int _ _)) (RenL.cons (.same (NoRef.int _ _)) (RenL.cons (.same (NoRef.int _ _)) (RenL.cons (.same (NoRef.int _ _)) (RenL.cons (.same (NoRef.int _ _)) (RenL.cons (.same (NoRef.int _ _)) (RenL.cons (.same (NoRef.bool _)) RenL.nil)))))))))) rfl .nil))))))) (RenL.cons (.slice rfl) (RenL.cons (.same (NoRef.int _ _)) (RenL.cons (.slice rfl) RenL.nil))) (.same (vl_noRef encSlingT _)) rfl) trivial) ?_
    refine sq ?_
    refine Goes.rg fol [(4, .ptr 3 0), (5, .i 0)] [.dead, .cells [.i a0_, vl encSlingT s_17], .cells [.i a2_, .str a3_, vl encS a4_, vl encI a5_, .str a6_], .cells [.i a0_, vl encSlingT s_17], .cells [.i r8, .i r9, .i r10, .i r11, .i r12], .cells [.str x6, .str x15, .i x3, .i (w64 (x3 + x4)), .i x5, .i 0, .i 0, .i 0, .bool false], .cells [.str x6, .str x15, .i x3, .i (w64 (x3 + x4)), .i x5, .i 0, .i 0, .i 0, .bool false]] ?_
    refine Goes.ret ?_
    simp only [Option.some.injEq, Prod.mk.injEq] at h
    obtain ⟨rfl, rfl⟩ := h
    exact (Goes.retH (xs := [.agg [.i a0_, vl encSlingT s_17], .i 0]) (by kernel_rfl) (Sub.norm [] [some 0] (by rw [hB]; rfl) rfl (.keep (.tupleL (RenL.cons (.aggL (RenL.cons (.same (NoRef.int _ _)) (RenL.cons (.same (vl_noRef encSlingT _)) RenL.nil))) (RenL.cons (.same (NoRef.int _ _)) RenL.nil))) .nil) (.lost .nil)))
def record_Register_open_h1 (N : Nat) (a0_ : Int) (a1_ : List SlingT) (a2_ : Str) (a3_ : Int) : Option (Int × Bool × Int) :=
  (record_Register_find N (⟨a0_, a1_⟩ : RegisterT) a2_).bind fun r4 =>
  if (!r4.2) = true then
  some (0, false, 10)
  else
  (idx a1_ r4.1).bind fun x6 =>
  (record_Sling_retired x6 a3_).bind fun r7 =>
  (record_when r7 20).bind fun r8 =>
  some (r4.1, true, r8)
theorem record_Register_open_h1_ok (N : Nat) (a0_ : Int) (a1_ : List SlingT) (a2_ : Str) (a3_ : Int) {i1 : Int} {ok2 : Bool} {name_3 : Int} (h : record_Register_open_h1 N a0_ a1_ a2_ a3_ = some (i1, ok2, name_3)) : CallOK Tryz.prog (.fn 182) [.agg [.i a0_, .slice 0 0 a1_.length a1_.length 9], .str a2_, .i a3_] [.cells (a1_.flatMap encSlingT.c)] (.tuple [pz ok2 0 ((i1 : Int).toNat * 9 + 0), .i name_3]) [.cells (a1_.flatMap encSlingT.c)] := by
  unfold record_Register_open_h1 at h
  refine Goes.fnH Tryz.func182 rfl rfl (m := 30) rfl (rs := [.tmp 6, .tmp 7]) rfl (l := [(0, .agg [.i a0_, .slice 0 0 a1_.length a1_.length 9]), (1, .str a2_), (2, .i a3_)]) rfl ?_
  intro B hB
  refine sq ?_
  refine Goes.rg fol [(1, .str a2_), (2, .i a3_), (3, .ptr 1 0)] [.cells (a1_.flatMap encSlingT.c), .cells [.i a0_, .slice 0 0 a1_.length a1_.length 9]] ?_
  refine sq ?_
  obtain ⟨r4, e_r4, h⟩ := bnd h
  refine Goes.ro fol [(2, (.call [0] [.agg [.i a0_, vl encSlingT a1_], .str a2_] (.tuple [.i r4.1, .bool r4.2])))] [(2, .i a3_), (3, .ptr 1 0), (8, .i r4.1), (9, .bool r4.2)] [.cells (a1_.flatMap encSlingT.c), .cells [.i a0_, .slice 0 0 a1_.length a1_.length 9]] [.call 93 [.agg [.i a0_, .slice 0 0 a1_.length a1_.length 9], .str a2_] [.cells (a1_.flatMap encSlingT.c), .cells [.i a0_, .slice 0 0 a1_.length a1_.length 9]] [0] [.agg [.i a0_, vl encSlingT a1_], .str a2_] (.tuple [.i r4.1, .bool r4.2])] (And.intro (call_S (FzL.cons (Fz.agg (FzL.cons (Fz.still (Still.int 10 _ _)) (FzL.cons (Fz.sl (E := encSlingT) rfl rfl (Nat.le_of_ble_eq_true rfl)) FzL.nil))) (FzL.cons (Fz.still (Still.str 11 _)) FzL.nil)) (record_Register_find_ok N (⟨a0_, a1_⟩ : RegisterT) a2_ e_r4) (Still.tuple (AllST.cons (Still.int 10 _ _) (AllST.cons (Still.bool 10 _) AllST.nil))) rfl) trivial) ?_
  refine sq ?_
  refine sq ?_
  refine Goes.rg fol [(2, .i a3_), (3, .ptr 1 0), (8, .i r4.1), (18, .bool (!r4.2))] [.cells (a1_.flatMap encSlingT.c), .cells [.i a0_, .slice 0 0 a1_.length a1_.length 9]] ?_
  refine Goes.ifB (b := !r4.2) (by kernel_rfl) (fun c5 => ?_) (fun c5 => ?_)
  · rw [if_pos (c5)] at h
    refine sq ?_
    refine Goes.rg fol [(6, .nilptr), (7, .i 10)] [.cells (a1_.flatMap encSlingT.c), .cells [.i a0_, .slice 0 0 a1_.length a1_.length 9]] ?_
    refine Goes.ret ?_
    simp only [Option.some.injEq, Prod.mk.injEq] at h
    obtain ⟨rfl, rfl, rfl⟩ := h
    exact (Goes.retH (xs := [.nilptr, .i 10]) (by kernel_rfl) (Sub.norm [] [some 0] (by rw [hB]; rfl) rfl (.keep (.tupleL (RenL.cons (RenV.pz0) (RenL.cons (.same (NoRef.int _ _)) RenL.nil))) .nil) (.keep rfl (.same fa) rfl rfl .nil)))
  · rw [if_neg (by rw [c5]; exact Bool.false_ne_true)] at h
    refine Goes.skip ?_
    refine sq ?_
    obtain ⟨x6, e_x6, h⟩ := bnd h
    refine Goes.ro fol [(3, (.done (.ptr 0 ((r4.1 : Int).toNat * 9 + 0))))] [(2, .i a3_), (10, .ptr 0 ((r4.1 : Int).toNat * 9 + 0))] [.cells (a1_.flatMap encSlingT.c), .cells [.i a0_, .slice 0 0 a1_.length a1_.length 9]] [.done (.opt (aIndexAddr Tryz.prog 29 (.slice 0 0 a1_.length a1_.length 9) (.i r4.1))) (.ptr 0 ((r4.1 : Int).toNat * 9 + 0))] (And.intro (ix_sl sl29 e_x6) trivial) ?_
    refine sq ?_
    obtain ⟨r7, e_r7, h⟩ := bnd h
    obtain ⟨r8, e_r8, h⟩ := bnd h
    refine Goes.ro fol [(3, (.run (.agg [.str x6.Name, .str x6.Batch, .i x6.Born, .i x6.Last, .i x6.Uses, .i x6.Used, .i x6.Limit, .i x6.Until, .bool x6.Gone]) [.cells (a1_.flatMap encSlingT.c), .cells [.i a0_, .slice 0 0 a1_.length a1_.length 9]] false)), (5, (.call [] [.agg [.str x6.Name, .str x6.Batch, .i x6.Born, .i x6.Last, .i x6.Uses, .i x6.Used, .i x6.Limit, .i x6.Until, .bool x6.Gone], .i a3_] (.bool r7))), (6, (.call [] [.bool r7, .i 20] (.i r8)))] [(6, .ptr 0 ((r4.1 : Int).toNat * 9 + 0)), (7, .i r8)] [.cells (a1_.flatMap encSlingT.c), .cells [.i a0_, .slice 0 0 a1_.length a1_.length 9]] [.run [0] (aLoad Tryz.prog 68 (.ptr 0 ((r4.1 : Int).toNat * 9 + 0))) [.cells (a1_.flatMap encSlingT.c), .cells [.i a0_, .slice 0 0 a1_.length a1_.length 9]] (.agg [.str x6.Name, .str x6.Batch, .i x6.Born, .i x6.Last, .i x6.Uses, .i x6.Used, .i x6.Limit, .i x6.Until, .bool x6.Gone]) [.cells (a1_.flatMap encSlingT.c), .cells [.i a0_, .slice 0 0 a1_.length a1_.length 9]] false, .call 95 [.agg [.str x6.Name, .str x6.Batch, .i x6.Born, .i x6.Last, .i x6.Uses, .i x6.Used, .i x6.Limit, .i x6.Until, .bool x6.Gone], .i a3_] [.cells (a1_.flatMap encSlingT.c), .cells [.i a0_, .slice 0 0 a1_.length a1_.length 9]] [] [.agg [.str x6.Name, .str x6.Batch, .i x6.Born, .i x6.Last, .i x6.Uses, .i x6.Used, .i x6.Limit, .i x6.Until, .bool x6.Gone], .i a3_] (.bool r7), .call 88 [.bool r7, .i 20] [.cells (a1_.flatMap encSlingT.c), .cells [.i a0_, .slice 0 0 a1_.length a1_.length 9]] [] [.bool r7, .i 20] (.i r8)] (And.intro (ld_pa ag68 (E := encSlingT) (l := a1_) rfl rfl e_x6) (And.intro (call_val (AllST.cons (Still.agg (AllST.cons (Still.str 10 _) (AllST.cons (Still.str 10 _) (AllST.cons (Still.int 10 _ _) (AllST.cons (Still.int 10 _ _) (AllST.cons (Still.int 10 _ _) (AllST.cons (Still.int 10 _ _) (AllST.cons (Still.int 10 _ _) (AllST.cons (Still.int 10 _ _) (AllST.cons (Still.bool 10 _) AllST.nil)))))))))) (AllST.cons (Still.int 11 _ _) AllST.nil)) (record_Sling_retired_ok x6 a3_ e_r7) (Still.bool 11 _)) (And.intro (call_val (AllST.cons (Still.bool 11 _) (AllST.cons (Still.int 11 _ _) AllST.nil)) (record_when_ok r7 20 e_r8) (Still.int 11 _ _)) trivial))) ?_
    refine Goes.ret ?_
    simp only [Option.some.injEq, Prod.mk.injEq] at h
    obtain ⟨rfl, rfl, rfl⟩ := h
    exact (Goes.retH (xs := [.ptr 0 ((r4.1 : Int).toNat * 9 + 0), .i r8]) (by kernel_rfl) (Sub.norm [] [some 0] (by rw [hB]; rfl) rfl (.keep (.tupleL (RenL.cons ((RenV.pz1 rfl)) (RenL.cons (.same (NoRef.int _ _)) RenL.nil))) .nil) (.keep rfl (.same fa) rfl rfl .nil)))
def record_tested_h1 (N : Nat) (a0_ : Int) (a1_ : List SlingT) (a2_ : Int) (a3_ : Str) (a4_ : List Str) (a5_ : List Int) (a6_ : Str) : Option ((List SlingT) × Int) :=
  (idx a5_ 0).bind fun x3 =>
  (idx a5_ 1).bind fun x4 =>
  (idx a4_ 0).bind fun x5 =>
  (record_Register_open_h1 N a0_ a1_ x5 x3).bind fun (i7, ok8, name_9) =>
  (record_within x4 2 999999999).bind fun r10 =>
  (record_first N ([name_9, r10] : List Int)).bind fun r11 =>
  if (!decide (r11 = 0)) = true then
  some (a1_, r11)
  else
  ((match ok8 with
  | false =>
  none
  | true =>
  (idx a1_ i7).bind fun x13 =>
  (put a1_ i7 (⟨x13.Name, x13.Batch, x13.Born, x13.Last, x13.Uses, x13.Used, w64 (x4.tdiv 2), x13.Until, x13.Gone⟩ : SlingT)).bind fun l14 =>
  (idx l14 i7).bind fun x15 =>
  (put l14 i7 (⟨x15.Name, x15.Batch, x15.Born, x15.Last, x15.Uses, x15.Used, x15.Limit, (if x13.Last < (w64 (x3 + 365)) then x13.Last else (w64 (x3 + 365))), x15.Gone⟩ : SlingT)).bind fun l16 =>
  some l16) : Option (List SlingT)).bind fun l17 =>
  some (l17, 0)
theorem record_tested_h1_ok (N : Nat) (a0_ : Int) (a1_ : List SlingT) (a2_ : Int) (a3_ : Str) (a4_ : List Str) (a5_ : List Int) (a6_ : Str) {l1 : List SlingT} {e_2 : Int} (h : record_tested_h1 N a0_ a1_ a2_ a3_ a4_ a5_ a6_ = some (l1, e_2)) : CallOK Tryz.prog (.fn 142) [.agg [.i a0_, .slice 0 0 a1_.length a1_.length 9], .agg [.i a2_, .str a3_, vl encS a4_, vl encI a5_, .str a6_]] [.cells (a1_.flatMap encSlingT.c)] (.tuple [.agg [.i a0_, .slice 0 0 l1.length l1.length 9], .i e_2]) [.cells (l1.flatMap encSlingT.c)] := by
  unfold record_tested_h1 at h
  refine Goes.fnH Tryz.func142 rfl rfl (m := 53) rfl (rs := [.cell 4 31, .tmp 5]) rfl (l := [(0, .agg [.i a0_, .slice 0 0 a1_.length a1_.length 9]), (1, .agg [.i a2_, .str a3_, vl encS a4_, vl encI a5_, .str a6_])]) rfl ?_
  intro B hB
  refine sq ?_
  refine Goes.rg fol [(2, .ptr 1 0), (3, .ptr 2 0), (4, .ptr 3 0)] [.cells (a1_.flatMap encSlingT.c), .cells [.i a0_, .slice 0 0 a1_.length a1_.length 9], .cells [.i a2_, .str a3_, vl encS a4_, vl encI a5_, .str a6_], .cells [.i 0, .nilslice]] ?_
  refine sq ?_
  obtain ⟨x3, e_x3, h⟩ := bnd h
  obtain ⟨x4, e_x4, h⟩ := bnd h
  refine Goes.ro fol [(2, (.done (.fptr (a5_.flatMap encI.c) ((0 : Int).toNat * 1 + 0)))), (3, (.done (.i x3))), (6, (.done (.fptr (a5_.flatMap encI.c) ((1 : Int).toNat * 1 + 0)))), (7, (.done (.i x4)))] [(2, .ptr 1 0), (3, .ptr 2 0), (4, .ptr 3 0), (6, .i x3), (7, .i x4)] [.cells (a1_.flatMap encSlingT.c), .cells [.i a0_, .slice 0 0 a1_.length a1_.length 9], .cells [.i a2_, .str a3_, vl encS a4_, vl encI a5_, .str a6_], .cells [.i 0, .nilslice]] [.done (.opt (aIndexAddr Tryz.prog 24 (vl encI a5_) (.i 0))) (.fptr (a5_.flatMap encI.c) ((0 : Int).toNat * 1 + 0)), .done (aLoad Tryz.prog 3 (.fptr (a5_.flatMap encI.c) ((0 : Int).toNat * 1 + 0))) (.i x3), .done (.opt (aIndexAddr Tryz.prog 24 (vl encI a5_) (.i 1))) (.fptr (a5_.flatMap encI.c) ((1 : Int).toNat * 1 + 0)), .done (aLoad Tryz.prog 3 (.fptr (a5_.flatMap encI.c) ((1 : Int).toNat * 1 + 0))) (.i x4)] (And.intro (ix_vl sl24 (E := encI) rfl e_x3) (And.intro (ld_vl ce3 (E := encI) rfl e_x3 (Nat.le_of_ble_eq_true rfl) rfl) (And.intro (ix_vl sl24 (E := encI) rfl e_x4) (And.intro (ld_vl ce3 (E := encI) rfl e_x4 (Nat.le_of_ble_eq_true rfl) rfl) trivial)))) ?_
  refine sq ?_
  obtain ⟨x5, e_x5, h⟩ := bnd h
  obtain ⟨⟨i7, ok8, name_9⟩, e_r6, h⟩ := bnd h
  try dsimp only at h
  refine Goes.ro fol [(3, (.done (.fptr (a4_.flatMap encS.c) ((0 : Int).toNat * 1 + 0)))), (4, (.done (.str x5))), (6, (.callH [0] (.tuple [pz ok8 0 ((i7 : Int).toNat * 9 + 0), .i name_9]) [.cells (a1_.flatMap encSlingT.c), .cells [.i a0_, .slice 0 0 a1_.length a1_.length 9], .cells [.i a2_, .str a3_, vl encS a4_, vl encI a5_, .str a6_], .cells [.i 0, .nilslice]]))] [(2, .ptr 1 0), (4, .ptr 3 0), (6, .i x3), (7, .i x4), (8, pz ok8 0 ((i7 : Int).toNat * 9 + 0)), (9, .i name_9)] [.cells (a1_.flatMap encSlingT.c), .cells [.i a0_, .slice 0 0 a1_.length a1_.length 9], .cells [.i a2_, .str a3_, vl encS a4_, vl encI a5_, .str a6_], .cells [.i 0, .nilslice]] [.done (.opt (aIndexAddr Tryz.prog 23 (vl encS a4_) (.i 0))) (.fptr (a4_.flatMap encS.c) ((0 : Int).toNat * 1 + 0)), .done (aLoad Tryz.prog 9 (.fptr (a4_.flatMap encS.c) ((0 : Int).toNat * 1 + 0))) (.str x5), .callH 182 [.agg [.i a0_, .slice 0 0 a1_.length a1_.length 9], .str x5, .i x3] [.cells (a1_.flatMap encSlingT.c), .cells [.i a0_, .slice 0 0 a1_.length a1_.length 9], .cells [.i a2_, .str a3_, vl encS a4_, vl encI a5_, .str a6_], .cells [.i 0, .nilslice]] [0] (.tuple [pz ok8 0 ((i7 : Int).toNat * 9 + 0), .i name_9]) [.cells (a1_.flatMap encSlingT.c), .cells [.i a0_, .slice 0 0 a1_.length a1_.length 9], .cells [.i a2_, .str a3_, vl encS a4_, vl encI a5_, .str a6_], .cells [.i 0, .nilslice]]] (And.intro (ix_vl sl23 (E := encS) rfl e_x5) (And.intro (ld_vl ce9 (E := encS) rfl e_x5 (Nat.le_of_ble_eq_true rfl) rfl) (And.intro (call_H [some 0] [some 0, none, none, none] (record_Register_open_h1_ok N a0_ a1_ x5 x3 e_r6) (.keep rfl (.same fa) rfl rfl .nil) rfl rfl (.back rfl rfl (.same fa) rfl (.old rfl rfl (.old rfl rfl (.old rfl rfl .nil)))) (RenL.cons (.aggL (RenL.cons (.same (NoRef.int _ _)) (RenL.cons (.slice rfl) RenL.nil))) (RenL.cons (.same (NoRef.str _)) (RenL.cons (.same (NoRef.int _ _)) RenL.nil))) (.tupleL (RenL.cons ((RenV.pz rfl)) (RenL.cons (.same (NoRef.int _ _)) RenL.nil))) rfl) trivial))) ?_
  refine sq ?_
  refine sq ?_
  obtain ⟨r10, e_r10, h⟩ := bnd h
  obtain ⟨r11, e_r11, h⟩ := bnd h
  refine Goes.ro fol [(2, (.call [] [.i x4, .i 2, .i 999999999] (.i r10))), (4, (.call [4] [vl encI ([name_9, r10] : List Int)] (.i r11)))] [(2, .ptr 1 0), (4, .ptr 3 0), (6, .i x3), (7, .i x4), (8, pz ok8 0 ((i7 : Int).toNat * 9 + 0)), (9, .i r11)] [.cells (a1_.flatMap encSlingT.c), .cells [.i a0_, .slice 0 0 a1_.length a1_.length 9], .cells [.i a2_, .str a3_, vl encS a4_, vl encI a5_, .str a6_], .cells [.i 0, .nilslice], .cells [.i name_9, .i r10]] [.call 87 [.i x4, .i 2, .i 999999999] [.cells (a1_.flatMap encSlingT.c), .cells [.i a0_, .slice 0 0 a1_.length a1_.length 9], .cells [.i a2_, .str a3_, vl encS a4_, vl encI a5_, .str a6_], .cells [.i 0, .nilslice]] [] [.i x4, .i 2, .i 999999999] (.i r10), .call 86 [.slice 4 0 2 2 1] [.cells (a1_.flatMap encSlingT.c), .cells [.i a0_, .slice 0 0 a1_.length a1_.length 9], .cells [.i a2_, .str a3_, vl encS a4_, vl encI a5_, .str a6_], .cells [.i 0, .nilslice], .cells [.i name_9, .i r10]] [4] [vl encI ([name_9, r10] : List Int)] (.i r11)] (And.intro (call_val (AllST.cons (Still.int 11 _ _) (AllST.cons (Still.int 11 _ _) (AllST.cons (Still.int 11 _ _) AllST.nil))) (record_within_ok x4 2 999999999 e_r10) (Still.int 11 _ _)) (And.intro (call_S (FzL.cons (Fz.lit rfl rfl (FzL.still (AllST.cons (Still.int 10 _ _) (AllST.cons (Still.int 10 _ _) AllST.nil)))) FzL.nil) (record_first_ok N ([name_9, r10] : List Int) e_r11) (Still.int 11 _ _) rfl) trivial)) ?_
  refine sq ?_
  refine Goes.rg fol [(2, .ptr 1 0), (4, .ptr 3 0), (6, .i x3), (7, .i x4), (8, pz ok8 0 ((i7 : Int).toNat * 9 + 0)), (9, .i r11), (34, .bool (!decide (r11 = 0)))] [.cells (a1_.flatMap encSlingT.c), .cells [.i a0_, .slice 0 0 a1_.length a1_.length 9], .cells [.i a2_, .str a3_, vl encS a4_, vl encI a5_, .str a6_], .cells [.i 0, .nilslice], .cells [.i name_9, .i r10]] ?_
  refine Goes.ifB (b := !decide (r11 = 0)) (by kernel_rfl) (fun c12 => ?_) (fun c12 => ?_)
  · rw [if_pos (c12)] at h
    refine sq ?_
    refine Goes.rg fol [(4, .ptr 3 0), (5, .i r11)] [.cells (a1_.flatMap encSlingT.c), .cells [.i a0_, .slice 0 0 a1_.length a1_.length 9], .cells [.i a2_, .str a3_, vl encS a4_, vl encI a5_, .str a6_], .cells [.i a0_, .slice 0 0 a1_.length a1_.length 9], .cells [.i name_9, .i r10]] ?_
    refine Goes.ret ?_
    simp only [Option.some.injEq, Prod.mk.injEq] at h
    obtain ⟨rfl, rfl⟩ := h
    exact (Goes.retH (xs := [.agg [.i a0_, .slice 0 0 a1_.length a1_.length 9], .i r11]) (by kernel_rfl) (Sub.norm [] [some 0] (by rw [hB]; rfl) rfl (.keep (.tupleL (RenL.cons (.aggL (RenL.cons (.same (NoRef.int _ _)) (RenL.cons (.slice rfl) RenL.nil))) (RenL.cons (.same (NoRef.int _ _)) RenL.nil))) .nil) (.keep rfl (.same fa) rfl rfl .nil)))
  · rw [if_neg (by rw [c12]; exact Bool.false_ne_true)] at h
    refine Goes.skip ?_
    refine sq ?_
    obtain ⟨l17, g_v18, h⟩ := bnd h
    refine Goes.cutS (s' := (ofG 53 [(2, .ptr 1 0), (4, .ptr 2 0)], [.cells (l17.flatMap encSlingT.c), .cells [.i a0_, .slice 0 0 l17.length l17.length 9], .cells [.i 0, .nilslice]])) ?_ ?_
    · rcases ok8 with _ | _
      · try dsimp only at g_v18
        cases g_v18
      · try dsimp only at g_v18
        obtain ⟨x13, e_x13, g_v18⟩ := bnd g_v18
        obtain ⟨l14, e_l14, g_v18⟩ := bnd g_v18
        obtain ⟨x15, e_x15, g_v18⟩ := bnd g_v18
        obtain ⟨l16, e_l16, g_v18⟩ := bnd g_v18
        obtain rfl := Option.some.inj g_v18
        exact RegTo.sub (RegTo.ro fol [(9, (.run (.i x13.Last) [.cells (a1_.flatMap encSlingT.c), .cells [.i a0_, .slice 0 0 a1_.length a1_.length 9], .cells [.i a2_, .str a3_, vl encS a4_, vl encI a5_, .str a6_], .cells [.i 0, .nilslice], .cells [.i name_9, .i r10]] false)), (13, (.run .undef [.cells (l14.flatMap encSlingT.c), .cells [.i a0_, .slice 0 0 a1_.length a1_.length 9], .cells [.i a2_, .str a3_, vl encS a4_, vl encI a5_, .str a6_], .cells [.i 0, .nilslice], .cells [.i name_9, .i r10]] true)), (16, (.run .undef [.cells (l16.flatMap encSlingT.c), .cells [.i a0_, .slice 0 0 a1_.length a1_.length 9], .cells [.i a2_, .str a3_, vl encS a4_, vl encI a5_, .str a6_], .cells [.i 0, .nilslice], .cells [.i name_9, .i r10]] true))] [(2, .ptr 1 0), (4, .ptr 3 0)] [.cells (l16.flatMap encSlingT.c), .cells [.i a0_, .slice 0 0 a1_.length a1_.length 9], .cells [.i a2_, .str a3_, vl encS a4_, vl encI a5_, .str a6_], .cells [.i 0, .nilslice], .cells [.i name_9, .i r10]] [.run [0] (aLoad Tryz.prog 3 (.ptr 0 ((i7 : Int).toNat * 9 + 3))) [.cells (a1_.flatMap encSlingT.c), .cells [.i a0_, .slice 0 0 a1_.length a1_.length 9], .cells [.i a2_, .str a3_, vl encS a4_, vl encI a5_, .str a6_], .cells [.i 0, .nilslice], .cells [.i name_9, .i r10]] (.i x13.Last) [.cells (a1_.flatMap encSlingT.c), .cells [.i a0_, .slice 0 0 a1_.length a1_.length 9], .cells [.i a2_, .str a3_, vl encS a4_, vl encI a5_, .str a6_], .cells [.i 0, .nilslice], .cells [.i name_9, .i r10]] false, .run [0] (aStore Tryz.prog 3 (.ptr 0 ((i7 : Int).toNat * 9 + 6)) (.i (w64 (x4.tdiv 2)))) [.cells (a1_.flatMap encSlingT.c), .cells [.i a0_, .slice 0 0 a1_.length a1_.length 9], .cells [.i a2_, .str a3_, vl encS a4_, vl encI a5_, .str a6_], .cells [.i 0, .nilslice], .cells [.i name_9, .i r10]] .undef [.cells (l14.flatMap encSlingT.c), .cells [.i a0_, .slice 0 0 a1_.length a1_.length 9], .cells [.i a2_, .str a3_, vl encS a4_, vl encI a5_, .str a6_], .cells [.i 0, .nilslice], .cells [.i name_9, .i r10]] true, .run [0] (aStore Tryz.prog 3 (.ptr 0 ((i7 : Int).toNat * 9 + 7)) (.i (if x13.Last < (w64 (x3 + 365)) then x13.Last else (w64 (x3 + 365))))) [.cells (l14.flatMap encSlingT.c), .cells [.i a0_, .slice 0 0 a1_.length a1_.length 9], .cells [.i a2_, .str a3_, vl encS a4_, vl encI a5_, .str a6_], .cells [.i 0, .nilslice], .cells [.i name_9, .i r10]] .undef [.cells (l16.flatMap encSlingT.c), .cells [.i a0_, .slice 0 0 a1_.length a1_.length 9], .cells [.i a2_, .str a3_, vl encS a4_, vl encI a5_, .str a6_], .cells [.i 0, .nilslice], .cells [.i name_9, .i r10]] true] (And.intro (ld_p ce3 (E := encSlingT) (l := a1_) rfl rfl e_x13 (Nat.le_of_ble_eq_true rfl) rfl) (And.intro (sto_p (E := encSlingT) (l := a1_) (y := (⟨x13.Name, x13.Batch, x13.Born, x13.Last, x13.Uses, x13.Used, w64 (x4.tdiv 2), x13.Until, x13.Gone⟩ : SlingT)) rfl (show _ = some 1 by kernel_rfl) rfl e_x13 rfl rfl rfl rfl rfl e_l14 rfl) (And.intro (sto_p (E := encSlingT) (l := l14) (y := (⟨x15.Name, x15.Batch, x15.Born, x15.Last, x15.Uses, x15.Used, x15.Limit, (if x13.Last < (w64 (x3 + 365)) then x13.Last else (w64 (x3 + 365))), x15.Gone⟩ : SlingT)) rfl (show _ = some 1 by kernel_rfl) rfl e_x15 rfl rfl rfl rfl rfl e_l16 rfl) trivial)))) ((show Sub (ofG 53 [(2, .ptr 1 0), (4, .ptr 3 0)], [.cells (l16.flatMap encSlingT.c), .cells [.i a0_, .slice 0 0 a1_.length a1_.length 9], .cells [.i a2_, .str a3_, vl encS a4_, vl encI a5_, .str a6_], .cells [.i 0, .nilslice], .cells [.i name_9, .i r10]]) (ofG 53 [(2, .ptr 1 0), (4, .ptr 2 0)], [.cells (l16.flatMap encSlingT.c), .cells [.i a0_, .slice 0 0 l16.length l16.length 9], .cells [.i 0, .nilslice]]) from (Sub.norm [] [some 0, some 1, some 3] (by rw [hB]; rfl) rfl (.keep (.ptr rfl) (.keep (.ptr rfl) .nil)) (.keep rfl (.same fa) rfl rfl (.keep rfl (.cells (RenL.cons (.same (NoRef.int _ _)) (RenL.cons (.sliceE rfl ((put_len e_l14).trans (put_len e_l16))) RenL.nil))) rfl rfl (.keep rfl (.same (AllN.cons (NoRef.int _ _) (AllN.cons (NoRef.nilslice) AllN.nil))) rfl rfl .nil))))).trans (Sub.refl _))
    intro _ hsub
    refine Goes.sub hsub ?_
    refine sq ?_
    refine Goes.rg fol [(4, .ptr 2 0), (5, .i 0)] [.cells (l17.flatMap encSlingT.c), .cells [.i a0_, .slice 0 0 l17.length l17.length 9], .cells [.i a0_, .slice 0 0 l17.length l17.length 9]] ?_
    refine Goes.ret ?_
    simp only [Option.some.injEq, Prod.mk.injEq] at h
    obtain ⟨rfl, rfl⟩ := h
    exact (Goes.retH (xs := [.agg [.i a0_, .slice 0 0 l17.length l17.length 9], .i 0]) (by kernel_rfl) (Sub.norm [] [some 0] (by rw [hB]; rfl) rfl (.keep (.tupleL (RenL.cons (.aggL (RenL.cons (.same (NoRef.int _ _)) (RenL.cons (.slice rfl) RenL.nil))) (RenL.cons (.same (NoRef.int _ _)) RenL.nil))) .nil) (.keep rfl (.same fa) rfl rfl .nil)))
def record_used_h1 (N : Nat) (a0_ : Int) (a1_ : List SlingT) (a2_ : Int) (a3_ : Str) (a4_ : List Str) (a5_ : List Int) (a6_ : Str) : Option ((List SlingT) × Int) :=
  (idx a5_ 0).bind fun x3 =>
  (idx a5_ 1).bind fun x4 =>
  (idx a4_ 0).bind fun x5 =>
  (record_Register_open_h1 N a0_ a1_ x5 x3).bind fun (i7, ok8, name_9) =>
  if (!decide (name_9 = 0)) = true then
  some (a1_, name_9)
  else
  ((match ok8 with
  | false =>
  none
  | true =>
  (idx a1_ i7).bind fun x11 =>
  (record_Sling_holds x11 x3).bind fun r12 =>
  (record_when (!r12) 24).bind fun r13 =>
  (record_when (decide (x4 > x11.Limit)) 31).bind fun r14 =>
  (record_first N ([r13, r14] : List Int)).bind fun r15 =>
  some (r13, r14, r15)) : Option (Int × Int × Int)).bind fun (n16, n17, bad_18) =>
  if (!decide (bad_18 = 0)) = true then
  some (a1_, bad_18)
  else
  (idx a1_ i7).bind fun x21 =>
  (put a1_ i7 (⟨x21.Name, x21.Batch, x21.Born, x21.Last, x21.Uses, w64 (x21.Used + 1), x21.Limit, x21.Until, x21.Gone⟩ : SlingT)).bind fun l22 =>
  some (l22, 0)
theorem record_used_h1_ok (N : Nat) (a0_ : Int) (a1_ : List SlingT) (a2_ : Int) (a3_ : Str) (a4_ : List Str) (a5_ : List Int) (a6_ : Str) {l1 : List SlingT} {e_2 : Int} (h : record_used_h1 N a0_ a1_ a2_ a3_ a4_ a5_ a6_ = some (l1, e_2)) : CallOK Tryz.prog (.fn 143) [.agg [.i a0_, .slice 0 0 a1_.length a1_.length 9], .agg [.i a2_, .str a3_, vl encS a4_, vl encI a5_, .str a6_]] [.cells (a1_.flatMap encSlingT.c)] (.tuple [.agg [.i a0_, .slice 0 0 l1.length l1.length 9], .i e_2]) [.cells (l1.flatMap encSlingT.c)] := by
  unfold record_used_h1 at h
  refine Goes.fnH Tryz.func143 rfl rfl (m := 60) rfl (rs := [.cell 4 31, .tmp 5]) rfl (l := [(0, .agg [.i a0_, .slice 0 0 a1_.length a1_.length 9]), (1, .agg [.i a2_, .str a3_, vl encS a4_, vl encI a5_, .str a6_])]) rfl ?_
  intro B hB
  refine sq ?_
  refine Goes.rg fol [(2, .ptr 1 0), (3, .ptr 2 0), (4, .ptr 3 0)] [.cells (a1_.flatMap encSlingT.c), .cells [.i a0_, .slice 0 0 a1_.length a1_.length 9], .cells [.i a2_, .str a3_, vl encS a4_, vl encI a5_, .str a6_], .cells [.i 0, .nilslice]] ?_
  refine sq ?_
  obtain ⟨x3, e_x3, h⟩ := bnd h
  obtain ⟨x4, e_x4, h⟩ := bnd h
  refine Goes.ro fol [(2, (.done (.fptr (a5_.flatMap encI.c) ((0 : Int).toNat * 1 + 0)))), (3, (.done (.i x3))), (6, (.done (.fptr (a5_.flatMap encI.c) ((1 : Int).toNat * 1 + 0)))), (7, (.done (.i x4)))] [(2, .ptr 1 0), (3, .ptr 2 0), (4, .ptr 3 0), (6, .i x3), (7, .i x4)] [.cells (a1_.flatMap encSlingT.c), .cells [.i a0_, .slice 0 0 a1_.length a1_.length 9], .cells [.i a2_, .str a3_, vl encS a4_, vl encI a5_, .str a6_], .cells [.i 0, .nilslice]] [.done (.opt (aIndexAddr Tryz.prog 24 (vl encI a5_) (.i 0))) (.fptr (a5_.flatMap encI.c) ((0 : Int).toNat * 1 + 0)), .done (aLoad Tryz.prog 3 (.fptr (a5_.flatMap encI.c) ((0 : Int).toNat * 1 + 0))) (.i x3), .done (.opt (aIndexAddr Tryz.prog 24 (vl encI a5_) (.i 1))) (.fptr (a5_.flatMap encI.c) ((1 : Int).toNat * 1 + 0)), .done (aLoad Tryz.prog 3 (.fptr (a5_.flatMap encI.c) ((1 : Int).toNat * 1 + 0))) (.i x4)] (And.intro (ix_vl sl24 (E := encI) rfl e_x3) (And.intro (ld_vl ce3 (E := encI) rfl e_x3 (Nat.le_of_ble_eq_true rfl) rfl) (And.intro (ix_vl sl24 (E := encI) rfl e_x4) (And.intro (ld_vl ce3 (E := encI) rfl e_x4 (Nat.le_of_ble_eq_true rfl) rfl) trivial)))) ?_
  refine sq ?_
  obtain ⟨x5, e_x5, h⟩ := bnd h
  obtain ⟨⟨i7, ok8, name_9⟩, e_r6, h⟩ := bnd h
  try dsimp only at h
  refine Goes.ro fol [(3, (.done (.fptr (a4_.flatMap encS.c) ((0 : Int).toNat * 1 + 0)))), (4, (.done (.str x5))), (6, (.callH [0] (.tuple [pz ok8 0 ((i7 : Int).toNat * 9 + 0), .i name_9]) [.cells (a1_.flatMap encSlingT.c), .cells [.i a0_, .slice 0 0 a1_.length a1_.length 9], .cells [.i a2_, .str a3_, vl encS a4_, vl encI a5_, .str a6_], .cells [.i 0, .nilslice]]))] [(2, .ptr 1 0), (4, .ptr 3 0), (6, .i x3), (7, .i x4), (8, pz ok8 0 ((i7 : Int).toNat * 9 + 0)), (9, .i name_9)] [.cells (a1_.flatMap encSlingT.c), .cells [.i a0_, .slice 0 0 a1_.length a1_.length 9], .cells [.i a2_, .str a3_, vl encS a4_, vl encI a5_, .str a6_], .cells [.i 0, .nilslice]] [.done (.opt (aIndexAddr Tryz.prog 23 (vl encS a4_) (.i 0))) (.fptr (a4_.flatMap encS.c) ((0 : Int).toNat * 1 + 0)), .done (aLoad Tryz.prog 9 (.fptr (a4_.flatMap encS.c) ((0 : Int).toNat * 1 + 0))) (.str x5), .callH 182 [.agg [.i a0_, .slice 0 0 a1_.length a1_.length 9], .str x5, .i x3] [.cells (a1_.flatMap encSlingT.c), .cells [.i a0_, .slice 0 0 a1_.length a1_.length 9], .cells [.i a2_, .str a3_, vl encS a4_, vl encI a5_, .str a6_], .cells [.i 0, .nilslice]] [0] (.tuple [pz ok8 0 ((i7 : Int).toNat * 9 + 0), .i name_9]) [.cells (a1_.flatMap encSlingT.c), .cells [.i a0_, .slice 0 0 a1_.length a1_.length 9], .cells [.i a2_, .str a3_, vl encS a4_, vl encI a5_, .str a6_], .cells [.i 0, .nilslice]]] (And.intro (ix_vl sl23 (E := encS) rfl e_x5) (And.intro (ld_vl ce9 (E := encS) rfl e_x5 (Nat.le_of_ble_eq_true rfl) rfl) (And.intro (call_H [some 0] [some 0, none, none, none] (record_Register_open_h1_ok N a0_ a1_ x5 x3 e_r6) (.keep rfl (.same fa) rfl rfl .nil) rfl rfl (.back rfl rfl (.same fa) rfl (.old rfl rfl (.old rfl rfl (.old rfl rfl .nil)))) (RenL.cons (.aggL (RenL.cons (.same (NoRef.int _ _)) (RenL.cons (.slice rfl) RenL.nil))) (RenL.cons (.same (NoRef.str _)) (RenL.cons (.same (NoRef.int _ _)) RenL.nil))) (.tupleL (RenL.cons ((RenV.pz rfl)) (RenL.cons (.same (NoRef.int _ _)) RenL.nil))) rfl) trivial))) ?_
  refine sq ?_
  refine sq ?_
  refine Goes.rg fol [(2, .ptr 1 0), (4, .ptr 3 0), (6, .i x3), (7, .i x4), (8, pz ok8 0 ((i7 : Int).toNat * 9 + 0)), (9, .i name_9), (29, .bool (!decide (name_9 = 0)))] [.cells (a1_.flatMap encSlingT.c), .cells [.i a0_, .slice 0 0 a1_.length a1_.length 9], .cells [.i a2_, .str a3_, vl encS a4_, vl encI a5_, .str a6_], .cells [.i 0, .nilslice]] ?_
  refine Goes.ifB (b := !decide (name_9 = 0)) (by kernel_rfl) (fun c10 => ?_) (fun c10 => ?_)
  · rw [if_pos (c10)] at h
    refine sq ?_
    refine Goes.rg fol [(4, .ptr 3 0), (5, .i name_9)] [.cells (a1_.flatMap encSlingT.c), .cells [.i a0_, .slice 0 0 a1_.length a1_.length 9], .cells [.i a2_, .str a3_, vl encS a4_, vl encI a5_, .str a6_], .cells [.i a0_, .slice 0 0 a1_.length a1_.length 9]] ?_
    refine Goes.ret ?_
    simp only [Option.some.injEq, Prod.mk.injEq] at h
    obtain ⟨rfl, rfl⟩ := h
    exact (Goes.retH (xs := [.agg [.i a0_, .slice 0 0 a1_.length a1_.length 9], .i name_9]) (by kernel_rfl) (Sub.norm [] [some 0] (by rw [hB]; rfl) rfl (.keep (.tupleL (RenL.cons (.aggL (RenL.cons (.same (NoRef.int _ _)) (RenL.cons (.slice rfl) RenL.nil))) (RenL.cons (.same (NoRef.int _ _)) RenL.nil))) .nil) (.keep rfl (.same fa) rfl rfl .nil)))
  · rw [if_neg (by rw [c10]; exact Bool.false_ne_true)] at h
    refine Goes.skip ?_
    refine sq ?_
    refine sq ?_
    obtain ⟨⟨n16, n17, bad_18⟩, g_v19, h⟩ := bnd h
    refine Goes.cut (s' := (ofG 60 [(2, .ptr 1 0), (4, .ptr 3 0), (8, .ptr 0 ((i7 : Int).toNat * 9 + 0)), (9, .i bad_18)], [.cells (a1_.flatMap encSlingT.c), .cells [.i a0_, .slice 0 0 a1_.length a1_.length 9], .cells [.i a2_, .str a3_, vl encS a4_, vl encI a5_, .str a6_], .cells [.i 0, .nilslice], .cells [.i n16, .i n17]])) ?_ ?_
    · rcases ok8 with _ | _
      · try dsimp only at g_v19
        cases g_v19
      · try dsimp only at g_v19
        obtain ⟨x11, e_x11, g_v19⟩ := bnd g_v19
        obtain ⟨r12, e_r12, g_v19⟩ := bnd g_v19
        obtain ⟨r13, e_r13, g_v19⟩ := bnd g_v19
        obtain ⟨r14, e_r14, g_v19⟩ := bnd g_v19
        obtain ⟨r15, e_r15, g_v19⟩ := bnd g_v19
        simp only [Option.some.injEq, Prod.mk.injEq] at g_v19
        obtain ⟨rfl, rfl, rfl⟩ := g_v19
        exact RegTo.ro fol [(2, (.run (.agg [.str x11.Name, .str x11.Batch, .i x11.Born, .i x11.Last, .i x11.Uses, .i x11.Used, .i x11.Limit, .i x11.Until, .bool x11.Gone]) [.cells (a1_.flatMap encSlingT.c), .cells [.i a0_, .slice 0 0 a1_.length a1_.length 9], .cells [.i a2_, .str a3_, vl encS a4_, vl encI a5_, .str a6_], .cells [.i 0, .nilslice]] false)), (4, (.call [] [.agg [.str x11.Name, .str x11.Batch, .i x11.Born, .i x11.Last, .i x11.Uses, .i x11.Used, .i x11.Limit, .i x11.Until, .bool x11.Gone], .i x3] (.bool r12))), (6, (.call [] [.bool (!r12), .i 24] (.i r13))), (11, (.run (.i x11.Limit) [.cells (a1_.flatMap encSlingT.c), .cells [.i a0_, .slice 0 0 a1_.length a1_.length 9], .cells [.i a2_, .str a3_, vl encS a4_, vl encI a5_, .str a6_], .cells [.i 0, .nilslice]] false)), (13, (.call [] [.bool (decide (x4 > x11.Limit)), .i 31] (.i r14))), (15, (.call [4] [vl encI ([r13, r14] : List Int)] (.i r15)))] [(2, .ptr 1 0), (4, .ptr 3 0), (8, .ptr 0 ((i7 : Int).toNat * 9 + 0)), (9, .i r15)] [.cells (a1_.flatMap encSlingT.c), .cells [.i a0_, .slice 0 0 a1_.length a1_.length 9], .cells [.i a2_, .str a3_, vl encS a4_, vl encI a5_, .str a6_], .cells [.i 0, .nilslice], .cells [.i r13, .i r14]] [.run [0] (aLoad Tryz.prog 68 (.ptr 0 ((i7 : Int).toNat * 9 + 0))) [.cells (a1_.flatMap encSlingT.c), .cells [.i a0_, .slice 0 0 a1_.length a1_.length 9], .cells [.i a2_, .str a3_, vl encS a4_, vl encI a5_, .str a6_], .cells [.i 0, .nilslice]] (.agg [.str x11.Name, .str x11.Batch, .i x11.Born, .i x11.Last, .i x11.Uses, .i x11.Used, .i x11.Limit, .i x11.Until, .bool x11.Gone]) [.cells (a1_.flatMap encSlingT.c), .cells [.i a0_, .slice 0 0 a1_.length a1_.length 9], .cells [.i a2_, .str a3_, vl encS a4_, vl encI a5_, .str a6_], .cells [.i 0, .nilslice]] false, .call 96 [.agg [.str x11.Name, .str x11.Batch, .i x11.Born, .i x11.Last, .i x11.Uses, .i x11.Used, .i x11.Limit, .i x11.Until, .bool x11.Gone], .i x3] [.cells (a1_.flatMap encSlingT.c), .cells [.i a0_, .slice 0 0 a1_.length a1_.length 9], .cells [.i a2_, .str a3_, vl encS a4_, vl encI a5_, .str a6_], .cells [.i 0, .nilslice]] [] [.agg [.str x11.Name, .str x11.Batch, .i x11.Born, .i x11.Last, .i x11.Uses, .i x11.Used, .i x11.Limit, .i x11.Until, .bool x11.Gone], .i x3] (.bool r12), .call 88 [.bool (!r12), .i 24] [.cells (a1_.flatMap encSlingT.c), .cells [.i a0_, .slice 0 0 a1_.length a1_.length 9], .cells [.i a2_, .str a3_, vl encS a4_, vl encI a5_, .str a6_], .cells [.i 0, .nilslice]] [] [.bool (!r12), .i 24] (.i r13), .run [0] (aLoad Tryz.prog 3 (.ptr 0 ((i7 : Int).toNat * 9 + 6))) [.cells (a1_.flatMap encSlingT.c), .cells [.i a0_, .slice 0 0 a1_.length a1_.length 9], .cells [.i a2_, .str a3_, vl encS a4_, vl encI a5_, .str a6_], .cells [.i 0, .nilslice]] (.i x11.Limit) [.cells (a1_.flatMap encSlingT.c), .cells [.i a0_, .slice 0 0 a1_.length a1_.length 9], .cells [.i a2_, .str a3_, vl encS a4_, vl encI a5_, .str a6_], .cells [.i 0, .nilslice]] false, .call 88 [.bool (decide (x4 > x11.Limit)), .i 31] [.cells (a1_.flatMap encSlingT.c), .cells [.i a0_, .slice 0 0 a1_.length a1_.length 9], .cells [.i a2_, .str a3_, vl encS a4_, vl encI a5_, .str a6_], .cells [.i 0, .nilslice]] [] [.bool (decide (x4 > x11.Limit)), .i 31] (.i r14), .call 86 [.slice 4 0 2 2 1] [.cells (a1_.flatMap encSlingT.c), .cells [.i a0_, .slice 0 0 a1_.length a1_.length 9], .cells [.i a2_, .str a3_, vl encS a4_, vl encI a5_, .str a6_], .cells [.i 0, .nilslice], .cells [.i r13, .i r14]] [4] [vl encI ([r13, r14] : List Int)] (.i r15)] (And.intro (ld_pa ag68 (E := encSlingT) (l := a1_) rfl rfl e_x11) (And.intro (call_val (AllST.cons (Still.agg (AllST.cons (Still.str 10 _) (AllST.cons (Still.str 10 _) (AllST.cons (Still.int 10 _ _) (AllST.cons (Still.int 10 _ _) (AllST.cons (Still.int 10 _ _) (AllST.cons (Still.int 10 _ _) (AllST.cons (Still.int 10 _ _) (AllST.cons (Still.int 10 _ _) (AllST.cons (Still.bool 10 _) AllST.nil)))))))))) (AllST.cons (Still.int 11 _ _) AllST.nil)) (record_Sling_holds_ok x11 x3 e_r12) (Still.bool 11 _)) (And.intro (call_val (AllST.cons (Still.bool 11 _) (AllST.cons (Still.int 11 _ _) AllST.nil)) (record_when_ok (!r12) 24 e_r13) (Still.int 11 _ _)) (And.intro (ld_p ce3 (E := encSlingT) (l := a1_) rfl rfl e_x11 (Nat.le_of_ble_eq_true rfl) rfl) (And.intro (call_val (AllST.cons (Still.bool 11 _) (AllST.cons (Still.int 11 _ _) AllST.nil)) (record_when_ok (decide (x4 > x11.Limit)) 31 e_r14) (Still.int 11 _ _)) (And.intro (call_S (FzL.cons (Fz.lit rfl rfl (FzL.still (AllST.cons (Still.int 10 _ _) (AllST.cons (Still.int 10 _ _) AllST.nil)))) FzL.nil) (record_first_ok N ([r13, r14] : List Int) e_r15) (Still.int 11 _ _) rfl) trivial))))))
    try dsimp only at h
    refine sq ?_
    refine Goes.rg fol [(2, .ptr 1 0), (4, .ptr 3 0), (8, .ptr 0 ((i7 : Int).toNat * 9 + 0)), (9, .i bad_18), (49, .bool (!decide (bad_18 = 0)))] [.cells (a1_.flatMap encSlingT.c), .cells [.i a0_, .slice 0 0 a1_.length a1_.length 9], .cells [.i a2_, .str a3_, vl encS a4_, vl encI a5_, .str a6_], .cells [.i 0, .nilslice], .cells [.i n16, .i n17]] ?_
    refine Goes.ifB (b := !decide (bad_18 = 0)) (by kernel_rfl) (fun c20 => ?_) (fun c20 => ?_)
    · rw [if_pos (c20)] at h
      refine sq ?_
      refine Goes.rg fol [(4, .ptr 3 0), (5, .i bad_18)] [.cells (a1_.flatMap encSlingT.c), .cells [.i a0_, .slice 0 0 a1_.length a1_.length 9], .cells [.i a2_, .str a3_, vl encS a4_, vl encI a5_, .str a6_], .cells [.i a0_, .slice 0 0 a1_.length a1_.length 9], .cells [.i n16, .i n17]] ?_
      refine Goes.ret ?_
      simp only [Option.some.injEq, Prod.mk.injEq] at h
      obtain ⟨rfl, rfl⟩ := h
      exact (Goes.retH (xs := [.agg [.i a0_, .slice 0 0 a1_.length a1_.length 9], .i bad_18]) (by kernel_rfl) (Sub.norm [] [some 0] (by rw [hB]; rfl) rfl (.keep (.tupleL (RenL.cons (.aggL (RenL.cons (.same (NoRef.int _ _)) (RenL.cons (.slice rfl) RenL.nil))) (RenL.cons (.same (NoRef.int _ _)) RenL.nil))) .nil) (.keep rfl (.same fa) rfl rfl .nil)))
    · rw [if_neg (by rw [c20]; exact Bool.false_ne_true)] at h
      refine Goes.skip ?_
      refine sq ?_
      obtain ⟨x21, e_x21, h⟩ := bnd h
      obtain ⟨l22, e_l22, h⟩ := bnd h
      refine Goes.ro fol [(3, (.run (.i x21.Used) [.cells (a1_.flatMap encSlingT.c), .cells [.i a0_, .slice 0 0 a1_.length a1_.length 9], .cells [.i a2_, .str a3_, vl encS a4_, vl encI a5_, .str a6_], .cells [.i 0, .nilslice], .cells [.i n16, .i n17]] false)), (7, (.run .undef [.cells (l22.flatMap encSlingT.c), .cells [.i a0_, .slice 0 0 a1_.length a1_.length 9], .cells [.i a2_, .str a3_, vl encS a4_, vl encI a5_, .str a6_], .cells [.i 0, .nilslice], .cells [.i n16, .i n17]] true))] [(2, .ptr 1 0), (4, .ptr 3 0)] [.cells (l22.flatMap encSlingT.c), .cells [.i a0_, .slice 0 0 a1_.length a1_.length 9], .cells [.i a2_, .str a3_, vl encS a4_, vl encI a5_, .str a6_], .cells [.i 0, .nilslice], .cells [.i n16, .i n17]] [.run [0] (aLoad Tryz.prog 3 (.ptr 0 ((i7 : Int).toNat * 9 + 5))) [.cells (a1_.flatMap encSlingT.c), .cells [.i a0_, .slice 0 0 a1_.length a1_.length 9], .cells [.i a2_, .str a3_, vl encS a4_, vl encI a5_, .str a6_], .cells [.i 0, .nilslice], .cells [.i n16, .i n17]] (.i x21.Used) [.cells (a1_.flatMap encSlingT.c), .cells [.i a0_, .slice 0 0 a1_.length a1_.length 9], .cells [.i a2_, .str a3_, vl encS a4_, vl encI a5_, .str a6_], .cells [.i 0, .nilslice], .cells [.i n16, .i n17]] false, .run [0] (aStore Tryz.prog 3 (.ptr 0 ((i7 : Int).toNat * 9 + 5)) (.i (w64 (x21.Used + 1)))) [.cells (a1_.flatMap encSlingT.c), .cells [.i a0_, .slice 0 0 a1_.length a1_.length 9], .cells [.i a2_, .str a3_, vl encS a4_, vl encI a5_, .str a6_], .cells [.i 0, .nilslice], .cells [.i n16, .i n17]] .undef [.cells (l22.flatMap encSlingT.c), .cells [.i a0_, .slice 0 0 a1_.length a1_.length 9], .cells [.i a2_, .str a3_, vl encS a4_, vl encI a5_, .str a6_], .cells [.i 0, .nilslice], .cells [.i n16, .i n17]] true] (And.intro (ld_p ce3 (E := encSlingT) (l := a1_) rfl rfl e_x21 (Nat.le_of_ble_eq_true rfl) rfl) (And.intro (sto_p (E := encSlingT) (l := a1_) (y := (⟨x21.Name, x21.Batch, x21.Born, x21.Last, x21.Uses, w64 (x21.Used + 1), x21.Limit, x21.Until, x21.Gone⟩ : SlingT)) rfl (show _ = some 1 by kernel_rfl) rfl e_x21 rfl rfl rfl rfl rfl e_l22 rfl) trivial)) ?_
      refine Goes.sub (show Sub (ofG 60 [(2, .ptr 1 0), (4, .ptr 3 0)], [.cells (l22.flatMap encSlingT.c), .cells [.i a0_, .slice 0 0 a1_.length a1_.length 9], .cells [.i a2_, .str a3_, vl encS a4_, vl encI a5_, .str a6_], .cells [.i 0, .nilslice], .cells [.i n16, .i n17]]) (ofG 60 [(2, .ptr 1 0), (4, .ptr 2 0)], [.cells (l22.flatMap encSlingT.c), .cells [.i a0_, .slice 0 0 l22.length l22.length 9], .cells [.i 0, .nilslice]]) from (Sub.norm [] [some 0, some 1, some 3] (by rw [hB]; rfl) rfl (.keep (.ptr rfl) (.keep (.ptr rfl) .nil)) (.keep rfl (.same fa) rfl rfl (.keep rfl (.cells (RenL.cons (.same (NoRef.int _ _)) (RenL.cons (.sliceE rfl (put_len e_l22)) RenL.nil))) rfl rfl (.keep rfl (.same (AllN.cons (NoRef.int _ _) (AllN.cons (NoRef.nilslice) AllN.nil))) rfl rfl .nil))))) ?_
      refine sq ?_
      refine Goes.rg fol [(4, .ptr 2 0), (5, .i 0)] [.cells (l22.flatMap encSlingT.c), .cells [.i a0_, .slice 0 0 l22.length l22.length 9], .cells [.i a0_, .slice 0 0 l22.length l22.length 9]] ?_
      refine Goes.ret ?_
      simp only [Option.some.injEq, Prod.mk.injEq] at h
      obtain ⟨rfl, rfl⟩ := h
      exact (Goes.retH (xs := [.agg [.i a0_, .slice 0 0 l22.length l22.length 9], .i 0]) (by kernel_rfl) (Sub.norm [] [some 0] (by rw [hB]; rfl) rfl (.keep (.tupleL (RenL.cons (.aggL (RenL.cons (.same (NoRef.int _ _)) (RenL.cons (.slice rfl) RenL.nil))) (RenL.cons (.same (NoRef.int _ _)) RenL.nil))) .nil) (.keep rfl (.same fa) rfl rfl .nil)))
def record_failed_h1 (N : Nat) (a0_ : Int) (a1_ : List SlingT) (a2_ : Int) (a3_ : Str) (a4_ : List Str) (a5_ : List Int) (a6_ : Str) : Option ((List SlingT) × Int) :=
  (idx a4_ 0).bind fun x3 =>
  (idx a5_ 0).bind fun x4 =>
  (record_Register_open_h1 N a0_ a1_ x3 x4).bind fun (i6, ok7, name_8) =>
  if (!decide (name_8 = 0)) = true then
  some (a1_, name_8)
  else
  ((match ok7 with
  | false =>
  none
  | true =>
  (idx a1_ i6).bind fun x10 =>
  (put a1_ i6 (⟨x10.Name, x10.Batch, x10.Born, x10.Last, x10.Uses, x10.Used, x10.Limit, x10.Until, true⟩ : SlingT)).bind fun l11 =>
  some l11) : Option (List SlingT)).bind fun l12 =>
  some (l12, 0)
theorem record_failed_h1_ok (N : Nat) (a0_ : Int) (a1_ : List SlingT) (a2_ : Int) (a3_ : Str) (a4_ : List Str) (a5_ : List Int) (a6_ : Str) {l1 : List SlingT} {e_2 : Int} (h : record_failed_h1 N a0_ a1_ a2_ a3_ a4_ a5_ a6_ = some (l1, e_2)) : CallOK Tryz.prog (.fn 144) [.agg [.i a0_, .slice 0 0 a1_.length a1_.length 9], .agg [.i a2_, .str a3_, vl encS a4_, vl encI a5_, .str a6_]] [.cells (a1_.flatMap encSlingT.c)] (.tuple [.agg [.i a0_, .slice 0 0 l1.length l1.length 9], .i e_2]) [.cells (l1.flatMap encSlingT.c)] := by
  unfold record_failed_h1 at h
  refine Goes.fnH Tryz.func144 rfl rfl (m := 29) rfl (rs := [.cell 4 31, .tmp 5]) rfl (l := [(0, .agg [.i a0_, .slice 0 0 a1_.length a1_.length 9]), (1, .agg [.i a2_, .str a3_, vl encS a4_, vl encI a5_, .str a6_])]) rfl ?_
  intro B hB
  refine sq ?_
  refine Goes.rg fol [(2, .ptr 1 0), (3, .ptr 2 0), (4, .ptr 3 0)] [.cells (a1_.flatMap encSlingT.c), .cells [.i a0_, .slice 0 0 a1_.length a1_.length 9], .cells [.i a2_, .str a3_, vl encS a4_, vl encI a5_, .str a6_], .cells [.i 0, .nilslice]] ?_
  refine sq ?_
  obtain ⟨x3, e_x3, h⟩ := bnd h
  obtain ⟨x4, e_x4, h⟩ := bnd h
  obtain ⟨⟨i6, ok7, name_8⟩, e_r5, h⟩ := bnd h
  try dsimp only at h
  refine Goes.ro fol [(3, (.done (.fptr (a4_.flatMap encS.c) ((0 : Int).toNat * 1 + 0)))), (4, (.done (.str x3))), (7, (.done (.fptr (a5_.flatMap encI.c) ((0 : Int).toNat * 1 + 0)))), (8, (.done (.i x4))), (9, (.callH [0] (.tuple [pz ok7 0 ((i6 : Int).toNat * 9 + 0), .i name_8]) [.cells (a1_.flatMap encSlingT.c), .cells [.i a0_, .slice 0 0 a1_.length a1_.length 9], .cells [.i a2_, .str a3_, vl encS a4_, vl encI a5_, .str a6_], .cells [.i 0, .nilslice]]))] [(2, .ptr 1 0), (4, .ptr 3 0), (6, pz ok7 0 ((i6 : Int).toNat * 9 + 0)), (7, .i name_8)] [.cells (a1_.flatMap encSlingT.c), .cells [.i a0_, .slice 0 0 a1_.length a1_.length 9], .cells [.i a2_, .str a3_, vl encS a4_, vl encI a5_, .str a6_], .cells [.i 0, .nilslice]] [.done (.opt (aIndexAddr Tryz.prog 23 (vl encS a4_) (.i 0))) (.fptr (a4_.flatMap encS.c) ((0 : Int).toNat * 1 + 0)), .done (aLoad Tryz.prog 9 (.fptr (a4_.flatMap encS.c) ((0 : Int).toNat * 1 + 0))) (.str x3), .done (.opt (aIndexAddr Tryz.prog 24 (vl encI a5_) (.i 0))) (.fptr (a5_.flatMap encI.c) ((0 : Int).toNat * 1 + 0)), .done (aLoad Tryz.prog 3 (.fptr (a5_.flatMap encI.c) ((0 : Int).toNat * 1 + 0))) (.i x4), .callH 182 [.agg [.i a0_, .slice 0 0 a1_.length a1_.length 9], .str x3, .i x4] [.cells (a1_.flatMap encSlingT.c), .cells [.i a0_, .slice 0 0 a1_.length a1_.length 9], .cells [.i a2_, .str a3_, vl encS a4_, vl encI a5_, .str a6_], .cells [.i 0, .nilslice]] [0] (.tuple [pz ok7 0 ((i6 : Int).toNat * 9 + 0), .i name_8]) [.cells (a1_.flatMap encSlingT.c), .cells [.i a0_, .slice 0 0 a1_.length a1_.length 9], .cells [.i a2_, .str a3_, vl encS a4_, vl encI a5_, .str a6_], .cells [.i 0, .nilslice]]] (And.intro (ix_vl sl23 (E := encS) rfl e_x3) (And.intro (ld_vl ce9 (E := encS) rfl e_x3 (Nat.le_of_ble_eq_true rfl) rfl) (And.intro (ix_vl sl24 (E := encI) rfl e_x4) (And.intro (ld_vl ce3 (E := encI) rfl e_x4 (Nat.le_of_ble_eq_true rfl) rfl) (And.intro (call_H [some 0] [some 0, none, none, none] (record_Register_open_h1_ok N a0_ a1_ x3 x4 e_r5) (.keep rfl (.same fa) rfl rfl .nil) rfl rfl (.back rfl rfl (.same fa) rfl (.old rfl rfl (.old rfl rfl (.old rfl rfl .nil)))) (RenL.cons (.aggL (RenL.cons (.same (NoRef.int _ _)) (RenL.cons (.slice rfl) RenL.nil))) (RenL.cons (.same (NoRef.str _)) (RenL.cons (.same (NoRef.int _ _)) RenL.nil))) (.tupleL (RenL.cons ((RenV.pz rfl)) (RenL.cons (.same (NoRef.int _ _)) RenL.nil))) rfl) trivial))))) ?_
  refine sq ?_
  refine sq ?_
  refine Goes.rg fol [(2, .ptr 1 0), (4, .ptr 3 0), (6, pz ok7 0 ((i6 : Int).toNat * 9 + 0)), (7, .i name_8), (22, .bool (!decide (name_8 = 0)))] [.cells (a1_.flatMap encSlingT.c), .cells [.i a0_, .slice 0 0 a1_.length a1_.length 9], .cells [.i a2_, .str a3_, vl encS a4_, vl encI a5_, .str a6_], .cells [.i 0, .nilslice]] ?_
  refine Goes.ifB (b := !decide (name_8 = 0)) (by kernel_rfl) (fun c9 => ?_) (fun c9 => ?_)
  · rw [if_pos (c9)] at h
    refine sq ?_
    refine Goes.rg fol [(4, .ptr 3 0), (5, .i name_8)] [.cells (a1_.flatMap encSlingT.c), .cells [.i a0_, .slice 0 0 a1_.length a1_.length 9], .cells [.i a2_, .str a3_, vl encS a4_, vl encI a5_, .str a6_], .cells [.i a0_, .slice 0 0 a1_.length a1_.length 9]] ?_
    refine Goes.ret ?_
    simp only [Option.some.injEq, Prod.mk.injEq] at h
    obtain ⟨rfl, rfl⟩ := h
    exact (Goes.retH (xs := [.agg [.i a0_, .slice 0 0 a1_.length a1_.length 9], .i name_8]) (by kernel_rfl) (Sub.norm [] [some 0] (by rw [hB]; rfl) rfl (.keep (.tupleL (RenL.cons (.aggL (RenL.cons (.same (NoRef.int _ _)) (RenL.cons (.slice rfl) RenL.nil))) (RenL.cons (.same (NoRef.int _ _)) RenL.nil))) .nil) (.keep rfl (.same fa) rfl rfl .nil)))
  · rw [if_neg (by rw [c9]; exact Bool.false_ne_true)] at h
    refine Goes.skip ?_
    refine sq ?_
    obtain ⟨l12, g_v13, h⟩ := bnd h
    refine Goes.cutS (s' := (ofG 29 [(2, .ptr 1 0), (4, .ptr 2 0)], [.cells (l12.flatMap encSlingT.c), .cells [.i a0_, .slice 0 0 l12.length l12.length 9], .cells [.i 0, .nilslice]])) ?_ ?_
    · rcases ok7 with _ | _
      · try dsimp only at g_v13
        cases g_v13
      · try dsimp only at g_v13
        obtain ⟨x10, e_x10, g_v13⟩ := bnd g_v13
        obtain ⟨l11, e_l11, g_v13⟩ := bnd g_v13
        obtain rfl := Option.some.inj g_v13
        exact RegTo.sub (RegTo.ro fol [(3, (.run .undef [.cells (l11.flatMap encSlingT.c), .cells [.i a0_, .slice 0 0 a1_.length a1_.length 9], .cells [.i a2_, .str a3_, vl encS a4_, vl encI a5_, .str a6_], .cells [.i 0, .nilslice]] true))] [(2, .ptr 1 0), (4, .ptr 3 0)] [.cells (l11.flatMap encSlingT.c), .cells [.i a0_, .slice 0 0 a1_.length a1_.length 9], .cells [.i a2_, .str a3_, vl encS a4_, vl encI a5_, .str a6_], .cells [.i 0, .nilslice]] [.run [0] (aStore Tryz.prog 4 (.ptr 0 ((i6 : Int).toNat * 9 + 8)) (.bool true)) [.cells (a1_.flatMap encSlingT.c), .cells [.i a0_, .slice 0 0 a1_.length a1_.length 9], .cells [.i a2_, .str a3_, vl encS a4_, vl encI a5_, .str a6_], .cells [.i 0, .nilslice]] .undef [.cells (l11.flatMap encSlingT.c), .cells [.i a0_, .slice 0 0 a1_.length a1_.length 9], .cells [.i a2_, .str a3_, vl encS a4_, vl encI a5_, .str a6_], .cells [.i 0, .nilslice]] true] (And.intro (sto_p (E := encSlingT) (l := a1_) (y := (⟨x10.Name, x10.Batch, x10.Born, x10.Last, x10.Uses, x10.Used, x10.Limit, x10.Until, true⟩ : SlingT)) rfl (show _ = some 1 by kernel_rfl) rfl e_x10 rfl rfl rfl rfl rfl e_l11 rfl) trivial)) ((show Sub (ofG 29 [(2, .ptr 1 0), (4, .ptr 3 0)], [.cells (l11.flatMap encSlingT.c), .cells [.i a0_, .slice 0 0 a1_.length a1_.length 9], .cells [.i a2_, .str a3_, vl encS a4_, vl encI a5_, .str a6_], .cells [.i 0, .nilslice]]) (ofG 29 [(2, .ptr 1 0), (4, .ptr 2 0)], [.cells (l11.flatMap encSlingT.c), .cells [.i a0_, .slice 0 0 l11.length l11.length 9], .cells [.i 0, .nilslice]]) from (Sub.norm [] [some 0, some 1, some 3] (by rw [hB]; rfl) rfl (.keep (.ptr rfl) (.keep (.ptr rfl) .nil)) (.keep rfl (.same fa) rfl rfl (.keep rfl (.cells (RenL.cons (.same (NoRef.int _ _)) (RenL.cons (.sliceE rfl (put_len e_l11)) RenL.nil))) rfl rfl (.keep rfl (.same (AllN.cons (NoRef.int _ _) (AllN.cons (NoRef.nilslice) AllN.nil))) rfl rfl .nil))))).trans (Sub.refl _))
    intro _ hsub
    refine Goes.sub hsub ?_
    refine sq ?_
    refine Goes.rg fol [(4, .ptr 2 0), (5, .i 0)] [.cells (l12.flatMap encSlingT.c), .cells [.i a0_, .slice 0 0 l12.length l12.length 9], .cells [.i a0_, .slice 0 0 l12.length l12.length 9]] ?_
    refine Goes.ret ?_
    simp only [Option.some.injEq, Prod.mk.injEq] at h
    obtain ⟨rfl, rfl⟩ := h
    exact (Goes.retH (xs := [.agg [.i a0_, .slice 0 0 l12.length l12.length 9], .i 0]) (by kernel_rfl) (Sub.norm [] [some 0] (by rw [hB]; rfl) rfl (.keep (.tupleL (RenL.cons (.aggL (RenL.cons (.same (NoRef.int _ _)) (RenL.cons (.slice rfl) RenL.nil))) (RenL.cons (.same (NoRef.int _ _)) RenL.nil))) .nil) (.keep rfl (.same fa) rfl rfl .nil)))
def record_recalled_h1_L0 (a1_ : List SlingT) (a4_ : List Str) (a5_ : List Int) : Nat → (List SlingT) → Int → Int → Option ((List SlingT) × Int)
  | 0, _, _, _ => none
  | K + 1, l3, n4, bad_5 =>
    if n4 < (a1_.length : Int) then
    (((idx l3 n4).bind fun x13 =>
    (idx a4_ 0).bind fun x14 =>
    if (!(x13.Batch == x14)) = true then
    some (l3, bad_5)
    else
    ((if bad_5 = 10 then
    some 20
    else
    some bad_5 : Option Int)).bind fun bad_16 =>
    (idx a5_ 0).bind fun x19 =>
    (record_Sling_retired x13 x19).bind fun r20 =>
    ((if (!r20) = true then
    some 0
    else
    some bad_16 : Option Int)).bind fun bad_21 =>
    (put l3 n4 (⟨x13.Name, x13.Batch, x13.Born, x13.Last, x13.Uses, x13.Used, x13.Limit, x13.Until, true⟩ : SlingT)).bind fun l24 =>
    some (l24, bad_21) : Option ((List SlingT) × Int))).bind fun (l10, bad_11) =>
    record_recalled_h1_L0 a1_ a4_ a5_ K l10 (w64 (n4 + 1)) bad_11
    else
    some (l3, bad_5)
def record_recalled_h1 (N : Nat) (a0_ : Int) (a1_ : List SlingT) (a2_ : Int) (a3_ : Str) (a4_ : List Str) (a5_ : List Int) (a6_ : Str) : Option ((List SlingT) × Int) :=
  (record_recalled_h1_L0 a1_ a4_ a5_ N a1_ 0 10).bind fun (l6, bad_7) =>
  some (l6, bad_7)
theorem record_recalled_h1_ok (N : Nat) (a0_ : Int) (a1_ : List SlingT) (a2_ : Int) (a3_ : Str) (a4_ : List Str) (a5_ : List Int) (a6_ : Str) {l1 : List SlingT} {e_2 : Int} (h : record_recalled_h1 N a0_ a1_ a2_ a3_ a4_ a5_ a6_ = some (l1, e_2)) : CallOK Tryz.prog (.fn 145) [.agg [.i a0_, .slice 0 0 a1_.length a1_.length 9], .agg [.i a2_, .str a3_, vl encS a4_, vl encI a5_, .str a6_]] [.cells (a1_.flatMap encSlingT.c)] (.tuple [.agg [.i a0_, .slice 0 0 l1.length l1.length 9], .i e_2]) [.cells (l1.flatMap encSlingT.c)] := by
  unfold record_recalled_h1 at h
  refine Goes.fnH Tryz.func145 rfl rfl (m := 45) rfl (rs := [.cell 4 31, .tmp 5]) rfl (l := [(0, .agg [.i a0_, .slice 0 0 a1_.length a1_.length 9]), (1, .agg [.i a2_, .str a3_, vl encS a4_, vl encI a5_, .str a6_])]) rfl ?_
  intro B hB
  refine sq ?_
  refine Goes.rg fol [(2, .ptr 1 0), (3, .ptr 2 0), (4, .ptr 3 0)] [.cells (a1_.flatMap encSlingT.c), .cells [.i a0_, .slice 0 0 a1_.length a1_.length 9], .cells [.i a2_, .str a3_, vl encS a4_, vl encI a5_, .str a6_], .cells [.i 0, .nilslice]] ?_
  refine sq ?_
  refine Goes.rg fol [(2, .ptr 1 0), (3, .ptr 2 0), (4, .ptr 3 0), (6, .i 10)] [.cells (a1_.flatMap encSlingT.c), .cells [.i a0_, .slice 0 0 a1_.length a1_.length 9], .cells [.i a2_, .str a3_, vl encS a4_, vl encI a5_, .str a6_], .cells [.i 0, .nilslice]] ?_
  refine sq ?_
  refine sq ?_
  refine Goes.rg fol [(2, .ptr 1 0), (3, .ptr 2 0), (4, .ptr 3 0), (6, .i 10), (11, .i (a1_.length : Int)), (12, .i 0)] [.cells (a1_.flatMap encSlingT.c), .cells [.i a0_, .slice 0 0 a1_.length a1_.length 9], .cells [.i a2_, .str a3_, vl encS a4_, vl encI a5_, .str a6_], .cells [.i 0, .nilslice]] ?_
  refine Goes.block ?_
  obtain ⟨r8, g8, h⟩ := bnd h
  refine Goes.imp (Q := fun x s' => (x = .exit 0 ∧ ∃ l6 bad_7, (l6, bad_7) = r8 ∧ Sub s' (ofG 45 [(2, .ptr 1 0), (4, .ptr 2 0), (6, .i bad_7)], [.cells (l6.flatMap encSlingT.c), .cells [.i a0_, .slice 0 0 l6.length l6.length 9], .cells [.i 0, .nilslice]]))) ?_ ?_
  · refine Goes.loopS (fun M s => ∃ (l3 : List SlingT) (n4 : Int) (bad_5 : Int), s = (ofG 45 [(2, .ptr 1 0), (3, .ptr 2 0), (4, .ptr 3 0), (6, .i bad_5), (11, .i (a1_.length : Int)), (12, .i n4)], [.cells (l3.flatMap encSlingT.c), .cells [.i a0_, .slice 0 0 l3.length l3.length 9], .cells [.i a2_, .str a3_, vl encS a4_, vl encI a5_, .str a6_], .cells [.i 0, .nilslice]]) ∧ record_recalled_h1_L0 a1_ a4_ a5_ M l3 n4 bad_5 = some r8) ?_ (m := N) ⟨_, _, _, rfl, g8⟩
    rintro M s ⟨l3, n4, bad_5, rfl, g8⟩
    cases M with
    | zero => simp only [record_recalled_h1_L0] at g8; cases g8
    | succ M =>
      rw [record_recalled_h1_L0] at g8
      refine sq ?_
      refine Goes.rg fol [(2, .ptr 1 0), (3, .ptr 2 0), (4, .ptr 3 0), (6, .i bad_5), (11, .i (a1_.length : Int)), (12, .i n4), (13, .bool (decide (n4 < (a1_.length : Int))))] [.cells (l3.flatMap encSlingT.c), .cells [.i a0_, .slice 0 0 l3.length l3.length 9], .cells [.i a2_, .str a3_, vl encS a4_, vl encI a5_, .str a6_], .cells [.i 0, .nilslice]] ?_
      refine sq ?_
      refine Goes.ifB (b := decide (n4 < (a1_.length : Int))) (by kernel_rfl) (fun c9 => ?_) (fun c9 => ?_)
      · rw [if_pos (ot c9)] at g8
        refine Goes.skip ?_
        refine sq ?_
        obtain ⟨r12, g12, g8⟩ := bnd g8
        refine Goes.imp (Q := fun x s' => (x = .normal ∧ ∃ l10 bad_11, (l10, bad_11) = r12 ∧ Sub s' (ofG 45 [(2, .ptr 1 0), (3, .ptr 2 0), (4, .ptr 3 0), (6, .i bad_11), (11, .i (a1_.length : Int)), (12, .i n4)], [.cells (l10.flatMap encSlingT.c), .cells [.i a0_, .slice 0 0 l10.length l10.length 9], .cells [.i a2_, .str a3_, vl encS a4_, vl encI a5_, .str a6_], .cells [.i 0, .nilslice]]))) ?_ ?_
        · refine Goes.block ?_
          refine sq ?_
          refine Goes.rg fol [(2, .ptr 1 0), (3, .ptr 2 0), (4, .ptr 3 0), (6, .i bad_5), (7, .i n4), (11, .i (a1_.length : Int)), (12, .i n4)] [.cells (l3.flatMap encSlingT.c), .cells [.i a0_, .slice 0 0 l3.length l3.length 9], .cells [.i a2_, .str a3_, vl encS a4_, vl encI a5_, .str a6_], .cells [.i 0, .nilslice]] ?_
          refine sq ?_
          obtain ⟨x13, e_x13, g12⟩ := bnd g12
          refine Goes.ro fol [(3, (.done (.ptr 0 ((n4 : Int).toNat * 9 + 0))))] [(2, .ptr 1 0), (3, .ptr 2 0), (4, .ptr 3 0), (6, .i bad_5), (8, .ptr 0 ((n4 : Int).toNat * 9 + 0)), (11, .i (a1_.length : Int)), (12, .i n4)] [.cells (l3.flatMap encSlingT.c), .cells [.i a0_, .slice 0 0 l3.length l3.length 9], .cells [.i a2_, .str a3_, vl encS a4_, vl encI a5_, .str a6_], .cells [.i 0, .nilslice]] [.done (.opt (aIndexAddr Tryz.prog 29 (.slice 0 0 l3.length l3.length 9) (.i n4))) (.ptr 0 ((n4 : Int).toNat * 9 + 0))] (And.intro (ix_sl sl29 e_x13) trivial) ?_
          refine sq ?_
          refine sq ?_
          obtain ⟨x14, e_x14, g12⟩ := bnd g12
          refine Goes.ro fol [(3, (.run (.str x13.Batch) [.cells (l3.flatMap encSlingT.c), .cells [.i a0_, .slice 0 0 l3.length l3.length 9], .cells [.i a2_, .str a3_, vl encS a4_, vl encI a5_, .str a6_], .cells [.i 0, .nilslice]] false)), (6, (.done (.fptr (a4_.flatMap encS.c) ((0 : Int).toNat * 1 + 0)))), (7, (.done (.str x14)))] [(2, .ptr 1 0), (3, .ptr 2 0), (4, .ptr 3 0), (6, .i bad_5), (8, .ptr 0 ((n4 : Int).toNat * 9 + 0)), (11, .i (a1_.length : Int)), (12, .i n4), (27, .bool (!(x13.Batch == x14)))] [.cells (l3.flatMap encSlingT.c), .cells [.i a0_, .slice 0 0 l3.length l3.length 9], .cells [.i a2_, .str a3_, vl encS a4_, vl encI a5_, .str a6_], .cells [.i 0, .nilslice]] [.run [0] (aLoad Tryz.prog 9 (.ptr 0 ((n4 : Int).toNat * 9 + 1))) [.cells (l3.flatMap encSlingT.c), .cells [.i a0_, .slice 0 0 l3.length l3.length 9], .cells [.i a2_, .str a3_, vl encS a4_, vl encI a5_, .str a6_], .cells [.i 0, .nilslice]] (.str x13.Batch) [.cells (l3.flatMap encSlingT.c), .cells [.i a0_, .slice 0 0 l3.length l3.length 9], .cells [.i a2_, .str a3_, vl encS a4_, vl encI a5_, .str a6_], .cells [.i 0, .nilslice]] false, .done (.opt (aIndexAddr Tryz.prog 23 (vl encS a4_) (.i 0))) (.fptr (a4_.flatMap encS.c) ((0 : Int).toNat * 1 + 0)), .done (aLoad Tryz.prog 9 (.fptr (a4_.flatMap encS.c) ((0 : Int).toNat * 1 + 0))) (.str x14)] (And.intro (ld_p ce9 (E := encSlingT) (l := l3) rfl rfl e_x13 (Nat.le_of_ble_eq_true rfl) rfl) (And.intro (ix_vl sl23 (E := encS) rfl e_x14) (And.intro (ld_vl ce9 (E := encS) rfl e_x14 (Nat.le_of_ble_eq_true rfl) rfl) trivial))) ?_
          refine Goes.ifB (b := !(x13.Batch == x14)) (by kernel_rfl) (fun c15 => ?_) (fun c15 => ?_)
          · rw [if_pos (c15)] at g12
            refine Goes.exit ?_
            obtain rfl := Option.some.inj g12
            exact ⟨rfl, _, _, rfl, (Sub.keep [2, 3, 4, 6, 11, 12] rfl rfl)⟩
          · rw [if_neg (by rw [c15]; exact Bool.false_ne_true)] at g12
            refine Goes.skip ?_
            refine sq ?_
            refine sq ?_
            refine Goes.rg fol [(2, .ptr 1 0), (3, .ptr 2 0), (4, .ptr 3 0), (6, .i bad_5), (8, .ptr 0 ((n4 : Int).toNat * 9 + 0)), (11, .i (a1_.length : Int)), (12, .i n4), (29, .bool (decide (bad_5 = 10)))] [.cells (l3.flatMap encSlingT.c), .cells [.i a0_, .slice 0 0 l3.length l3.length 9], .cells [.i a2_, .str a3_, vl encS a4_, vl encI a5_, .str a6_], .cells [.i 0, .nilslice]] ?_
            obtain ⟨r17, g17, g12⟩ := bnd g12
            refine Goes.imp (Q := fun x s' => (x = .normal ∧ ∃ bad_16, bad_16 = r17 ∧ Sub s' (ofG 45 [(2, .ptr 1 0), (3, .ptr 2 0), (4, .ptr 3 0), (6, .i bad_16), (8, .ptr 0 ((n4 : Int).toNat * 9 + 0)), (11, .i (a1_.length : Int)), (12, .i n4)], [.cells (l3.flatMap encSlingT.c), .cells [.i a0_, .slice 0 0 l3.length l3.length 9], .cells [.i a2_, .str a3_, vl encS a4_, vl encI a5_, .str a6_], .cells [.i 0, .nilslice]]))) ?_ ?_
            · refine Goes.ifB (b := decide (bad_5 = 10)) (by kernel_rfl) (fun c18 => ?_) (fun c18 => ?_)
              · rw [if_pos (ot c18)] at g17
                refine Goes.rg fol [(2, .ptr 1 0), (3, .ptr 2 0), (4, .ptr 3 0), (6, .i 20), (8, .ptr 0 ((n4 : Int).toNat * 9 + 0)), (11, .i (a1_.length : Int)), (12, .i n4)] [.cells (l3.flatMap encSlingT.c), .cells [.i a0_, .slice 0 0 l3.length l3.length 9], .cells [.i a2_, .str a3_, vl encS a4_, vl encI a5_, .str a6_], .cells [.i 0, .nilslice]] ?_
                obtain rfl := Option.some.inj g17
                exact ⟨rfl, _, rfl, (Sub.refl _)⟩
              · rw [if_neg (of_ c18)] at g17
                refine Goes.skip ?_
                obtain rfl := Option.some.inj g17
                exact ⟨rfl, _, rfl, (Sub.keep [2, 3, 4, 6, 8, 11, 12] rfl rfl)⟩
            rintro x s' ⟨rfl, bad_16, rfl, hsub⟩
            refine Goes.sub hsub ?_
            refine sq ?_
            refine sq ?_
            obtain ⟨x19, e_x19, g12⟩ := bnd g12
            obtain ⟨r20, e_r20, g12⟩ := bnd g12
            refine Goes.ro fol [(2, (.run (.agg [.str x13.Name, .str x13.Batch, .i x13.Born, .i x13.Last, .i x13.Uses, .i x13.Used, .i x13.Limit, .i x13.Until, .bool x13.Gone]) [.cells (l3.flatMap encSlingT.c), .cells [.i a0_, .slice 0 0 l3.length l3.length 9], .cells [.i a2_, .str a3_, vl encS a4_, vl encI a5_, .str a6_], .cells [.i 0, .nilslice]] false)), (5, (.done (.fptr (a5_.flatMap encI.c) ((0 : Int).toNat * 1 + 0)))), (6, (.done (.i x19))), (7, (.call [] [.agg [.str x13.Name, .str x13.Batch, .i x13.Born, .i x13.Last, .i x13.Uses, .i x13.Used, .i x13.Limit, .i x13.Until, .bool x13.Gone], .i x19] (.bool r20)))] [(2, .ptr 1 0), (3, .ptr 2 0), (4, .ptr 3 0), (6, .i bad_16), (8, .ptr 0 ((n4 : Int).toNat * 9 + 0)), (11, .i (a1_.length : Int)), (12, .i n4), (38, .bool (!r20))] [.cells (l3.flatMap encSlingT.c), .cells [.i a0_, .slice 0 0 l3.length l3.length 9], .cells [.i a2_, .str a3_, vl encS a4_, vl encI a5_, .str a6_], .cells [.i 0, .nilslice]] [.run [0] (aLoad Tryz.prog 68 (.ptr 0 ((n4 : Int).toNat * 9 + 0))) [.cells (l3.flatMap encSlingT.c), .cells [.i a0_, .slice 0 0 l3.length l3.length 9], .cells [.i a2_, .str a3_, vl encS a4_, vl encI a5_, .str a6_], .cells [.i 0, .nilslice]] (.agg [.str x13.Name, .str x13.Batch, .i x13.Born, .i x13.Last, .i x13.Uses, .i x13.Used, .i x13.Limit, .i x13.Until, .bool x13.Gone]) [.cells (l3.flatMap encSlingT.c), .cells [.i a0_, .slice 0 0 l3.length l3.length 9], .cells [.i a2_, .str a3_, vl encS a4_, vl encI a5_, .str a6_], .cells [.i 0, .nilslice]] false, .done (.opt (aIndexAddr Tryz.prog 24 (vl encI a5_) (.i 0))) (.fptr (a5_.flatMap encI.c) ((0 : Int).toNat * 1 + 0)), .done (aLoad Tryz.prog 3 (.fptr (a5_.flatMap encI.c) ((0 : Int).toNat * 1 + 0))) (.i x19), .call 95 [.agg [.str x13.Name, .str x13.Batch, .i x13.Born, .i x13.Last, .i x13.Uses, .i x13.Used, .i x13.Limit, .i x13.Until, .bool x13.Gone], .i x19] [.cells (l3.flatMap encSlingT.c), .cells [.i a0_, .slice 0 0 l3.length l3.length 9], .cells [.i a2_, .str a3_, vl encS a4_, vl encI a5_, .str a6_], .cells [.i 0, .nilslice]] [] [.agg [.str x13.Name, .str x13.Batch, .i x13.Born, .i x13.Last, .i x13.Uses, .i x13.Used, .i x13.Limit, .i x13.Until, .bool x13.Gone], .i x19] (.bool r20)] (And.intro (ld_pa ag68 (E := encSlingT) (l := l3) rfl rfl e_x13) (And.intro (ix_vl sl24 (E := encI) rfl e_x19) (And.intro (ld_vl ce3 (E := encI) rfl e_x19 (Nat.le_of_ble_eq_true rfl) rfl) (And.intro (call_val (AllST.cons (Still.agg (AllST.cons (Still.str 10 _) (AllST.cons (Still.str 10 _) (AllST.cons (Still.int 10 _ _) (AllST.cons (Still.int 10 _ _) (AllST.cons (Still.int 10 _ _) (AllST.cons (Still.int 10 _ _) (AllST.cons (Still.int 10 _ _) (AllST.cons (Still.int 10 _ _) (AllST.cons (Still.bool 10 _) AllST.nil)))))))))) (AllST.cons (Still.int 11 _ _) AllST.nil)) (record_Sling_retired_ok x13 x19 e_r20) (Still.bool 11 _)) trivial)))) ?_
            obtain ⟨r22, g22, g12⟩ := bnd g12
            refine Goes.imp (Q := fun x s' => (x = .normal ∧ ∃ bad_21, bad_21 = r22 ∧ Sub s' (ofG 45 [(2, .ptr 1 0), (3, .ptr 2 0), (4, .ptr 3 0), (6, .i bad_21), (8, .ptr 0 ((n4 : Int).toNat * 9 + 0)), (11, .i (a1_.length : Int)), (12, .i n4)], [.cells (l3.flatMap encSlingT.c), .cells [.i a0_, .slice 0 0 l3.length l3.length 9], .cells [.i a2_, .str a3_, vl encS a4_, vl encI a5_, .str a6_], .cells [.i 0, .nilslice]]))) ?_ ?_
            · refine Goes.ifB (b := !r20) (by kernel_rfl) (fun c23 => ?_) (fun c23 => ?_)
              · rw [if_pos (c23)] at g22
                refine Goes.rg fol [(2, .ptr 1 0), (3, .ptr 2 0), (4, .ptr 3 0), (6, .i 0), (8, .ptr 0 ((n4 : Int).toNat * 9 + 0)), (11, .i (a1_.length : Int)), (12, .i n4)] [.cells (l3.flatMap encSlingT.c), .cells [.i a0_, .slice 0 0 l3.length l3.length 9], .cells [.i a2_, .str a3_, vl encS a4_, vl encI a5_, .str a6_], .cells [.i 0, .nilslice]] ?_
                obtain rfl := Option.some.inj g22
                exact ⟨rfl, _, rfl, (Sub.refl _)⟩
              · rw [if_neg (by rw [c23]; exact Bool.false_ne_true)] at g22
                refine Goes.skip ?_
                obtain rfl := Option.some.inj g22
                exact ⟨rfl, _, rfl, (Sub.keep [2, 3, 4, 6, 8, 11, 12] rfl rfl)⟩
            rintro x s' ⟨rfl, bad_21, rfl, hsub⟩
            refine Goes.sub hsub ?_
            obtain ⟨l24, e_l24, g12⟩ := bnd g12
            refine Goes.ro fol [(3, (.run .undef [.cells (l24.flatMap encSlingT.c), .cells [.i a0_, .slice 0 0 l3.length l3.length 9], .cells [.i a2_, .str a3_, vl encS a4_, vl encI a5_, .str a6_], .cells [.i 0, .nilslice]] true))] [(2, .ptr 1 0), (3, .ptr 2 0), (4, .ptr 3 0), (6, .i bad_21), (11, .i (a1_.length : Int)), (12, .i n4)] [.cells (l24.flatMap encSlingT.c), .cells [.i a0_, .slice 0 0 l3.length l3.length 9], .cells [.i a2_, .str a3_, vl encS a4_, vl encI a5_, .str a6_], .cells [.i 0, .nilslice]] [.run [0] (aStore Tryz.prog 4 (.ptr 0 ((n4 : Int).toNat * 9 + 8)) (.bool true)) [.cells (l3.flatMap encSlingT.c), .cells [.i a0_, .slice 0 0 l3.length l3.length 9], .cells [.i a2_, .str a3_, vl encS a4_, vl encI a5_, .str a6_], .cells [.i 0, .nilslice]] .undef [.cells (l24.flatMap encSlingT.c), .cells [.i a0_, .slice 0 0 l3.length l3.length 9], .cells [.i a2_, .str a3_, vl encS a4_, vl encI a5_, .str a6_], .cells [.i 0, .nilslice]] true] (And.intro (sto_p (E := encSlingT) (l := l3) (y := (⟨x13.Name, x13.Batch, x13.Born, x13.Last, x13.Uses, x13.Used, x13.Limit, x13.Until, true⟩ : SlingT)) rfl (show _ = some 1 by kernel_rfl) rfl e_x13 rfl rfl rfl rfl rfl e_l24 rfl) trivial) ?_
            obtain rfl := Option.some.inj g12
            exact ⟨rfl, _, _, rfl, ((show Sub (ofG 45 [(2, .ptr 1 0), (3, .ptr 2 0), (4, .ptr 3 0), (6, .i bad_21), (11, .i (a1_.length : Int)), (12, .i n4)], [.cells (l24.flatMap encSlingT.c), .cells [.i a0_, .slice 0 0 l3.length l3.length 9], .cells [.i a2_, .str a3_, vl encS a4_, vl encI a5_, .str a6_], .cells [.i 0, .nilslice]]) (ofG 45 [(2, .ptr 1 0), (3, .ptr 2 0), (4, .ptr 3 0), (6, .i bad_21), (11, .i (a1_.length : Int)), (12, .i n4)], [.cells (l24.flatMap encSlingT.c), .cells [.i a0_, .slice 0 0 l24.length l24.length 9], .cells [.i a2_, .str a3_, vl encS a4_, vl encI a5_, .str a6_], .cells [.i 0, .nilslice]]) from (Sub.norm [] [some 0, some 1, some 2, some 3] (by rw [hB]; rfl) rfl (.keep (.ptr rfl) (.keep (.ptr rfl) (.keep (.ptr rfl) (.keep (.same (NoRef.int _ _)) (.keep (.same (NoRef.int _ _)) (.keep (.same (NoRef.int _ _)) .nil)))))) (.keep rfl (.same fa) rfl rfl (.keep rfl (.cells (RenL.cons (.same (NoRef.int _ _)) (RenL.cons (.sliceE rfl (put_len e_l24)) RenL.nil))) rfl rfl (.keep rfl (.same (AllN.cons (NoRef.int _ _) (AllN.cons (NoRef.str _) (AllN.cons (vl_noRef encS _) (AllN.cons (vl_noRef encI _) (AllN.cons (NoRef.str _) AllN.nil)))))) rfl rfl (.keep rfl (.same (AllN.cons (NoRef.int _ _) (AllN.cons (NoRef.nilslice) AllN.nil))) rfl rfl .nil)))))).trans (Sub.refl _))⟩
        rintro x s' ⟨rfl, l10, bad_11, rfl, hsub⟩
        try dsimp only at g8
        refine Goes.sub hsub ?_
        refine Goes.rg fol [(2, .ptr 1 0), (3, .ptr 2 0), (4, .ptr 3 0), (6, .i bad_11), (11, .i (a1_.length : Int)), (12, .i (w64 (n4 + 1)))] [.cells (l10.flatMap encSlingT.c), .cells [.i a0_, .slice 0 0 l10.length l10.length 9], .cells [.i a2_, .str a3_, vl encS a4_, vl encI a5_, .str a6_], .cells [.i 0, .nilslice]] ?_
        exact ⟨M, (ofG 45 [(2, .ptr 1 0), (3, .ptr 2 0), (4, .ptr 3 0), (6, .i bad_11), (11, .i (a1_.length : Int)), (12, .i (w64 (n4 + 1)))], [.cells (l10.flatMap encSlingT.c), .cells [.i a0_, .slice 0 0 l10.length l10.length 9], .cells [.i a2_, .str a3_, vl encS a4_, vl encI a5_, .str a6_], .cells [.i 0, .nilslice]]), Nat.lt_succ_self _, (Sub.refl _), _, _, _, rfl, g8⟩
      · rw [if_neg (of_ c9)] at g8
        refine Goes.exit ?_
        obtain rfl := Option.some.inj g8
        exact ⟨rfl, _, _, rfl, (Sub.norm [] [some 0, some 1, some 3] (by rw [hB]; rfl) rfl (.keep (.ptr rfl) (.drop (.keep (.ptr rfl) (.keep (.same (NoRef.int _ _)) .nil)))) (.keep rfl (.same fa) rfl rfl (.keep rfl (.cells (RenL.cons (.same (NoRef.int _ _)) (RenL.cons (.slice rfl) RenL.nil))) rfl rfl (.keep rfl (.same (AllN.cons (NoRef.int _ _) (AllN.cons (NoRef.nilslice) AllN.nil))) rfl rfl .nil))))⟩
  rintro x s' ⟨rfl, l6, bad_7, rfl, hsub⟩
  try dsimp only at h
  refine Goes.sub hsub ?_
  refine sq ?_
  refine Goes.rg fol [(4, .ptr 2 0), (5, .i bad_7)] [.cells (l6.flatMap encSlingT.c), .cells [.i a0_, .slice 0 0 l6.length l6.length 9], .cells [.i a0_, .slice 0 0 l6.length l6.length 9]] ?_
  refine Goes.ret ?_
  simp only [Option.some.injEq, Prod.mk.injEq] at h
  obtain ⟨rfl, rfl⟩ := h
  exact (Goes.retH (xs := [.agg [.i a0_, .slice 0 0 l6.length l6.length 9], .i bad_7]) (by kernel_rfl) (Sub.norm [] [some 0] (by rw [hB]; rfl) rfl (.keep (.tupleL (RenL.cons (.aggL (RenL.cons (.same (NoRef.int _ _)) (RenL.cons (.slice rfl) RenL.nil))) (RenL.cons (.same (NoRef.int _ _)) RenL.nil))) .nil) (.keep rfl (.same fa) rfl rfl .nil)))
def record_Register_after_h1 (N : Nat) (a0_ : Int) (a1_ : List SlingT) (a2_ : Int) (a3_ : Str) (a4_ : List Str) (a5_ : List Int) (a6_ : Str) : Option (Int × (List SlingT) × Int) :=
  (idx a5_ 0).bind fun x4 =>
  (record_checkDay x4).bind fun r5 =>
  (record_when (decide (x4 < a0_)) 19).bind fun r6 =>
  (record_first N ([r5, r6] : List Int)).bind fun r7 =>
  if (!decide (r7 = 0)) = true then
  some (0, [], r7)
  else
  ((record_kinds).bind fun r9 =>
  if (a3_ == [109, 97, 107, 101]) = true then
  (record_Register_copied_h1 a0_ a1_).bind fun l12 =>
  (record_made_h1 N a0_ l12 a2_ a3_ a4_ a5_ a6_).bind fun (l14, e_15) =>
  some (l14, e_15)
  else
  if (a3_ == [116, 101, 115, 116]) = true then
  (record_Register_copied_h1 a0_ a1_).bind fun l18 =>
  (record_tested_h1 N a0_ l18 a2_ a3_ a4_ a5_ a6_).bind fun (l20, e_21) =>
  some (l20, e_21)
  else
  if (a3_ == [117, 115, 101]) = true then
  (record_Register_copied_h1 a0_ a1_).bind fun l24 =>
  (record_used_h1 N a0_ l24 a2_ a3_ a4_ a5_ a6_).bind fun (l26, e_27) =>
  some (l26, e_27)
  else
  if (a3_ == [102, 97, 105, 108]) = true then
  (record_Register_copied_h1 a0_ a1_).bind fun l30 =>
  (record_failed_h1 N a0_ l30 a2_ a3_ a4_ a5_ a6_).bind fun (l32, e_33) =>
  some (l32, e_33)
  else
  if (a3_ == [114, 101, 99, 97, 108, 108]) = true then
  (record_Register_copied_h1 a0_ a1_).bind fun l36 =>
  (record_recalled_h1 N a0_ l36 a2_ a3_ a4_ a5_ a6_).bind fun (l38, e_39) =>
  some (l38, e_39)
  else
  if (a3_ == [117, 110, 100, 111]) = true then
  none
  else
  none : Option ((List SlingT) × Int)).bind fun (l45, bad_46) =>
  some (x4, l45, bad_46)
theorem record_Register_after_h1_ok (N : Nat) (a0_ : Int) (a1_ : List SlingT) (a2_ : Int) (a3_ : Str) (a4_ : List Str) (a5_ : List Int) (a6_ : Str) {n1 : Int} {l2 : List SlingT} {e_3 : Int} (h : record_Register_after_h1 N a0_ a1_ a2_ a3_ a4_ a5_ a6_ = some (n1, l2, e_3)) : CallOK Tryz.prog (.fn 147) [.agg [.i a0_, vl encSlingT a1_], .agg [.i a2_, .str a3_, vl encS a4_, vl encI a5_, .str a6_]] [] (.tuple [.agg [.i n1, vl encSlingT l2], .i e_3]) [] := by
  unfold record_Register_after_h1 at h
  refine Goes.fnH Tryz.func147 rfl rfl (m := 43) rfl (rs := [.cell 4 31, .tmp 5]) rfl (l := [(0, .agg [.i a0_, vl encSlingT a1_]), (1, .agg [.i a2_, .str a3_, vl encS a4_, vl encI a5_, .str a6_])]) rfl ?_
  intro B hB
  refine sq ?_
  refine Goes.rg fol [(2, .ptr 0 0), (3, .ptr 1 0), (4, .ptr 2 0)] [.cells [.i a0_, vl encSlingT a1_], .cells [.i a2_, .str a3_, vl encS a4_, vl encI a5_, .str a6_], .cells [.i 0, .nilslice]] ?_
  refine sq ?_
  obtain ⟨x4, e_x4, h⟩ := bnd h
  refine Goes.ro fol [(2, (.done (.fptr (a5_.flatMap encI.c) ((0 : Int).toNat * 1 + 0)))), (3, (.done (.i x4)))] [(2, .ptr 0 0), (3, .ptr 1 0), (4, .ptr 2 0), (6, .i x4)] [.cells [.i a0_, vl encSlingT a1_], .cells [.i a2_, .str a3_, vl encS a4_, vl encI a5_, .str a6_], .cells [.i 0, .nilslice]] [.done (.opt (aIndexAddr Tryz.prog 24 (vl encI a5_) (.i 0))) (.fptr (a5_.flatMap encI.c) ((0 : Int).toNat * 1 + 0)), .done (aLoad Tryz.prog 3 (.fptr (a5_.flatMap encI.c) ((0 : Int).toNat * 1 + 0))) (.i x4)] (And.intro (ix_vl sl24 (E := encI) rfl e_x4) (And.intro (ld_vl ce3 (E := encI) rfl e_x4 (Nat.le_of_ble_eq_true rfl) rfl) trivial)) ?_
  refine sq ?_
  refine sq ?_
  obtain ⟨r5, e_r5, h⟩ := bnd h
  obtain ⟨r6, e_r6, h⟩ := bnd h
  obtain ⟨r7, e_r7, h⟩ := bnd h
  refine Goes.ro fol [(1, (.call [] [.i x4] (.i r5))), (6, (.call [] [.bool (decide (x4 < a0_)), .i 19] (.i r6))), (8, (.call [3] [vl encI ([r5, r6] : List Int)] (.i r7)))] [(2, .ptr 0 0), (3, .ptr 1 0), (4, .ptr 2 0), (6, .i x4), (7, .i r7)] [.cells [.i a0_, vl encSlingT a1_], .cells [.i a2_, .str a3_, vl encS a4_, vl encI a5_, .str a6_], .cells [.i 0, .nilslice], .cells [.i r5, .i r6]] [.call 94 [.i x4] [.cells [.i a0_, vl encSlingT a1_], .cells [.i a2_, .str a3_, vl encS a4_, vl encI a5_, .str a6_], .cells [.i 0, .nilslice]] [] [.i x4] (.i r5), .call 88 [.bool (decide (x4 < a0_)), .i 19] [.cells [.i a0_, vl encSlingT a1_], .cells [.i a2_, .str a3_, vl encS a4_, vl encI a5_, .str a6_], .cells [.i 0, .nilslice]] [] [.bool (decide (x4 < a0_)), .i 19] (.i r6), .call 86 [.slice 3 0 2 2 1] [.cells [.i a0_, vl encSlingT a1_], .cells [.i a2_, .str a3_, vl encS a4_, vl encI a5_, .str a6_], .cells [.i 0, .nilslice], .cells [.i r5, .i r6]] [3] [vl encI ([r5, r6] : List Int)] (.i r7)] (And.intro (call_val (AllST.cons (Still.int 11 _ _) AllST.nil) (record_checkDay_ok x4 e_r5) (Still.int 11 _ _)) (And.intro (call_val (AllST.cons (Still.bool 11 _) (AllST.cons (Still.int 11 _ _) AllST.nil)) (record_when_ok (decide (x4 < a0_)) 19 e_r6) (Still.int 11 _ _)) (And.intro (call_S (FzL.cons (Fz.lit rfl rfl (FzL.still (AllST.cons (Still.int 10 _ _) (AllST.cons (Still.int 10 _ _) AllST.nil)))) FzL.nil) (record_first_ok N ([r5, r6] : List Int) e_r7) (Still.int 11 _ _) rfl) trivial))) ?_
  refine sq ?_
  refine Goes.rg fol [(2, .ptr 0 0), (3, .ptr 1 0), (4, .ptr 2 0), (6, .i x4), (7, .i r7), (24, .bool (!decide (r7 = 0)))] [.cells [.i a0_, vl encSlingT a1_], .cells [.i a2_, .str a3_, vl encS a4_, vl encI a5_, .str a6_], .cells [.i 0, .nilslice], .cells [.i r5, .i r6]] ?_
  refine Goes.ifB (b := !decide (r7 = 0)) (by kernel_rfl) (fun c8 => ?_) (fun c8 => ?_)
  · rw [if_pos (c8)] at h
    refine sq ?_
    refine Goes.rg fol [(4, .ptr 2 0), (5, .i r7)] [.cells [.i a0_, vl encSlingT a1_], .cells [.i a2_, .str a3_, vl encS a4_, vl encI a5_, .str a6_], .cells [.i 0, .nilslice], .cells [.i r5, .i r6]] ?_
    refine Goes.ret ?_
    simp only [Option.some.injEq, Prod.mk.injEq] at h
    obtain ⟨rfl, rfl, rfl⟩ := h
    exact (Goes.retH (xs := [.agg [.i 0, .nilslice], .i r7]) (by kernel_rfl) (Sub.norm [] [] (by rw [hB]; rfl) rfl (.keep (.tupleL (RenL.cons (.aggL (RenL.cons (.same (NoRef.int _ _)) (RenL.cons (.nilv) RenL.nil))) (RenL.cons (.same (NoRef.int _ _)) RenL.nil))) .nil) .nil))
  · rw [if_neg (by rw [c8]; exact Bool.false_ne_true)] at h
    refine Goes.skip ?_
    refine sq ?_
    obtain ⟨⟨l45, bad_46⟩, g_v47, h⟩ := bnd h
    refine Goes.cutS (s' := (ofG 43 [(4, .ptr 0 0), (6, .i x4), (8, .ptr 1 0), (9, .i bad_46)], [.cells [.i 0, .nilslice], .cells [.i a0_, vl encSlingT l45]])) ?_ ?_
    · obtain ⟨r9, e_r9, g_v47⟩ := bnd g_v47
      rcases Bool.eq_false_or_eq_true (a3_ == [109, 97, 107, 101]) with c10 | c10
      · rw [if_pos (c10)] at g_v47
        obtain ⟨l12, e_r11, g_v47⟩ := bnd g_v47
        obtain ⟨⟨l14, e_15⟩, e_r13, g_v47⟩ := bnd g_v47
        try dsimp only at g_v47
        simp only [Option.some.injEq, Prod.mk.injEq] at g_v47
        obtain ⟨rfl, rfl⟩ := g_v47
        exact RegTo.sub (RegTo.ro fol [(0, (.call [] [] fm1)), (3, (.done (.agg [.i 2, .i 3, .func (.func 141) [] []]))), (6, (.callH [] (.agg [.i a0_, .slice 4 0 l12.length l12.length 9]) [.cells [.i a0_, vl encSlingT a1_], .cells [.i a2_, .str a3_, vl encS a4_, vl encI a5_, .str a6_], .cells [.i 0, .nilslice], .cells [.i r5, .i r6], .cells (l12.flatMap encSlingT.c)])), (8, (.callH [4] (.tuple [.agg [.i a0_, vl encSlingT l14], .i e_15]) [.cells [.i a0_, vl encSlingT a1_], .cells [.i a2_, .str a3_, vl encS a4_, vl encI a5_, .str a6_], .cells [.i 0, .nilslice], .cells [.i r5, .i r6], .dead]))] [(4, .ptr 2 0), (6, .i x4), (8, .ptr 5 0), (9, .i e_15)] [.cells [.i a0_, vl encSlingT a1_], .cells [.i a2_, .str a3_, vl encS a4_, vl encI a5_, .str a6_], .cells [.i 0, .nilslice], .cells [.i r5, .i r6], .dead, .cells [.i a0_, vl encSlingT l14]] [.call 85 [] [.cells [.i a0_, vl encSlingT a1_], .cells [.i a2_, .str a3_, vl encS a4_, vl encI a5_, .str a6_], .cells [.i 0, .nilslice], .cells [.i r5, .i r6]] [] [] fm1, .done (aLookup Tryz.prog 154 (fm1) (.str a3_) false) (.agg [.i 2, .i 3, .func (.func 141) [] []]), .callH 82 [.agg [.i a0_, vl encSlingT a1_]] [.cells [.i a0_, vl encSlingT a1_], .cells [.i a2_, .str a3_, vl encS a4_, vl encI a5_, .str a6_], .cells [.i 0, .nilslice], .cells [.i r5, .i r6]] [] (.agg [.i a0_, .slice 4 0 l12.length l12.length 9]) [.cells [.i a0_, vl encSlingT a1_], .cells [.i a2_, .str a3_, vl encS a4_, vl encI a5_, .str a6_], .cells [.i 0, .nilslice], .cells [.i r5, .i r6], .cells (l12.flatMap encSlingT.c)], .callH 141 [.agg [.i a0_, .slice 4 0 l12.length l12.length 9], .agg [.i a2_, .str a3_, vl encS a4_, vl encI a5_, .str a6_]] [.cells [.i a0_, vl encSlingT a1_], .cells [.i a2_, .str a3_, vl encS a4_, vl encI a5_, .str a6_], .cells [.i 0, .nilslice], .cells [.i r5, .i r6], .cells (l12.flatMap encSlingT.c)] [4] (.tuple [.agg [.i a0_, vl encSlingT l14], .i e_15]) [.cells [.i a0_, vl encSlingT a1_], .cells [.i a2_, .str a3_, vl encS a4_, vl encI a5_, .str a6_], .cells [.i 0, .nilslice], .cells [.i r5, .i r6], .dead]] (And.intro (call_val AllST.nil (record_kinds_ok e_r9) (Still.fmap (AllST.cons (Still.str 10 _) (AllST.cons (Still.str 10 _) (AllST.cons (Still.str 10 _) (AllST.cons (Still.str 10 _) (AllST.cons (Still.str 10 _) (AllST.cons (Still.str 10 _) AllST.nil)))))) (AllST.cons (Still.agg (AllST.cons (Still.int 9 _ _) (AllST.cons (Still.int 9 _ _) (AllST.cons (Still.func AllST.nil AllST.nil) AllST.nil)))) (AllST.cons (Still.agg (AllST.cons (Still.int 9 _ _) (AllST.cons (Still.int 9 _ _) (AllST.cons (Still.func AllST.nil AllST.nil) AllST.nil)))) (AllST.cons (Still.agg (AllST.cons (Still.int 9 _ _) (AllST.cons (Still.int 9 _ _) (AllST.cons (Still.func AllST.nil AllST.nil) AllST.nil)))) (AllST.cons (Still.agg (AllST.cons (Still.int 9 _ _) (AllST.cons (Still.int 9 _ _) (AllST.cons (Still.func AllST.nil AllST.nil) AllST.nil)))) (AllST.cons (Still.agg (AllST.cons (Still.int 9 _ _) (AllST.cons (Still.int 9 _ _) (AllST.cons (Still.func AllST.nil AllST.nil) AllST.nil)))) (AllST.cons (Still.agg (AllST.cons (Still.int 9 _ _) (AllST.cons (Still.int 9 _ _) (AllST.cons (Still.nilfunc 9) AllST.nil)))) AllST.nil)))))))) (And.intro (lk_hit1 mt154 [[109, 97, 107, 101], [116, 101, 115, 116], [117, 115, 101], [102, 97, 105, 108], [114, 101, 99, 97, 108, 108], [117, 110, 100, 111]] (findS_hit c10) rfl) (And.intro (call_H [] [none, none, none, none, some 0] (record_Register_copied_h1_ok a0_ a1_ e_r11) .nil rfl rfl (.old rfl rfl (.old rfl rfl (.old rfl rfl (.old rfl rfl (.new rfl rfl (.same fa) rfl .nil))))) (RenL.cons (.same (NoRef.agg (AllN.cons (NoRef.int _ _) (AllN.cons (vl_noRef encSlingT _) AllN.nil)))) RenL.nil) (.aggL (RenL.cons (.same (NoRef.int _ _)) (RenL.cons (.slice rfl) RenL.nil))) rfl) (And.intro (call_H [some 4] [none, none, none, none, none] (record_made_h1_ok N a0_ l12 a2_ a3_ a4_ a5_ a6_ e_r13) (.keep rfl (.same fa) rfl rfl .nil) rfl rfl (.old rfl rfl (.old rfl rfl (.old rfl rfl (.old rfl rfl (.dead .nil))))) (RenL.cons (.aggL (RenL.cons (.same (NoRef.int _ _)) (RenL.cons (.slice rfl) RenL.nil))) (RenL.cons (.same (NoRef.agg (AllN.cons (NoRef.int _ _) (AllN.cons (NoRef.str _) (AllN.cons (vl_noRef encS _) (AllN.cons (vl_noRef encI _) (AllN.cons (NoRef.str _) AllN.nil))))))) RenL.nil)) (.same (NoRef.tuple (AllN.cons (NoRef.agg (AllN.cons (NoRef.int _ _) (AllN.cons (vl_noRef encSlingT _) AllN.nil))) (AllN.cons (NoRef.int _ _) AllN.nil)))) rfl) trivial))))) (Sub.norm [] [some 2, some 5] (by rw [hB]; rfl) rfl (.keep (.ptr rfl) (.keep (.same (NoRef.int _ _)) (.keep (.ptr rfl) (.keep (.same (NoRef.int _ _)) .nil)))) (.keep rfl (.same (AllN.cons (NoRef.int _ _) (AllN.cons (NoRef.nilslice) AllN.nil))) rfl rfl (.keep rfl (.same (AllN.cons (NoRef.int _ _) (AllN.cons (vl_noRef encSlingT _) AllN.nil))) rfl rfl .nil)))
      · rw [if_neg (by rw [c10]; exact Bool.false_ne_true)] at g_v47
        rcases Bool.eq_false_or_eq_true (a3_ == [116, 101, 115, 116]) with c16 | c16
        · rw [if_pos (c16)] at g_v47
          obtain ⟨l18, e_r17, g_v47⟩ := bnd g_v47
          obtain ⟨⟨l20, e_21⟩, e_r19, g_v47⟩ := bnd g_v47
          try dsimp only at g_v47
          simp only [Option.some.injEq, Prod.mk.injEq] at g_v47
          obtain ⟨rfl, rfl⟩ := g_v47
          exact RegTo.sub (RegTo.ro fol [(0, (.call [] [] fm1)), (3, (.done (.agg [.i 1, .i 2, .func (.func 142) [] []]))), (6, (.callH [] (.agg [.i a0_, .slice 4 0 l18.length l18.length 9]) [.cells [.i a0_, vl encSlingT a1_], .cells [.i a2_, .str a3_, vl encS a4_, vl encI a5_, .str a6_], .cells [.i 0, .nilslice], .cells [.i r5, .i r6], .cells (l18.flatMap encSlingT.c)])), (8, (.callH [4] (.tuple [.agg [.i a0_, .slice 4 0 l20.length l20.length 9], .i e_21]) [.cells [.i a0_, vl encSlingT a1_], .cells [.i a2_, .str a3_, vl encS a4_, vl encI a5_, .str a6_], .cells [.i 0, .nilslice], .cells [.i r5, .i r6], .cells (l20.flatMap encSlingT.c)]))] [(4, .ptr 2 0), (6, .i x4), (8, .ptr 5 0), (9, .i e_21)] [.cells [.i a0_, vl encSlingT a1_], .cells [.i a2_, .str a3_, vl encS a4_, vl encI a5_, .str a6_], .cells [.i 0, .nilslice], .cells [.i r5, .i r6], .cells (l20.flatMap encSlingT.c), .cells [.i a0_, .slice 4 0 l20.length l20.length 9]] [.call 85 [] [.cells [.i a0_, vl encSlingT a1_], .cells [.i a2_, .str a3_, vl encS a4_, vl encI a5_, .str a6_], .cells [.i 0, .nilslice], .cells [.i r5, .i r6]] [] [] fm1, .done (aLookup Tryz.prog 154 (fm1) (.str a3_) false) (.agg [.i 1, .i 2, .func (.func 142) [] []]), .callH 82 [.agg [.i a0_, vl encSlingT a1_]] [.cells [.i a0_, vl encSlingT a1_], .cells [.i a2_, .str a3_, vl encS a4_, vl encI a5_, .str a6_], .cells [.i 0, .nilslice], .cells [.i r5, .i r6]] [] (.agg [.i a0_, .slice 4 0 l18.length l18.length 9]) [.cells [.i a0_, vl encSlingT a1_], .cells [.i a2_, .str a3_, vl encS a4_, vl encI a5_, .str a6_], .cells [.i 0, .nilslice], .cells [.i r5, .i r6], .cells (l18.flatMap encSlingT.c)], .callH 142 [.agg [.i a0_, .slice 4 0 l18.length l18.length 9], .agg [.i a2_, .str a3_, vl encS a4_, vl encI a5_, .str a6_]] [.cells [.i a0_, vl encSlingT a1_], .cells [.i a2_, .str a3_, vl encS a4_, vl encI a5_, .str a6_], .cells [.i 0, .nilslice], .cells [.i r5, .i r6], .cells (l18.flatMap encSlingT.c)] [4] (.tuple [.agg [.i a0_, .slice 4 0 l20.length l20.length 9], .i e_21]) [.cells [.i a0_, vl encSlingT a1_], .cells [.i a2_, .str a3_, vl encS a4_, vl encI a5_, .str a6_], .cells [.i 0, .nilslice], .cells [.i r5, .i r6], .cells (l20.flatMap encSlingT.c)]] (And.intro (call_val AllST.nil (record_kinds_ok e_r9) (Still.fmap (AllST.cons (Still.str 10 _) (AllST.cons (Still.str 10 _) (AllST.cons (Still.str 10 _) (AllST.cons (Still.str 10 _) (AllST.cons (Still.str 10 _) (AllST.cons (Still.str 10 _) AllST.nil)))))) (AllST.cons (Still.agg (AllST.cons (Still.int 9 _ _) (AllST.cons (Still.int 9 _ _) (AllST.cons (Still.func AllST.nil AllST.nil) AllST.nil)))) (AllST.cons (Still.agg (AllST.cons (Still.int 9 _ _) (AllST.cons (Still.int 9 _ _) (AllST.cons (Still.func AllST.nil AllST.nil) AllST.nil)))) (AllST.cons (Still.agg (AllST.cons (Still.int 9 _ _) (AllST.cons (Still.int 9 _ _) (AllST.cons (Still.func AllST.nil AllST.nil) AllST.nil)))) (AllST.cons (Still.agg (AllST.cons (Still.int 9 _ _) (AllST.cons (Still.int 9 _ _) (AllST.cons (Still.func AllST.nil AllST.nil) AllST.nil)))) (AllST.cons (Still.agg (AllST.cons (Still.int 9 _ _) (AllST.cons (Still.int 9 _ _) (AllST.cons (Still.func AllST.nil AllST.nil) AllST.nil)))) (AllST.cons (Still.agg (AllST.cons (Still.int 9 _ _) (AllST.cons (Still.int 9 _ _) (AllST.cons (Still.nilfunc 9) AllST.nil)))) AllST.nil)))))))) (And.intro (lk_hit1 mt154 [[109, 97, 107, 101], [116, 101, 115, 116], [117, 115, 101], [102, 97, 105, 108], [114, 101, 99, 97, 108, 108], [117, 110, 100, 111]] (findS_skip c10 (findS_hit c16)) rfl) (And.intro (call_H [] [none, none, none, none, some 0] (record_Register_copied_h1_ok a0_ a1_ e_r17) .nil rfl rfl (.old rfl rfl (.old rfl rfl (.old rfl rfl (.old rfl rfl (.new rfl rfl (.same fa) rfl .nil))))) (RenL.cons (.same (NoRef.agg (AllN.cons (NoRef.int _ _) (AllN.cons (vl_noRef encSlingT _) AllN.nil)))) RenL.nil) (.aggL (RenL.cons (.same (NoRef.int _ _)) (RenL.cons (.slice rfl) RenL.nil))) rfl) (And.intro (call_H [some 4] [none, none, none, none, some 0] (record_tested_h1_ok N a0_ l18 a2_ a3_ a4_ a5_ a6_ e_r19) (.keep rfl (.same fa) rfl rfl .nil) rfl rfl (.old rfl rfl (.old rfl rfl (.old rfl rfl (.old rfl rfl (.back rfl rfl (.same fa) rfl .nil))))) (RenL.cons (.aggL (RenL.cons (.same (NoRef.int _ _)) (RenL.cons (.slice rfl) RenL.nil))) (RenL.cons (.same (NoRef.agg (AllN.cons (NoRef.int _ _) (AllN.cons (NoRef.str _) (AllN.cons (vl_noRef encS _) (AllN.cons (vl_noRef encI _) (AllN.cons (NoRef.str _) AllN.nil))))))) RenL.nil)) (.tupleL (RenL.cons (.aggL (RenL.cons (.same (NoRef.int _ _)) (RenL.cons (.slice rfl) RenL.nil))) (RenL.cons (.same (NoRef.int _ _)) RenL.nil))) rfl) trivial))))) (Sub.norm [4] [some 2, some 5] (by rw [hB]; rfl) rfl (.keep (.ptr rfl) (.keep (.same (NoRef.int _ _)) (.keep (.ptr rfl) (.keep (.same (NoRef.int _ _)) .nil)))) (.keep rfl (.same (AllN.cons (NoRef.int _ _) (AllN.cons (NoRef.nilslice) AllN.nil))) rfl rfl (.keep rfl (.cells (RenL.cons (.same (NoRef.int _ _)) (RenL.cons (.frz (Fz.sl (E := encSlingT) rfl rfl (Nat.le_of_ble_eq_true rfl)) (vl_noRef encSlingT _)) RenL.nil))) rfl rfl .nil)))
        · rw [if_neg (by rw [c16]; exact Bool.false_ne_true)] at g_v47
          rcases Bool.eq_false_or_eq_true (a3_ == [117, 115, 101]) with c22 | c22
          · rw [if_pos (c22)] at g_v47
            obtain ⟨l24, e_r23, g_v47⟩ := bnd g_v47
            obtain ⟨⟨l26, e_27⟩, e_r25, g_v47⟩ := bnd g_v47
            try dsimp only at g_v47
            simp only [Option.some.injEq, Prod.mk.injEq] at g_v47
            obtain ⟨rfl, rfl⟩ := g_v47
            exact RegTo.sub (RegTo.ro fol [(0, (.call [] [] fm1)), (3, (.done (.agg [.i 1, .i 2, .func (.func 143) [] []]))), (6, (.callH [] (.agg [.i a0_, .slice 4 0 l24.length l24.length 9]) [.cells [.i a0_, vl encSlingT a1_], .cells [.i a2_, .str a3_, vl encS a4_, vl encI a5_, .str a6_], .cells [.i 0, .nilslice], .cells [.i r5, .i r6], .cells (l24.flatMap encSlingT.c)])), (8, (.callH [4] (.tuple [.agg [.i a0_, .slice 4 0 l26.length l26.length 9], .i e_27]) [.cells [.i a0_, vl encSlingT a1_], .cells [.i a2_, .str a3_, vl encS a4_, vl encI a5_, .str a6_], .cells [.i 0, .nilslice], .cells [.i r5, .i r6], .cells (l26.flatMap encSlingT.c)]))] [(4, .ptr 2 0), (6, .i x4), (8, .ptr 5 0), (9, .i e_27)] [.cells [.i a0_, vl encSlingT a1_], .cells [.i a2_, .str a3_, vl encS a4_, vl encI a5_, .str a6_], .cells [.i 0, .nilslice], .cells [.i r5, .i r6], .cells (l26.flatMap encSlingT.c), .cells [.i a0_, .slice 4 0 l26.length l26.length 9]] [.call 85 [] [.cells [.i a0_, vl encSlingT a1_], .cells [.i a2_, .str a3_, vl encS a4_, vl encI a5_, .str a6_], .cells [.i 0, .nilslice], .cells [.i r5, .i r6]] [] [] fm1, .done (aLookup Tryz.prog 154 (fm1) (.str a3_) false) (.agg [.i 1, .i 2, .func (.func 143) [] []]), .callH 82 [.agg [.i a0_, vl encSlingT a1_]] [.cells [.i a0_, vl encSlingT a1_], .cells [.i a2_, .str a3_, vl encS a4_, vl encI a5_, .str a6_], .cells [.i 0, .nilslice], .cells [.i r5, .i r6]] [] (.agg [.i a0_, .slice 4 0 l24.length l24.length 9]) [.cells [.i a0_, vl encSlingT a1_], .cells [.i a2_, .str a3_, vl encS a4_, vl encI a5_, .str a6_], .cells [.i 0, .nilslice], .cells [.i r5, .i r6], .cells (l24.flatMap encSlingT.c)], .callH 143 [.agg [.i a0_, .slice 4 0 l24.length l24.length 9], .agg [.i a2_, .str a3_, vl encS a4_, vl encI a5_, .str a6_]] [.cells [.i a0_, vl encSlingT a1_], .cells [.i a2_, .str a3_, vl encS a4_, vl encI a5_, .str a6_], .cells [.i 0, .nilslice], .cells [.i r5, .i r6], .cells (l24.flatMap encSlingT.c)] [4] (.tuple [.agg [.i a0_, .slice 4 0 l26.length l26.length 9], .i e_27]) [.cells [.i a0_, vl encSlingT a1_], .cells [.i a2_, .str a3_, vl encS a4_, vl encI a5_, .str a6_], .cells [.i 0, .nilslice], .cells [.i r5, .i r6], .cells (l26.flatMap encSlingT.c)]] (And.intro (call_val AllST.nil (record_kinds_ok e_r9) (Still.fmap (AllST.cons (Still.str 10 _) (AllST.cons (Still.str 10 _) (AllST.cons (Still.str 10 _) (AllST.cons (Still.str 10 _) (AllST.cons (Still.str 10 _) (AllST.cons (Still.str 10 _) AllST.nil)))))) (AllST.cons (Still.agg (AllST.cons (Still.int 9 _ _) (AllST.cons (Still.int 9 _ _) (AllST.cons (Still.func AllST.nil AllST.nil) AllST.nil)))) (AllST.cons (Still.agg (AllST.cons (Still.int 9 _ _) (AllST.cons (Still.int 9 _ _) (AllST.cons (Still.func AllST.nil AllST.nil) AllST.nil)))) (AllST.cons (Still.agg (AllST.cons (Still.int 9 _ _) (AllST.cons (Still.int 9 _ _) (AllST.cons (Still.func AllST.nil AllST.nil) AllST.nil)))) (AllST.cons (Still.agg (AllST.cons (Still.int 9 _ _) (AllST.cons (Still.int 9 _ _) (AllST.cons (Still.func AllST.nil AllST.nil) AllST.nil)))) (AllST.cons (Still.agg (AllST.cons (Still.int 9 _ _) (AllST.cons (Still.int 9 _ _) (AllST.cons (Still.func AllST.nil AllST.nil) AllST.nil)))) (AllST.cons (Still.agg (AllST.cons (Still.int 9 _ _) (AllST.cons (Still.int 9 _ _) (AllST.cons (Still.nilfunc 9) AllST.nil)))) AllST.nil)))))))) (And.intro (lk_hit1 mt154 [[109, 97, 107, 101], [116, 101, 115, 116], [117, 115, 101], [102, 97, 105, 108], [114, 101, 99, 97, 108, 108], [117, 110, 100, 111]] (findS_skip c10 (findS_skip c16 (findS_hit c22))) rfl) (And.intro (call_H [] [none, none, none, none, some 0] (record_Register_copied_h1_ok a0_ a1_ e_r23) .nil rfl rfl (.old rfl rfl (.old rfl rfl (.old rfl rfl (.old rfl rfl (.new rfl rfl (.same fa) rfl .nil))))) (RenL.cons (.same (NoRef.agg (AllN.cons (NoRef.int _ _) (AllN.cons (vl_noRef encSlingT _) AllN.nil)))) RenL.nil) (.aggL (RenL.cons (.same (NoRef.int _ _)) (RenL.cons (.slice rfl) RenL.nil))) rfl) (And.intro (call_H [some 4] [none, none, none, none, some 0] (record_used_h1_ok N a0_ l24 a2_ a3_ a4_ a5_ a6_ e_r25) (.keep rfl (.same fa) rfl rfl .nil) rfl rfl (.old rfl rfl (.old rfl rfl (.old rfl rfl (.old rfl rfl (.back rfl rfl (.same fa) rfl .nil))))) (RenL.cons (.aggL (RenL.cons (.same (NoRef.int _ _)) (RenL.cons (.slice rfl) RenL.nil))) (RenL.cons (.same (NoRef.agg (AllN.cons (NoRef.int _ _) (AllN.cons (NoRef.str _) (AllN.cons (vl_noRef encS _) (AllN.cons (vl_noRef encI _) (AllN.cons (NoRef.str _) AllN.nil))))))) RenL.nil)) (.tupleL (RenL.cons (.aggL (RenL.cons (.same (NoRef.int _ _)) (RenL.cons (.slice rfl) RenL.nil))) (RenL.cons (.same (NoRef.int _ _)) RenL.nil))) rfl) trivial))))) (Sub.norm [4] [some 2, some 5] (by rw [hB]; rfl) rfl (.keep (.ptr rfl) (.keep (.same (NoRef.int _ _)) (.keep (.ptr rfl) (.keep (.same (NoRef.int _ _)) .nil)))) (.keep rfl (.same (AllN.cons (NoRef.int _ _) (AllN.cons (NoRef.nilslice) AllN.nil))) rfl rfl (.keep rfl (.cells (RenL.cons (.same (NoRef.int _ _)) (RenL.cons (.frz (Fz.sl (E := encSlingT) rfl rfl (Nat.le_of_ble_eq_true rfl)) (vl_noRef encSlingT _)) RenL.nil))) rfl rfl .nil)))
          · rw [if_neg (by rw [c22]; exact Bool.false_ne_true)] at g_v47
            rcases Bool.eq_false_or_eq_true (a3_ == [102, 97, 105, 108]) with c28 | c28
            · rw [if_pos (c28)] at g_v47
              obtain ⟨l30, e_r29, g_v47⟩ := bnd g_v47
              obtain ⟨⟨l32, e_33⟩, e_r31, g_v47⟩ := bnd g_v47
              try dsimp only at g_v47
              simp only [Option.some.injEq, Prod.mk.injEq] at g_v47
              obtain ⟨rfl, rfl⟩ := g_v47
              exact RegTo.sub (RegTo.ro fol [(0, (.call [] [] fm1)), (3, (.done (.agg [.i 1, .i 1, .func (.func 144) [] []]))), (6, (.callH [] (.agg [.i a0_, .slice 4 0 l30.length l30.length 9]) [.cells [.i a0_, vl encSlingT a1_], .cells [.i a2_, .str a3_, vl encS a4_, vl encI a5_, .str a6_], .cells [.i 0, .nilslice], .cells [.i r5, .i r6], .cells (l30.flatMap encSlingT.c)])), (8, (.callH [4] (.tuple [.agg [.i a0_, .slice 4 0 l32.length l32.length 9], .i e_33]) [.cells [.i a0_, vl encSlingT a1_], .cells [.i a2_, .str a3_, vl encS a4_, vl encI a5_, .str a6_], .cells [.i 0, .nilslice], .cells [.i r5, .i r6], .cells (l32.flatMap encSlingT.c)]))] [(4, .ptr 2 0), (6, .i x4), (8, .ptr 5 0), (9, .i e_33)] [.cells [.i a0_, vl encSlingT a1_], .cells [.i a2_, .str a3_, vl encS a4_, vl encI a5_, .str a6_], .cells [.i 0, .nilslice], .cells [.i r5, .i r6], .cells (l32.flatMap encSlingT.c), .cells [.i a0_, .slice 4 0 l32.length l32.length 9]] [.call 85 [] [.cells [.i a0_, vl encSlingT a1_], .cells [.i a2_, .str a3_, vl encS a4_, vl encI a5_, .str a6_], .cells [.i 0, .nilslice], .cells [.i r5, .i r6]] [] [] fm1, .done (aLookup Tryz.prog 154 (fm1) (.str a3_) false) (.agg [.i 1, .i 1, .func (.func 144) [] []]), .callH 82 [.agg [.i a0_, vl encSlingT a1_]] [.cells [.i a0_, vl encSlingT a1_], .cells [.i a2_, .str a3_, vl encS a4_, vl encI a5_, .str a6_], .cells [.i 0, .nilslice], .cells [.i r5, .i r6]] [] (.agg [.i a0_, .slice 4 0 l30.length l30.length 9]) [.cells [.i a0_, vl encSlingT a1_], .cells [.i a2_, .str a3_, vl encS a4_, vl encI a5_, .str a6_], .cells [.i 0, .nilslice], .cells [.i r5, .i r6], .cells (l30.flatMap encSlingT.c)], .callH 144 [.agg [.i a0_, .slice 4 0 l30.length l30.length 9], .agg [.i a2_, .str a3_, vl encS a4_, vl encI a5_, .str a6_]] [.cells [.i a0_, vl encSlingT a1_], .cells [.i a2_, .str a3_, vl encS a4_, vl encI a5_, .str a6_], .cells [.i 0, .nilslice], .cells [.i r5, .i r6], .cells (l30.flatMap encSlingT.c)] [4] (.tuple [.agg [.i a0_, .slice 4 0 l32.length l32.length 9], .i e_33]) [.cells [.i a0_, vl encSlingT a1_], .cells [.i a2_, .str a3_, vl encS a4_, vl encI a5_, .str a6_], .cells [.i 0, .nilslice], .cells [.i r5, .i r6], .cells (l32.flatMap encSlingT.c)]] (And.intro (call_val AllST.nil (record_kinds_ok e_r9) (Still.fmap (AllST.cons (Still.str 10 _) (AllST.cons (Still.str 10 _) (AllST.cons (Still.str 10 _) (AllST.cons (Still.str 10 _) (AllST.cons (Still.str 10 _) (AllST.cons (Still.str 10 _) AllST.nil)))))) (AllST.cons (Still.agg (AllST.cons (Still.int 9 _ _) (AllST.cons (Still.int 9 _ _) (AllST.cons (Still.func AllST.nil AllST.nil) AllST.nil)))) (AllST.cons (Still.agg (AllST.cons (Still.int 9 _ _) (AllST.cons (Still.int 9 _ _) (AllST.cons (Still.func AllST.nil AllST.nil) AllST.nil)))) (AllST.cons (Still.agg (AllST.cons (Still.int 9 _ _) (AllST.cons (Still.int 9 _ _) (AllST.cons (Still.func AllST.nil AllST.nil) AllST.nil)))) (AllST.cons (Still.agg (AllST.cons (Still.int 9 _ _) (AllST.cons (Still.int 9 _ _) (AllST.cons (Still.func AllST.nil AllST.nil) AllST.nil)))) (AllST.cons (Still.agg (AllST.cons (Still.int 9 _ _) (AllST.cons (Still.int 9 _ _) (AllST.cons (Still.func AllST.nil AllST.nil) AllST.nil)))) (AllST.cons (Still.agg (AllST.cons (Still.int 9 _ _) (AllST.cons (Still.int 9 _ _) (AllST.cons (Still.nilfunc 9) AllST.nil)))) AllST.nil)))))))) (And.intro (lk_hit1 mt154 [[109, 97, 107, 101], [116, 101, 115, 116], [117, 115, 101], [102, 97, 105, 108], [114, 101, 99, 97, 108, 108], [117, 110, 100, 111]] (findS_skip c10 (findS_skip c16 (findS_skip c22 (findS_hit c28)))) rfl) (And.intro (call_H [] [none, none, none, none, some 0] (record_Register_copied_h1_ok a0_ a1_ e_r29) .nil rfl rfl (.old rfl rfl (.old rfl rfl (.old rfl rfl (.old rfl rfl (.new rfl rfl (.same fa) rfl .nil))))) (RenL.cons (.same (NoRef.agg (AllN.cons (NoRef.int _ _) (AllN.cons (vl_noRef encSlingT _) AllN.nil)))) RenL.nil) (.aggL (RenL.cons (.same (NoRef.int _ _)) (RenL.cons (.slice rfl) RenL.nil))) rfl) (And.intro (call_H [some 4] [none, none, none, none, some 0] (record_failed_h1_ok N a0_ l30 a2_ a3_ a4_ a5_ a6_ e_r31) (.keep rfl (.same fa) rfl rfl .nil) rfl rfl (.old rfl rfl (.old rfl rfl (.old rfl rfl (.old rfl rfl (.back rfl rfl (.same fa) rfl .nil))))) (RenL.cons (.aggL (RenL.cons (.same (NoRef.int _ _)) (RenL.cons (.slice rfl) RenL.nil))) (RenL.cons (.same (NoRef.agg (AllN.cons (NoRef.int _ _) (AllN.cons (NoRef.str _) (AllN.cons (vl_noRef encS _) (AllN.cons (vl_noRef encI _) (AllN.cons (NoRef.str _) AllN.nil))))))) RenL.nil)) (.tupleL (RenL.cons (.aggL (RenL.cons (.same (NoRef.int _ _)) (RenL.cons (.slice rfl) RenL.nil))) (RenL.cons (.same (NoRef.int _ _)) RenL.nil))) rfl) trivial))))) (Sub.norm [4] [some 2, some 5] (by rw [hB]; rfl) rfl (.keep (.ptr rfl) (.keep (.same (NoRef.int _ _)) (.keep (.ptr rfl) (.keep (.same (NoRef.int _ _)) .nil)))) (.keep rfl (.same (AllN.cons (NoRef.int _ _) (AllN.cons (NoRef.nilslice) AllN.nil))) rfl rfl (.keep rfl (.cells (RenL.cons (.same (NoRef.int _ _)) (RenL.cons (.frz (Fz.sl (E := encSlingT) rfl rfl (Nat.le_of_ble_eq_true rfl)) (vl_noRef encSlingT _)) RenL.nil))) rfl rfl .nil)))
            · rw [if_neg (by rw [c28]; exact Bool.false_ne_true)] at g_v47
              rcases Bool.eq_false_or_eq_true (a3_ == [114, 101, 99, 97, 108, 108]) with c34 | c34
              · rw [if_pos (c34)] at g_v47
                obtain ⟨l36, e_r35, g_v47⟩ := bnd g_v47
                obtain ⟨⟨l38, e_39⟩, e_r37, g_v47⟩ := bnd g_v47
                try dsimp only at g_v47
                simp only [Option.some.injEq, Prod.mk.injEq] at g_v47
                obtain ⟨rfl, rfl⟩ := g_v47
                exact RegTo.sub (RegTo.ro fol [(0, (.call [] [] fm1)), (3, (.done (.agg [.i 1, .i 1, .func (.func 145) [] []]))), (6, (.callH [] (.agg [.i a0_, .slice 4 0 l36.length l36.length 9]) [.cells [.i a0_, vl encSlingT a1_], .cells [.i a2_, .str a3_, vl encS a4_, vl encI a5_, .str a6_], .cells [.i 0, .nilslice], .cells [.i r5, .i r6], .cells (l36.flatMap encSlingT.c)])), (8, (.callH [4] (.tuple [.agg [.i a0_, .slice 4 0 l38.length l38.length 9], .i e_39]) [.cells [.i a0_, vl encSlingT a1_], .cells [.i a2_, .str a3_, vl encS a4_, vl encI a5_, .str a6_], .cells [.i 0, .nilslice], .cells [.i r5, .i r6], .cells (l38.flatMap encSlingT.c)]))] [(4, .ptr 2 0), (6, .i x4), (8, .ptr 5 0), (9, .i e_39)] [.cells [.i a0_, vl encSlingT a1_], .cells [.i a2_, .str a3_, vl encS a4_, vl encI a5_, .str a6_], .cells [.i 0, .nilslice], .cells [.i r5, .i r6], .cells (l38.flatMap encSlingT.c), .cells [.i a0_, .slice 4 0 l38.length l38.length 9]] [.call 85 [] [.cells [.i a0_, vl encSlingT a1_], .cells [.i a2_, .str a3_, vl encS a4_, vl encI a5_, .str a6_], .cells [.i 0, .nilslice], .cells [.i r5, .i r6]] [] [] fm1, .done (aLookup Tryz.prog 154 (fm1) (.str a3_) false) (.agg [.i 1, .i 1, .func (.func 145) [] []]), .callH 82 [.agg [.i a0_, vl encSlingT a1_]] [.cells [.i a0_, vl encSlingT a1_], .cells [.i a2_, .str a3_, vl encS a4_, vl encI a5_, .str a6_], .cells [.i 0, .nilslice], .cells [.i r5, .i r6]] [] (.agg [.i a0_, .slice 4 0 l36.length l36.length 9]) [.cells [.i a0_, vl encSlingT a1_], .cells [.i a2_, .str a3_, vl encS a4_, vl encI a5_, .str a6_], .cells [.i 0, .nilslice], .cells [.i r5, .i r6], .cells (l36.flatMap encSlingT.c)], .callH 145 [.agg [.i a0_, .slice 4 0 l36.length l36.length 9], .agg [.i a2_, .str a3_, vl encS a4_, vl encI a5_, .str a6_]] [.cells [.i a0_, vl encSlingT a1_], .cells [.i a2_, .str a3_, vl encS a4_, vl encI a5_, .str a6_], .cells [.i 0, .nilslice], .cells [.i r5, .i r6], .cells (l36.flatMap encSlingT.c)] [4] (.tuple [.agg [.i a0_, .slice 4 0 l38.length l38.length 9], .i e_39]) [.cells [.i a0_, vl encSlingT a1_], .cells [.i a2_, .str a3_, vl encS a4_, vl encI a5_, .str a6_], .cells [.i 0, .nilslice], .cells [.i r5, .i r6], .cells (l38.flatMap encSlingT.c)]] (And.intro (call_val AllST.nil (record_kinds_ok e_r9) (Still.fmap (AllST.cons (Still.str 10 _) (AllST.cons (Still.str 10 _) (AllST.cons (Still.str 10 _) (AllST.cons (Still.str 10 _) (AllST.cons (Still.str 10 _) (AllST.cons (Still.str 10 _) AllST.nil)))))) (AllST.cons (Still.agg (AllST.cons (Still.int 9 _ _) (AllST.cons (Still.int 9 _ _) (AllST.cons (Still.func AllST.nil AllST.nil) AllST.nil)))) (AllST.cons (Still.agg (AllST.cons (Still.int 9 _ _) (AllST.cons (Still.int 9 _ _) (AllST.cons (Still.func AllST.nil AllST.nil) AllST.nil)))) (AllST.cons (Still.agg (AllST.cons (Still.int 9 _ _) (AllST.cons (Still.int 9 _ _) (AllST.cons (Still.func AllST.nil AllST.nil) AllST.nil)))) (AllST.cons (Still.agg (AllST.cons (Still.int 9 _ _) (AllST.cons (Still.int 9 _ _) (AllST.cons (Still.func AllST.nil AllST.nil) AllST.nil)))) (AllST.cons (Still.agg (AllST.cons (Still.int 9 _ _) (AllST.cons (Still.int 9 _ _) (AllST.cons (Still.func AllST.nil AllST.nil) AllST.nil)))) (AllST.cons (Still.agg (AllST.cons (Still.int 9 _ _) (AllST.cons (Still.int 9 _ _) (AllST.cons (Still.nilfunc 9) AllST.nil)))) AllST.nil)))))))) (And.intro (lk_hit1 mt154 [[109, 97, 107, 101], [116, 101, 115, 116], [117, 115, 101], [102, 97, 105, 108], [114, 101, 99, 97, 108, 108], [117, 110, 100, 111]] (findS_skip c10 (findS_skip c16 (findS_skip c22 (findS_skip c28 (findS_hit c34))))) rfl) (And.intro (call_H [] [none, none, none, none, some 0] (record_Register_copied_h1_ok a0_ a1_ e_r35) .nil rfl rfl (.old rfl rfl (.old rfl rfl (.old rfl rfl (.old rfl rfl (.new rfl rfl (.same fa) rfl .nil))))) (RenL.cons (.same (NoRef.agg (AllN.cons (NoRef.int _ _) (AllN.cons (vl_noRef encSlingT _) AllN.nil)))) RenL.nil) (.aggL (RenL.cons (.same (NoRef.int _ _)) (RenL.cons (.slice rfl) RenL.nil))) rfl) (And.intro (call_H [some 4] [none, none, none, none, some 0] (record_recalled_h1_ok N a0_ l36 a2_ a3_ a4_ a5_ a6_ e_r37) (.keep rfl (.same fa) rfl rfl .nil) rfl rfl (.old rfl rfl (.old rfl rfl (.old rfl rfl (.old rfl rfl (.back rfl rfl (.same fa) rfl .nil))))) (RenL.cons (.aggL (RenL.cons (.same (NoRef.int _ _)) (RenL.cons (.slice rfl) RenL.nil))) (RenL.cons (.same (NoRef.agg (AllN.cons (NoRef.int _ _) (AllN.cons (NoRef.str _) (AllN.cons (vl_noRef encS _) (AllN.cons (vl_noRef encI _) (AllN.cons (NoRef.str _) AllN.nil))))))) RenL.nil)) (.tupleL (RenL.cons (.aggL (RenL.cons (.same (NoRef.int _ _)) (RenL.cons (.slice rfl) RenL.nil))) (RenL.cons (.same (NoRef.int _ _)) RenL.nil))) rfl) trivial))))) (Sub.norm [4] [some 2, some 5] (by rw [hB]; rfl) rfl (.keep (.ptr rfl) (.keep (.same (NoRef.int _ _)) (.keep (.ptr rfl) (.keep (.same (NoRef.int _ _)) .nil)))) (.keep rfl (.same (AllN.cons (NoRef.int _ _) (AllN.cons (NoRef.nilslice) AllN.nil))) rfl rfl (.keep rfl (.cells (RenL.cons (.same (NoRef.int _ _)) (RenL.cons (.frz (Fz.sl (E := encSlingT) rfl rfl (Nat.le_of_ble_eq_true rfl)) (vl_noRef encSlingT _)) RenL.nil))) rfl rfl .nil)))
              · rw [if_neg (by rw [c34]; exact Bool.false_ne_true)] at g_v47
                rcases Bool.eq_false_or_eq_true (a3_ == [117, 110, 100, 111]) with c40 | c40
                · rw [if_pos (c40)] at g_v47
                  cases g_v47
                · rw [if_neg (by rw [c40]; exact Bool.false_ne_true)] at g_v47
                  cases g_v47
    intro _ hsub
    try dsimp only at h
    refine Goes.sub hsub ?_
    refine sq ?_
    refine Goes.rg fol [(4, .ptr 0 0), (8, .ptr 1 0), (9, .i bad_46)] [.cells [.i 0, .nilslice], .cells [.i x4, vl encSlingT l45]] ?_
    refine sq ?_
    refine Goes.rg fol [(4, .ptr 0 0), (5, .i bad_46)] [.cells [.i x4, vl encSlingT l45], .cells [.i x4, vl encSlingT l45]] ?_
    refine Goes.ret ?_
    simp only [Option.some.injEq, Prod.mk.injEq] at h
    obtain ⟨rfl, rfl, rfl⟩ := h
    exact (Goes.retH (xs := [.agg [.i x4, vl encSlingT l45], .i bad_46]) (by kernel_rfl) (Sub.norm [] [] (by rw [hB]; rfl) rfl (.keep (.tupleL (RenL.cons (.aggL (RenL.cons (.same (NoRef.int _ _)) (RenL.cons (.same (vl_noRef encSlingT _)) RenL.nil))) (RenL.cons (.same (NoRef.int _ _)) RenL.nil))) .nil) .nil))
def record_story_accept_h1 (N : Nat) (a0_ : List EventT) (a1_ : Option (List StateT)) (a2_ : Int) (a3_ : Str) (a4_ : List Str) (a5_ : List Int) (a6_ : Str) : Option ((List EventT) × (Option (List StateT)) × Int) :=
  if (!decide (a2_ = (w64 ((a0_.length : Int) + 1)))) = true then
  some (a0_, a1_, 11)
  else
  if (a3_ == [117, 110, 100, 111]) = true then
  ((match a1_ with
  | none =>
  some ((none : Option (List StateT)), decide (0 = 0))
  | some l6 =>
  some ((some l6), decide ((l6.length : Int) = 0))) : Option ((Option (List StateT)) × Bool)).bind fun (o7, b8) =>
  if b8 = true then
  some (a0_, o7, 12)
  else
  ((match o7 with
  | none =>
  (cut ([] : List StateT) 0 (w64 (0 - 1))).bind fun s12 =>
  some (none : Option (List StateT))
  | some l11 =>
  (cut l11 0 (w64 ((l11.length : Int) - 1))).bind fun l13 =>
  some (some l13)) : Option (Option (List StateT))).bind fun o14 =>
  (record_copiedEvent (⟨a2_, a3_, a4_, a5_, a6_⟩ : EventT)).bind fun r16 =>
  (app 88 a0_ [r16]).bind fun l17 =>
  some (l17, o14, 0)
  else
  (record_story_register_h1 a0_ a1_).bind fun (o19, n20, l21) =>
  (record_Register_after_h1 N n20 l21 a2_ a3_ a4_ a5_ a6_).bind fun (n23, l24, e_25) =>
  if (!decide (e_25 = 0)) = true then
  some (a0_, o19, e_25)
  else
  ((match o19 with
  | none =>
  some ([(⟨a2_, (⟨n23, l24⟩ : RegisterT)⟩ : StateT)] : List StateT)
  | some l27 =>
  (app 40 l27 [(⟨a2_, (⟨n23, l24⟩ : RegisterT)⟩ : StateT)]).bind fun l28 =>
  some l28) : Option (List StateT)).bind fun l29 =>
  (record_copiedEvent (⟨a2_, a3_, a4_, a5_, a6_⟩ : EventT)).bind fun r31 =>
  (app 88 a0_ [r31]).bind fun l32 =>
  some (l32, (some l29), 0)
theorem record_story_accept_h1_ok (N : Nat) (a0_ : List EventT) (a1_ : Option (List StateT)) (a2_ : Int) (a3_ : Str) (a4_ : List Str) (a5_ : List Int) (a6_ : Str) {l1 : List EventT} {o2 : Option (List StateT)} {h_3 : Int} (h : record_story_accept_h1 N a0_ a1_ a2_ a3_ a4_ a5_ a6_ = some (l1, o2, h_3)) : CallOK Tryz.prog (.fn 91) [.ptr 0 0, .agg [.i a2_, .str a3_, vl encS a4_, vl encI a5_, .str a6_]] [.cells [.gslice 1 a0_.length 5, hsl 2 3 a1_], .cells (a0_.flatMap encEventT.c), .cells ((hof a1_).flatMap encStateT.c)] (.i h_3) [.cells [.gslice 3 l1.length 5, hsl 4 3 o2], .dead, .dead, .cells (l1.flatMap encEventT.c), .cells ((hof o2).flatMap encStateT.c)] := by
  unfold record_story_accept_h1 at h
  refine Goes.fnH Tryz.func91 rfl rfl (m := 73) rfl (rs := [.tmp 4]) rfl (l := [(0, .ptr 0 0), (1, .agg [.i a2_, .str a3_, vl encS a4_, vl encI a5_, .str a6_])]) rfl ?_
  intro B hB
  refine sq ?_
  refine Goes.rg fol [(0, .ptr 0 0), (3, .ptr 3 0)] [.cells [.gslice 1 a0_.length 5, hsl 2 3 a1_], .cells (a0_.flatMap encEventT.c), .cells ((hof a1_).flatMap encStateT.c), .cells [.i a2_, .str a3_, vl encS a4_, vl encI a5_, .str a6_]] ?_
  refine sq ?_
  refine sq ?_
  refine Goes.rg fol [(0, .ptr 0 0), (3, .ptr 3 0), (15, .bool (!decide (a2_ = (w64 ((a0_.length : Int) + 1)))))] [.cells [.gslice 1 a0_.length 5, hsl 2 3 a1_], .cells (a0_.flatMap encEventT.c), .cells ((hof a1_).flatMap encStateT.c), .cells [.i a2_, .str a3_, vl encS a4_, vl encI a5_, .str a6_]] ?_
  refine Goes.ifB (b := !decide (a2_ = (w64 ((a0_.length : Int) + 1)))) (by kernel_rfl) (fun c4 => ?_) (fun c4 => ?_)
  · rw [if_pos (c4)] at h
    refine sq ?_
    refine Goes.rg fol [(4, .i 11)] [.cells [.gslice 1 a0_.length 5, hsl 2 3 a1_], .cells (a0_.flatMap encEventT.c), .cells ((hof a1_).flatMap encStateT.c), .cells [.i a2_, .str a3_, vl encS a4_, vl encI a5_, .str a6_]] ?_
    refine Goes.ret ?_
    simp only [Option.some.injEq, Prod.mk.injEq] at h
    obtain ⟨rfl, rfl, rfl⟩ := h
    exact (Goes.retH (xs := [.i 11]) (by kernel_rfl) (Sub.norm [] [some 0, some 1, some 2, some 1, some 2] (by rw [hB]; rfl) rfl (.keep (.same (NoRef.int _ _)) .nil) (.keep rfl (.cells (RenL.cons (.gslice rfl) (RenL.cons ((RenV.hs rfl)) RenL.nil))) rfl rfl (.lost (.lost (.keep rfl (.same fa) rfl rfl (.keep rfl (.same fa) rfl rfl .nil)))))))
  · rw [if_neg (by rw [c4]; exact Bool.false_ne_true)] at h
    refine Goes.skip ?_
    refine sq ?_
    refine sq ?_
    refine Goes.rg fol [(0, .ptr 0 0), (3, .ptr 3 0), (18, .bool (a3_ == [117, 110, 100, 111]))] [.cells [.gslice 1 a0_.length 5, hsl 2 3 a1_], .cells (a0_.flatMap encEventT.c), .cells ((hof a1_).flatMap encStateT.c), .cells [.i a2_, .str a3_, vl encS a4_, vl encI a5_, .str a6_]] ?_
    refine Goes.ifB (b := a3_ == [117, 110, 100, 111]) (by kernel_rfl) (fun c5 => ?_) (fun c5 => ?_)
    · rw [if_pos (c5)] at h
      refine sq ?_
      refine sq ?_
      obtain ⟨⟨o7, b8⟩, g_v9, h⟩ := bnd h
      refine Goes.cutS (s' := (ofG 73 [(0, .ptr 0 0), (3, .ptr 3 0), (24, .bool b8)], [.cells [.gslice 1 a0_.length 5, hsl 2 3 o7], .cells (a0_.flatMap encEventT.c), .cells ((hof o7).flatMap encStateT.c), .cells [.i a2_, .str a3_, vl encS a4_, vl encI a5_, .str a6_]])) ?_ ?_
      · rcases a1_ with _ | l6
        · try dsimp only at g_v9
          simp only [Option.some.injEq, Prod.mk.injEq] at g_v9
          obtain ⟨rfl, rfl⟩ := g_v9
          exact RegTo.sub (RegTo.rg fol [(0, .ptr 0 0), (3, .ptr 3 0), (24, .bool (decide (0 = 0)))] [.cells [.gslice 1 a0_.length 5, .nilslice], .cells (a0_.flatMap encEventT.c), .cells ((hof (none : Option (List StateT))).flatMap encStateT.c), .cells [.i a2_, .str a3_, vl encS a4_, vl encI a5_, .str a6_]]) (Sub.norm [] [some 0, some 1, some 2, some 3] (by rw [hB]; rfl) rfl (.keep (.ptr rfl) (.keep (.ptr rfl) (.keep (.same (NoRef.bool _)) .nil))) (.keep rfl (.cells (RenL.cons (.gslice rfl) (RenL.cons (RenV.hs0) RenL.nil))) rfl rfl (.keep rfl (.same fa) rfl rfl (.keep rfl (.same fa) rfl rfl (.keep rfl (.same (AllN.cons (NoRef.int _ _) (AllN.cons (NoRef.str _) (AllN.cons (vl_noRef encS _) (AllN.cons (vl_noRef encI _) (AllN.cons (NoRef.str _) AllN.nil)))))) rfl rfl .nil)))))
        · try dsimp only at g_v9
          simp only [Option.some.injEq, Prod.mk.injEq] at g_v9
          obtain ⟨rfl, rfl⟩ := g_v9
          exact RegTo.sub (RegTo.rg fol [(0, .ptr 0 0), (3, .ptr 3 0), (24, .bool (decide ((l6.length : Int) = 0)))] [.cells [.gslice 1 a0_.length 5, .oslice 2 l6.length 3], .cells (a0_.flatMap encEventT.c), .cells (l6.flatMap encStateT.c), .cells [.i a2_, .str a3_, vl encS a4_, vl encI a5_, .str a6_]]) (Sub.norm [] [some 0, some 1, some 2, some 3] (by rw [hB]; rfl) rfl (.keep (.ptr rfl) (.keep (.ptr rfl) (.keep (.same (NoRef.bool _)) .nil))) (.keep rfl (.cells (RenL.cons (.gslice rfl) (RenL.cons ((RenV.hs1 rfl)) RenL.nil))) rfl rfl (.keep rfl (.same fa) rfl rfl (.keep rfl (.same fa) rfl rfl (.keep rfl (.same (AllN.cons (NoRef.int _ _) (AllN.cons (NoRef.str _) (AllN.cons (vl_noRef encS _) (AllN.cons (vl_noRef encI _) (AllN.cons (NoRef.str _) AllN.nil)))))) rfl rfl .nil)))))
      intro _ hsub
      try dsimp only at h
      refine Goes.sub hsub ?_
      refine Goes.ifB (b := b8) (by kernel_rfl) (fun c10 => ?_) (fun c10 => ?_)
      · rw [if_pos (c10)] at h
        refine sq ?_
        refine Goes.rg fol [(4, .i 12)] [.cells [.gslice 1 a0_.length 5, hsl 2 3 o7], .cells (a0_.flatMap encEventT.c), .cells ((hof o7).flatMap encStateT.c), .cells [.i a2_, .str a3_, vl encS a4_, vl encI a5_, .str a6_]] ?_
        refine Goes.ret ?_
        simp only [Option.some.injEq, Prod.mk.injEq] at h
        obtain ⟨rfl, rfl, rfl⟩ := h
        exact (Goes.retH (xs := [.i 12]) (by kernel_rfl) (Sub.norm [] [some 0, some 1, some 2, some 1, some 2] (by rw [hB]; rfl) rfl (.keep (.same (NoRef.int _ _)) .nil) (.keep rfl (.cells (RenL.cons (.gslice rfl) (RenL.cons ((RenV.hs rfl)) RenL.nil))) rfl rfl (.lost (.lost (.keep rfl (.same fa) rfl rfl (.keep rfl (.same fa) rfl rfl .nil)))))))
      · rw [if_neg (by rw [c10]; exact Bool.false_ne_true)] at h
        refine Goes.skip ?_
        obtain ⟨o14, g_v15, h⟩ := bnd h
        refine Goes.cutS (s' := (ofG 73 [(0, .ptr 0 0), (3, .ptr 3 0)], [.cells [.gslice 1 a0_.length 5, hsl 2 3 o14], .cells (a0_.flatMap encEventT.c), .cells ((hof o14).flatMap encStateT.c), .cells [.i a2_, .str a3_, vl encS a4_, vl encI a5_, .str a6_]])) ?_ ?_
        · rcases o7 with _ | l11
          · try dsimp only at g_v15
            obtain ⟨s12, e_s12, g_v15⟩ := bnd g_v15
            obtain rfl := Option.some.inj g_v15
            exact RegTo.sub (RegTo.ro fol [(11, (.done .nilslice))] [(0, .ptr 0 0), (3, .ptr 3 0)] [.cells [.gslice 1 a0_.length 5, .nilslice], .cells (a0_.flatMap encEventT.c), .cells ((hof (none : Option (List StateT))).flatMap encStateT.c), .cells [.i a2_, .str a3_, vl encS a4_, vl encI a5_, .str a6_]] [.done (.opt (aSlice Tryz.prog 163 .nilslice none (some (.i (w64 (0 - 1)))) none)) .nilslice] (And.intro (nil_sl (α := StateT) sl163 none (some (w64 (0 - 1))) e_s12) trivial)) (Sub.norm [] [some 0, some 1, some 2, some 3] (by rw [hB]; rfl) rfl (.keep (.ptr rfl) (.keep (.ptr rfl) .nil)) (.keep rfl (.cells (RenL.cons (.gslice rfl) (RenL.cons (RenV.hs0) RenL.nil))) rfl rfl (.keep rfl (.same fa) rfl rfl (.keep rfl (.same fa) rfl rfl (.keep rfl (.same (AllN.cons (NoRef.int _ _) (AllN.cons (NoRef.str _) (AllN.cons (vl_noRef encS _) (AllN.cons (vl_noRef encI _) (AllN.cons (NoRef.str _) AllN.nil)))))) rfl rfl .nil)))))
          · try dsimp only at g_v15
            obtain ⟨l13, e_l13, g_v15⟩ := bnd g_v15
            obtain rfl := Option.some.inj g_v15
            exact RegTo.sub (RegTo.ro fol [(11, (.done (.oslice 2 l13.length 3)))] [(0, .ptr 0 0), (3, .ptr 3 0)] [.cells [.gslice 1 a0_.length 5, .oslice 2 l13.length 3], .cells (a0_.flatMap encEventT.c), .cells (l11.flatMap encStateT.c), .cells [.i a2_, .str a3_, vl encS a4_, vl encI a5_, .str a6_]] [.done (.opt (aSlice Tryz.prog 163 (.oslice 2 l11.length 3) none (some (.i (w64 ((l11.length : Int) - 1)))) none)) (.oslice 2 l13.length 3)] (And.intro (sh_os sl163 e_l13) trivial)) ((show Sub (ofG 73 [(0, .ptr 0 0), (3, .ptr 3 0)], [.cells [.gslice 1 a0_.length 5, .oslice 2 l13.length 3], .cells (a0_.flatMap encEventT.c), .cells (l11.flatMap encStateT.c), .cells [.i a2_, .str a3_, vl encS a4_, vl encI a5_, .str a6_]]) (ofG 73 [(0, .ptr 0 0), (3, .ptr 3 0)], [.cells [.gslice 1 a0_.length 5, .oslice 2 l13.length 3], .cells (a0_.flatMap encEventT.c), .cells (l13.flatMap encStateT.c), .cells [.i a2_, .str a3_, vl encS a4_, vl encI a5_, .str a6_]]) from (Sub.norm [] [some 0, some 1, some 2, some 3] (by rw [hB]; rfl) rfl (.keep (.ptr rfl) (.keep (.ptr rfl) .nil)) (.keep rfl (.cells (RenL.cons (.gslice rfl) (RenL.cons (.oslice rfl) RenL.nil))) rfl rfl (.keep rfl (.same fa) rfl rfl (.keep rfl (RenB.cut e_l13) rfl rfl (.keep rfl (.same (AllN.cons (NoRef.int _ _) (AllN.cons (NoRef.str _) (AllN.cons (vl_noRef encS _) (AllN.cons (vl_noRef encI _) (AllN.cons (NoRef.str _) AllN.nil)))))) rfl rfl .nil)))))).trans (Sub.norm [] [some 0, some 1, some 2, some 3] (by rw [hB]; rfl) rfl (.keep (.ptr rfl) (.keep (.ptr rfl) .nil)) (.keep rfl (.cells (RenL.cons (.gslice rfl) (RenL.cons ((RenV.hs1 rfl)) RenL.nil))) rfl rfl (.keep rfl (.same fa) rfl rfl (.keep rfl (.same fa) rfl rfl (.keep rfl (.same (AllN.cons (NoRef.int _ _) (AllN.cons (NoRef.str _) (AllN.cons (vl_noRef encS _) (AllN.cons (vl_noRef encI _) (AllN.cons (NoRef.str _) AllN.nil)))))) rfl rfl .nil))))))
        intro _ hsub
        refine Goes.sub hsub ?_
        refine sq ?_
        obtain ⟨r16, e_r16, h⟩ := bnd h
        obtain ⟨l17, e_l17, h⟩ := bnd h
        refine Goes.ro fol [(6, (.call [] [.agg [.i a2_, .str a3_, vl encS a4_, vl encI a5_, .str a6_]] (.agg [.i r16.Number, .str r16.Kind, vl encS r16.Names, vl encI r16.Values, .str r16.Text]))), (8, (.run (.gslice 5 l17.length 5) [.cells [.gslice 1 a0_.length 5, hsl 2 3 o14], .dead, .cells ((hof o14).flatMap encStateT.c), .cells [.i a2_, .str a3_, vl encS a4_, vl encI a5_, .str a6_], .cells [.i r16.Number, .str r16.Kind, vl encS r16.Names, vl encI r16.Values, .str r16.Text], .cells (l17.flatMap encEventT.c)] true))] [] [.cells [.gslice 5 l17.length 5, hsl 2 3 o14], .dead, .cells ((hof o14).flatMap encStateT.c), .cells [.i a2_, .str a3_, vl encS a4_, vl encI a5_, .str a6_], .cells [.i r16.Number, .str r16.Kind, vl encS r16.Names, vl encI r16.Values, .str r16.Text], .cells (l17.flatMap encEventT.c)] [.call 115 [.agg [.i a2_, .str a3_, vl encS a4_, vl encI a5_, .str a6_]] [.cells [.gslice 1 a0_.length 5, hsl 2 3 o14], .cells (a0_.flatMap encEventT.c), .cells ((hof o14).flatMap encStateT.c), .cells [.i a2_, .str a3_, vl encS a4_, vl encI a5_, .str a6_]] [] [.agg [.i a2_, .str a3_, vl encS a4_, vl encI a5_, .str a6_]] (.agg [.i r16.Number, .str r16.Kind, vl encS r16.Names, vl encI r16.Values, .str r16.Text]), .run [1, 4] (aAppend Tryz.prog [22, 22] (.gslice 1 a0_.length 5) (.slice 4 0 1 1 5)) [.cells [.gslice 1 a0_.length 5, hsl 2 3 o14], .cells (a0_.flatMap encEventT.c), .cells ((hof o14).flatMap encStateT.c), .cells [.i a2_, .str a3_, vl encS a4_, vl encI a5_, .str a6_], .cells [.i r16.Number, .str r16.Kind, vl encS r16.Names, vl encI r16.Values, .str r16.Text]] (.gslice 5 l17.length 5) [.cells [.gslice 1 a0_.length 5, hsl 2 3 o14], .dead, .cells ((hof o14).flatMap encStateT.c), .cells [.i a2_, .str a3_, vl encS a4_, vl encI a5_, .str a6_], .cells [.i r16.Number, .str r16.Kind, vl encS r16.Names, vl encI r16.Values, .str r16.Text], .cells (l17.flatMap encEventT.c)] true] (And.intro (call_val (AllST.cons (Still.agg (AllST.cons (Still.int 10 _ _) (AllST.cons (Still.str 10 _) (AllST.cons (vl_still encS _ (Nat.le_of_ble_eq_true rfl)) (AllST.cons (vl_still encI _ (Nat.le_of_ble_eq_true rfl)) (AllST.cons (Still.str 10 _) AllST.nil)))))) AllST.nil) (record_copiedEvent_ok (⟨a2_, a3_, a4_, a5_, a6_⟩ : EventT) e_r16) (Still.agg (AllST.cons (Still.int 10 _ _) (AllST.cons (Still.str 10 _) (AllST.cons (vl_still encS _ (Nat.le_of_ble_eq_true rfl)) (AllST.cons (vl_still encI _ (Nat.le_of_ble_eq_true rfl)) (AllST.cons (Still.str 10 _) AllST.nil))))))) (And.intro (app_run sl22 (E := encEventT) rfl (src_c (E := encEventT) (ys := [r16]) rfl rfl rfl rfl) (dst_g (E := encEventT) (l := a0_) rfl rfl rfl e_l17 rfl)) trivial)) ?_
        refine sq ?_
        refine Goes.rg fol [(4, .i 0)] [.cells [.gslice 5 l17.length 5, hsl 2 3 o14], .dead, .cells ((hof o14).flatMap encStateT.c), .cells [.i a2_, .str a3_, vl encS a4_, vl encI a5_, .str a6_], .cells [.i r16.Number, .str r16.Kind, vl encS r16.Names, vl encI r16.Values, .str r16.Text], .cells (l17.flatMap encEventT.c)] ?_
        refine Goes.ret ?_
        simp only [Option.some.injEq, Prod.mk.injEq] at h
        obtain ⟨rfl, rfl, rfl⟩ := h
        exact (Goes.retH (xs := [.i 0]) (by kernel_rfl) (Sub.norm [] [some 0, some 1, some 2, some 5, some 2] (by rw [hB]; rfl) rfl (.keep (.same (NoRef.int _ _)) .nil) (.keep rfl (.cells (RenL.cons (.gslice rfl) (RenL.cons ((RenV.hs rfl)) RenL.nil))) rfl rfl (.lost (.lost (.keep rfl (.same fa) rfl rfl (.keep rfl (.same fa) rfl rfl .nil)))))))
    · rw [if_neg (by rw [c5]; exact Bool.false_ne_true)] at h
      refine sq ?_
      obtain ⟨⟨o19, n20, l21⟩, e_r18, h⟩ := bnd h
      try dsimp only at h
      obtain ⟨⟨n23, l24, e_25⟩, e_r22, h⟩ := bnd h
      try dsimp only at h
      refine Goes.ro fol [(1, (.callH [0, 1, 2] (.agg [.i n20, vl encSlingT l21]) [.cells [.gslice 1 a0_.length 5, hsl 2 3 o19], .cells (a0_.flatMap encEventT.c), .cells ((hof o19).flatMap encStateT.c), .cells [.i a2_, .str a3_, vl encS a4_, vl encI a5_, .str a6_]])), (3, (.callH [] (.tuple [.agg [.i n23, vl encSlingT l24], .i e_25]) [.cells [.gslice 1 a0_.length 5, hsl 2 3 o19], .cells (a0_.flatMap encEventT.c), .cells ((hof o19).flatMap encStateT.c), .cells [.i a2_, .str a3_, vl encS a4_, vl encI a5_, .str a6_]]))] [(0, .ptr 0 0), (3, .ptr 3 0), (5, .ptr 4 0), (6, .i e_25)] [.cells [.gslice 1 a0_.length 5, hsl 2 3 o19], .cells (a0_.flatMap encEventT.c), .cells ((hof o19).flatMap encStateT.c), .cells [.i a2_, .str a3_, vl encS a4_, vl encI a5_, .str a6_], .cells [.i n23, vl encSlingT l24]] [.callH 81 [.ptr 0 0] [.cells [.gslice 1 a0_.length 5, hsl 2 3 a1_], .cells (a0_.flatMap encEventT.c), .cells ((hof a1_).flatMap encStateT.c), .cells [.i a2_, .str a3_, vl encS a4_, vl encI a5_, .str a6_]] [0, 1, 2] (.agg [.i n20, vl encSlingT l21]) [.cells [.gslice 1 a0_.length 5, hsl 2 3 o19], .cells (a0_.flatMap encEventT.c), .cells ((hof o19).flatMap encStateT.c), .cells [.i a2_, .str a3_, vl encS a4_, vl encI a5_, .str a6_]], .callH 147 [.agg [.i n20, vl encSlingT l21], .agg [.i a2_, .str a3_, vl encS a4_, vl encI a5_, .str a6_]] [.cells [.gslice 1 a0_.length 5, hsl 2 3 o19], .cells (a0_.flatMap encEventT.c), .cells ((hof o19).flatMap encStateT.c), .cells [.i a2_, .str a3_, vl encS a4_, vl encI a5_, .str a6_]] [] (.tuple [.agg [.i n23, vl encSlingT l24], .i e_25]) [.cells [.gslice 1 a0_.length 5, hsl 2 3 o19], .cells (a0_.flatMap encEventT.c), .cells ((hof o19).flatMap encStateT.c), .cells [.i a2_, .str a3_, vl encS a4_, vl encI a5_, .str a6_]]] (And.intro (call_H [some 0, some 1, some 2] [some 0, some 1, some 2, none] (record_story_register_h1_ok a0_ a1_ e_r18) (.keep rfl (.cells (RenL.cons (.gslice rfl) (RenL.cons ((RenV.hs rfl)) RenL.nil))) rfl rfl (.keep rfl (.same fa) rfl rfl (.keep rfl (.same fa) rfl rfl .nil))) rfl rfl (.back rfl rfl (.cells (RenL.cons (.gslice rfl) (RenL.cons ((RenV.hs rfl)) RenL.nil))) rfl (.back rfl rfl (.same fa) rfl (.back rfl rfl (.same fa) rfl (.old rfl rfl .nil)))) (RenL.cons (.ptr rfl) RenL.nil) (.same (NoRef.agg (AllN.cons (NoRef.int _ _) (AllN.cons (vl_noRef encSlingT _) AllN.nil)))) rfl) (And.intro (call_H [] [none, none, none, none] (record_Register_after_h1_ok N n20 l21 a2_ a3_ a4_ a5_ a6_ e_r22) .nil rfl rfl (.old rfl rfl (.old rfl rfl (.old rfl rfl (.old rfl rfl .nil)))) (RenL.cons (.same (NoRef.agg (AllN.cons (NoRef.int _ _) (AllN.cons (vl_noRef encSlingT _) AllN.nil)))) (RenL.cons (.same (NoRef.agg (AllN.cons (NoRef.int _ _) (AllN.cons (NoRef.str _) (AllN.cons (vl_noRef encS _) (AllN.cons (vl_noRef encI _) (AllN.cons (NoRef.str _) AllN.nil))))))) RenL.nil)) (.same (NoRef.tuple (AllN.cons (NoRef.agg (AllN.cons (NoRef.int _ _) (AllN.cons (vl_noRef encSlingT _) AllN.nil))) (AllN.cons (NoRef.int _ _) AllN.nil)))) rfl) trivial)) ?_
      refine sq ?_
      refine sq ?_
      refine Goes.rg fol [(0, .ptr 0 0), (3, .ptr 3 0), (5, .ptr 4 0), (6, .i e_25), (47, .bool (!decide (e_25 = 0)))] [.cells [.gslice 1 a0_.length 5, hsl 2 3 o19], .cells (a0_.flatMap encEventT.c), .cells ((hof o19).flatMap encStateT.c), .cells [.i a2_, .str a3_, vl encS a4_, vl encI a5_, .str a6_], .cells [.i n23, vl encSlingT l24]] ?_
      refine Goes.ifB (b := !decide (e_25 = 0)) (by kernel_rfl) (fun c26 => ?_) (fun c26 => ?_)
      · rw [if_pos (c26)] at h
        refine sq ?_
        refine Goes.rg fol [(4, .i e_25)] [.cells [.gslice 1 a0_.length 5, hsl 2 3 o19], .cells (a0_.flatMap encEventT.c), .cells ((hof o19).flatMap encStateT.c), .cells [.i a2_, .str a3_, vl encS a4_, vl encI a5_, .str a6_], .cells [.i n23, vl encSlingT l24]] ?_
        refine Goes.ret ?_
        simp only [Option.some.injEq, Prod.mk.injEq] at h
        obtain ⟨rfl, rfl, rfl⟩ := h
        exact (Goes.retH (xs := [.i e_25]) (by kernel_rfl) (Sub.norm [] [some 0, some 1, some 2, some 1, some 2] (by rw [hB]; rfl) rfl (.keep (.same (NoRef.int _ _)) .nil) (.keep rfl (.cells (RenL.cons (.gslice rfl) (RenL.cons ((RenV.hs rfl)) RenL.nil))) rfl rfl (.lost (.lost (.keep rfl (.same fa) rfl rfl (.keep rfl (.same fa) rfl rfl .nil)))))))
      · rw [if_neg (by rw [c26]; exact Bool.false_ne_true)] at h
        refine Goes.skip ?_
        obtain ⟨l29, g_v30, h⟩ := bnd h
        refine Goes.cutS (s' := (ofG 73 [(0, .ptr 0 0), (3, .ptr 4 0)], [.cells [.gslice 1 a0_.length 5, .oslice 3 l29.length 3], .cells (a0_.flatMap encEventT.c), .dead, .cells (l29.flatMap encStateT.c), .cells [.i a2_, .str a3_, vl encS a4_, vl encI a5_, .str a6_]])) ?_ ?_
        · rcases o19 with _ | l27
          · try dsimp only at g_v30
            obtain rfl := Option.some.inj g_v30
            exact RegTo.sub (RegTo.rg fol [(0, .ptr 0 0), (3, .ptr 3 0)] [.cells [.gslice 1 a0_.length 5, .oslice 6 1 3], .cells (a0_.flatMap encEventT.c), .cells ((hof (none : Option (List StateT))).flatMap encStateT.c), .cells [.i a2_, .str a3_, vl encS a4_, vl encI a5_, .str a6_], .cells [.i n23, vl encSlingT l24], .cells [.i a2_, .i n23, vl encSlingT l24], .cells [.i a2_, .i n23, vl encSlingT l24]]) (Sub.norm [] [some 0, some 1, some 2, some 6, some 3] (by rw [hB]; rfl) rfl (.keep (.ptr rfl) (.keep (.ptr rfl) .nil)) (.keep rfl (.cells (RenL.cons (.gslice rfl) (RenL.cons ((RenV.osliceE rfl rfl)) RenL.nil))) rfl rfl (.keep rfl (.same fa) rfl rfl (.lost (.keep rfl (.same fa) rfl rfl (.keep rfl (.same (AllN.cons (NoRef.int _ _) (AllN.cons (NoRef.str _) (AllN.cons (vl_noRef encS _) (AllN.cons (vl_noRef encI _) (AllN.cons (NoRef.str _) AllN.nil)))))) rfl rfl .nil))))))
          · try dsimp only at g_v30
            obtain ⟨l28, e_l28, g_v30⟩ := bnd g_v30
            obtain rfl := Option.some.inj g_v30
            exact RegTo.sub (RegTo.ro fol [(10, (.run (.oslice 6 l28.length 3) [.cells [.gslice 1 a0_.length 5, .oslice 2 l27.length 3], .cells (a0_.flatMap encEventT.c), .dead, .cells [.i a2_, .str a3_, vl encS a4_, vl encI a5_, .str a6_], .cells [.i n23, vl encSlingT l24], .cells [.i a2_, .i n23, vl encSlingT l24], .cells (l28.flatMap encStateT.c)] true))] [(0, .ptr 0 0), (3, .ptr 3 0)] [.cells [.gslice 1 a0_.length 5, .oslice 6 l28.length 3], .cells (a0_.flatMap encEventT.c), .dead, .cells [.i a2_, .str a3_, vl encS a4_, vl encI a5_, .str a6_], .cells [.i n23, vl encSlingT l24], .cells [.i a2_, .i n23, vl encSlingT l24], .cells (l28.flatMap encStateT.c)] [.run [2, 5] (aAppend Tryz.prog [163, 163] (.oslice 2 l27.length 3) (.slice 5 0 1 1 3)) [.cells [.gslice 1 a0_.length 5, .oslice 2 l27.length 3], .cells (a0_.flatMap encEventT.c), .cells (l27.flatMap encStateT.c), .cells [.i a2_, .str a3_, vl encS a4_, vl encI a5_, .str a6_], .cells [.i n23, vl encSlingT l24], .cells [.i a2_, .i n23, vl encSlingT l24]] (.oslice 6 l28.length 3) [.cells [.gslice 1 a0_.length 5, .oslice 2 l27.length 3], .cells (a0_.flatMap encEventT.c), .dead, .cells [.i a2_, .str a3_, vl encS a4_, vl encI a5_, .str a6_], .cells [.i n23, vl encSlingT l24], .cells [.i a2_, .i n23, vl encSlingT l24], .cells (l28.flatMap encStateT.c)] true] (And.intro (app_run sl163 (E := encStateT) rfl (src_c (E := encStateT) (ys := [(⟨a2_, (⟨n23, l24⟩ : RegisterT)⟩ : StateT)]) rfl rfl rfl rfl) (dst_o (E := encStateT) (l := l27) rfl rfl rfl e_l28 rfl)) trivial)) (Sub.norm [] [some 0, some 1, some 2, some 6, some 3] (by rw [hB]; rfl) rfl (.keep (.ptr rfl) (.keep (.ptr rfl) .nil)) (.keep rfl (.cells (RenL.cons (.gslice rfl) (RenL.cons (.oslice rfl) RenL.nil))) rfl rfl (.keep rfl (.same fa) rfl rfl (.lost (.keep rfl (.same fa) rfl rfl (.keep rfl (.same (AllN.cons (NoRef.int _ _) (AllN.cons (NoRef.str _) (AllN.cons (vl_noRef encS _) (AllN.cons (vl_noRef encI _) (AllN.cons (NoRef.str _) AllN.nil)))))) rfl rfl .nil))))))
        intro _ hsub
        refine Goes.sub hsub ?_
        refine sq ?_
        obtain ⟨r31, e_r31, h⟩ := bnd h
        obtain ⟨l32, e_l32, h⟩ := bnd h
        refine Goes.ro fol [(6, (.call [] [.agg [.i a2_, .str a3_, vl encS a4_, vl encI a5_, .str a6_]] (.agg [.i r31.Number, .str r31.Kind, vl encS r31.Names, vl encI r31.Values, .str r31.Text]))), (8, (.run (.gslice 6 l32.length 5) [.cells [.gslice 1 a0_.length 5, .oslice 3 l29.length 3], .dead, .dead, .cells (l29.flatMap encStateT.c), .cells [.i a2_, .str a3_, vl encS a4_, vl encI a5_, .str a6_], .cells [.i r31.Number, .str r31.Kind, vl encS r31.Names, vl encI r31.Values, .str r31.Text], .cells (l32.flatMap encEventT.c)] true))] [] [.cells [.gslice 6 l32.length 5, .oslice 3 l29.length 3], .dead, .dead, .cells (l29.flatMap encStateT.c), .cells [.i a2_, .str a3_, vl encS a4_, vl encI a5_, .str a6_], .cells [.i r31.Number, .str r31.Kind, vl encS r31.Names, vl encI r31.Values, .str r31.Text], .cells (l32.flatMap encEventT.c)] [.call 115 [.agg [.i a2_, .str a3_, vl encS a4_, vl encI a5_, .str a6_]] [.cells [.gslice 1 a0_.length 5, .oslice 3 l29.length 3], .cells (a0_.flatMap encEventT.c), .dead, .cells (l29.flatMap encStateT.c), .cells [.i a2_, .str a3_, vl encS a4_, vl encI a5_, .str a6_]] [] [.agg [.i a2_, .str a3_, vl encS a4_, vl encI a5_, .str a6_]] (.agg [.i r31.Number, .str r31.Kind, vl encS r31.Names, vl encI r31.Values, .str r31.Text]), .run [1, 5] (aAppend Tryz.prog [22, 22] (.gslice 1 a0_.length 5) (.slice 5 0 1 1 5)) [.cells [.gslice 1 a0_.length 5, .oslice 3 l29.length 3], .cells (a0_.flatMap encEventT.c), .dead, .cells (l29.flatMap encStateT.c), .cells [.i a2_, .str a3_, vl encS a4_, vl encI a5_, .str a6_], .cells [.i r31.Number, .str r31.Kind, vl encS r31.Names, vl encI r31.Values, .str r31.Text]] (.gslice 6 l32.length 5) [.cells [.gslice 1 a0_.length 5, .oslice 3 l29.length 3], .dead, .dead, .cells (l29.flatMap encStateT.c), .cells [.i a2_, .str a3_, vl encS a4_, vl encI a5_, .str a6_], .cells [.i r31.Number, .str r31.Kind, vl encS r31.Names, vl encI r31.Values, .str r31.Text], .cells (l32.flatMap encEventT.c)] true] (And.intro (call_val (AllST.cons (Still.agg (AllST.cons (Still.int 10 _ _) (AllST.cons (Still.str 10 _) (AllST.cons (vl_still encS _ (Nat.le_of_ble_eq_true rfl)) (AllST.cons (vl_still encI _ (Nat.le_of_ble_eq_true rfl)) (AllST.cons (Still.str 10 _) AllST.nil)))))) AllST.nil) (record_copiedEvent_ok (⟨a2_, a3_, a4_, a5_, a6_⟩ : EventT) e_r31) (Still.agg (AllST.cons (Still.int 10 _ _) (AllST.cons (Still.str 10 _) (AllST.cons (vl_still encS _ (Nat.le_of_ble_eq_true rfl)) (AllST.cons (vl_still encI _ (Nat.le_of_ble_eq_true rfl)) (AllST.cons (Still.str 10 _) AllST.nil))))))) (And.intro (app_run sl22 (E := encEventT) rfl (src_c (E := encEventT) (ys := [r31]) rfl rfl rfl rfl) (dst_g (E := encEventT) (l := a0_) rfl rfl rfl e_l32 rfl)) trivial)) ?_
        refine sq ?_
        refine Goes.rg fol [(4, .i 0)] [.cells [.gslice 6 l32.length 5, .oslice 3 l29.length 3], .dead, .dead, .cells (l29.flatMap encStateT.c), .cells [.i a2_, .str a3_, vl encS a4_, vl encI a5_, .str a6_], .cells [.i r31.Number, .str r31.Kind, vl encS r31.Names, vl encI r31.Values, .str r31.Text], .cells (l32.flatMap encEventT.c)] ?_
        refine Goes.ret ?_
        simp only [Option.some.injEq, Prod.mk.injEq] at h
        obtain ⟨rfl, rfl, rfl⟩ := h
        exact (Goes.retH (xs := [.i 0]) (by kernel_rfl) (Sub.norm [] [some 0, some 1, some 2, some 6, some 3] (by rw [hB]; rfl) rfl (.keep (.same (NoRef.int _ _)) .nil) (.keep rfl (.cells (RenL.cons (.gslice rfl) (RenL.cons ((RenV.hs1 rfl)) RenL.nil))) rfl rfl (.lost (.lost (.keep rfl (.same fa) rfl rfl (.keep rfl (.same fa) rfl rfl .nil)))))))
def record_story_add_h1 (N : Nat) (a0_ : List EventT) (a1_ : Option (List StateT)) (a2_ : Int) (a3_ : Str) (a4_ : List Str) (a5_ : List Int) (a6_ : Str) : Option ((List EventT) × (Option (List StateT)) × Int) :=
  (record_CheckEvent N (⟨a2_, a3_, a4_, a5_, a6_⟩ : EventT)).bind fun r4 =>
  if (!decide (r4 = 0)) = true then
  some (a0_, a1_, r4)
  else
  (record_story_accept_h1 N a0_ a1_ a2_ a3_ a4_ a5_ a6_).bind fun (l7, o8, h_9) =>
  some (l7, o8, h_9)
theorem record_story_add_h1_ok (N : Nat) (a0_ : List EventT) (a1_ : Option (List StateT)) (a2_ : Int) (a3_ : Str) (a4_ : List Str) (a5_ : List Int) (a6_ : Str) {l1 : List EventT} {o2 : Option (List StateT)} {h_3 : Int} (h : record_story_add_h1 N a0_ a1_ a2_ a3_ a4_ a5_ a6_ = some (l1, o2, h_3)) : CallOK Tryz.prog (.fn 128) [.ptr 0 0, .agg [.i a2_, .str a3_, vl encS a4_, vl encI a5_, .str a6_]] [.cells [.gslice 1 a0_.length 5, hsl 2 3 a1_], .cells (a0_.flatMap encEventT.c), .cells ((hof a1_).flatMap encStateT.c)] (.i h_3) [.cells [.gslice 3 l1.length 5, hsl 4 3 o2], .dead, .dead, .cells (l1.flatMap encEventT.c), .cells ((hof o2).flatMap encStateT.c)] := by
  unfold record_story_add_h1 at h
  refine Goes.fnH Tryz.func128 rfl rfl (m := 14) rfl (rs := [.tmp 4]) rfl (l := [(0, .ptr 0 0), (1, .agg [.i a2_, .str a3_, vl encS a4_, vl encI a5_, .str a6_])]) rfl ?_
  intro B hB
  refine sq ?_
  refine Goes.rg fol [(0, .ptr 0 0), (3, .ptr 3 0)] [.cells [.gslice 1 a0_.length 5, hsl 2 3 a1_], .cells (a0_.flatMap encEventT.c), .cells ((hof a1_).flatMap encStateT.c), .cells [.i a2_, .str a3_, vl encS a4_, vl encI a5_, .str a6_]] ?_
  refine sq ?_
  refine sq ?_
  obtain ⟨r4, e_r4, h⟩ := bnd h
  refine Goes.ro fol [(1, (.call [] [.agg [.i a2_, .str a3_, vl encS a4_, vl encI a5_, .str a6_]] (.i r4)))] [(0, .ptr 0 0), (3, .ptr 3 0), (5, .i r4)] [.cells [.gslice 1 a0_.length 5, hsl 2 3 a1_], .cells (a0_.flatMap encEventT.c), .cells ((hof a1_).flatMap encStateT.c), .cells [.i a2_, .str a3_, vl encS a4_, vl encI a5_, .str a6_]] [.call 18 [.agg [.i a2_, .str a3_, vl encS a4_, vl encI a5_, .str a6_]] [.cells [.gslice 1 a0_.length 5, hsl 2 3 a1_], .cells (a0_.flatMap encEventT.c), .cells ((hof a1_).flatMap encStateT.c), .cells [.i a2_, .str a3_, vl encS a4_, vl encI a5_, .str a6_]] [] [.agg [.i a2_, .str a3_, vl encS a4_, vl encI a5_, .str a6_]] (.i r4)] (And.intro (call_val (AllST.cons (Still.agg (AllST.cons (Still.int 10 _ _) (AllST.cons (Still.str 10 _) (AllST.cons (vl_still encS _ (Nat.le_of_ble_eq_true rfl)) (AllST.cons (vl_still encI _ (Nat.le_of_ble_eq_true rfl)) (AllST.cons (Still.str 10 _) AllST.nil)))))) AllST.nil) (record_CheckEvent_ok N (⟨a2_, a3_, a4_, a5_, a6_⟩ : EventT) e_r4) (Still.int 11 _ _)) trivial) ?_
  refine sq ?_
  refine Goes.rg fol [(0, .ptr 0 0), (3, .ptr 3 0), (5, .i r4), (9, .bool (!decide (r4 = 0)))] [.cells [.gslice 1 a0_.length 5, hsl 2 3 a1_], .cells (a0_.flatMap encEventT.c), .cells ((hof a1_).flatMap encStateT.c), .cells [.i a2_, .str a3_, vl encS a4_, vl encI a5_, .str a6_]] ?_
  refine Goes.ifB (b := !decide (r4 = 0)) (by kernel_rfl) (fun c5 => ?_) (fun c5 => ?_)
  · rw [if_pos (c5)] at h
    refine sq ?_
    refine Goes.rg fol [(4, .i r4)] [.cells [.gslice 1 a0_.length 5, hsl 2 3 a1_], .cells (a0_.flatMap encEventT.c), .cells ((hof a1_).flatMap encStateT.c), .cells [.i a2_, .str a3_, vl encS a4_, vl encI a5_, .str a6_]] ?_
    refine Goes.ret ?_
    simp only [Option.some.injEq, Prod.mk.injEq] at h
    obtain ⟨rfl, rfl, rfl⟩ := h
    exact (Goes.retH (xs := [.i r4]) (by kernel_rfl) (Sub.norm [] [some 0, some 1, some 2, some 1, some 2] (by rw [hB]; rfl) rfl (.keep (.same (NoRef.int _ _)) .nil) (.keep rfl (.cells (RenL.cons (.gslice rfl) (RenL.cons ((RenV.hs rfl)) RenL.nil))) rfl rfl (.lost (.lost (.keep rfl (.same fa) rfl rfl (.keep rfl (.same fa) rfl rfl .nil)))))))
  · rw [if_neg (by rw [c5]; exact Bool.false_ne_true)] at h
    refine Goes.skip ?_
    refine sq ?_
    obtain ⟨⟨l7, o8, h_9⟩, e_r6, h⟩ := bnd h
    try dsimp only at h
    refine Goes.ro fol [(2, (.callH [0, 1, 2] (.i h_9) [.cells [.gslice 4 l7.length 5, hsl 5 3 o8], .dead, .dead, .cells [.i a2_, .str a3_, vl encS a4_, vl encI a5_, .str a6_], .cells (l7.flatMap encEventT.c), .cells ((hof o8).flatMap encStateT.c)]))] [(4, .i h_9)] [.cells [.gslice 4 l7.length 5, hsl 5 3 o8], .dead, .dead, .cells [.i a2_, .str a3_, vl encS a4_, vl encI a5_, .str a6_], .cells (l7.flatMap encEventT.c), .cells ((hof o8).flatMap encStateT.c)] [.callH 91 [.ptr 0 0, .agg [.i a2_, .str a3_, vl encS a4_, vl encI a5_, .str a6_]] [.cells [.gslice 1 a0_.length 5, hsl 2 3 a1_], .cells (a0_.flatMap encEventT.c), .cells ((hof a1_).flatMap encStateT.c), .cells [.i a2_, .str a3_, vl encS a4_, vl encI a5_, .str a6_]] [0, 1, 2] (.i h_9) [.cells [.gslice 4 l7.length 5, hsl 5 3 o8], .dead, .dead, .cells [.i a2_, .str a3_, vl encS a4_, vl encI a5_, .str a6_], .cells (l7.flatMap encEventT.c), .cells ((hof o8).flatMap encStateT.c)]] (And.intro (call_H [some 0, some 1, some 2] [some 0, none, none, none, some 3, some 4] (record_story_accept_h1_ok N a0_ a1_ a2_ a3_ a4_ a5_ a6_ e_r6) (.keep rfl (.cells (RenL.cons (.gslice rfl) (RenL.cons ((RenV.hs rfl)) RenL.nil))) rfl rfl (.keep rfl (.same fa) rfl rfl (.keep rfl (.same fa) rfl rfl .nil))) rfl rfl (.back rfl rfl (.cells (RenL.cons (.gslice rfl) (RenL.cons ((RenV.hs rfl)) RenL.nil))) rfl (.dead (.dead (.old rfl rfl (.new rfl rfl (.same fa) rfl (.new rfl rfl (.same fa) rfl .nil)))))) (RenL.cons (.ptr rfl) (RenL.cons (.same (NoRef.agg (AllN.cons (NoRef.int _ _) (AllN.cons (NoRef.str _) (AllN.cons (vl_noRef encS _) (AllN.cons (vl_noRef encI _) (AllN.cons (NoRef.str _) AllN.nil))))))) RenL.nil)) (.same (NoRef.int _ _)) rfl) trivial) ?_
    refine Goes.ret ?_
    simp only [Option.some.injEq, Prod.mk.injEq] at h
    obtain ⟨rfl, rfl, rfl⟩ := h
    exact (Goes.retH (xs := [.i h_9]) (by kernel_rfl) (Sub.norm [] [some 0, some 1, some 2, some 4, some 5] (by rw [hB]; rfl) rfl (.keep (.same (NoRef.int _ _)) .nil) (.keep rfl (.cells (RenL.cons (.gslice rfl) (RenL.cons ((RenV.hs rfl)) RenL.nil))) rfl rfl (.lost (.lost (.keep rfl (.same fa) rfl rfl (.keep rfl (.same fa) rfl rfl .nil)))))))
def record_replay_h1_L0 (N : Nat) (a0_ : List EventT) : Nat → (List EventT) → (Option (List StateT)) → Int → Option (((List EventT) × (Option (List StateT))) ⊕ ((List EventT) × (Option (List StateT)) × Bool × Int × Int))
  | 0, _, _, _ => none
  | K + 1, l7, o8, n9 =>
    if n9 < (a0_.length : Int) then
    (idx a0_ n9).bind fun x15 =>
    (record_story_add_h1 N l7 o8 x15.Number x15.Kind x15.Names x15.Values x15.Text).bind fun (l17, o18, h_19) =>
    if (!decide (h_19 = 0)) = true then
    some (.inr (([] : List EventT), (none : Option (List StateT)), false, w64 (n9 + 1), h_19))
    else
    record_replay_h1_L0 N a0_ K l17 o18 (w64 (n9 + 1))
    else
    some (.inl (l7, o8))
def record_replay_h1 (N : Nat) (a0_ : List EventT) : Option ((List EventT) × (Option (List StateT)) × Bool × Int × Int) :=
  if (a0_.length : Int) > 1000 then
  some (([] : List EventT), (none : Option (List StateT)), false, 0, 5)
  else
  (record_replay_h1_L0 N a0_ N ([] : List EventT) (none : Option (List StateT)) 0).bind (fun
  | (.inl (l10, o11)) =>
  some (l10, o11, true, 0, 0)
  | (.inr q21) =>
  some q21)
theorem record_replay_h1_ok (N : Nat) (a0_ : List EventT) {l1 : List EventT} {o2 : Option (List StateT)} {ok3 : Bool} {l_4 : Int} {n5 : Int} (h : record_replay_h1 N a0_ = some (l1, o2, ok3, l_4, n5)) : CallOK Tryz.prog (.fn 80) [vl encEventT a0_] [] (.tuple [pz ok3 0 0, .i l_4, .i n5]) [.cells [.gslice 1 l1.length 5, hsl 2 3 o2], .cells (l1.flatMap encEventT.c), .cells ((hof o2).flatMap encStateT.c)] := by
  unfold record_replay_h1 at h
  refine Goes.fnH Tryz.func80 rfl rfl (m := 31) rfl (rs := [.tmp 2, .tmp 3, .tmp 4]) rfl (l := [(0, vl encEventT a0_)]) rfl ?_
  intro B hB
  refine sq ?_
  refine Goes.rg fol [(0, vl encEventT a0_)] [] ?_
  refine sq ?_
  refine sq ?_
  refine Goes.rg fol [(0, vl encEventT a0_), (11, .bool (decide ((a0_.length : Int) > 1000)))] [] ?_
  refine Goes.ifB (b := decide ((a0_.length : Int) > 1000)) (by kernel_rfl) (fun c6 => ?_) (fun c6 => ?_)
  · rw [if_pos (ot c6)] at h
    refine sq ?_
    refine Goes.rg fol [(2, .nilptr), (3, .i 0), (4, .i 5)] [] ?_
    refine Goes.ret ?_
    simp only [Option.some.injEq, Prod.mk.injEq] at h
    obtain ⟨rfl, rfl, rfl, rfl, rfl⟩ := h
    exact (Goes.retH (xs := [.nilptr, .i 0, .i 5]) (by kernel_rfl) (Sub.norm [] [none, none, none] (by rw [hB]; rfl) rfl (.keep (.tupleL (RenL.cons (RenV.pz0) (RenL.cons (.same (NoRef.int _ _)) (RenL.cons (.same (NoRef.int _ _)) RenL.nil)))) .nil) (.fresh (.fresh (.fresh .nil)))))
  · rw [if_neg (of_ c6)] at h
    refine Goes.skip ?_
    refine sq ?_
    refine Goes.rg fol [(0, vl encEventT a0_), (5, .ptr 0 0)] [.cells [.nilslice, .nilslice]] ?_
    refine sq ?_
    refine sq ?_
    refine Goes.rg fol [(5, .ptr 0 0), (14, vl encEventT a0_), (15, .i (a0_.length : Int)), (16, .i 0)] [.cells [.nilslice, .nilslice]] ?_
    refine Goes.block ?_
    obtain ⟨r12, g12, h⟩ := bnd h
    refine Goes.imp (Q := fun x s' => (x = .exit 0 ∧ ∃ l10 o11, (.inl (l10, o11)) = r12 ∧ Sub s' (ofG 31 [(5, .ptr 0 0)], [.cells [.gslice 1 l10.length 5, hsl 2 3 o11], .cells (l10.flatMap encEventT.c), .cells ((hof o11).flatMap encStateT.c)])) ∨ (x = .ret ∧ ∃ q13, (.inr q13) = r12 ∧ returnsH Tryz.prog [.tmp 2, .tmp 3, .tmp 4] (.tuple [pz q13.2.2.1 0 0, .i q13.2.2.2.1, .i q13.2.2.2.2]) [.cells [.gslice 1 q13.1.length 5, hsl 2 3 q13.2.1], .cells (q13.1.flatMap encEventT.c), .cells ((hof q13.2.1).flatMap encStateT.c)] .ret s')) ?_ ?_
    · refine Goes.sub (s' := (ofG 31 [(5, .ptr 0 0), (14, vl encEventT a0_), (15, .i (a0_.length : Int)), (16, .i 0)], [.cells [.gslice 1 ([] : List EventT).length 5, hsl 2 3 (none : Option (List StateT))], .cells (([] : List EventT).flatMap encEventT.c), .cells ((hof (none : Option (List StateT))).flatMap encStateT.c)])) (Sub.norm [] [some 0, none, none] (by rw [hB]; rfl) rfl (.keep (.ptr rfl) (.keep (.same (vl_noRef encEventT _)) (.keep (.same (NoRef.int _ _)) (.keep (.same (NoRef.int _ _)) .nil)))) (.keep rfl (.cells (RenL.cons (.nil) (RenL.cons (RenV.hs0) RenL.nil))) rfl rfl (.fresh (.fresh .nil)))) ?_
      refine Goes.loopS (fun M s => ∃ (l7 : List EventT) (o8 : Option (List StateT)) (n9 : Int), s = (ofG 31 [(5, .ptr 0 0), (14, vl encEventT a0_), (15, .i (a0_.length : Int)), (16, .i n9)], [.cells [.gslice 1 l7.length 5, hsl 2 3 o8], .cells (l7.flatMap encEventT.c), .cells ((hof o8).flatMap encStateT.c)]) ∧ record_replay_h1_L0 N a0_ M l7 o8 n9 = some r12) ?_ (m := N) ⟨_, _, _, rfl, g12⟩
      rintro M s ⟨l7, o8, n9, rfl, g12⟩
      cases M with
      | zero => simp only [record_replay_h1_L0] at g12; cases g12
      | succ M =>
        rw [record_replay_h1_L0] at g12
        refine sq ?_
        refine Goes.rg fol [(5, .ptr 0 0), (14, vl encEventT a0_), (15, .i (a0_.length : Int)), (16, .i n9), (17, .bool (decide (n9 < (a0_.length : Int))))] [.cells [.gslice 1 l7.length 5, hsl 2 3 o8], .cells (l7.flatMap encEventT.c), .cells ((hof o8).flatMap encStateT.c)] ?_
        refine sq ?_
        refine Goes.ifB (b := decide (n9 < (a0_.length : Int))) (by kernel_rfl) (fun c14 => ?_) (fun c14 => ?_)
        · rw [if_pos (ot c14)] at g12
          refine Goes.skip ?_
          refine sq ?_
          refine Goes.block ?_
          refine sq ?_
          obtain ⟨x15, e_x15, g12⟩ := bnd g12
          refine Goes.ro fol [(1, (.done (.fptr (a0_.flatMap encEventT.c) ((n9 : Int).toNat * 5 + 0)))), (2, (.done (.agg [.i x15.Number, .str x15.Kind, vl encS x15.Names, vl encI x15.Values, .str x15.Text])))] [(5, .ptr 0 0), (6, .i n9), (7, .ptr 3 0), (14, vl encEventT a0_), (15, .i (a0_.length : Int)), (16, .i n9)] [.cells [.gslice 1 l7.length 5, hsl 2 3 o8], .cells (l7.flatMap encEventT.c), .cells ((hof o8).flatMap encStateT.c), .cells [.i x15.Number, .str x15.Kind, vl encS x15.Names, vl encI x15.Values, .str x15.Text]] [.done (.opt (aIndexAddr Tryz.prog 22 (vl encEventT a0_) (.i n9))) (.fptr (a0_.flatMap encEventT.c) ((n9 : Int).toNat * 5 + 0)), .done (aLoad Tryz.prog 26 (.fptr (a0_.flatMap encEventT.c) ((n9 : Int).toNat * 5 + 0))) (.agg [.i x15.Number, .str x15.Kind, vl encS x15.Names, vl encI x15.Values, .str x15.Text])] (And.intro (ix_vl sl22 (E := encEventT) rfl e_x15) (And.intro (ld_ag ag26 (E := encEventT) rfl e_x15) trivial)) ?_
          refine sq ?_
          obtain ⟨⟨l17, o18, h_19⟩, e_r16, g12⟩ := bnd g12
          try dsimp only at g12
          refine Goes.ro fol [(2, (.callH [0, 1, 2] (.i h_19) [.cells [.gslice 4 l17.length 5, hsl 5 3 o18], .dead, .dead, .cells [.i x15.Number, .str x15.Kind, vl encS x15.Names, vl encI x15.Values, .str x15.Text], .cells (l17.flatMap encEventT.c), .cells ((hof o18).flatMap encStateT.c)]))] [(5, .ptr 0 0), (6, .i n9), (8, .i h_19), (14, vl encEventT a0_), (15, .i (a0_.length : Int)), (16, .i n9)] [.cells [.gslice 4 l17.length 5, hsl 5 3 o18], .dead, .dead, .cells [.i x15.Number, .str x15.Kind, vl encS x15.Names, vl encI x15.Values, .str x15.Text], .cells (l17.flatMap encEventT.c), .cells ((hof o18).flatMap encStateT.c)] [.callH 128 [.ptr 0 0, .agg [.i x15.Number, .str x15.Kind, vl encS x15.Names, vl encI x15.Values, .str x15.Text]] [.cells [.gslice 1 l7.length 5, hsl 2 3 o8], .cells (l7.flatMap encEventT.c), .cells ((hof o8).flatMap encStateT.c), .cells [.i x15.Number, .str x15.Kind, vl encS x15.Names, vl encI x15.Values, .str x15.Text]] [0, 1, 2] (.i h_19) [.cells [.gslice 4 l17.length 5, hsl 5 3 o18], .dead, .dead, .cells [.i x15.Number, .str x15.Kind, vl encS x15.Names, vl encI x15.Values, .str x15.Text], .cells (l17.flatMap encEventT.c), .cells ((hof o18).flatMap encStateT.c)]] (And.intro (call_H [some 0, some 1, some 2] [some 0, none, none, none, some 3, some 4] (record_story_add_h1_ok N l7 o8 x15.Number x15.Kind x15.Names x15.Values x15.Text e_r16) (.keep rfl (.cells (RenL.cons (.gslice rfl) (RenL.cons ((RenV.hs rfl)) RenL.nil))) rfl rfl (.keep rfl (.same fa) rfl rfl (.keep rfl (.same fa) rfl rfl .nil))) rfl rfl (.back rfl rfl (.cells (RenL.cons (.gslice rfl) (RenL.cons ((RenV.hs rfl)) RenL.nil))) rfl (.dead (.dead (.old rfl rfl (.new rfl rfl (.same fa) rfl (.new rfl rfl (.same fa) rfl .nil)))))) (RenL.cons (.ptr rfl) (RenL.cons (.same (NoRef.agg (AllN.cons (NoRef.int _ _) (AllN.cons (NoRef.str _) (AllN.cons (vl_noRef encS _) (AllN.cons (vl_noRef encI _) (AllN.cons (NoRef.str _) AllN.nil))))))) RenL.nil)) (.same (NoRef.int _ _)) rfl) trivial) ?_
          refine sq ?_
          refine Goes.rg fol [(5, .ptr 0 0), (6, .i n9), (8, .i h_19), (14, vl encEventT a0_), (15, .i (a0_.length : Int)), (16, .i n9), (25, .bool (!decide (h_19 = 0)))] [.cells [.gslice 4 l17.length 5, hsl 5 3 o18], .dead, .dead, .cells [.i x15.Number, .str x15.Kind, vl encS x15.Names, vl encI x15.Values, .str x15.Text], .cells (l17.flatMap encEventT.c), .cells ((hof o18).flatMap encStateT.c)] ?_
          refine Goes.ifB (b := !decide (h_19 = 0)) (by kernel_rfl) (fun c20 => ?_) (fun c20 => ?_)
          · rw [if_pos (c20)] at g12
            refine sq ?_
            refine Goes.rg fol [(2, .nilptr), (3, .i (w64 (n9 + 1))), (4, .i h_19)] [.cells [.gslice 4 l17.length 5, hsl 5 3 o18], .dead, .dead, .cells [.i x15.Number, .str x15.Kind, vl encS x15.Names, vl encI x15.Values, .str x15.Text], .cells (l17.flatMap encEventT.c), .cells ((hof o18).flatMap encStateT.c)] ?_
            refine Goes.ret ?_
            obtain rfl := Option.some.inj g12
            exact Or.inr (⟨rfl, _, rfl, (Goes.retH (xs := [.nilptr, .i (w64 (n9 + 1)), .i h_19]) (by kernel_rfl) (Sub.norm [] [none, none, none] (by rw [hB]; rfl) rfl (.keep (.tupleL (RenL.cons (RenV.pz0) (RenL.cons (.same (NoRef.int _ _)) (RenL.cons (.same (NoRef.int _ _)) RenL.nil)))) .nil) (.fresh (.fresh (.fresh .nil)))))⟩)
          · rw [if_neg (by rw [c20]; exact Bool.false_ne_true)] at g12
            refine Goes.skip ?_
            refine Goes.rg fol [(5, .ptr 0 0), (14, vl encEventT a0_), (15, .i (a0_.length : Int)), (16, .i (w64 (n9 + 1)))] [.cells [.gslice 4 l17.length 5, hsl 5 3 o18], .dead, .dead, .cells [.i x15.Number, .str x15.Kind, vl encS x15.Names, vl encI x15.Values, .str x15.Text], .cells (l17.flatMap encEventT.c), .cells ((hof o18).flatMap encStateT.c)] ?_
            exact ⟨M, (ofG 31 [(5, .ptr 0 0), (14, vl encEventT a0_), (15, .i (a0_.length : Int)), (16, .i (w64 (n9 + 1)))], [.cells [.gslice 1 l17.length 5, hsl 2 3 o18], .cells (l17.flatMap encEventT.c), .cells ((hof o18).flatMap encStateT.c)]), Nat.lt_succ_self _, (Sub.norm [] [some 0, some 4, some 5] (by rw [hB]; rfl) rfl (.keep (.ptr rfl) (.keep (.same (vl_noRef encEventT _)) (.keep (.same (NoRef.int _ _)) (.keep (.same (NoRef.int _ _)) .nil)))) (.keep rfl (.cells (RenL.cons (.gslice rfl) (RenL.cons ((RenV.hs rfl)) RenL.nil))) rfl rfl (.keep rfl (.same fa) rfl rfl (.keep rfl (.same fa) rfl rfl .nil)))), _, _, _, rfl, g12⟩
        · rw [if_neg (of_ c14)] at g12
          refine Goes.exit ?_
          obtain rfl := Option.some.inj g12
          exact Or.inl (⟨rfl, _, _, rfl, (Sub.keep [5] rfl rfl)⟩)
    rintro x s' (⟨rfl, l10, o11, rfl, hsub⟩ | ⟨rfl, q21, rfl, hret⟩)
    · try dsimp only at h
      refine Goes.sub hsub ?_
      refine sq ?_
      refine Goes.rg fol [(2, .ptr 0 0), (3, .i 0), (4, .i 0)] [.cells [.gslice 1 l10.length 5, hsl 2 3 o11], .cells (l10.flatMap encEventT.c), .cells ((hof o11).flatMap encStateT.c)] ?_
      refine Goes.ret ?_
      simp only [Option.some.injEq, Prod.mk.injEq] at h
      obtain ⟨rfl, rfl, rfl, rfl, rfl⟩ := h
      exact (Goes.retH (xs := [.ptr 0 0, .i 0, .i 0]) (by kernel_rfl) (SubR.refl _ _))
    · try dsimp only at h
      obtain rfl := Option.some.inj h
      exact hret
def record_Due_c1_s1 (a0_ : SlingT) (a1_ : Int) : Option Bool :=
  (record_Sling_due a0_ a1_).bind fun r1 =>
  some r1
theorem record_Due_c1_s1_ok (a0_ : SlingT) (a1_ : Int) {res : Bool} (h : record_Due_c1_s1 a0_ a1_ = some res) : CallOK Tryz.prog (.fn 98) [.agg [.str a0_.Name, .str a0_.Batch, .i a0_.Born, .i a0_.Last, .i a0_.Uses, .i a0_.Used, .i a0_.Limit, .i a0_.Until, .bool a0_.Gone], .fptr [.i a1_] 0] [] (.bool res) [] := by
  unfold record_Due_c1_s1 at h
  refine Goes.fnW Tryz.func98 rfl rfl (m := 7) rfl (rs := [.tmp 3]) rfl (l := [(0, .agg [.str a0_.Name, .str a0_.Batch, .i a0_.Born, .i a0_.Last, .i a0_.Uses, .i a0_.Used, .i a0_.Limit, .i a0_.Until, .bool a0_.Gone]), (1, .fptr [.i a1_] 0)]) rfl ?_
  refine sq ?_
  refine Goes.rg fol [(1, .fptr [.i a1_] 0), (2, .ptr 0 0)] [.cells [.str a0_.Name, .str a0_.Batch, .i a0_.Born, .i a0_.Last, .i a0_.Uses, .i a0_.Used, .i a0_.Limit, .i a0_.Until, .bool a0_.Gone]] ?_
  refine sq ?_
  obtain ⟨r1, e_r1, h⟩ := bnd h
  refine Goes.ro fol [(2, (.call [] [.agg [.str a0_.Name, .str a0_.Batch, .i a0_.Born, .i a0_.Last, .i a0_.Uses, .i a0_.Used, .i a0_.Limit, .i a0_.Until, .bool a0_.Gone], .i a1_] (.bool r1)))] [(3, .bool r1)] [.cells [.str a0_.Name, .str a0_.Batch, .i a0_.Born, .i a0_.Last, .i a0_.Uses, .i a0_.Used, .i a0_.Limit, .i a0_.Until, .bool a0_.Gone]] [.call 99 [.agg [.str a0_.Name, .str a0_.Batch, .i a0_.Born, .i a0_.Last, .i a0_.Uses, .i a0_.Used, .i a0_.Limit, .i a0_.Until, .bool a0_.Gone], .i a1_] [.cells [.str a0_.Name, .str a0_.Batch, .i a0_.Born, .i a0_.Last, .i a0_.Uses, .i a0_.Used, .i a0_.Limit, .i a0_.Until, .bool a0_.Gone]] [] [.agg [.str a0_.Name, .str a0_.Batch, .i a0_.Born, .i a0_.Last, .i a0_.Uses, .i a0_.Used, .i a0_.Limit, .i a0_.Until, .bool a0_.Gone], .i a1_] (.bool r1)] (And.intro (call_val (AllST.cons (Still.agg (AllST.cons (Still.str 10 _) (AllST.cons (Still.str 10 _) (AllST.cons (Still.int 10 _ _) (AllST.cons (Still.int 10 _ _) (AllST.cons (Still.int 10 _ _) (AllST.cons (Still.int 10 _ _) (AllST.cons (Still.int 10 _ _) (AllST.cons (Still.int 10 _ _) (AllST.cons (Still.bool 10 _) AllST.nil)))))))))) (AllST.cons (Still.int 11 _ _) AllST.nil)) (record_Sling_due_ok a0_ a1_ e_r1) (Still.bool 11 _)) trivial) ?_
  refine Goes.ret ?_
  obtain rfl := Option.some.inj h
  exact (Goes.retW (xs := [.bool r1]) (by kernel_rfl) (FzW.still (Still.bool 11 _)))
def record_chosen_string_s1_L0 (a0_ : List SlingT) (a1_ : Int) : Nat → (List Str) → Int → Option (List Str)
  | 0, _, _ => none
  | K + 1, l1, n2 =>
    if n2 < (a0_.length : Int) then
    (((idx a0_ n2).bind fun x8 =>
    (record_Due_c1_s1 x8 a1_).bind fun r9 =>
    if r9 = true then
    (record_Sling_name x8).bind fun r11 =>
    (app 16 l1 [r11]).bind fun l12 =>
    some l12
    else
    some l1 : Option (List Str))).bind fun l6 =>
    record_chosen_string_s1_L0 a0_ a1_ K l6 (w64 (n2 + 1))
    else
    some l1
def record_chosen_string_s1 (N : Nat) (a0_ : List SlingT) (a1_ : Int) : Option (List Str) :=
  (record_chosen_string_s1_L0 a0_ a1_ N ([] : List Str) 0).bind fun l3 =>
  some l3
theorem record_chosen_string_s1_ok (N : Nat) (a0_ : List SlingT) (a1_ : Int) {res : List Str} (h : record_chosen_string_s1 N a0_ a1_ = some res) : CallOK Tryz.prog (.fn 97) [vl encSlingT a0_, .func (.func 98) [] [.fptr [.i a1_] 0], .func (.func 100) [] []] [] (vl encS res) [] := by
  unfold record_chosen_string_s1 at h
  refine Goes.fnW Tryz.func97 rfl rfl (m := 27) rfl (rs := [.tmp 6]) rfl (l := [(0, vl encSlingT a0_), (1, .func (.func 98) [] [.fptr [.i a1_] 0]), (2, .func (.func 100) [] [])]) rfl ?_
  refine sq ?_
  refine Goes.rg fol [(0, vl encSlingT a0_), (1, .func (.func 98) [] [.fptr [.i a1_] 0]), (2, .func (.func 100) [] [])] [] ?_
  refine sq ?_
  refine Goes.rg fol [(0, vl encSlingT a0_), (1, .func (.func 98) [] [.fptr [.i a1_] 0]), (2, .func (.func 100) [] []), (7, .nilslice)] [] ?_
  refine sq ?_
  refine sq ?_
  refine Goes.rg fol [(1, .func (.func 98) [] [.fptr [.i a1_] 0]), (2, .func (.func 100) [] []), (7, .nilslice), (10, vl encSlingT a0_), (11, .i (a0_.length : Int)), (12, .i 0)] [] ?_
  refine Goes.block ?_
  obtain ⟨r4, g4, h⟩ := bnd h
  refine Goes.imp (Q := fun x s' => (x = .exit 0 ∧ ∃ l3, l3 = r4 ∧ Sub s' (ofG 27 [(7, .gslice 0 l3.length 1)], [.cells (l3.flatMap encS.c)]))) ?_ ?_
  · refine Goes.sub (s' := (ofG 27 [(1, .func (.func 98) [] [.fptr [.i a1_] 0]), (2, .func (.func 100) [] []), (7, .gslice 0 ([] : List Str).length 1), (10, vl encSlingT a0_), (11, .i (a0_.length : Int)), (12, .i 0)], [.cells (([] : List Str).flatMap encS.c)])) (Sub.norm [] [none] rfl rfl (.keep (.same (NoRef.func AllN.nil (AllN.cons (NoRef.fptr (AllN.cons (NoRef.int _ _) AllN.nil)) AllN.nil))) (.keep (.same (NoRef.func AllN.nil AllN.nil)) (.keep .nil (.keep (.same (vl_noRef encSlingT _)) (.keep (.same (NoRef.int _ _)) (.keep (.same (NoRef.int _ _)) .nil)))))) (.fresh .nil)) ?_
    refine Goes.loopS (fun M s => ∃ (l1 : List Str) (n2 : Int), s = (ofG 27 [(1, .func (.func 98) [] [.fptr [.i a1_] 0]), (2, .func (.func 100) [] []), (7, .gslice 0 l1.length 1), (10, vl encSlingT a0_), (11, .i (a0_.length : Int)), (12, .i n2)], [.cells (l1.flatMap encS.c)]) ∧ record_chosen_string_s1_L0 a0_ a1_ M l1 n2 = some r4) ?_ (m := N) ⟨_, _, rfl, g4⟩
    rintro M s ⟨l1, n2, rfl, g4⟩
    cases M with
    | zero => simp only [record_chosen_string_s1_L0] at g4; cases g4
    | succ M =>
      rw [record_chosen_string_s1_L0] at g4
      refine sq ?_
      refine Goes.rg fol [(1, .func (.func 98) [] [.fptr [.i a1_] 0]), (2, .func (.func 100) [] []), (7, .gslice 0 l1.length 1), (10, vl encSlingT a0_), (11, .i (a0_.length : Int)), (12, .i n2), (13, .bool (decide (n2 < (a0_.length : Int))))] [.cells (l1.flatMap encS.c)] ?_
      refine sq ?_
      refine Goes.ifB (b := decide (n2 < (a0_.length : Int))) (by kernel_rfl) (fun c5 => ?_) (fun c5 => ?_)
      · rw [if_pos (ot c5)] at g4
        refine Goes.skip ?_
        refine sq ?_
        obtain ⟨r7, g7, g4⟩ := bnd g4
        refine Goes.imp (Q := fun x s' => (x = .normal ∧ ∃ l6, l6 = r7 ∧ Sub s' (ofG 27 [(1, .func (.func 98) [] [.fptr [.i a1_] 0]), (2, .func (.func 100) [] []), (7, .gslice 0 l6.length 1), (10, vl encSlingT a0_), (11, .i (a0_.length : Int)), (12, .i n2)], [.cells (l6.flatMap encS.c)]))) ?_ ?_
        · refine Goes.block ?_
          refine sq ?_
          obtain ⟨x8, e_x8, g7⟩ := bnd g7
          refine Goes.ro fol [(0, (.done (.fptr (a0_.flatMap encSlingT.c) ((n2 : Int).toNat * 9 + 0)))), (1, (.done (.agg [.str x8.Name, .str x8.Batch, .i x8.Born, .i x8.Last, .i x8.Uses, .i x8.Used, .i x8.Limit, .i x8.Until, .bool x8.Gone])))] [(1, .func (.func 98) [] [.fptr [.i a1_] 0]), (2, .func (.func 100) [] []), (7, .gslice 0 l1.length 1), (9, .ptr 1 0), (10, vl encSlingT a0_), (11, .i (a0_.length : Int)), (12, .i n2)] [.cells (l1.flatMap encS.c), .cells [.str x8.Name, .str x8.Batch, .i x8.Born, .i x8.Last, .i x8.Uses, .i x8.Used, .i x8.Limit, .i x8.Until, .bool x8.Gone]] [.done (.opt (aIndexAddr Tryz.prog 29 (vl encSlingT a0_) (.i n2))) (.fptr (a0_.flatMap encSlingT.c) ((n2 : Int).toNat * 9 + 0)), .done (aLoad Tryz.prog 68 (.fptr (a0_.flatMap encSlingT.c) ((n2 : Int).toNat * 9 + 0))) (.agg [.str x8.Name, .str x8.Batch, .i x8.Born, .i x8.Last, .i x8.Uses, .i x8.Used, .i x8.Limit, .i x8.Until, .bool x8.Gone])] (And.intro (ix_vl sl29 (E := encSlingT) rfl e_x8) (And.intro (ld_ag ag68 (E := encSlingT) rfl e_x8) trivial)) ?_
          refine sq ?_
          obtain ⟨r9, e_r9, g7⟩ := bnd g7
          refine Goes.ro fol [(2, (.call [] [.agg [.str x8.Name, .str x8.Batch, .i x8.Born, .i x8.Last, .i x8.Uses, .i x8.Used, .i x8.Limit, .i x8.Until, .bool x8.Gone], .fptr [.i a1_] 0] (.bool r9)))] [(1, .func (.func 98) [] [.fptr [.i a1_] 0]), (2, .func (.func 100) [] []), (7, .gslice 0 l1.length 1), (9, .ptr 1 0), (10, vl encSlingT a0_), (11, .i (a0_.length : Int)), (12, .i n2), (18, .bool r9)] [.cells (l1.flatMap encS.c), .cells [.str x8.Name, .str x8.Batch, .i x8.Born, .i x8.Last, .i x8.Uses, .i x8.Used, .i x8.Limit, .i x8.Until, .bool x8.Gone]] [.call 98 [.agg [.str x8.Name, .str x8.Batch, .i x8.Born, .i x8.Last, .i x8.Uses, .i x8.Used, .i x8.Limit, .i x8.Until, .bool x8.Gone], .fptr [.i a1_] 0] [.cells (l1.flatMap encS.c), .cells [.str x8.Name, .str x8.Batch, .i x8.Born, .i x8.Last, .i x8.Uses, .i x8.Used, .i x8.Limit, .i x8.Until, .bool x8.Gone]] [] [.agg [.str x8.Name, .str x8.Batch, .i x8.Born, .i x8.Last, .i x8.Uses, .i x8.Used, .i x8.Limit, .i x8.Until, .bool x8.Gone], .fptr [.i a1_] 0] (.bool r9)] (And.intro (call_N (FzL.cons (Fz.still (Still.agg (AllST.cons (Still.str 10 _) (AllST.cons (Still.str 10 _) (AllST.cons (Still.int 10 _ _) (AllST.cons (Still.int 10 _ _) (AllST.cons (Still.int 10 _ _) (AllST.cons (Still.int 10 _ _) (AllST.cons (Still.int 10 _ _) (AllST.cons (Still.int 10 _ _) (AllST.cons (Still.bool 10 _) AllST.nil))))))))))) (FzL.cons (Fz.still (Still.fptr (AllST.cons (Still.int 10 _ _) AllST.nil))) FzL.nil)) (record_Due_c1_s1_ok x8 a1_ e_r9) (Still.bool 11 _)) trivial) ?_
          refine Goes.ifB (b := r9) (by kernel_rfl) (fun c10 => ?_) (fun c10 => ?_)
          · rw [if_pos (c10)] at g7
            obtain ⟨r11, e_r11, g7⟩ := bnd g7
            obtain ⟨l12, e_l12, g7⟩ := bnd g7
            refine Goes.ro fol [(3, (.call [] [.agg [.str x8.Name, .str x8.Batch, .i x8.Born, .i x8.Last, .i x8.Uses, .i x8.Used, .i x8.Limit, .i x8.Until, .bool x8.Gone]] (.str r11))), (5, (.run (.gslice 3 l12.length 1) [.dead, .cells [.str x8.Name, .str x8.Batch, .i x8.Born, .i x8.Last, .i x8.Uses, .i x8.Used, .i x8.Limit, .i x8.Until, .bool x8.Gone], .cells [.str r11], .cells (l12.flatMap encS.c)] true))] [(1, .func (.func 98) [] [.fptr [.i a1_] 0]), (2, .func (.func 100) [] []), (7, .gslice 3 l12.length 1), (10, vl encSlingT a0_), (11, .i (a0_.length : Int)), (12, .i n2)] [.dead, .cells [.str x8.Name, .str x8.Batch, .i x8.Born, .i x8.Last, .i x8.Uses, .i x8.Used, .i x8.Limit, .i x8.Until, .bool x8.Gone], .cells [.str r11], .cells (l12.flatMap encS.c)] [.call 100 [.agg [.str x8.Name, .str x8.Batch, .i x8.Born, .i x8.Last, .i x8.Uses, .i x8.Used, .i x8.Limit, .i x8.Until, .bool x8.Gone]] [.cells (l1.flatMap encS.c), .cells [.str x8.Name, .str x8.Batch, .i x8.Born, .i x8.Last, .i x8.Uses, .i x8.Used, .i x8.Limit, .i x8.Until, .bool x8.Gone]] [] [.agg [.str x8.Name, .str x8.Batch, .i x8.Born, .i x8.Last, .i x8.Uses, .i x8.Used, .i x8.Limit, .i x8.Until, .bool x8.Gone]] (.str r11), .run [0, 2] (aAppend Tryz.prog [23, 23] (.gslice 0 l1.length 1) (.slice 2 0 1 1 1)) [.cells (l1.flatMap encS.c), .cells [.str x8.Name, .str x8.Batch, .i x8.Born, .i x8.Last, .i x8.Uses, .i x8.Used, .i x8.Limit, .i x8.Until, .bool x8.Gone], .cells [.str r11]] (.gslice 3 l12.length 1) [.dead, .cells [.str x8.Name, .str x8.Batch, .i x8.Born, .i x8.Last, .i x8.Uses, .i x8.Used, .i x8.Limit, .i x8.Until, .bool x8.Gone], .cells [.str r11], .cells (l12.flatMap encS.c)] true] (And.intro (call_val (AllST.cons (Still.agg (AllST.cons (Still.str 10 _) (AllST.cons (Still.str 10 _) (AllST.cons (Still.int 10 _ _) (AllST.cons (Still.int 10 _ _) (AllST.cons (Still.int 10 _ _) (AllST.cons (Still.int 10 _ _) (AllST.cons (Still.int 10 _ _) (AllST.cons (Still.int 10 _ _) (AllST.cons (Still.bool 10 _) AllST.nil)))))))))) AllST.nil) (record_Sling_name_ok x8 e_r11) (Still.str 11 _)) (And.intro (app_run sl23 (E := encS) rfl (src_c (E := encS) (ys := [r11]) rfl rfl rfl rfl) (dst_g (E := encS) (l := l1) rfl rfl rfl e_l12 rfl)) trivial)) ?_
            obtain rfl := Option.some.inj g7
            exact ⟨rfl, _, rfl, (Sub.norm [] [some 3] rfl rfl (.keep (.same (NoRef.func AllN.nil (AllN.cons (NoRef.fptr (AllN.cons (NoRef.int _ _) AllN.nil)) AllN.nil))) (.keep (.same (NoRef.func AllN.nil AllN.nil)) (.keep (.gslice rfl) (.keep (.same (vl_noRef encSlingT _)) (.keep (.same (NoRef.int _ _)) (.keep (.same (NoRef.int _ _)) .nil)))))) (.keep rfl (.same fa) rfl rfl .nil))⟩
          · rw [if_neg (by rw [c10]; exact Bool.false_ne_true)] at g7
            refine Goes.skip ?_
            obtain rfl := Option.some.inj g7
            exact ⟨rfl, _, rfl, (Sub.norm [] [some 0] rfl rfl (.keep (.same (NoRef.func AllN.nil (AllN.cons (NoRef.fptr (AllN.cons (NoRef.int _ _) AllN.nil)) AllN.nil))) (.keep (.same (NoRef.func AllN.nil AllN.nil)) (.keep (.gslice rfl) (.drop (.keep (.same (vl_noRef encSlingT _)) (.keep (.same (NoRef.int _ _)) (.keep (.same (NoRef.int _ _)) .nil))))))) (.keep rfl (.same fa) rfl rfl .nil))⟩
        rintro x s' ⟨rfl, l6, rfl, hsub⟩
        refine Goes.sub hsub ?_
        refine Goes.rg fol [(1, .func (.func 98) [] [.fptr [.i a1_] 0]), (2, .func (.func 100) [] []), (7, .gslice 0 l6.length 1), (10, vl encSlingT a0_), (11, .i (a0_.length : Int)), (12, .i (w64 (n2 + 1)))] [.cells (l6.flatMap encS.c)] ?_
        exact ⟨M, (ofG 27 [(1, .func (.func 98) [] [.fptr [.i a1_] 0]), (2, .func (.func 100) [] []), (7, .gslice 0 l6.length 1), (10, vl encSlingT a0_), (11, .i (a0_.length : Int)), (12, .i (w64 (n2 + 1)))], [.cells (l6.flatMap encS.c)]), Nat.lt_succ_self _, (Sub.refl _), _, _, rfl, g4⟩
      · rw [if_neg (of_ c5)] at g4
        refine Goes.exit ?_
        obtain rfl := Option.some.inj g4
        exact ⟨rfl, _, rfl, (Sub.keep [7] rfl rfl)⟩
  rintro x s' ⟨rfl, l3, rfl, hsub⟩
  refine Goes.sub hsub ?_
  refine sq ?_
  refine Goes.rg fol [(6, .gslice 0 l3.length 1)] [.cells (l3.flatMap encS.c)] ?_
  refine Goes.ret ?_
  obtain rfl := Option.some.inj h
  exact (Goes.retW (xs := [.gslice 0 l3.length 1]) (by kernel_rfl) (FzW.fz (Fz.gs (E := encS) rfl rfl (Nat.le_of_ble_eq_true rfl))))
def record_Due (N : Nat) (l : List EventT) (day : Int) : Option ((List Str) × Int) :=
  (record_replay_h1 N l).bind fun (l2, o3, ok4, l_5, n6) =>
  (record_checkDay day).bind fun r7 =>
  (record_first N ([n6, r7] : List Int)).bind fun r8 =>
  if (!decide (r8 = 0)) = true then
  some ([], r8)
  else
  ((match ok4 with
  | false =>
  none
  | true =>
  (record_story_register_h1 l2 o3).bind fun (o11, n12, l13) =>
  (record_chosen_string_s1 N l13 day).bind fun r14 =>
  some r14) : Option (List Str)).bind fun l15 =>
  some (l15, 0)
theorem record_Due_ok (N : Nat) (l : List EventT) (day : Int) {res : (List Str) × Int} (h : record_Due N l day = some res) : CallOK Tryz.prog (.fn 37) [vl encEventT l, .i day] [] (.tuple [vl encS res.1, .i res.2]) [] := by
  unfold record_Due at h
  refine Goes.fnW Tryz.func37 rfl rfl (m := 28) rfl (rs := [.tmp 4, .tmp 5]) rfl (l := [(0, vl encEventT l), (1, .i day)]) rfl ?_
  refine sq ?_
  refine Goes.rg fol [(0, vl encEventT l), (3, .ptr 0 0)] [.cells [.i day]] ?_
  refine sq ?_
  obtain ⟨⟨l2, o3, ok4, l_5, n6⟩, e_r1, h⟩ := bnd h
  try dsimp only at h
  refine Goes.ro fol [(1, (.callH [] (.tuple [pz ok4 1 0, .i l_5, .i n6]) [.cells [.i day], .cells [.gslice 2 l2.length 5, hsl 3 3 o3], .cells (l2.flatMap encEventT.c), .cells ((hof o3).flatMap encStateT.c)]))] [(3, .ptr 0 0), (6, pz ok4 1 0), (8, .i n6)] [.cells [.i day], .cells [.gslice 2 l2.length 5, hsl 3 3 o3], .cells (l2.flatMap encEventT.c), .cells ((hof o3).flatMap encStateT.c)] [.callH 80 [vl encEventT l] [.cells [.i day]] [] (.tuple [pz ok4 1 0, .i l_5, .i n6]) [.cells [.i day], .cells [.gslice 2 l2.length 5, hsl 3 3 o3], .cells (l2.flatMap encEventT.c), .cells ((hof o3).flatMap encStateT.c)]] (And.intro (call_H [] [none, some 0, some 1, some 2] (record_replay_h1_ok N l e_r1) .nil rfl rfl (.old rfl rfl (.new rfl rfl (.cells (RenL.cons (.gslice rfl) (RenL.cons ((RenV.hs rfl)) RenL.nil))) rfl (.new rfl rfl (.same fa) rfl (.new rfl rfl (.same fa) rfl .nil)))) (RenL.cons (.same (vl_noRef encEventT _)) RenL.nil) (.tupleL (RenL.cons ((RenV.pz rfl)) (RenL.cons (.same (NoRef.int _ _)) (RenL.cons (.same (NoRef.int _ _)) RenL.nil)))) rfl) trivial) ?_
  refine sq ?_
  refine sq ?_
  obtain ⟨r7, e_r7, h⟩ := bnd h
  obtain ⟨r8, e_r8, h⟩ := bnd h
  refine Goes.ro fol [(2, (.call [] [.i day] (.i r7))), (4, (.call [4] [vl encI ([n6, r7] : List Int)] (.i r8)))] [(3, .ptr 0 0), (6, pz ok4 1 0), (8, .i r8)] [.cells [.i day], .cells [.gslice 2 l2.length 5, hsl 3 3 o3], .cells (l2.flatMap encEventT.c), .cells ((hof o3).flatMap encStateT.c), .cells [.i n6, .i r7]] [.call 94 [.i day] [.cells [.i day], .cells [.gslice 2 l2.length 5, hsl 3 3 o3], .cells (l2.flatMap encEventT.c), .cells ((hof o3).flatMap encStateT.c)] [] [.i day] (.i r7), .call 86 [.slice 4 0 2 2 1] [.cells [.i day], .cells [.gslice 2 l2.length 5, hsl 3 3 o3], .cells (l2.flatMap encEventT.c), .cells ((hof o3).flatMap encStateT.c), .cells [.i n6, .i r7]] [4] [vl encI ([n6, r7] : List Int)] (.i r8)] (And.intro (call_val (AllST.cons (Still.int 11 _ _) AllST.nil) (record_checkDay_ok day e_r7) (Still.int 11 _ _)) (And.intro (call_S (FzL.cons (Fz.lit rfl rfl (FzL.still (AllST.cons (Still.int 10 _ _) (AllST.cons (Still.int 10 _ _) AllST.nil)))) FzL.nil) (record_first_ok N ([n6, r7] : List Int) e_r8) (Still.int 11 _ _) rfl) trivial)) ?_
  refine sq ?_
  refine Goes.rg fol [(3, .ptr 0 0), (6, pz ok4 1 0), (8, .i r8), (21, .bool (!decide (r8 = 0)))] [.cells [.i day], .cells [.gslice 2 l2.length 5, hsl 3 3 o3], .cells (l2.flatMap encEventT.c), .cells ((hof o3).flatMap encStateT.c), .cells [.i n6, .i r7]] ?_
  refine Goes.ifB (b := !decide (r8 = 0)) (by kernel_rfl) (fun c9 => ?_) (fun c9 => ?_)
  · rw [if_pos (c9)] at h
    refine sq ?_
    refine Goes.rg fol [(4, .nilslice), (5, .i r8)] [.cells [.i day], .cells [.gslice 2 l2.length 5, hsl 3 3 o3], .cells (l2.flatMap encEventT.c), .cells ((hof o3).flatMap encStateT.c), .cells [.i n6, .i r7]] ?_
    refine Goes.ret ?_
    obtain rfl := Option.some.inj h
    exact (Goes.retW (xs := [.nilslice, .i r8]) (by kernel_rfl) (FzW.tuple (FzLW.cons (FzW.nilv (E := encS)) (FzLW.cons (FzW.still (Still.int 10 _ _)) FzLW.nil))))
  · rw [if_neg (by rw [c9]; exact Bool.false_ne_true)] at h
    refine Goes.skip ?_
    refine sq ?_
    obtain ⟨l15, g_v16, h⟩ := bnd h
    refine Goes.cutS (s' := (ofG 28 [(4, vl encS l15), (5, .i 0)], [])) ?_ ?_
    · rcases ok4 with _ | _
      · try dsimp only at g_v16
        cases g_v16
      · try dsimp only at g_v16
        obtain ⟨⟨o11, n12, l13⟩, e_r10, g_v16⟩ := bnd g_v16
        try dsimp only at g_v16
        obtain ⟨r14, e_r14, g_v16⟩ := bnd g_v16
        obtain rfl := Option.some.inj g_v16
        exact RegTo.sub (RegTo.ro fol [(1, (.callH [1, 2, 3] (.agg [.i n12, vl encSlingT l13]) [.cells [.i day], .cells [.gslice 2 l2.length 5, hsl 3 3 o11], .cells (l2.flatMap encEventT.c), .cells ((hof o11).flatMap encStateT.c), .cells [.i n6, .i r7]])), (4, (.callF [0] [vl encSlingT l13, .func (.func 98) [] [.fptr [.i day] 0], .func (.func 100) [] []] (vl encS r14)))] [(4, vl encS r14), (5, .i 0)] [.frozen [.i day], .cells [.gslice 2 l2.length 5, hsl 3 3 o11], .cells (l2.flatMap encEventT.c), .cells ((hof o11).flatMap encStateT.c), .cells [.i n6, .i r7]] [.callH 81 [.ptr 1 0] [.cells [.i day], .cells [.gslice 2 l2.length 5, hsl 3 3 o3], .cells (l2.flatMap encEventT.c), .cells ((hof o3).flatMap encStateT.c), .cells [.i n6, .i r7]] [1, 2, 3] (.agg [.i n12, vl encSlingT l13]) [.cells [.i day], .cells [.gslice 2 l2.length 5, hsl 3 3 o11], .cells (l2.flatMap encEventT.c), .cells ((hof o11).flatMap encStateT.c), .cells [.i n6, .i r7]], .callF 97 [vl encSlingT l13, .func (.func 98) [] [.ptr 0 0], .func (.func 100) [] []] [.cells [.i day], .cells [.gslice 2 l2.length 5, hsl 3 3 o11], .cells (l2.flatMap encEventT.c), .cells ((hof o11).flatMap encStateT.c), .cells [.i n6, .i r7]] [0] [vl encSlingT l13, .func (.func 98) [] [.fptr [.i day] 0], .func (.func 100) [] []] (vl encS r14)] (And.intro (call_H [some 1, some 2, some 3] [none, some 0, some 1, some 2, none] (record_story_register_h1_ok l2 o3 e_r10) (.keep rfl (.cells (RenL.cons (.gslice rfl) (RenL.cons ((RenV.hs rfl)) RenL.nil))) rfl rfl (.keep rfl (.same fa) rfl rfl (.keep rfl (.same fa) rfl rfl .nil))) rfl rfl (.old rfl rfl (.back rfl rfl (.cells (RenL.cons (.gslice rfl) (RenL.cons ((RenV.hs rfl)) RenL.nil))) rfl (.back rfl rfl (.same fa) rfl (.back rfl rfl (.same fa) rfl (.old rfl rfl .nil))))) (RenL.cons (.ptr rfl) RenL.nil) (.same (NoRef.agg (AllN.cons (NoRef.int _ _) (AllN.cons (vl_noRef encSlingT _) AllN.nil)))) rfl) (And.intro (call_F (FzL.cons (Fz.still (vl_still encSlingT _ (Nat.le_of_ble_eq_true rfl))) (FzL.cons (Fz.func FzL.nil (FzL.cons (Fz.ptr rfl rfl (FzL.cons (Fz.still (Still.int 9 _ _)) FzL.nil)) FzL.nil)) (FzL.cons (Fz.func FzL.nil FzL.nil) FzL.nil))) (record_chosen_string_s1_ok N l13 day e_r14) (vl_still encS _ (Nat.le_of_ble_eq_true rfl))) trivial))) (Sub.norm [] [] rfl rfl (.keep (.same (vl_noRef encS _)) (.keep (.same (NoRef.int _ _)) .nil)) .nil)
    intro _ hsub
    refine Goes.sub hsub ?_
    refine Goes.ret ?_
    obtain rfl := Option.some.inj h
    exact (Goes.retW (xs := [vl encS l15, .i 0]) (by kernel_rfl) (FzW.tuple (FzLW.cons (FzW.still (vl_still encS _ (Nat.le_of_ble_eq_true rfl))) (FzLW.cons (FzW.still (Still.int 10 _ _)) FzLW.nil))))
def record_Batch_c1_s1 (a0_ : SlingT) (a1_ : Str) : Option Bool :=
  some (a0_.Batch == a1_)
theorem record_Batch_c1_s1_ok (a0_ : SlingT) (a1_ : Str) {res : Bool} (h : record_Batch_c1_s1 a0_ a1_ = some res) : CallOK Tryz.prog (.fn 101) [.agg [.str a0_.Name, .str a0_.Batch, .i a0_.Born, .i a0_.Last, .i a0_.Uses, .i a0_.Used, .i a0_.Limit, .i a0_.Until, .bool a0_.Gone], .fptr [.str a1_] 0] [] (.bool res) [] := by
  unfold record_Batch_c1_s1 at h
  refine Goes.fnW Tryz.func101 rfl rfl (m := 8) rfl (rs := [.tmp 3]) rfl (l := [(0, .agg [.str a0_.Name, .str a0_.Batch, .i a0_.Born, .i a0_.Last, .i a0_.Uses, .i a0_.Used, .i a0_.Limit, .i a0_.Until, .bool a0_.Gone]), (1, .fptr [.str a1_] 0)]) rfl ?_
  refine sq ?_
  refine Goes.rg fol [(1, .fptr [.str a1_] 0), (2, .ptr 0 0)] [.cells [.str a0_.Name, .str a0_.Batch, .i a0_.Born, .i a0_.Last, .i a0_.Uses, .i a0_.Used, .i a0_.Limit, .i a0_.Until, .bool a0_.Gone]] ?_
  refine sq ?_
  refine Goes.rg fol [(3, .bool (a0_.Batch == a1_))] [.cells [.str a0_.Name, .str a0_.Batch, .i a0_.Born, .i a0_.Last, .i a0_.Uses, .i a0_.Used, .i a0_.Limit, .i a0_.Until, .bool a0_.Gone]] ?_
  refine Goes.ret ?_
  obtain rfl := Option.some.inj h
  exact (Goes.retW (xs := [.bool (a0_.Batch == a1_)]) (by kernel_rfl) (FzW.still (Still.bool 11 _)))
def record_chosen_string_s2_L0 (a0_ : List SlingT) (a1_ : Str) : Nat → (List Str) → Int → Option (List Str)
  | 0, _, _ => none
  | K + 1, l1, n2 =>
    if n2 < (a0_.length : Int) then
    (((idx a0_ n2).bind fun x8 =>
    (record_Batch_c1_s1 x8 a1_).bind fun r9 =>
    if r9 = true then
    (record_Sling_name x8).bind fun r11 =>
    (app 16 l1 [r11]).bind fun l12 =>
    some l12
    else
    some l1 : Option (List Str))).bind fun l6 =>
    record_chosen_string_s2_L0 a0_ a1_ K l6 (w64 (n2 + 1))
    else
    some l1
def record_chosen_string_s2 (N : Nat) (a0_ : List SlingT) (a1_ : Str) : Option (List Str) :=
  (record_chosen_string_s2_L0 a0_ a1_ N ([] : List Str) 0).bind fun l3 =>
  some l3
theorem record_chosen_string_s2_ok (N : Nat) (a0_ : List SlingT) (a1_ : Str) {res : List Str} (h : record_chosen_string_s2 N a0_ a1_ = some res) : CallOK Tryz.prog (.fn 97) [vl encSlingT a0_, .func (.func 101) [] [.fptr [.str a1_] 0], .func (.func 100) [] []] [] (vl encS res) [] := by
  unfold record_chosen_string_s2 at h
  refine Goes.fnW Tryz.func97 rfl rfl (m := 27) rfl (rs := [.tmp 6]) rfl (l := [(0, vl encSlingT a0_), (1, .func (.func 101) [] [.fptr [.str a1_] 0]), (2, .func (.func 100) [] [])]) rfl ?_
  refine sq ?_
  refine Goes.rg fol [(0, vl encSlingT a0_), (1, .func (.func 101) [] [.fptr [.str a1_] 0]), (2, .func (.func 100) [] [])] [] ?_
  refine sq ?_
  refine Goes.rg fol [(0, vl encSlingT a0_), (1, .func (.func 101) [] [.fptr [.str a1_] 0]), (2, .func (.func 100) [] []), (7, .nilslice)] [] ?_
  refine sq ?_
  refine sq ?_
  refine Goes.rg fol [(1, .func (.func 101) [] [.fptr [.str a1_] 0]), (2, .func (.func 100) [] []), (7, .nilslice), (10, vl encSlingT a0_), (11, .i (a0_.length : Int)), (12, .i 0)] [] ?_
  refine Goes.block ?_
  obtain ⟨r4, g4, h⟩ := bnd h
  refine Goes.imp (Q := fun x s' => (x = .exit 0 ∧ ∃ l3, l3 = r4 ∧ Sub s' (ofG 27 [(7, .gslice 0 l3.length 1)], [.cells (l3.flatMap encS.c)]))) ?_ ?_
  · refine Goes.sub (s' := (ofG 27 [(1, .func (.func 101) [] [.fptr [.str a1_] 0]), (2, .func (.func 100) [] []), (7, .gslice 0 ([] : List Str).length 1), (10, vl encSlingT a0_), (11, .i (a0_.length : Int)), (12, .i 0)], [.cells (([] : List Str).flatMap encS.c)])) (Sub.norm [] [none] rfl rfl (.keep (.same (NoRef.func AllN.nil (AllN.cons (NoRef.fptr (AllN.cons (NoRef.str _) AllN.nil)) AllN.nil))) (.keep (.same (NoRef.func AllN.nil AllN.nil)) (.keep .nil (.keep (.same (vl_noRef encSlingT _)) (.keep (.same (NoRef.int _ _)) (.keep (.same (NoRef.int _ _)) .nil)))))) (.fresh .nil)) ?_
    refine Goes.loopS (fun M s => ∃ (l1 : List Str) (n2 : Int), s = (ofG 27 [(1, .func (.func 101) [] [.fptr [.str a1_] 0]), (2, .func (.func 100) [] []), (7, .gslice 0 l1.length 1), (10, vl encSlingT a0_), (11, .i (a0_.length : Int)), (12, .i n2)], [.cells (l1.flatMap encS.c)]) ∧ record_chosen_string_s2_L0 a0_ a1_ M l1 n2 = some r4) ?_ (m := N) ⟨_, _, rfl, g4⟩
    rintro M s ⟨l1, n2, rfl, g4⟩
    cases M with
    | zero => simp only [record_chosen_string_s2_L0] at g4; cases g4
    | succ M =>
      rw [record_chosen_string_s2_L0] at g4
      refine sq ?_
      refine Goes.rg fol [(1, .func (.func 101) [] [.fptr [.str a1_] 0]), (2, .func (.func 100) [] []), (7, .gslice 0 l1.length 1), (10, vl encSlingT a0_), (11, .i (a0_.length : Int)), (12, .i n2), (13, .bool (decide (n2 < (a0_.length : Int))))] [.cells (l1.flatMap encS.c)] ?_
      refine sq ?_
      refine Goes.ifB (b := decide (n2 < (a0_.length : Int))) (by kernel_rfl) (fun c5 => ?_) (fun c5 => ?_)
      · rw [if_pos (ot c5)] at g4
        refine Goes.skip ?_
        refine sq ?_
        obtain ⟨r7, g7, g4⟩ := bnd g4
        refine Goes.imp (Q := fun x s' => (x = .normal ∧ ∃ l6, l6 = r7 ∧ Sub s' (ofG 27 [(1, .func (.func 101) [] [.fptr [.str a1_] 0]), (2, .func (.func 100) [] []), (7, .gslice 0 l6.length 1), (10, vl encSlingT a0_), (11, .i (a0_.length : Int)), (12, .i n2)], [.cells (l6.flatMap encS.c)]))) ?_ ?_
        · refine Goes.block ?_
          refine sq ?_
          obtain ⟨x8, e_x8, g7⟩ := bnd g7
          refine Goes.ro fol [(0, (.done (.fptr (a0_.flatMap encSlingT.c) ((n2 : Int).toNat * 9 + 0)))), (1, (.done (.agg [.str x8.Name, .str x8.Batch, .i x8.Born, .i x8.Last, .i x8.Uses, .i x8.Used, .i x8.Limit, .i x8.Until, .bool x8.Gone])))] [(1, .func (.func 101) [] [.fptr [.str a1_] 0]), (2, .func (.func 100) [] []), (7, .gslice 0 l1.length 1), (9, .ptr 1 0), (10, vl encSlingT a0_), (11, .i (a0_.length : Int)), (12, .i n2)] [.cells (l1.flatMap encS.c), .cells [.str x8.Name, .str x8.Batch, .i x8.Born, .i x8.Last, .i x8.Uses, .i x8.Used, .i x8.Limit, .i x8.Until, .bool x8.Gone]] [.done (.opt (aIndexAddr Tryz.prog 29 (vl encSlingT a0_) (.i n2))) (.fptr (a0_.flatMap encSlingT.c) ((n2 : Int).toNat * 9 + 0)), .done (aLoad Tryz.prog 68 (.fptr (a0_.flatMap encSlingT.c) ((n2 : Int).toNat * 9 + 0))) (.agg [.str x8.Name, .str x8.Batch, .i x8.Born, .i x8.Last, .i x8.Uses, .i x8.Used, .i x8.Limit, .i x8.Until, .bool x8.Gone])] (And.intro (ix_vl sl29 (E := encSlingT) rfl e_x8) (And.intro (ld_ag ag68 (E := encSlingT) rfl e_x8) trivial)) ?_
          refine sq ?_
          obtain ⟨r9, e_r9, g7⟩ := bnd g7
          refine Goes.ro fol [(2, (.call [] [.agg [.str x8.Name, .str x8.Batch, .i x8.Born, .i x8.Last, .i x8.Uses, .i x8.Used, .i x8.Limit, .i x8.Until, .bool x8.Gone], .fptr [.str a1_] 0] (.bool r9)))] [(1, .func (.func 101) [] [.fptr [.str a1_] 0]), (2, .func (.func 100) [] []), (7, .gslice 0 l1.length 1), (9, .ptr 1 0), (10, vl encSlingT a0_), (11, .i (a0_.length : Int)), (12, .i n2), (18, .bool r9)] [.cells (l1.flatMap encS.c), .cells [.str x8.Name, .str x8.Batch, .i x8.Born, .i x8.Last, .i x8.Uses, .i x8.Used, .i x8.Limit, .i x8.Until, .bool x8.Gone]] [.call 101 [.agg [.str x8.Name, .str x8.Batch, .i x8.Born, .i x8.Last, .i x8.Uses, .i x8.Used, .i x8.Limit, .i x8.Until, .bool x8.Gone], .fptr [.str a1_] 0] [.cells (l1.flatMap encS.c), .cells [.str x8.Name, .str x8.Batch, .i x8.Born, .i x8.Last, .i x8.Uses, .i x8.Used, .i x8.Limit, .i x8.Until, .bool x8.Gone]] [] [.agg [.str x8.Name, .str x8.Batch, .i x8.Born, .i x8.Last, .i x8.Uses, .i x8.Used, .i x8.Limit, .i x8.Until, .bool x8.Gone], .fptr [.str a1_] 0] (.bool r9)] (And.intro (call_N (FzL.cons (Fz.still (Still.agg (AllST.cons (Still.str 10 _) (AllST.cons (Still.str 10 _) (AllST.cons (Still.int 10 _ _) (AllST.cons (Still.int 10 _ _) (AllST.cons (Still.int 10 _ _) (AllST.cons (Still.int 10 _ _) (AllST.cons (Still.int 10 _ _) (AllST.cons (Still.int 10 _ _) (AllST.cons (Still.bool 10 _) AllST.nil))))))))))) (FzL.cons (Fz.still (Still.fptr (AllST.cons (Still.str 10 _) AllST.nil))) FzL.nil)) (record_Batch_c1_s1_ok x8 a1_ e_r9) (Still.bool 11 _)) trivial) ?_
          refine Goes.ifB (b := r9) (by kernel_rfl) (fun c10 => ?_) (fun c10 => ?_)
          · rw [if_pos (c10)] at g7
            obtain ⟨r11, e_r11, g7⟩ := bnd g7
            obtain ⟨l12, e_l12, g7⟩ := bnd g7
            refine Goes.ro fol [(3, (.call [] [.agg [.str x8.Name, .str x8.Batch, .i x8.Born, .i x8.Last, .i x8.Uses, .i x8.Used, .i x8.Limit, .i x8.Until, .bool x8.Gone]] (.str r11))), (5, (.run (.gslice 3 l12.length 1) [.dead, .cells [.str x8.Name, .str x8.Batch, .i x8.Born, .i x8.Last, .i x8.Uses, .i x8.Used, .i x8.Limit, .i x8.Until, .bool x8.Gone], .cells [.str r11], .cells (l12.flatMap encS.c)] true))] [(1, .func (.func 101) [] [.fptr [.str a1_] 0]), (2, .func (.func 100) [] []), (7, .gslice 3 l12.length 1), (10, vl encSlingT a0_), (11, .i (a0_.length : Int)), (12, .i n2)] [.dead, .cells [.str x8.Name, .str x8.Batch, .i x8.Born, .i x8.Last, .i x8.Uses, .i x8.Used, .i x8.Limit, .i x8.Until, .bool x8.Gone], .cells [.str r11], .cells (l12.flatMap encS.c)] [.call 100 [.agg [.str x8.Name, .str x8.Batch, .i x8.Born, .i x8.Last, .i x8.Uses, .i x8.Used, .i x8.Limit, .i x8.Until, .bool x8.Gone]] [.cells (l1.flatMap encS.c), .cells [.str x8.Name, .str x8.Batch, .i x8.Born, .i x8.Last, .i x8.Uses, .i x8.Used, .i x8.Limit, .i x8.Until, .bool x8.Gone]] [] [.agg [.str x8.Name, .str x8.Batch, .i x8.Born, .i x8.Last, .i x8.Uses, .i x8.Used, .i x8.Limit, .i x8.Until, .bool x8.Gone]] (.str r11), .run [0, 2] (aAppend Tryz.prog [23, 23] (.gslice 0 l1.length 1) (.slice 2 0 1 1 1)) [.cells (l1.flatMap encS.c), .cells [.str x8.Name, .str x8.Batch, .i x8.Born, .i x8.Last, .i x8.Uses, .i x8.Used, .i x8.Limit, .i x8.Until, .bool x8.Gone], .cells [.str r11]] (.gslice 3 l12.length 1) [.dead, .cells [.str x8.Name, .str x8.Batch, .i x8.Born, .i x8.Last, .i x8.Uses, .i x8.Used, .i x8.Limit, .i x8.Until, .bool x8.Gone], .cells [.str r11], .cells (l12.flatMap encS.c)] true] (And.intro (call_val (AllST.cons (Still.agg (AllST.cons (Still.str 10 _) (AllST.cons (Still.str 10 _) (AllST.cons (Still.int 10 _ _) (AllST.cons (Still.int 10 _ _) (AllST.cons (Still.int 10 _ _) (AllST.cons (Still.int 10 _ _) (AllST.cons (Still.int 10 _ _) (AllST.cons (Still.int 10 _ _) (AllST.cons (Still.bool 10 _) AllST.nil)))))))))) AllST.nil) (record_Sling_name_ok x8 e_r11) (Still.str 11 _)) (And.intro (app_run sl23 (E := encS) rfl (src_c (E := encS) (ys := [r11]) rfl rfl rfl rfl) (dst_g (E := encS) (l := l1) rfl rfl rfl e_l12 rfl)) trivial)) ?_
            obtain rfl := Option.some.inj g7
            exact ⟨rfl, _, rfl, (Sub.norm [] [some 3] rfl rfl (.keep (.same (NoRef.func AllN.nil (AllN.cons (NoRef.fptr (AllN.cons (NoRef.str _) AllN.nil)) AllN.nil))) (.keep (.same (NoRef.func AllN.nil AllN.nil)) (.keep (.gslice rfl) (.keep (.same (vl_noRef encSlingT _)) (.keep (.same (NoRef.int _ _)) (.keep (.same (NoRef.int _ _)) .nil)))))) (.keep rfl (.same fa) rfl rfl .nil))⟩
          · rw [if_neg (by rw [c10]; exact Bool.false_ne_true)] at g7
            refine Goes.skip ?_
            obtain rfl := Option.some.inj g7
            exact ⟨rfl, _, rfl, (Sub.norm [] [some 0] rfl rfl (.keep (.same (NoRef.func AllN.nil (AllN.cons (NoRef.fptr (AllN.cons (NoRef.str _) AllN.nil)) AllN.nil))) (.keep (.same (NoRef.func AllN.nil AllN.nil)) (.keep (.gslice rfl) (.drop (.keep (.same (vl_noRef encSlingT _)) (.keep (.same (NoRef.int _ _)) (.keep (.same (NoRef.int _ _)) .nil))))))) (.keep rfl (.same fa) rfl rfl .nil))⟩
        rintro x s' ⟨rfl, l6, rfl, hsub⟩
        refine Goes.sub hsub ?_
        refine Goes.rg fol [(1, .func (.func 101) [] [.fptr [.str a1_] 0]), (2, .func (.func 100) [] []), (7, .gslice 0 l6.length 1), (10, vl encSlingT a0_), (11, .i (a0_.length : Int)), (12, .i (w64 (n2 + 1)))] [.cells (l6.flatMap encS.c)] ?_
        exact ⟨M, (ofG 27 [(1, .func (.func 101) [] [.fptr [.str a1_] 0]), (2, .func (.func 100) [] []), (7, .gslice 0 l6.length 1), (10, vl encSlingT a0_), (11, .i (a0_.length : Int)), (12, .i (w64 (n2 + 1)))], [.cells (l6.flatMap encS.c)]), Nat.lt_succ_self _, (Sub.refl _), _, _, rfl, g4⟩
      · rw [if_neg (of_ c5)] at g4
        refine Goes.exit ?_
        obtain rfl := Option.some.inj g4
        exact ⟨rfl, _, rfl, (Sub.keep [7] rfl rfl)⟩
  rintro x s' ⟨rfl, l3, rfl, hsub⟩
  refine Goes.sub hsub ?_
  refine sq ?_
  refine Goes.rg fol [(6, .gslice 0 l3.length 1)] [.cells (l3.flatMap encS.c)] ?_
  refine Goes.ret ?_
  obtain rfl := Option.some.inj h
  exact (Goes.retW (xs := [.gslice 0 l3.length 1]) (by kernel_rfl) (FzW.fz (Fz.gs (E := encS) rfl rfl (Nat.le_of_ble_eq_true rfl))))
def record_Batch (N : Nat) (l : List EventT) (batch : Str) : Option ((List Str) × Int) :=
  (record_replay_h1 N l).bind fun (l2, o3, ok4, l_5, n6) =>
  (record_named N batch).bind fun r7 =>
  (record_first N ([n6, r7] : List Int)).bind fun r8 =>
  if (!decide (r8 = 0)) = true then
  some ([], r8)
  else
  ((match ok4 with
  | false =>
  none
  | true =>
  (record_story_register_h1 l2 o3).bind fun (o11, n12, l13) =>
  (record_chosen_string_s2 N l13 batch).bind fun r14 =>
  some r14) : Option (List Str)).bind fun out_15 =>
  (record_when (decide ((out_15.length : Int) = 0)) 10).bind fun r17 =>
  some (out_15, r17)
theorem record_Batch_ok (N : Nat) (l : List EventT) (batch : Str) {res : (List Str) × Int} (h : record_Batch N l batch = some res) : CallOK Tryz.prog (.fn 38) [vl encEventT l, .str batch] [] (.tuple [vl encS res.1, .i res.2]) [] := by
  unfold record_Batch at h
  refine Goes.fnW Tryz.func38 rfl rfl (m := 34) rfl (rs := [.tmp 4, .tmp 5]) rfl (l := [(0, vl encEventT l), (1, .str batch)]) rfl ?_
  refine sq ?_
  refine Goes.rg fol [(0, vl encEventT l), (3, .ptr 0 0)] [.cells [.str batch]] ?_
  refine sq ?_
  obtain ⟨⟨l2, o3, ok4, l_5, n6⟩, e_r1, h⟩ := bnd h
  try dsimp only at h
  refine Goes.ro fol [(1, (.callH [] (.tuple [pz ok4 1 0, .i l_5, .i n6]) [.cells [.str batch], .cells [.gslice 2 l2.length 5, hsl 3 3 o3], .cells (l2.flatMap encEventT.c), .cells ((hof o3).flatMap encStateT.c)]))] [(3, .ptr 0 0), (6, pz ok4 1 0), (8, .i n6)] [.cells [.str batch], .cells [.gslice 2 l2.length 5, hsl 3 3 o3], .cells (l2.flatMap encEventT.c), .cells ((hof o3).flatMap encStateT.c)] [.callH 80 [vl encEventT l] [.cells [.str batch]] [] (.tuple [pz ok4 1 0, .i l_5, .i n6]) [.cells [.str batch], .cells [.gslice 2 l2.length 5, hsl 3 3 o3], .cells (l2.flatMap encEventT.c), .cells ((hof o3).flatMap encStateT.c)]] (And.intro (call_H [] [none, some 0, some 1, some 2] (record_replay_h1_ok N l e_r1) .nil rfl rfl (.old rfl rfl (.new rfl rfl (.cells (RenL.cons (.gslice rfl) (RenL.cons ((RenV.hs rfl)) RenL.nil))) rfl (.new rfl rfl (.same fa) rfl (.new rfl rfl (.same fa) rfl .nil)))) (RenL.cons (.same (vl_noRef encEventT _)) RenL.nil) (.tupleL (RenL.cons ((RenV.pz rfl)) (RenL.cons (.same (NoRef.int _ _)) (RenL.cons (.same (NoRef.int _ _)) RenL.nil)))) rfl) trivial) ?_
  refine sq ?_
  refine sq ?_
  obtain ⟨r7, e_r7, h⟩ := bnd h
  obtain ⟨r8, e_r8, h⟩ := bnd h
  refine Goes.ro fol [(2, (.call [] [.str batch] (.i r7))), (4, (.call [4] [vl encI ([n6, r7] : List Int)] (.i r8)))] [(3, .ptr 0 0), (6, pz ok4 1 0), (8, .i r8)] [.cells [.str batch], .cells [.gslice 2 l2.length 5, hsl 3 3 o3], .cells (l2.flatMap encEventT.c), .cells ((hof o3).flatMap encStateT.c), .cells [.i n6, .i r7]] [.call 89 [.str batch] [.cells [.str batch], .cells [.gslice 2 l2.length 5, hsl 3 3 o3], .cells (l2.flatMap encEventT.c), .cells ((hof o3).flatMap encStateT.c)] [] [.str batch] (.i r7), .call 86 [.slice 4 0 2 2 1] [.cells [.str batch], .cells [.gslice 2 l2.length 5, hsl 3 3 o3], .cells (l2.flatMap encEventT.c), .cells ((hof o3).flatMap encStateT.c), .cells [.i n6, .i r7]] [4] [vl encI ([n6, r7] : List Int)] (.i r8)] (And.intro (call_val (AllST.cons (Still.str 11 _) AllST.nil) (record_named_ok N batch e_r7) (Still.int 11 _ _)) (And.intro (call_S (FzL.cons (Fz.lit rfl rfl (FzL.still (AllST.cons (Still.int 10 _ _) (AllST.cons (Still.int 10 _ _) AllST.nil)))) FzL.nil) (record_first_ok N ([n6, r7] : List Int) e_r8) (Still.int 11 _ _) rfl) trivial)) ?_
  refine sq ?_
  refine Goes.rg fol [(3, .ptr 0 0), (6, pz ok4 1 0), (8, .i r8), (22, .bool (!decide (r8 = 0)))] [.cells [.str batch], .cells [.gslice 2 l2.length 5, hsl 3 3 o3], .cells (l2.flatMap encEventT.c), .cells ((hof o3).flatMap encStateT.c), .cells [.i n6, .i r7]] ?_
  refine Goes.ifB (b := !decide (r8 = 0)) (by kernel_rfl) (fun c9 => ?_) (fun c9 => ?_)
  · rw [if_pos (c9)] at h
    refine sq ?_
    refine Goes.rg fol [(4, .nilslice), (5, .i r8)] [.cells [.str batch], .cells [.gslice 2 l2.length 5, hsl 3 3 o3], .cells (l2.flatMap encEventT.c), .cells ((hof o3).flatMap encStateT.c), .cells [.i n6, .i r7]] ?_
    refine Goes.ret ?_
    obtain rfl := Option.some.inj h
    exact (Goes.retW (xs := [.nilslice, .i r8]) (by kernel_rfl) (FzW.tuple (FzLW.cons (FzW.nilv (E := encS)) (FzLW.cons (FzW.still (Still.int 10 _ _)) FzLW.nil))))
  · rw [if_neg (by rw [c9]; exact Bool.false_ne_true)] at h
    refine Goes.skip ?_
    refine sq ?_
    obtain ⟨out_15, g_v16, h⟩ := bnd h
    refine Goes.cutS (s' := (ofG 34 [(9, vl encS out_15)], [])) ?_ ?_
    · rcases ok4 with _ | _
      · try dsimp only at g_v16
        cases g_v16
      · try dsimp only at g_v16
        obtain ⟨⟨o11, n12, l13⟩, e_r10, g_v16⟩ := bnd g_v16
        try dsimp only at g_v16
        obtain ⟨r14, e_r14, g_v16⟩ := bnd g_v16
        obtain rfl := Option.some.inj g_v16
        exact RegTo.sub (RegTo.ro fol [(1, (.callH [1, 2, 3] (.agg [.i n12, vl encSlingT l13]) [.cells [.str batch], .cells [.gslice 2 l2.length 5, hsl 3 3 o11], .cells (l2.flatMap encEventT.c), .cells ((hof o11).flatMap encStateT.c), .cells [.i n6, .i r7]])), (4, (.callF [0] [vl encSlingT l13, .func (.func 101) [] [.fptr [.str batch] 0], .func (.func 100) [] []] (vl encS r14)))] [(9, vl encS r14)] [.frozen [.str batch], .cells [.gslice 2 l2.length 5, hsl 3 3 o11], .cells (l2.flatMap encEventT.c), .cells ((hof o11).flatMap encStateT.c), .cells [.i n6, .i r7]] [.callH 81 [.ptr 1 0] [.cells [.str batch], .cells [.gslice 2 l2.length 5, hsl 3 3 o3], .cells (l2.flatMap encEventT.c), .cells ((hof o3).flatMap encStateT.c), .cells [.i n6, .i r7]] [1, 2, 3] (.agg [.i n12, vl encSlingT l13]) [.cells [.str batch], .cells [.gslice 2 l2.length 5, hsl 3 3 o11], .cells (l2.flatMap encEventT.c), .cells ((hof o11).flatMap encStateT.c), .cells [.i n6, .i r7]], .callF 97 [vl encSlingT l13, .func (.func 101) [] [.ptr 0 0], .func (.func 100) [] []] [.cells [.str batch], .cells [.gslice 2 l2.length 5, hsl 3 3 o11], .cells (l2.flatMap encEventT.c), .cells ((hof o11).flatMap encStateT.c), .cells [.i n6, .i r7]] [0] [vl encSlingT l13, .func (.func 101) [] [.fptr [.str batch] 0], .func (.func 100) [] []] (vl encS r14)] (And.intro (call_H [some 1, some 2, some 3] [none, some 0, some 1, some 2, none] (record_story_register_h1_ok l2 o3 e_r10) (.keep rfl (.cells (RenL.cons (.gslice rfl) (RenL.cons ((RenV.hs rfl)) RenL.nil))) rfl rfl (.keep rfl (.same fa) rfl rfl (.keep rfl (.same fa) rfl rfl .nil))) rfl rfl (.old rfl rfl (.back rfl rfl (.cells (RenL.cons (.gslice rfl) (RenL.cons ((RenV.hs rfl)) RenL.nil))) rfl (.back rfl rfl (.same fa) rfl (.back rfl rfl (.same fa) rfl (.old rfl rfl .nil))))) (RenL.cons (.ptr rfl) RenL.nil) (.same (NoRef.agg (AllN.cons (NoRef.int _ _) (AllN.cons (vl_noRef encSlingT _) AllN.nil)))) rfl) (And.intro (call_F (FzL.cons (Fz.still (vl_still encSlingT _ (Nat.le_of_ble_eq_true rfl))) (FzL.cons (Fz.func FzL.nil (FzL.cons (Fz.ptr rfl rfl (FzL.cons (Fz.still (Still.str 9 _)) FzL.nil)) FzL.nil)) (FzL.cons (Fz.func FzL.nil FzL.nil) FzL.nil))) (record_chosen_string_s2_ok N l13 batch e_r14) (vl_still encS _ (Nat.le_of_ble_eq_true rfl))) trivial))) (Sub.norm [] [] rfl rfl (.keep (.same (vl_noRef encS _)) .nil) .nil)
    intro _ hsub
    refine Goes.sub hsub ?_
    refine sq ?_
    obtain ⟨r17, e_r17, h⟩ := bnd h
    refine Goes.ro fol [(4, (.call [] [.bool (decide ((out_15.length : Int) = 0)), .i 10] (.i r17)))] [(4, vl encS out_15), (5, .i r17)] [] [.call 88 [.bool (decide ((out_15.length : Int) = 0)), .i 10] [] [] [.bool (decide ((out_15.length : Int) = 0)), .i 10] (.i r17)] (And.intro (call_val (AllST.cons (Still.bool 11 _) (AllST.cons (Still.int 11 _ _) AllST.nil)) (record_when_ok (decide ((out_15.length : Int) = 0)) 10 e_r17) (Still.int 11 _ _)) trivial) ?_
    refine Goes.ret ?_
    obtain rfl := Option.some.inj h
    exact (Goes.retW (xs := [vl encS out_15, .i r17]) (by kernel_rfl) (FzW.tuple (FzLW.cons (FzW.still (vl_still encS _ (Nat.le_of_ble_eq_true rfl))) (FzLW.cons (FzW.still (Still.int 10 _ _)) FzLW.nil))))
def ref10_Due_L0 (r : RegisterTq) (day : Int) : Nat → (List Str) → Int → Option (List Str)
  | 0, _, _ => none
  | K + 1, l1, i_2 =>
    if i_2 < (r.Slings.length : Int) then
    ((((idx r.Slings i_2).bind fun x8 =>
    (ref10_Retired x8 day).bind fun r9 =>
    if (!r9) = true then
    (ref10_Holds x8 day).bind fun r11 =>
    some (!r11)
    else
    some false : Option Bool).bind fun b12 =>
    if b12 = true then
    (idx r.Slings i_2).bind fun x15 =>
    (app 16 l1 [x15.Name]).bind fun l16 =>
    some l16
    else
    some l1 : Option (List Str))).bind fun l6 =>
    ref10_Due_L0 r day K l6 (w64 (i_2 + 1))
    else
    some l1
def ref10_Due (N : Nat) (r : RegisterTq) (day : Int) : Option (List Str) :=
  (ref10_Due_L0 r day N ([] : List Str) 0).bind fun l3 =>
  some l3
theorem ref10_Due_ok (N : Nat) (r : RegisterTq) (day : Int) {res : List Str} (h : ref10_Due N r day = some res) : CallOK Tryz.prog (.fn 39) [.agg [.i r.Day, vl encSlingT r.Slings], .i day] [] (vl encS res) [] := by
  unfold ref10_Due at h
  refine Goes.fnW Tryz.func39 rfl rfl (m := 42) rfl (rs := [.tmp 4]) rfl (l := [(0, .agg [.i r.Day, vl encSlingT r.Slings]), (1, .i day)]) rfl ?_
  refine sq ?_
  refine Goes.rg fol [(1, .i day), (2, .ptr 0 0)] [.cells [.i r.Day, vl encSlingT r.Slings]] ?_
  refine sq ?_
  refine Goes.rg fol [(1, .i day), (2, .ptr 0 0), (5, .nilslice)] [.cells [.i r.Day, vl encSlingT r.Slings]] ?_
  refine sq ?_
  refine sq ?_
  refine Goes.rg fol [(1, .i day), (2, .ptr 0 0), (5, .nilslice), (6, .i 0)] [.cells [.i r.Day, vl encSlingT r.Slings]] ?_
  refine Goes.block ?_
  obtain ⟨r4, g4, h⟩ := bnd h
  refine Goes.imp (Q := fun x s' => (x = .exit 0 ∧ ∃ l3, l3 = r4 ∧ Sub s' (ofG 42 [(5, .gslice 0 l3.length 1)], [.cells (l3.flatMap encS.c)]))) ?_ ?_
  · refine Goes.sub (s' := (ofG 42 [(1, .i day), (2, .ptr 0 0), (5, .gslice 1 ([] : List Str).length 1), (6, .i 0)], [.cells [.i r.Day, vl encSlingT r.Slings], .cells (([] : List Str).flatMap encS.c)])) (Sub.norm [] [some 0, none] rfl rfl (.keep (.same (NoRef.int _ _)) (.keep (.ptr rfl) (.keep .nil (.keep (.same (NoRef.int _ _)) .nil)))) (.keep rfl (.same (AllN.cons (NoRef.int _ _) (AllN.cons (vl_noRef encSlingT _) AllN.nil))) rfl rfl (.fresh .nil))) ?_
    refine Goes.loopS (fun M s => ∃ (l1 : List Str) (i_2 : Int), s = (ofG 42 [(1, .i day), (2, .ptr 0 0), (5, .gslice 1 l1.length 1), (6, .i i_2)], [.cells [.i r.Day, vl encSlingT r.Slings], .cells (l1.flatMap encS.c)]) ∧ ref10_Due_L0 r day M l1 i_2 = some r4) ?_ (m := N) ⟨_, _, rfl, g4⟩
    rintro M s ⟨l1, i_2, rfl, g4⟩
    cases M with
    | zero => simp only [ref10_Due_L0] at g4; cases g4
    | succ M =>
      rw [ref10_Due_L0] at g4
      refine sq ?_
      refine sq ?_
      refine Goes.rg fol [(1, .i day), (2, .ptr 0 0), (5, .gslice 1 l1.length 1), (6, .i i_2), (11, .bool (decide (i_2 < (r.Slings.length : Int))))] [.cells [.i r.Day, vl encSlingT r.Slings], .cells (l1.flatMap encS.c)] ?_
      refine Goes.ifB (b := decide (i_2 < (r.Slings.length : Int))) (by kernel_rfl) (fun c5 => ?_) (fun c5 => ?_)
      · rw [if_pos (ot c5)] at g4
        refine Goes.skip ?_
        refine sq ?_
        obtain ⟨r7, g7, g4⟩ := bnd g4
        refine Goes.imp (Q := fun x s' => (x = .normal ∧ ∃ l6, l6 = r7 ∧ Sub s' (ofG 42 [(1, .i day), (2, .ptr 0 0), (5, .gslice 1 l6.length 1), (6, .i i_2)], [.cells [.i r.Day, vl encSlingT r.Slings], .cells (l6.flatMap encS.c)]))) ?_ ?_
        · refine Goes.block ?_
          refine sq ?_
          obtain ⟨b12, g_v13, g7⟩ := bnd g7
          refine Goes.cut (s' := (ofG 42 [(1, .i day), (2, .ptr 0 0), (5, .gslice 1 l1.length 1), (6, .i i_2), (31, .bool b12)], [.cells [.i r.Day, vl encSlingT r.Slings], .cells (l1.flatMap encS.c)])) ?_ ?_
          · obtain ⟨x8, e_x8, g_v13⟩ := bnd g_v13
            obtain ⟨r9, e_r9, g_v13⟩ := bnd g_v13
            rcases Bool.eq_false_or_eq_true (!r9) with c10 | c10
            · rw [if_pos (c10)] at g_v13
              obtain ⟨r11, e_r11, g_v13⟩ := bnd g_v13
              obtain rfl := Option.some.inj g_v13
              exact RegTo.ro fol [(3, (.done (.fptr (r.Slings.flatMap encSlingT.c) ((i_2 : Int).toNat * 9 + 0)))), (4, (.done (.agg [.str x8.Name, .str x8.Batch, .i x8.Born, .i x8.Last, .i x8.Uses, .i x8.Used, .i x8.Limit, .i x8.Until, .bool x8.Gone]))), (6, (.call [] [.agg [.str x8.Name, .str x8.Batch, .i x8.Born, .i x8.Last, .i x8.Uses, .i x8.Used, .i x8.Limit, .i x8.Until, .bool x8.Gone], .i day] (.bool r9))), (8, (.done (.bool true))), (12, (.done (.fptr (r.Slings.flatMap encSlingT.c) ((i_2 : Int).toNat * 9 + 0)))), (13, (.done (.agg [.str x8.Name, .str x8.Batch, .i x8.Born, .i x8.Last, .i x8.Uses, .i x8.Used, .i x8.Limit, .i x8.Until, .bool x8.Gone]))), (15, (.call [] [.agg [.str x8.Name, .str x8.Batch, .i x8.Born, .i x8.Last, .i x8.Uses, .i x8.Used, .i x8.Limit, .i x8.Until, .bool x8.Gone], .i day] (.bool r11)))] [(1, .i day), (2, .ptr 0 0), (5, .gslice 1 l1.length 1), (6, .i i_2), (31, .bool (!r11))] [.cells [.i r.Day, vl encSlingT r.Slings], .cells (l1.flatMap encS.c)] [.done (.opt (aIndexAddr Tryz.prog 35 (vl encSlingT r.Slings) (.i i_2))) (.fptr (r.Slings.flatMap encSlingT.c) ((i_2 : Int).toNat * 9 + 0)), .done (aLoad Tryz.prog 60 (.fptr (r.Slings.flatMap encSlingT.c) ((i_2 : Int).toNat * 9 + 0))) (.agg [.str x8.Name, .str x8.Batch, .i x8.Born, .i x8.Last, .i x8.Uses, .i x8.Used, .i x8.Limit, .i x8.Until, .bool x8.Gone]), .call 33 [.agg [.str x8.Name, .str x8.Batch, .i x8.Born, .i x8.Last, .i x8.Uses, .i x8.Used, .i x8.Limit, .i x8.Until, .bool x8.Gone], .i day] [.cells [.i r.Day, vl encSlingT r.Slings], .cells (l1.flatMap encS.c)] [] [.agg [.str x8.Name, .str x8.Batch, .i x8.Born, .i x8.Last, .i x8.Uses, .i x8.Used, .i x8.Limit, .i x8.Until, .bool x8.Gone], .i day] (.bool r9), .done (.done (.bool (!r9))) (.bool true), .done (.opt (aIndexAddr Tryz.prog 35 (vl encSlingT r.Slings) (.i i_2))) (.fptr (r.Slings.flatMap encSlingT.c) ((i_2 : Int).toNat * 9 + 0)), .done (aLoad Tryz.prog 60 (.fptr (r.Slings.flatMap encSlingT.c) ((i_2 : Int).toNat * 9 + 0))) (.agg [.str x8.Name, .str x8.Batch, .i x8.Born, .i x8.Last, .i x8.Uses, .i x8.Used, .i x8.Limit, .i x8.Until, .bool x8.Gone]), .call 34 [.agg [.str x8.Name, .str x8.Batch, .i x8.Born, .i x8.Last, .i x8.Uses, .i x8.Used, .i x8.Limit, .i x8.Until, .bool x8.Gone], .i day] [.cells [.i r.Day, vl encSlingT r.Slings], .cells (l1.flatMap encS.c)] [] [.agg [.str x8.Name, .str x8.Batch, .i x8.Born, .i x8.Last, .i x8.Uses, .i x8.Used, .i x8.Limit, .i x8.Until, .bool x8.Gone], .i day] (.bool r11)] (And.intro (ix_vl sl35 (E := encSlingT) rfl e_x8) (And.intro (ld_ag ag60 (E := encSlingT) rfl e_x8) (And.intro (call_val (AllST.cons (Still.agg (AllST.cons (Still.str 10 _) (AllST.cons (Still.str 10 _) (AllST.cons (Still.int 10 _ _) (AllST.cons (Still.int 10 _ _) (AllST.cons (Still.int 10 _ _) (AllST.cons (Still.int 10 _ _) (AllST.cons (Still.int 10 _ _) (AllST.cons (Still.int 10 _ _) (AllST.cons (Still.bool 10 _) AllST.nil)))))))))) (AllST.cons (Still.int 11 _ _) AllST.nil)) (ref10_Retired_ok x8 day e_r9) (Still.bool 11 _)) (And.intro (congrArg (fun x => Pg.done (.bool x)) c10) (And.intro (ix_vl sl35 (E := encSlingT) rfl e_x8) (And.intro (ld_ag ag60 (E := encSlingT) rfl e_x8) (And.intro (call_val (AllST.cons (Still.agg (AllST.cons (Still.str 10 _) (AllST.cons (Still.str 10 _) (AllST.cons (Still.int 10 _ _) (AllST.cons (Still.int 10 _ _) (AllST.cons (Still.int 10 _ _) (AllST.cons (Still.int 10 _ _) (AllST.cons (Still.int 10 _ _) (AllST.cons (Still.int 10 _ _) (AllST.cons (Still.bool 10 _) AllST.nil)))))))))) (AllST.cons (Still.int 11 _ _) AllST.nil)) (ref10_Holds_ok x8 day e_r11) (Still.bool 11 _)) trivial)))))))
            · rw [if_neg (by rw [c10]; exact Bool.false_ne_true)] at g_v13
              obtain rfl := Option.some.inj g_v13
              exact RegTo.ro fol [(3, (.done (.fptr (r.Slings.flatMap encSlingT.c) ((i_2 : Int).toNat * 9 + 0)))), (4, (.done (.agg [.str x8.Name, .str x8.Batch, .i x8.Born, .i x8.Last, .i x8.Uses, .i x8.Used, .i x8.Limit, .i x8.Until, .bool x8.Gone]))), (6, (.call [] [.agg [.str x8.Name, .str x8.Batch, .i x8.Born, .i x8.Last, .i x8.Uses, .i x8.Used, .i x8.Limit, .i x8.Until, .bool x8.Gone], .i day] (.bool r9))), (8, (.done (.bool false)))] [(1, .i day), (2, .ptr 0 0), (5, .gslice 1 l1.length 1), (6, .i i_2), (31, .bool false)] [.cells [.i r.Day, vl encSlingT r.Slings], .cells (l1.flatMap encS.c)] [.done (.opt (aIndexAddr Tryz.prog 35 (vl encSlingT r.Slings) (.i i_2))) (.fptr (r.Slings.flatMap encSlingT.c) ((i_2 : Int).toNat * 9 + 0)), .done (aLoad Tryz.prog 60 (.fptr (r.Slings.flatMap encSlingT.c) ((i_2 : Int).toNat * 9 + 0))) (.agg [.str x8.Name, .str x8.Batch, .i x8.Born, .i x8.Last, .i x8.Uses, .i x8.Used, .i x8.Limit, .i x8.Until, .bool x8.Gone]), .call 33 [.agg [.str x8.Name, .str x8.Batch, .i x8.Born, .i x8.Last, .i x8.Uses, .i x8.Used, .i x8.Limit, .i x8.Until, .bool x8.Gone], .i day] [.cells [.i r.Day, vl encSlingT r.Slings], .cells (l1.flatMap encS.c)] [] [.agg [.str x8.Name, .str x8.Batch, .i x8.Born, .i x8.Last, .i x8.Uses, .i x8.Used, .i x8.Limit, .i x8.Until, .bool x8.Gone], .i day] (.bool r9), .done (.done (.bool (!r9))) (.bool false)] (And.intro (ix_vl sl35 (E := encSlingT) rfl e_x8) (And.intro (ld_ag ag60 (E := encSlingT) rfl e_x8) (And.intro (call_val (AllST.cons (Still.agg (AllST.cons (Still.str 10 _) (AllST.cons (Still.str 10 _) (AllST.cons (Still.int 10 _ _) (AllST.cons (Still.int 10 _ _) (AllST.cons (Still.int 10 _ _) (AllST.cons (Still.int 10 _ _) (AllST.cons (Still.int 10 _ _) (AllST.cons (Still.int 10 _ _) (AllST.cons (Still.bool 10 _) AllST.nil)))))))))) (AllST.cons (Still.int 11 _ _) AllST.nil)) (ref10_Retired_ok x8 day e_r9) (Still.bool 11 _)) (And.intro (congrArg (fun x => Pg.done (.bool x)) c10) trivial))))
          refine Goes.ifB (b := b12) (by kernel_rfl) (fun c14 => ?_) (fun c14 => ?_)
          · rw [if_pos (c14)] at g7
            obtain ⟨x15, e_x15, g7⟩ := bnd g7
            obtain ⟨l16, e_l16, g7⟩ := bnd g7
            refine Goes.ro fol [(4, (.done (.fptr (r.Slings.flatMap encSlingT.c) ((i_2 : Int).toNat * 9 + 0)))), (6, (.done (.str x15.Name))), (8, (.run (.gslice 3 l16.length 1) [.cells [.i r.Day, vl encSlingT r.Slings], .dead, .cells [.str x15.Name], .cells (l16.flatMap encS.c)] true))] [(1, .i day), (2, .ptr 0 0), (5, .gslice 3 l16.length 1), (6, .i i_2)] [.cells [.i r.Day, vl encSlingT r.Slings], .dead, .cells [.str x15.Name], .cells (l16.flatMap encS.c)] [.done (.opt (aIndexAddr Tryz.prog 35 (vl encSlingT r.Slings) (.i i_2))) (.fptr (r.Slings.flatMap encSlingT.c) ((i_2 : Int).toNat * 9 + 0)), .done (aLoad Tryz.prog 9 (.fptr (r.Slings.flatMap encSlingT.c) ((i_2 : Int).toNat * 9 + 0))) (.str x15.Name), .run [1, 2] (aAppend Tryz.prog [23, 23] (.gslice 1 l1.length 1) (.slice 2 0 1 1 1)) [.cells [.i r.Day, vl encSlingT r.Slings], .cells (l1.flatMap encS.c), .cells [.str x15.Name]] (.gslice 3 l16.length 1) [.cells [.i r.Day, vl encSlingT r.Slings], .dead, .cells [.str x15.Name], .cells (l16.flatMap encS.c)] true] (And.intro (ix_vl sl35 (E := encSlingT) rfl e_x15) (And.intro (ld_vl ce9 (E := encSlingT) rfl e_x15 (Nat.le_of_ble_eq_true rfl) rfl) (And.intro (app_run sl23 (E := encS) rfl (src_c (E := encS) (ys := [x15.Name]) rfl rfl rfl rfl) (dst_g (E := encS) (l := l1) rfl rfl rfl e_l16 rfl)) trivial))) ?_
            obtain rfl := Option.some.inj g7
            exact ⟨rfl, _, rfl, (Sub.norm [] [some 0, some 3] rfl rfl (.keep (.same (NoRef.int _ _)) (.keep (.ptr rfl) (.keep (.gslice rfl) (.keep (.same (NoRef.int _ _)) .nil)))) (.keep rfl (.same (AllN.cons (NoRef.int _ _) (AllN.cons (vl_noRef encSlingT _) AllN.nil))) rfl rfl (.keep rfl (.same fa) rfl rfl .nil)))⟩
          · rw [if_neg (by rw [c14]; exact Bool.false_ne_true)] at g7
            refine Goes.skip ?_
            obtain rfl := Option.some.inj g7
            exact ⟨rfl, _, rfl, (Sub.keep [1, 2, 5, 6] rfl rfl)⟩
        rintro x s' ⟨rfl, l6, rfl, hsub⟩
        refine Goes.sub hsub ?_
        refine Goes.rg fol [(1, .i day), (2, .ptr 0 0), (5, .gslice 1 l6.length 1), (6, .i (w64 (i_2 + 1)))] [.cells [.i r.Day, vl encSlingT r.Slings], .cells (l6.flatMap encS.c)] ?_
        exact ⟨M, (ofG 42 [(1, .i day), (2, .ptr 0 0), (5, .gslice 1 l6.length 1), (6, .i (w64 (i_2 + 1)))], [.cells [.i r.Day, vl encSlingT r.Slings], .cells (l6.flatMap encS.c)]), Nat.lt_succ_self _, (Sub.refl _), _, _, rfl, g4⟩
      · rw [if_neg (of_ c5)] at g4
        refine Goes.exit ?_
        obtain rfl := Option.some.inj g4
        exact ⟨rfl, _, rfl, (Sub.norm [] [some 1] rfl rfl (.drop (.drop (.keep (.gslice rfl) .nil))) (.keep rfl (.same fa) rfl rfl .nil))⟩
  rintro x s' ⟨rfl, l3, rfl, hsub⟩
  refine Goes.sub hsub ?_
  refine sq ?_
  refine Goes.rg fol [(4, .gslice 0 l3.length 1)] [.cells (l3.flatMap encS.c)] ?_
  refine Goes.ret ?_
  obtain rfl := Option.some.inj h
  exact (Goes.retW (xs := [.gslice 0 l3.length 1]) (by kernel_rfl) (FzW.fz (Fz.gs (E := encS) rfl rfl (Nat.le_of_ble_eq_true rfl))))
def ref10_Batch_L0 (r : RegisterTq) (batch : Str) : Nat → (List Str) → Int → Option (List Str)
  | 0, _, _ => none
  | K + 1, l1, i_2 =>
    if i_2 < (r.Slings.length : Int) then
    (((idx r.Slings i_2).bind fun x8 =>
    if (x8.Batch == batch) = true then
    (app 16 l1 [x8.Name]).bind fun l10 =>
    some l10
    else
    some l1 : Option (List Str))).bind fun l6 =>
    ref10_Batch_L0 r batch K l6 (w64 (i_2 + 1))
    else
    some l1
def ref10_Batch (N : Nat) (r : RegisterTq) (batch : Str) : Option (List Str) :=
  (ref10_Batch_L0 r batch N ([] : List Str) 0).bind fun l3 =>
  some l3
theorem ref10_Batch_ok (N : Nat) (r : RegisterTq) (batch : Str) {res : List Str} (h : ref10_Batch N r batch = some res) : CallOK Tryz.prog (.fn 40) [.agg [.i r.Day, vl encSlingT r.Slings], .str batch] [] (vl encS res) [] := by
  unfold ref10_Batch at h
  refine Goes.fnW Tryz.func40 rfl rfl (m := 32) rfl (rs := [.tmp 4]) rfl (l := [(0, .agg [.i r.Day, vl encSlingT r.Slings]), (1, .str batch)]) rfl ?_
  refine sq ?_
  refine Goes.rg fol [(1, .str batch), (2, .ptr 0 0)] [.cells [.i r.Day, vl encSlingT r.Slings]] ?_
  refine sq ?_
  refine Goes.rg fol [(1, .str batch), (2, .ptr 0 0), (5, .nilslice)] [.cells [.i r.Day, vl encSlingT r.Slings]] ?_
  refine sq ?_
  refine sq ?_
  refine Goes.rg fol [(1, .str batch), (2, .ptr 0 0), (5, .nilslice), (6, .i 0)] [.cells [.i r.Day, vl encSlingT r.Slings]] ?_
  refine Goes.block ?_
  obtain ⟨r4, g4, h⟩ := bnd h
  refine Goes.imp (Q := fun x s' => (x = .exit 0 ∧ ∃ l3, l3 = r4 ∧ Sub s' (ofG 32 [(5, .gslice 0 l3.length 1)], [.cells (l3.flatMap encS.c)]))) ?_ ?_
  · refine Goes.sub (s' := (ofG 32 [(1, .str batch), (2, .ptr 0 0), (5, .gslice 1 ([] : List Str).length 1), (6, .i 0)], [.cells [.i r.Day, vl encSlingT r.Slings], .cells (([] : List Str).flatMap encS.c)])) (Sub.norm [] [some 0, none] rfl rfl (.keep (.same (NoRef.str _)) (.keep (.ptr rfl) (.keep .nil (.keep (.same (NoRef.int _ _)) .nil)))) (.keep rfl (.same (AllN.cons (NoRef.int _ _) (AllN.cons (vl_noRef encSlingT _) AllN.nil))) rfl rfl (.fresh .nil))) ?_
    refine Goes.loopS (fun M s => ∃ (l1 : List Str) (i_2 : Int), s = (ofG 32 [(1, .str batch), (2, .ptr 0 0), (5, .gslice 1 l1.length 1), (6, .i i_2)], [.cells [.i r.Day, vl encSlingT r.Slings], .cells (l1.flatMap encS.c)]) ∧ ref10_Batch_L0 r batch M l1 i_2 = some r4) ?_ (m := N) ⟨_, _, rfl, g4⟩
    rintro M s ⟨l1, i_2, rfl, g4⟩
    cases M with
    | zero => simp only [ref10_Batch_L0] at g4; cases g4
    | succ M =>
      rw [ref10_Batch_L0] at g4
      refine sq ?_
      refine sq ?_
      refine Goes.rg fol [(1, .str batch), (2, .ptr 0 0), (5, .gslice 1 l1.length 1), (6, .i i_2), (11, .bool (decide (i_2 < (r.Slings.length : Int))))] [.cells [.i r.Day, vl encSlingT r.Slings], .cells (l1.flatMap encS.c)] ?_
      refine Goes.ifB (b := decide (i_2 < (r.Slings.length : Int))) (by kernel_rfl) (fun c5 => ?_) (fun c5 => ?_)
      · rw [if_pos (ot c5)] at g4
        refine Goes.skip ?_
        refine sq ?_
        obtain ⟨r7, g7, g4⟩ := bnd g4
        refine Goes.imp (Q := fun x s' => (x = .normal ∧ ∃ l6, l6 = r7 ∧ Sub s' (ofG 32 [(1, .str batch), (2, .ptr 0 0), (5, .gslice 1 l6.length 1), (6, .i i_2)], [.cells [.i r.Day, vl encSlingT r.Slings], .cells (l6.flatMap encS.c)]))) ?_ ?_
        · refine Goes.block ?_
          refine sq ?_
          obtain ⟨x8, e_x8, g7⟩ := bnd g7
          refine Goes.ro fol [(3, (.done (.fptr (r.Slings.flatMap encSlingT.c) ((i_2 : Int).toNat * 9 + 0)))), (5, (.done (.str x8.Batch)))] [(1, .str batch), (2, .ptr 0 0), (5, .gslice 1 l1.length 1), (6, .i i_2), (21, .bool (x8.Batch == batch))] [.cells [.i r.Day, vl encSlingT r.Slings], .cells (l1.flatMap encS.c)] [.done (.opt (aIndexAddr Tryz.prog 35 (vl encSlingT r.Slings) (.i i_2))) (.fptr (r.Slings.flatMap encSlingT.c) ((i_2 : Int).toNat * 9 + 0)), .done (aLoad Tryz.prog 9 (.fptr (r.Slings.flatMap encSlingT.c) ((i_2 : Int).toNat * 9 + 1))) (.str x8.Batch)] (And.intro (ix_vl sl35 (E := encSlingT) rfl e_x8) (And.intro (ld_vl ce9 (E := encSlingT) rfl e_x8 (Nat.le_of_ble_eq_true rfl) rfl) trivial)) ?_
          refine Goes.ifB (b := x8.Batch == batch) (by kernel_rfl) (fun c9 => ?_) (fun c9 => ?_)
          · rw [if_pos (c9)] at g7
            obtain ⟨l10, e_l10, g7⟩ := bnd g7
            refine Goes.ro fol [(4, (.done (.fptr (r.Slings.flatMap encSlingT.c) ((i_2 : Int).toNat * 9 + 0)))), (6, (.done (.str x8.Name))), (8, (.run (.gslice 3 l10.length 1) [.cells [.i r.Day, vl encSlingT r.Slings], .dead, .cells [.str x8.Name], .cells (l10.flatMap encS.c)] true))] [(1, .str batch), (2, .ptr 0 0), (5, .gslice 3 l10.length 1), (6, .i i_2)] [.cells [.i r.Day, vl encSlingT r.Slings], .dead, .cells [.str x8.Name], .cells (l10.flatMap encS.c)] [.done (.opt (aIndexAddr Tryz.prog 35 (vl encSlingT r.Slings) (.i i_2))) (.fptr (r.Slings.flatMap encSlingT.c) ((i_2 : Int).toNat * 9 + 0)), .done (aLoad Tryz.prog 9 (.fptr (r.Slings.flatMap encSlingT.c) ((i_2 : Int).toNat * 9 + 0))) (.str x8.Name), .run [1, 2] (aAppend Tryz.prog [23, 23] (.gslice 1 l1.length 1) (.slice 2 0 1 1 1)) [.cells [.i r.Day, vl encSlingT r.Slings], .cells (l1.flatMap encS.c), .cells [.str x8.Name]] (.gslice 3 l10.length 1) [.cells [.i r.Day, vl encSlingT r.Slings], .dead, .cells [.str x8.Name], .cells (l10.flatMap encS.c)] true] (And.intro (ix_vl sl35 (E := encSlingT) rfl e_x8) (And.intro (ld_vl ce9 (E := encSlingT) rfl e_x8 (Nat.le_of_ble_eq_true rfl) rfl) (And.intro (app_run sl23 (E := encS) rfl (src_c (E := encS) (ys := [x8.Name]) rfl rfl rfl rfl) (dst_g (E := encS) (l := l1) rfl rfl rfl e_l10 rfl)) trivial))) ?_
            obtain rfl := Option.some.inj g7
            exact ⟨rfl, _, rfl, (Sub.norm [] [some 0, some 3] rfl rfl (.keep (.same (NoRef.str _)) (.keep (.ptr rfl) (.keep (.gslice rfl) (.keep (.same (NoRef.int _ _)) .nil)))) (.keep rfl (.same (AllN.cons (NoRef.int _ _) (AllN.cons (vl_noRef encSlingT _) AllN.nil))) rfl rfl (.keep rfl (.same fa) rfl rfl .nil)))⟩
          · rw [if_neg (by rw [c9]; exact Bool.false_ne_true)] at g7
            refine Goes.skip ?_
            obtain rfl := Option.some.inj g7
            exact ⟨rfl, _, rfl, (Sub.keep [1, 2, 5, 6] rfl rfl)⟩
        rintro x s' ⟨rfl, l6, rfl, hsub⟩
        refine Goes.sub hsub ?_
        refine Goes.rg fol [(1, .str batch), (2, .ptr 0 0), (5, .gslice 1 l6.length 1), (6, .i (w64 (i_2 + 1)))] [.cells [.i r.Day, vl encSlingT r.Slings], .cells (l6.flatMap encS.c)] ?_
        exact ⟨M, (ofG 32 [(1, .str batch), (2, .ptr 0 0), (5, .gslice 1 l6.length 1), (6, .i (w64 (i_2 + 1)))], [.cells [.i r.Day, vl encSlingT r.Slings], .cells (l6.flatMap encS.c)]), Nat.lt_succ_self _, (Sub.refl _), _, _, rfl, g4⟩
      · rw [if_neg (of_ c5)] at g4
        refine Goes.exit ?_
        obtain rfl := Option.some.inj g4
        exact ⟨rfl, _, rfl, (Sub.norm [] [some 1] rfl rfl (.drop (.drop (.keep (.gslice rfl) .nil))) (.keep rfl (.same fa) rfl rfl .nil))⟩
  rintro x s' ⟨rfl, l3, rfl, hsub⟩
  refine Goes.sub hsub ?_
  refine sq ?_
  refine Goes.rg fol [(4, .gslice 0 l3.length 1)] [.cells (l3.flatMap encS.c)] ?_
  refine Goes.ret ?_
  obtain rfl := Option.some.inj h
  exact (Goes.retW (xs := [.gslice 0 l3.length 1]) (by kernel_rfl) (FzW.fz (Fz.gs (E := encS) rfl rfl (Nat.le_of_ble_eq_true rfl))))
def ref01_SameWords_L0 (a : List Str) (b : List Str) : Nat → Int → Option (Unit ⊕ Bool)
  | 0, _ => none
  | K + 1, i_2 =>
    if i_2 < (a.length : Int) then
    (idx a i_2).bind fun x6 =>
    (idx b i_2).bind fun x7 =>
    if (!(x6 == x7)) = true then
    some (.inr false)
    else
    ref01_SameWords_L0 a b K (w64 (i_2 + 1))
    else
    some (.inl ())
def ref01_SameWords (N : Nat) (a : List Str) (b : List Str) : Option Bool :=
  if (!decide ((a.length : Int) = (b.length : Int))) = true then
  some false
  else
  (ref01_SameWords_L0 a b N 0).bind (fun
  | (.inl ()) =>
  some true
  | (.inr q9) =>
  some q9)
theorem ref01_SameWords_ok (N : Nat) (a : List Str) (b : List Str) {res : Bool} (h : ref01_SameWords N a b = some res) : CallOK Tryz.prog (.fn 41) [vl encS a, vl encS b] [] (.bool res) [] := by
  unfold ref01_SameWords at h
  refine Goes.fnW Tryz.func41 rfl rfl (m := 26) rfl (rs := [.tmp 4]) rfl (l := [(0, vl encS a), (1, vl encS b)]) rfl ?_
  refine sq ?_
  refine Goes.rg fol [(0, vl encS a), (1, vl encS b)] [] ?_
  refine sq ?_
  refine sq ?_
  refine Goes.rg fol [(0, vl encS a), (1, vl encS b), (10, .bool (!decide ((a.length : Int) = (b.length : Int))))] [] ?_
  refine Goes.ifB (b := !decide ((a.length : Int) = (b.length : Int))) (by kernel_rfl) (fun c1 => ?_) (fun c1 => ?_)
  · rw [if_pos (c1)] at h
    refine sq ?_
    refine Goes.rg fol [(4, .bool false)] [] ?_
    refine Goes.ret ?_
    obtain rfl := Option.some.inj h
    exact (Goes.retW (xs := [.bool false]) (by kernel_rfl) (FzW.still (Still.bool 11 _)))
  · rw [if_neg (by rw [c1]; exact Bool.false_ne_true)] at h
    refine Goes.skip ?_
    refine sq ?_
    refine sq ?_
    refine Goes.rg fol [(0, vl encS a), (1, vl encS b), (5, .i 0)] [] ?_
    refine Goes.block ?_
    obtain ⟨r3, g3, h⟩ := bnd h
    refine Goes.imp (Q := fun x s' => (x = .exit 0 ∧ (.inl ()) = r3 ∧ Sub s' (ofG 26 [], [])) ∨ (x = .ret ∧ ∃ q4, (.inr q4) = r3 ∧ returnsW Tryz.prog [.tmp 4] (.bool q4) .ret s')) ?_ ?_
    · refine Goes.loopS (fun M s => ∃ (i_2 : Int), s = (ofG 26 [(0, vl encS a), (1, vl encS b), (5, .i i_2)], []) ∧ ref01_SameWords_L0 a b M i_2 = some r3) ?_ (m := N) ⟨_, rfl, g3⟩
      rintro M s ⟨i_2, rfl, g3⟩
      cases M with
      | zero => simp only [ref01_SameWords_L0] at g3; cases g3
      | succ M =>
        rw [ref01_SameWords_L0] at g3
        refine sq ?_
        refine sq ?_
        refine Goes.rg fol [(0, vl encS a), (1, vl encS b), (5, .i i_2), (14, .bool (decide (i_2 < (a.length : Int))))] [] ?_
        refine Goes.ifB (b := decide (i_2 < (a.length : Int))) (by kernel_rfl) (fun c5 => ?_) (fun c5 => ?_)
        · rw [if_pos (ot c5)] at g3
          refine Goes.skip ?_
          refine sq ?_
          refine Goes.block ?_
          refine sq ?_
          obtain ⟨x6, e_x6, g3⟩ := bnd g3
          obtain ⟨x7, e_x7, g3⟩ := bnd g3
          refine Goes.ro fol [(2, (.done (.fptr (a.flatMap encS.c) ((i_2 : Int).toNat * 1 + 0)))), (3, (.done (.str x6))), (6, (.done (.fptr (b.flatMap encS.c) ((i_2 : Int).toNat * 1 + 0)))), (7, (.done (.str x7)))] [(0, vl encS a), (1, vl encS b), (5, .i i_2), (25, .bool (!(x6 == x7)))] [] [.done (.opt (aIndexAddr Tryz.prog 23 (vl encS a) (.i i_2))) (.fptr (a.flatMap encS.c) ((i_2 : Int).toNat * 1 + 0)), .done (aLoad Tryz.prog 9 (.fptr (a.flatMap encS.c) ((i_2 : Int).toNat * 1 + 0))) (.str x6), .done (.opt (aIndexAddr Tryz.prog 23 (vl encS b) (.i i_2))) (.fptr (b.flatMap encS.c) ((i_2 : Int).toNat * 1 + 0)), .done (aLoad Tryz.prog 9 (.fptr (b.flatMap encS.c) ((i_2 : Int).toNat * 1 + 0))) (.str x7)] (And.intro (ix_vl sl23 (E := encS) rfl e_x6) (And.intro (ld_vl ce9 (E := encS) rfl e_x6 (Nat.le_of_ble_eq_true rfl) rfl) (And.intro (ix_vl sl23 (E := encS) rfl e_x7) (And.intro (ld_vl ce9 (E := encS) rfl e_x7 (Nat.le_of_ble_eq_true rfl) rfl) trivial)))) ?_
          refine Goes.ifB (b := !(x6 == x7)) (by kernel_rfl) (fun c8 => ?_) (fun c8 => ?_)
          · rw [if_pos (c8)] at g3
            refine sq ?_
            refine Goes.rg fol [(4, .bool false)] [] ?_
            refine Goes.ret ?_
            obtain rfl := Option.some.inj g3
            exact Or.inr (⟨rfl, _, rfl, (Goes.retW (xs := [.bool false]) (by kernel_rfl) (FzW.still (Still.bool 11 _)))⟩)
          · rw [if_neg (by rw [c8]; exact Bool.false_ne_true)] at g3
            refine Goes.skip ?_
            refine Goes.rg fol [(0, vl encS a), (1, vl encS b), (5, .i (w64 (i_2 + 1)))] [] ?_
            exact ⟨M, (ofG 26 [(0, vl encS a), (1, vl encS b), (5, .i (w64 (i_2 + 1)))], []), Nat.lt_succ_self _, (Sub.refl _), _, rfl, g3⟩
        · rw [if_neg (of_ c5)] at g3
          refine Goes.exit ?_
          obtain rfl := Option.some.inj g3
          exact Or.inl (⟨rfl, rfl, (Sub.keep [] rfl rfl)⟩)
    rintro x s' (⟨rfl, rfl, hsub⟩ | ⟨rfl, q9, rfl, hret⟩)
    · try dsimp only at h
      refine Goes.sub hsub ?_
      refine sq ?_
      refine Goes.rg fol [(4, .bool true)] [] ?_
      refine Goes.ret ?_
      obtain rfl := Option.some.inj h
      exact (Goes.retW (xs := [.bool true]) (by kernel_rfl) (FzW.still (Still.bool 11 _)))
    · try dsimp only at h
      obtain rfl := Option.some.inj h
      exact hret
end Go.Av
