/-
  The examples that every statement of the chapter checks: they hold. By running the evaluator in the kernel, call by call.
-/
import Derived.Test.YtkjgcmachachaaaGreatDoorAvMt
import Derived.Test.YtkjgcmachachaaaGreatDoorAvSymD
noncomputable section
namespace Go.Av
open Go.Proofs
set_option maxRecDepth 100000

theorem fol01 : Tryz.prog.follows .mixedOrders = true := by kernel_rfl
def pl01 (f : FuncId) : Bool := Nat.beq (Nat.land (Nat.shiftRight 98088694082859294212072921264433763931731237198773616640 f) 1) 0
def okM (r : Option (AV × Heap)) (v : AV) : Bool := match r with
  | some (w, []) => sameA 30 w v
  | _ => false
theorem okM_eq {r : Option (AV × Heap)} {v : AV} (h : okM r v = true) : r = some (v, []) := by
  unfold okM at h
  split at h
  · rw [sameA_eq 30 _ _ h]
  · cases h
abbrev Memo := List (FuncId × List AV × AV)
def run01 (M : Memo) : CallF := callK Tryz.prog 3000 mtT insC (orElse (memo M) prims) pl01 40
def Good (M : Memo) : Prop := ∀ e ∈ M, CallOK Tryz.prog (.fn e.1) e.2.1 [] e.2.2 []
theorem run01_ok {M : Memo} (h : Good M) : CallsOK Tryz.prog (run01 M) := callK_ok fol01 mt_ok insC_ok (orElse_ok (memo_ok h) prims_ok) _
theorem good_nil : Good [] := by intro e h; cases h
theorem good_cons {M : Memo} {f : FuncId} {args : List AV} {v : AV} (h : Good M) (hr : okM (run01 M (.fn f) args []) v = true) : Good ((f, args, v) :: M) := by
  intro e he
  rcases List.mem_cons.1 he with rfl | he
  · exact run01_ok h _ _ _ _ _ (okM_eq hr)
  · exact h e he
def M0 : Memo := []
theorem g0 : Good M0 := good_nil

-- becket/number.Of, 561 operations
def M1 : Memo := (14, [.int .i64 (15), .int .i64 (-6)], .tuple [.str [45, 53, 47, 50], .int .i64 (0)]) :: M0
theorem g1 : Good M1 := good_cons g0 (by kernel_rfl)

-- becket/number.Check, 1521 operations
def M2 : Memo := (41, [.str [45, 53, 47, 50]], .int .i64 (0)) :: M1
theorem g2 : Good M2 := good_cons g1 (by kernel_rfl)

-- becket/num.Read, 357 operations
def M3 : Memo := (57, [.str [45, 53]], .agg [.int .i64 (-5), .nilslice]) :: M2
theorem g3 : Good M3 := good_cons g2 (by kernel_rfl)

-- becket/num.From, 409 operations
def M4 : Memo := (43, [.str [45, 53, 47, 50]], .agg [.int .i64 (-5), .nilslice, .int .i64 (2), .nilslice]) :: M3
theorem g4 : Good M4 := good_cons g3 (by kernel_rfl)

-- becket/number.Check, 399 operations
def M5 : Memo := (41, [.str [45, 49]], .int .i64 (0)) :: M4
theorem g5 : Good M5 := good_cons g4 (by kernel_rfl)

-- becket/number.Check, 394 operations
def M6 : Memo := (41, [.str [50]], .int .i64 (0)) :: M5
theorem g6 : Good M6 := good_cons g5 (by kernel_rfl)

-- becket/num.Read, 357 operations
def M7 : Memo := (57, [.str [45, 49]], .agg [.int .i64 (-1), .nilslice]) :: M6
theorem g7 : Good M7 := good_cons g6 (by kernel_rfl)

-- becket/num.From, 407 operations
def M8 : Memo := (43, [.str [50]], .agg [.int .i64 (2), .nilslice, .int .i64 (1), .nilslice]) :: M7
theorem g8 : Good M8 := good_cons g7 (by kernel_rfl)

-- becket/number.Check, 399 operations
def M9 : Memo := (41, [.str [45, 51]], .int .i64 (0)) :: M8
theorem g9 : Good M9 := good_cons g8 (by kernel_rfl)

-- becket/number.Check, 394 operations
def M10 : Memo := (41, [.str [52]], .int .i64 (0)) :: M9
theorem g10 : Good M10 := good_cons g9 (by kernel_rfl)

-- becket/num.Read, 357 operations
def M11 : Memo := (57, [.str [45, 51]], .agg [.int .i64 (-3), .nilslice]) :: M10
theorem g11 : Good M11 := good_cons g10 (by kernel_rfl)

-- becket/num.From, 407 operations
def M12 : Memo := (43, [.str [52]], .agg [.int .i64 (4), .nilslice, .int .i64 (1), .nilslice]) :: M11
theorem g12 : Good M12 := good_cons g11 (by kernel_rfl)

-- becket/number.span, 362 operations
def M13 : Memo := (53, [.agg [.int .i64 (-6), .nilslice, .int .i64 (1), .nilslice], .agg [.int .i64 (8), .nilslice, .int .i64 (1), .nilslice]], .tuple [.agg [.str [45, 54], .str [56]], .int .i64 (0)]) :: M12
theorem g13 : Good M13 := good_cons g12 (by kernel_rfl)

-- becket/number.combine, 2892 operations
def M14 : Memo := (49, [.agg [.str [45, 49], .str [50]], .agg [.str [45, 51], .str [52]], .func (.func 46) [] []], .tuple [.agg [.str [45, 54], .str [56]], .int .i64 (0)]) :: M13
theorem g14 : Good M14 := good_cons g13 (by kernel_rfl)

-- becket/number.operateSpans, 734 operations
def M15 : Memo := (45, [.agg [.str [45, 49], .str [50]], .agg [.str [45, 51], .str [52]], .func (.func 46) [] []], .tuple [.agg [.str [45, 54], .str [56]], .int .i64 (0)]) :: M14
theorem g15 : Good M15 := good_cons g14 (by kernel_rfl)

-- becket/number.Check, 394 operations
def M16 : Memo := (41, [.str [49]], .int .i64 (0)) :: M15
theorem g16 : Good M16 := good_cons g15 (by kernel_rfl)

-- becket/num.From, 407 operations
def M17 : Memo := (43, [.str [49]], .agg [.int .i64 (1), .nilslice, .int .i64 (1), .nilslice]) :: M16
theorem g17 : Good M17 := good_cons g16 (by kernel_rfl)

-- becket/number.Check, 394 operations
def M18 : Memo := (41, [.str [56]], .int .i64 (0)) :: M17
theorem g18 : Good M18 := good_cons g17 (by kernel_rfl)

-- becket/num.From, 407 operations
def M19 : Memo := (43, [.str [56]], .agg [.int .i64 (8), .nilslice, .int .i64 (1), .nilslice]) :: M18
theorem g19 : Good M19 := good_cons g18 (by kernel_rfl)

-- (becket/num.Frac).Mul, 510 operations
def M20 : Memo := (46, [.agg [.int .i64 (1), .nilslice, .int .i64 (1), .nilslice], .agg [.int .i64 (1), .nilslice, .int .i64 (4), .nilslice]], .agg [.int .i64 (1), .nilslice, .int .i64 (4), .nilslice]) :: M19
theorem g20 : Good M20 := good_cons g19 (by kernel_rfl)

-- (becket/num.Frac).Mul, 510 operations
def M21 : Memo := (46, [.agg [.int .i64 (1), .nilslice, .int .i64 (1), .nilslice], .agg [.int .i64 (1), .nilslice, .int .i64 (8), .nilslice]], .agg [.int .i64 (1), .nilslice, .int .i64 (8), .nilslice]) :: M20
theorem g21 : Good M21 := good_cons g20 (by kernel_rfl)

-- (becket/num.Frac).Mul, 510 operations
def M22 : Memo := (46, [.agg [.int .i64 (2), .nilslice, .int .i64 (1), .nilslice], .agg [.int .i64 (1), .nilslice, .int .i64 (4), .nilslice]], .agg [.int .i64 (1), .nilslice, .int .i64 (2), .nilslice]) :: M21
theorem g22 : Good M22 := good_cons g21 (by kernel_rfl)

-- (becket/num.Frac).Mul, 510 operations
def M23 : Memo := (46, [.agg [.int .i64 (2), .nilslice, .int .i64 (1), .nilslice], .agg [.int .i64 (1), .nilslice, .int .i64 (8), .nilslice]], .agg [.int .i64 (1), .nilslice, .int .i64 (4), .nilslice]) :: M22
theorem g23 : Good M23 := good_cons g22 (by kernel_rfl)

-- becket/number.span, 385 operations
def M24 : Memo := (53, [.agg [.int .i64 (1), .nilslice, .int .i64 (8), .nilslice], .agg [.int .i64 (1), .nilslice, .int .i64 (2), .nilslice]], .tuple [.agg [.str [49, 47, 56], .str [49, 47, 50]], .int .i64 (0)]) :: M23
theorem g24 : Good M24 := good_cons g23 (by kernel_rfl)

-- becket/number.combine, 2991 operations
def M25 : Memo := (49, [.agg [.str [49], .str [50]], .agg [.str [52], .str [56]], .func (.func 50) [] []], .tuple [.agg [.str [49, 47, 56], .str [49, 47, 50]], .int .i64 (0)]) :: M24
theorem g25 : Good M25 := good_cons g24 (by kernel_rfl)

-- becket/number.Over, 611 operations
def M26 : Memo := (18, [.agg [.str [49], .str [50]], .agg [.str [52], .str [56]]], .tuple [.agg [.str [49, 47, 56], .str [49, 47, 50]], .int .i64 (0)]) :: M25
theorem g26 : Good M26 := good_cons g25 (by kernel_rfl)

-- becket/number.Check, 394 operations
def M27 : Memo := (41, [.str [51]], .int .i64 (0)) :: M26
theorem g27 : Good M27 := good_cons g26 (by kernel_rfl)

-- becket/num.From, 407 operations
def M28 : Memo := (43, [.str [51]], .agg [.int .i64 (3), .nilslice, .int .i64 (1), .nilslice]) :: M27
theorem g28 : Good M28 := good_cons g27 (by kernel_rfl)

-- becket/number.Compare, 830 operations
def M29 : Memo := (19, [.agg [.str [49], .str [50]], .agg [.str [51], .str [52]]], .tuple [.int .i64 (-1), .int .i64 (0)]) :: M28
theorem g29 : Good M29 := good_cons g28 (by kernel_rfl)

-- becket/number.Compare, 1078 operations
def M30 : Memo := (19, [.agg [.str [49], .str [50]], .agg [.str [50], .str [51]]], .tuple [.int .i64 (0), .int .i64 (24)]) :: M29
theorem g30 : Good M30 := good_cons g29 (by kernel_rfl)

-- (becket/num.Int).Sqrt, 506 operations
def M31 : Memo := (55, [.agg [.int .i64 (2), .nilslice]], .agg [.int .i64 (1), .nilslice]) :: M30
theorem g31 : Good M31 := good_cons g30 (by kernel_rfl)

-- (becket/num.Int).Sqrt, 506 operations
def M32 : Memo := (55, [.agg [.int .i64 (1), .nilslice]], .agg [.int .i64 (1), .nilslice]) :: M31
theorem g32 : Good M32 := good_cons g31 (by kernel_rfl)

-- (becket/num.Int).Pow, 664 operations
def M33 : Memo := (96, [.agg [.int .i64 (2), .nilslice], .int .i64 (11)], .agg [.int .i64 (2048), .nilslice]) :: M32
theorem g33 : Good M33 := good_cons g32 (by kernel_rfl)

-- (becket/num.Int).Sqrt, 683 operations
def M34 : Memo := (55, [.agg [.int .i64 (2000000), .nilslice]], .agg [.int .i64 (1414), .nilslice]) :: M33
theorem g34 : Good M34 := good_cons g33 (by kernel_rfl)

-- becket/num.Gcd, 445 operations
def M35 : Memo := (85, [.agg [.int .i64 (1414), .nilslice], .agg [.int .i64 (1000), .nilslice]], .agg [.int .i64 (2), .nilslice]) :: M34
theorem g35 : Good M35 := good_cons g34 (by kernel_rfl)

-- becket/num.Gcd, 445 operations
def M36 : Memo := (85, [.agg [.int .i64 (1415), .nilslice], .agg [.int .i64 (1000), .nilslice]], .agg [.int .i64 (5), .nilslice]) :: M35
theorem g36 : Good M36 := good_cons g35 (by kernel_rfl)

-- becket/number.span, 403 operations
def M37 : Memo := (53, [.agg [.int .i64 (707), .nilslice, .int .i64 (500), .nilslice], .agg [.int .i64 (283), .nilslice, .int .i64 (200), .nilslice]], .tuple [.agg [.str [55, 48, 55, 47, 53, 48, 48], .str [50, 56, 51, 47, 50, 48, 48]], .int .i64 (0)]) :: M36
theorem g37 : Good M37 := good_cons g36 (by kernel_rfl)

-- becket/number.Root, 844 operations
def M38 : Memo := (20, [.str [50]], .tuple [.agg [.str [55, 48, 55, 47, 53, 48, 48], .str [50, 56, 51, 47, 50, 48, 48]], .int .i64 (0)]) :: M37
theorem g38 : Good M38 := good_cons g37 (by kernel_rfl)

-- becket/num.Read, 553 operations
def M39 : Memo := (57, [.str [51, 49, 52]], .agg [.int .i64 (314), .nilslice]) :: M38
theorem g39 : Good M39 := good_cons g38 (by kernel_rfl)

-- becket/num.Read, 553 operations
def M40 : Memo := (57, [.str [49, 48, 48]], .agg [.int .i64 (100), .nilslice]) :: M39
theorem g40 : Good M40 := good_cons g39 (by kernel_rfl)

-- becket/num.Make, 359 operations
def M41 : Memo := (39, [.agg [.int .i64 (314), .nilslice], .agg [.int .i64 (100), .nilslice]], .agg [.int .i64 (157), .nilslice, .int .i64 (50), .nilslice]) :: M40
theorem g41 : Good M41 := good_cons g40 (by kernel_rfl)

-- becket/num.Make, 418 operations
def M42 : Memo := (39, [.agg [.int .i64 (315), .nilslice], .agg [.int .i64 (100), .nilslice]], .agg [.int .i64 (63), .nilslice, .int .i64 (20), .nilslice]) :: M41
theorem g42 : Good M42 := good_cons g41 (by kernel_rfl)

-- becket/number.span, 385 operations
def M43 : Memo := (53, [.agg [.int .i64 (157), .nilslice, .int .i64 (50), .nilslice], .agg [.int .i64 (63), .nilslice, .int .i64 (20), .nilslice]], .tuple [.agg [.str [49, 53, 55, 47, 53, 48], .str [54, 51, 47, 50, 48]], .int .i64 (0)]) :: M42
theorem g43 : Good M43 := good_cons g42 (by kernel_rfl)

-- (becket/num.Frac).Mul, 510 operations
def M44 : Memo := (46, [.agg [.int .i64 (1), .nilslice, .int .i64 (1), .nilslice], .agg [.int .i64 (1), .nilslice, .int .i64 (3), .nilslice]], .agg [.int .i64 (1), .nilslice, .int .i64 (3), .nilslice]) :: M43
theorem g44 : Good M44 := good_cons g43 (by kernel_rfl)

-- (becket/num.Frac).Mul, 510 operations
def M45 : Memo := (46, [.agg [.int .i64 (3), .nilslice, .int .i64 (1), .nilslice], .agg [.int .i64 (1), .nilslice, .int .i64 (2), .nilslice]], .agg [.int .i64 (3), .nilslice, .int .i64 (2), .nilslice]) :: M44
theorem g45 : Good M45 := good_cons g44 (by kernel_rfl)

-- becket/number.Period, 1699 operations
def M46 : Memo := (24, [.fslice 5 [.int .i64 (1), .int .i64 (2), .int .i64 (0), .int .i64 (4), .int .i64 (3)]], .tuple [.str [54], .int .i64 (0)]) :: M45
theorem g46 : Good M46 := good_cons g45 (by kernel_rfl)

-- becket/number.Power, 473 operations
def M47 : Memo := (25, [.fslice 5 [.int .i64 (1), .int .i64 (2), .int .i64 (0), .int .i64 (4), .int .i64 (3)], .int .i64 (5)], .tuple [.fslice 5 [.int .i64 (2), .int .i64 (0), .int .i64 (1), .int .i64 (4), .int .i64 (3)], .int .i64 (0)]) :: M46
theorem g47 : Good M47 := good_cons g46 (by kernel_rfl)

-- becket/number.Compose, 366 operations
def M48 : Memo := (9, [.fslice 5 [.int .i64 (1), .int .i64 (2), .int .i64 (0), .int .i64 (4), .int .i64 (3)], .fslice 5 [.int .i64 (1), .int .i64 (2), .int .i64 (0), .int .i64 (4), .int .i64 (3)]], .tuple [.fslice 5 [.int .i64 (2), .int .i64 (0), .int .i64 (1), .int .i64 (3), .int .i64 (4)], .int .i64 (0)]) :: M47
theorem g48 : Good M48 := good_cons g47 (by kernel_rfl)

-- becket/number.Check, 396 operations
def M49 : Memo := (41, [.str [48]], .int .i64 (0)) :: M48
theorem g49 : Good M49 := good_cons g48 (by kernel_rfl)

-- becket/number.Check, 417 operations
def M50 : Memo := (41, [.str [49, 48]], .int .i64 (0)) :: M49
theorem g50 : Good M50 := good_cons g49 (by kernel_rfl)

-- becket/number.Check, 394 operations
def M51 : Memo := (41, [.str [53]], .int .i64 (0)) :: M50
theorem g51 : Good M51 := good_cons g50 (by kernel_rfl)

-- becket/number.Check, 417 operations
def M52 : Memo := (41, [.str [50, 48]], .int .i64 (0)) :: M51
theorem g52 : Good M52 := good_cons g51 (by kernel_rfl)

-- becket/num.From, 407 operations
def M53 : Memo := (43, [.str [53]], .agg [.int .i64 (5), .nilslice, .int .i64 (1), .nilslice]) :: M52
theorem g53 : Good M53 := good_cons g52 (by kernel_rfl)

-- becket/num.From, 407 operations
def M54 : Memo := (43, [.str [48]], .agg [.int .i64 (0), .nilslice, .int .i64 (1), .nilslice]) :: M53
theorem g54 : Good M54 := good_cons g53 (by kernel_rfl)

-- becket/number.CheckTable, 387 operations
def M55 : Memo := (60, [.fslice 2 [.str [48], .str [49, 48], .str [53], .str [50, 48]]], .int .i64 (0)) :: M54
theorem g55 : Good M55 := good_cons g54 (by kernel_rfl)

-- becket/number.Check, 1516 operations
def M56 : Memo := (41, [.str [57, 47, 50]], .int .i64 (0)) :: M55
theorem g56 : Good M56 := good_cons g55 (by kernel_rfl)

-- becket/num.From, 747 operations
def M57 : Memo := (43, [.str [57, 47, 50]], .agg [.int .i64 (9), .nilslice, .int .i64 (2), .nilslice]) :: M56
theorem g57 : Good M57 := good_cons g56 (by kernel_rfl)

-- becket/number.Step, 536 operations
def M58 : Memo := (26, [.fslice 2 [.str [48], .str [49, 48], .str [53], .str [50, 48]], .str [57, 47, 50]], .tuple [.str [49, 48], .int .i64 (0)]) :: M57
theorem g58 : Good M58 := good_cons g57 (by kernel_rfl)

-- becket/num.Read, 451 operations
def M59 : Memo := (57, [.str [49, 50]], .agg [.int .i64 (12), .nilslice]) :: M58
theorem g59 : Good M59 := good_cons g58 (by kernel_rfl)

-- becket/number.Check, 1319 operations
def M60 : Memo := (41, [.str [53, 47, 49, 50]], .int .i64 (0)) :: M59
theorem g60 : Good M60 := good_cons g59 (by kernel_rfl)

-- becket/num.From, 409 operations
def M61 : Memo := (43, [.str [53, 47, 49, 50]], .agg [.int .i64 (5), .nilslice, .int .i64 (12), .nilslice]) :: M60
theorem g61 : Good M61 := good_cons g60 (by kernel_rfl)

-- (becket/number.fraction).plus, 634 operations
def M62 : Memo := (62, [.agg [.int .i64 (1), .nilslice, .int .i64 (1), .nilslice, .int .i64 (0), .nilslice, .int .i64 (1), .nilslice], .agg [.int .i64 (0), .nilslice, .int .i64 (1), .nilslice], .agg [.int .i64 (0), .nilslice, .int .i64 (1), .nilslice, .int .i64 (1), .nilslice, .int .i64 (1), .nilslice]], .agg [.int .i64 (0), .nilslice, .int .i64 (1), .nilslice, .int .i64 (1), .nilslice, .int .i64 (1), .nilslice]) :: M61
theorem g62 : Good M62 := good_cons g61 (by kernel_rfl)

-- becket/num.Make, 418 operations
def M63 : Memo := (39, [.agg [.int .i64 (5), .nilslice], .agg [.int .i64 (12), .nilslice]], .agg [.int .i64 (5), .nilslice, .int .i64 (12), .nilslice]) :: M62
theorem g63 : Good M63 := good_cons g62 (by kernel_rfl)

-- (becket/num.Frac).Add, 358 operations
def M64 : Memo := (78, [.agg [.int .i64 (5), .nilslice, .int .i64 (12), .nilslice], .agg [.int .i64 (0), .nilslice, .int .i64 (1), .nilslice]], .agg [.int .i64 (5), .nilslice, .int .i64 (12), .nilslice]) :: M63
theorem g64 : Good M64 := good_cons g63 (by kernel_rfl)

-- becket/num.Make, 359 operations
def M65 : Memo := (39, [.agg [.int .i64 (12), .nilslice], .agg [.int .i64 (5), .nilslice]], .agg [.int .i64 (12), .nilslice, .int .i64 (5), .nilslice]) :: M64
theorem g65 : Good M65 := good_cons g64 (by kernel_rfl)

-- (becket/number.fraction).plus, 634 operations
def M66 : Memo := (62, [.agg [.int .i64 (0), .nilslice, .int .i64 (1), .nilslice, .int .i64 (1), .nilslice, .int .i64 (1), .nilslice], .agg [.int .i64 (2), .nilslice, .int .i64 (1), .nilslice], .agg [.int .i64 (1), .nilslice, .int .i64 (1), .nilslice, .int .i64 (0), .nilslice, .int .i64 (1), .nilslice]], .agg [.int .i64 (1), .nilslice, .int .i64 (1), .nilslice, .int .i64 (2), .nilslice, .int .i64 (1), .nilslice]) :: M65
theorem g66 : Good M66 := good_cons g65 (by kernel_rfl)

-- becket/num.Make, 359 operations
def M67 : Memo := (39, [.agg [.int .i64 (2), .nilslice], .agg [.int .i64 (5), .nilslice]], .agg [.int .i64 (2), .nilslice, .int .i64 (5), .nilslice]) :: M66
theorem g67 : Good M67 := good_cons g66 (by kernel_rfl)

-- (becket/num.Frac).Add, 360 operations
def M68 : Memo := (78, [.agg [.int .i64 (12), .nilslice, .int .i64 (5), .nilslice], .agg [.int .i64 (-2), .nilslice, .int .i64 (1), .nilslice]], .agg [.int .i64 (2), .nilslice, .int .i64 (5), .nilslice]) :: M67
theorem g68 : Good M68 := good_cons g67 (by kernel_rfl)

-- (becket/number.fraction).plus, 634 operations
def M69 : Memo := (62, [.agg [.int .i64 (1), .nilslice, .int .i64 (1), .nilslice, .int .i64 (2), .nilslice, .int .i64 (1), .nilslice], .agg [.int .i64 (2), .nilslice, .int .i64 (1), .nilslice], .agg [.int .i64 (0), .nilslice, .int .i64 (1), .nilslice, .int .i64 (1), .nilslice, .int .i64 (1), .nilslice]], .agg [.int .i64 (2), .nilslice, .int .i64 (1), .nilslice, .int .i64 (5), .nilslice, .int .i64 (1), .nilslice]) :: M68
theorem g69 : Good M69 := good_cons g68 (by kernel_rfl)

-- (becket/num.Frac).Mul, 451 operations
def M70 : Memo := (46, [.agg [.int .i64 (2), .nilslice, .int .i64 (1), .nilslice], .agg [.int .i64 (1), .nilslice, .int .i64 (2), .nilslice]], .agg [.int .i64 (1), .nilslice, .int .i64 (1), .nilslice]) :: M69
theorem g70 : Good M70 := good_cons g69 (by kernel_rfl)

-- (becket/number.fraction).plus, 634 operations
def M71 : Memo := (62, [.agg [.int .i64 (1), .nilslice, .int .i64 (1), .nilslice, .int .i64 (2), .nilslice, .int .i64 (1), .nilslice], .agg [.int .i64 (1), .nilslice, .int .i64 (1), .nilslice], .agg [.int .i64 (0), .nilslice, .int .i64 (1), .nilslice, .int .i64 (1), .nilslice, .int .i64 (1), .nilslice]], .agg [.int .i64 (1), .nilslice, .int .i64 (1), .nilslice, .int .i64 (3), .nilslice, .int .i64 (1), .nilslice]) :: M70
theorem g71 : Good M71 := good_cons g70 (by kernel_rfl)

-- (becket/num.Frac).Mul, 510 operations
def M72 : Memo := (46, [.agg [.int .i64 (1), .nilslice, .int .i64 (1), .nilslice], .agg [.int .i64 (1), .nilslice, .int .i64 (2), .nilslice]], .agg [.int .i64 (1), .nilslice, .int .i64 (2), .nilslice]) :: M71
theorem g72 : Good M72 := good_cons g71 (by kernel_rfl)

-- (becket/num.Frac).Add, 659 operations
def M73 : Memo := (78, [.agg [.int .i64 (1), .nilslice, .int .i64 (2), .nilslice], .agg [.int .i64 (-5), .nilslice, .int .i64 (12), .nilslice]], .agg [.int .i64 (1), .nilslice, .int .i64 (12), .nilslice]) :: M72
theorem g73 : Good M73 := good_cons g72 (by kernel_rfl)

-- (becket/num.Frac).Add, 674 operations
def M74 : Memo := (78, [.agg [.int .i64 (1), .nilslice, .int .i64 (3), .nilslice], .agg [.int .i64 (-5), .nilslice, .int .i64 (12), .nilslice]], .agg [.int .i64 (-1), .nilslice, .int .i64 (12), .nilslice]) :: M73
theorem g74 : Good M74 := good_cons g73 (by kernel_rfl)

-- (becket/num.Frac).Add, 659 operations
def M75 : Memo := (78, [.agg [.int .i64 (5), .nilslice, .int .i64 (12), .nilslice], .agg [.int .i64 (-1), .nilslice, .int .i64 (3), .nilslice]], .agg [.int .i64 (1), .nilslice, .int .i64 (12), .nilslice]) :: M74
theorem g75 : Good M75 := good_cons g74 (by kernel_rfl)

-- becket/number.Nearest, 4122 operations
def M76 : Memo := (27, [.str [53, 47, 49, 50], .int .i64 (3)], .tuple [.str [49, 47, 50], .int .i64 (0)]) :: M75
theorem g76 : Good M76 := good_cons g75 (by kernel_rfl)

-- becket/number.Shares, 595 operations
def M77 : Memo := (28, [.int .i64 (50), .fslice 3 [.int .i64 (1), .int .i64 (2), .int .i64 (4)]], .tuple [.fslice 3 [.int .i64 (7), .int .i64 (14), .int .i64 (29)], .int .i64 (0)]) :: M76
theorem g77 : Good M77 := good_cons g76 (by kernel_rfl)

-- becket/number.Check, 399 operations
def M78 : Memo := (41, [.str [45, 50]], .int .i64 (0)) :: M77
theorem g78 : Good M78 := good_cons g77 (by kernel_rfl)

-- becket/number.Check, 394 operations
def M79 : Memo := (41, [.str [57]], .int .i64 (0)) :: M78
theorem g79 : Good M79 := good_cons g78 (by kernel_rfl)

-- becket/number.Check, 399 operations
def M80 : Memo := (41, [.str [45, 52]], .int .i64 (0)) :: M79
theorem g80 : Good M80 := good_cons g79 (by kernel_rfl)

-- becket/num.From, 407 operations
def M81 : Memo := (43, [.str [57]], .agg [.int .i64 (9), .nilslice, .int .i64 (1), .nilslice]) :: M80
theorem g81 : Good M81 := good_cons g80 (by kernel_rfl)

-- becket/num.Read, 357 operations
def M82 : Memo := (57, [.str [45, 50]], .agg [.int .i64 (-2), .nilslice]) :: M81
theorem g82 : Good M82 := good_cons g81 (by kernel_rfl)

-- becket/num.Read, 357 operations
def M83 : Memo := (57, [.str [45, 52]], .agg [.int .i64 (-4), .nilslice]) :: M82
theorem g83 : Good M83 := good_cons g82 (by kernel_rfl)

-- (becket/num.Frac).Mul, 451 operations
def M84 : Memo := (46, [.agg [.int .i64 (3), .nilslice, .int .i64 (1), .nilslice], .agg [.int .i64 (1), .nilslice, .int .i64 (3), .nilslice]], .agg [.int .i64 (1), .nilslice, .int .i64 (1), .nilslice]) :: M83
theorem g84 : Good M84 := good_cons g83 (by kernel_rfl)

-- (becket/num.Frac).Mul, 451 operations
def M85 : Memo := (46, [.agg [.int .i64 (9), .nilslice, .int .i64 (1), .nilslice], .agg [.int .i64 (1), .nilslice, .int .i64 (3), .nilslice]], .agg [.int .i64 (3), .nilslice, .int .i64 (1), .nilslice]) :: M84
theorem g85 : Good M85 := good_cons g84 (by kernel_rfl)

-- (becket/num.Frac).Add, 690 operations
def M86 : Memo := (78, [.agg [.int .i64 (-2), .nilslice, .int .i64 (1), .nilslice], .agg [.int .i64 (-1), .nilslice, .int .i64 (3), .nilslice]], .agg [.int .i64 (-7), .nilslice, .int .i64 (3), .nilslice]) :: M85
theorem g86 : Good M86 := good_cons g85 (by kernel_rfl)

-- becket/num.Make, 408 operations
def M87 : Memo := (39, [.agg [.int .i64 (3), .nilslice], .agg [.int .i64 (-7), .nilslice]], .agg [.int .i64 (-3), .nilslice, .int .i64 (7), .nilslice]) :: M86
theorem g87 : Good M87 := good_cons g86 (by kernel_rfl)

-- (becket/num.Frac).Mul, 453 operations
def M88 : Memo := (46, [.agg [.int .i64 (0), .nilslice, .int .i64 (1), .nilslice], .agg [.int .i64 (-3), .nilslice, .int .i64 (7), .nilslice]], .agg [.int .i64 (0), .nilslice, .int .i64 (1), .nilslice]) :: M87
theorem g88 : Good M88 := good_cons g87 (by kernel_rfl)

-- (becket/num.Frac).Mul, 453 operations
def M89 : Memo := (46, [.agg [.int .i64 (-7), .nilslice, .int .i64 (3), .nilslice], .agg [.int .i64 (-3), .nilslice, .int .i64 (7), .nilslice]], .agg [.int .i64 (1), .nilslice, .int .i64 (1), .nilslice]) :: M88
theorem g89 : Good M89 := good_cons g88 (by kernel_rfl)

-- (becket/num.Frac).Mul, 453 operations
def M90 : Memo := (46, [.agg [.int .i64 (-7), .nilslice, .int .i64 (1), .nilslice], .agg [.int .i64 (-3), .nilslice, .int .i64 (7), .nilslice]], .agg [.int .i64 (3), .nilslice, .int .i64 (1), .nilslice]) :: M89
theorem g90 : Good M90 := good_cons g89 (by kernel_rfl)

-- (becket/num.Frac).Mul, 451 operations
def M91 : Memo := (46, [.agg [.int .i64 (1), .nilslice, .int .i64 (3), .nilslice], .agg [.int .i64 (0), .nilslice, .int .i64 (1), .nilslice]], .agg [.int .i64 (0), .nilslice, .int .i64 (1), .nilslice]) :: M90
theorem g91 : Good M91 := good_cons g90 (by kernel_rfl)

-- (becket/num.Frac).Mul, 510 operations
def M92 : Memo := (46, [.agg [.int .i64 (1), .nilslice, .int .i64 (3), .nilslice], .agg [.int .i64 (1), .nilslice, .int .i64 (1), .nilslice]], .agg [.int .i64 (1), .nilslice, .int .i64 (3), .nilslice]) :: M91
theorem g92 : Good M92 := good_cons g91 (by kernel_rfl)

-- (becket/num.Frac).Add, 600 operations
def M93 : Memo := (78, [.agg [.int .i64 (1), .nilslice, .int .i64 (3), .nilslice], .agg [.int .i64 (-1), .nilslice, .int .i64 (3), .nilslice]], .agg [.int .i64 (0), .nilslice, .int .i64 (1), .nilslice]) :: M92
theorem g93 : Good M93 := good_cons g92 (by kernel_rfl)

-- (becket/num.Frac).Mul, 451 operations
def M94 : Memo := (46, [.agg [.int .i64 (1), .nilslice, .int .i64 (3), .nilslice], .agg [.int .i64 (3), .nilslice, .int .i64 (1), .nilslice]], .agg [.int .i64 (1), .nilslice, .int .i64 (1), .nilslice]) :: M93
theorem g94 : Good M94 := good_cons g93 (by kernel_rfl)

-- becket/number.texts, 424 operations
def M95 : Memo := (74, [.fslice 2 [.int .i64 (2), .nilslice, .int .i64 (1), .nilslice, .int .i64 (3), .nilslice, .int .i64 (1), .nilslice]], .tuple [.fslice 2 [.str [50], .str [51]], .int .i64 (0)]) :: M94
theorem g95 : Good M95 := good_cons g94 (by kernel_rfl)

-- becket/number.texts, 425 operations
def M96 : Memo := (74, [.fslice 2 [.int .i64 (-2), .nilslice, .int .i64 (1), .nilslice, .int .i64 (1), .nilslice, .int .i64 (1), .nilslice]], .tuple [.fslice 2 [.str [45, 50], .str [49]], .int .i64 (0)]) :: M95
theorem g96 : Good M96 := good_cons g95 (by kernel_rfl)

-- becket/number.CheckRefute, 2701 operations
def M97 : Memo := (35, [.fslice 2 [.fslice 2 [.str [49], .str [49]], .fslice 2 [.str [50], .str [50]]], .fslice 2 [.str [49], .str [51]], .fslice 2 [.str [45, 50], .str [49]]], .int .i64 (0)) :: M96
theorem g97 : Good M97 := good_cons g96 (by kernel_rfl)

-- becket/number.CheckRefute, 2701 operations
def M98 : Memo := (35, [.fslice 2 [.fslice 2 [.str [49], .str [49]], .fslice 2 [.str [50], .str [50]]], .fslice 2 [.str [49], .str [51]], .fslice 2 [.str [50], .str [45, 49]]], .int .i64 (0)) :: M97
theorem g98 : Good M98 := good_cons g97 (by kernel_rfl)

theorem awake_run : okM (run01 M98 (.fn 4) [] []) (.bool true) = true := by kernel_rfl
theorem awake4 : Awake := ⟨run01_ok g98 _ _ _ _ _ (okM_eq awake_run)⟩
#print axioms awake4

end Go.Av
