/-
  The walk of the law.
-/
import Derived.Test.YtjflombnfhlkaaaGreatDoorGenS4
import Derived.Test.YtjflombnfhlkaaaGreatDoorAvAwk10
noncomputable section
namespace Go.Av
open Go.Proofs Go.RowKit
set_option linter.unusedSectionVars false
set_option linter.unusedVariables false
set_option linter.unusedSimpArgs false
set_option maxRecDepth 100000
def awk : Option Bool := some true
theorem qip {res : Bool} (h : awk = some res) : qw Tryz.prog (.fn 15) [] [] (.bool res) [] := by
  obtain rfl := Option.some.inj h
  exact qiA
def jW (N : Nat) (l : List qm) (sling : Str) (day : Int) : Option Bool :=
  ((z8 N l 24).bind fun r1 =>
  if (!r1) = true then
  some true
  else
  some (decide ((sling.length : Int) > 60)) : Option Bool).bind fun b3 =>
  if b3 = true then
  (awk).bind fun r6 =>
  some r6
  else
  (yl N l sling).bind fun r7 =>
  (yf N l sling day).bind fun r8 =>
  (jX N l sling day).bind fun r9 =>
  (jD N l).bind fun r10 =>
  (yP N (⟨r10.1.Day, r10.1.Slings⟩ : qC) sling).bind fun r11 =>
  (vZ N sling).bind fun r12 =>
  (jG (decide (r11 < 0)) 10).bind fun r13 =>
  (vE N ([r10.2.2, r12, r13] : List Int)).bind fun r14 =>
  (vZ N sling).bind fun r15 =>
  (yO day).bind fun r16 =>
  (jG (decide (r11 < 0)) 10).bind fun r17 =>
  (vE N ([r10.2.2, r15, r16, r17] : List Int)).bind fun r18 =>
  ((if r14 = 0 then
  (vP N l sling).bind fun r22 =>
  some r22
  else
  some [] : Option (List Int))).bind fun history_19 =>
  ((if r18 = 0 then
  (idx r10.1.Slings r11).bind fun x28 =>
  (jH x28 day).bind fun r29 =>
  (jG r29 20).bind fun r30 =>
  (vI x28 day).bind fun r31 =>
  (jG (!r31) 24).bind fun r32 =>
  (vE N ([r30, r32] : List Int)).bind fun r33 =>
  if r33 = 0 then
  some (r33, r29, x28.Limit)
  else
  some (r33, r29, 0)
  else
  some (r18, false, 0) : Option (Int × Bool × Int))).bind fun (three_23, retired_24, limit_25) =>
  (if r7.2 = r14 then
  (vG N r7.1 history_19).bind fun r36 =>
  if r36 = true then
  if r8.2 = r18 then
  if (r8.1 == retired_24) = true then
  if r9.2 = three_23 then
  if r9.1 = limit_25 then
  (awk).bind fun r42 =>
  some r42
  else
  some false
  else
  some false
  else
  some false
  else
  some false
  else
  some false
  else
  some false : Option Bool).bind fun b43 =>
  some b43
theorem qaC (N : Nat) (l : List qm) (sling : Str) (day : Int) {res : Bool} (h : jW N l sling day = some res) : qw Tryz.prog (.fn 4) [vl qb l, .str sling, .i day] [] (.bool res) [] := by
  unfold jW at h
  refine Goes.fnW Tryz.func4 rfl rfl (m := 140) rfl (rs := [.tmp 6]) rfl (l := [(0, vl qb l), (1, .str sling), (2, .i day)]) rfl ?_
  refine sq ?_
  refine Goes.rg fol [(0, vl qb l), (1, .str sling), (2, .i day)] [] ?_
  refine sq ?_
  refine sq ?_
  obtain ⟨b3, g_v4, h⟩ := bnd h
  refine Goes.cut (s' := (ofG 140 [(0, vl qb l), (1, .str sling), (2, .i day), (31, .bool b3)], [])) ?_ ?_
  · obtain ⟨r1, e_r1, g_v4⟩ := bnd g_v4
    rcases Bool.eq_false_or_eq_true (!r1) with c2 | c2
    · rw [if_pos (c2)] at g_v4
      obtain rfl := Option.some.inj g_v4
      exact qp.ro fol [(1, (.call [] [vl qb l, .i 24] (.bool r1))), (3, (.done (.bool true)))] [(0, vl qb l), (1, .str sling), (2, .i day), (31, .bool true)] [] [.call 14 [vl qb l, .i 24] [] [] [vl qb l, .i 24] (.bool r1), .done (.done (.bool (!r1))) (.bool true)] (And.intro (qo (AllST.cons (qx qb _ (Nat.le_of_ble_eq_true rfl)) (AllST.cons (Still.int 11 _ _) AllST.nil)) (yS N l 24 e_r1) (Still.bool 11 _)) (And.intro (congrArg (fun x => Pg.done (.bool x)) c2) trivial))
    · rw [if_neg (by rw [c2]; exact Bool.false_ne_true)] at g_v4
      obtain rfl := Option.some.inj g_v4
      exact qp.ro fol [(1, (.call [] [vl qb l, .i 24] (.bool r1))), (3, (.done (.bool false)))] [(0, vl qb l), (1, .str sling), (2, .i day), (31, .bool (decide ((sling.length : Int) > 60)))] [] [.call 14 [vl qb l, .i 24] [] [] [vl qb l, .i 24] (.bool r1), .done (.done (.bool (!r1))) (.bool false)] (And.intro (qo (AllST.cons (qx qb _ (Nat.le_of_ble_eq_true rfl)) (AllST.cons (Still.int 11 _ _) AllST.nil)) (yS N l 24 e_r1) (Still.bool 11 _)) (And.intro (congrArg (fun x => Pg.done (.bool x)) c2) trivial))
  refine Goes.ifB (b := b3) (by kernel_rfl) (fun c5 => ?_) (fun c5 => ?_)
  · rw [if_pos (c5)] at h
    refine sq ?_
    obtain ⟨r6, e_r6, h⟩ := bnd h
    refine Goes.ro fol [(0, (.call [] [] (.bool r6)))] [(6, .bool r6)] [] [.call 15 [] [] [] [] (.bool r6)] (And.intro (qo AllST.nil (qip e_r6) (Still.bool 11 _)) trivial) ?_
    refine Goes.ret ?_
    obtain rfl := Option.some.inj h
    exact (Goes.retW (xs := [.bool r6]) (by kernel_rfl) (FzW.still (Still.bool 11 _)))
  · rw [if_neg (by rw [c5]; exact Bool.false_ne_true)] at h
    refine Goes.skip ?_
    refine sq ?_
    obtain ⟨r7, e_r7, h⟩ := bnd h
    refine Goes.ro fol [(2, (.call [] [vl qb l, .str sling] (.tuple [vl encI r7.1, .i r7.2])))] [(0, vl qb l), (1, .str sling), (2, .i day), (7, vl encI r7.1), (8, .i r7.2)] [] [.call 24 [vl qb l, .str sling] [] [] [vl qb l, .str sling] (.tuple [vl encI r7.1, .i r7.2])] (And.intro (qo (AllST.cons (qx qb _ (Nat.le_of_ble_eq_true rfl)) (AllST.cons (Still.str 11 _) AllST.nil)) (qb5 N l sling e_r7) (Still.tuple (AllST.cons (qx encI _ (Nat.le_of_ble_eq_true rfl)) (AllST.cons (Still.int 10 _ _) AllST.nil)))) trivial) ?_
    refine sq ?_
    obtain ⟨r8, e_r8, h⟩ := bnd h
    refine Goes.ro fol [(3, (.call [] [vl qb l, .str sling, .i day] (.tuple [.bool r8.1, .i r8.2])))] [(0, vl qb l), (1, .str sling), (2, .i day), (7, vl encI r7.1), (8, .i r7.2), (9, .bool r8.1), (10, .i r8.2)] [] [.call 25 [vl qb l, .str sling, .i day] [] [] [vl qb l, .str sling, .i day] (.tuple [.bool r8.1, .i r8.2])] (And.intro (qo (AllST.cons (qx qb _ (Nat.le_of_ble_eq_true rfl)) (AllST.cons (Still.str 11 _) (AllST.cons (Still.int 11 _ _) AllST.nil))) (qb1 N l sling day e_r8) (Still.tuple (AllST.cons (Still.bool 10 _) (AllST.cons (Still.int 10 _ _) AllST.nil)))) trivial) ?_
    refine sq ?_
    obtain ⟨r9, e_r9, h⟩ := bnd h
    refine Goes.ro fol [(3, (.call [] [vl qb l, .str sling, .i day] (.tuple [.i r9.1, .i r9.2])))] [(0, vl qb l), (1, .str sling), (2, .i day), (7, vl encI r7.1), (8, .i r7.2), (9, .bool r8.1), (10, .i r8.2), (11, .i r9.1), (12, .i r9.2)] [] [.call 26 [vl qb l, .str sling, .i day] [] [] [vl qb l, .str sling, .i day] (.tuple [.i r9.1, .i r9.2])] (And.intro (qo (AllST.cons (qx qb _ (Nat.le_of_ble_eq_true rfl)) (AllST.cons (Still.str 11 _) (AllST.cons (Still.int 11 _ _) AllST.nil))) (qaB N l sling day e_r9) (Still.tuple (AllST.cons (Still.int 10 _ _) (AllST.cons (Still.int 10 _ _) AllST.nil)))) trivial) ?_
    refine sq ?_
    obtain ⟨r10, e_r10, h⟩ := bnd h
    refine Goes.ro fol [(1, (.call [] [vl qb l] (.tuple [.agg [.i r10.1.Day, vl qa r10.1.Slings], .i r10.2.1, .i r10.2.2])))] [(0, vl qb l), (1, .str sling), (2, .i day), (7, vl encI r7.1), (8, .i r7.2), (9, .bool r8.1), (10, .i r8.2), (11, .i r9.1), (12, .i r9.2), (13, .ptr 0 0), (15, .i r10.2.2)] [.cells [.i r10.1.Day, vl qa r10.1.Slings]] [.call 17 [vl qb l] [] [] [vl qb l] (.tuple [.agg [.i r10.1.Day, vl qa r10.1.Slings], .i r10.2.1, .i r10.2.2])] (And.intro (qo (AllST.cons (qx qb _ (Nat.le_of_ble_eq_true rfl)) AllST.nil) (qcG N l e_r10) (Still.tuple (AllST.cons (Still.agg (AllST.cons (Still.int 9 _ _) (AllST.cons (qx qa _ (Nat.le_of_ble_eq_true rfl)) AllST.nil))) (AllST.cons (Still.int 10 _ _) (AllST.cons (Still.int 10 _ _) AllST.nil))))) trivial) ?_
    refine sq ?_
    obtain ⟨r11, e_r11, h⟩ := bnd h
    refine Goes.ro fol [(2, (.call [] [.agg [.i r10.1.Day, vl qa r10.1.Slings], .str sling] (.i r11)))] [(0, vl qb l), (1, .str sling), (2, .i day), (7, vl encI r7.1), (8, .i r7.2), (9, .bool r8.1), (10, .i r8.2), (11, .i r9.1), (12, .i r9.2), (13, .ptr 0 0), (15, .i r10.2.2), (16, .i r11)] [.cells [.i r10.1.Day, vl qa r10.1.Slings]] [.call 27 [.agg [.i r10.1.Day, vl qa r10.1.Slings], .str sling] [.cells [.i r10.1.Day, vl qa r10.1.Slings]] [] [.agg [.i r10.1.Day, vl qa r10.1.Slings], .str sling] (.i r11)] (And.intro (qo (AllST.cons (Still.agg (AllST.cons (Still.int 10 _ _) (AllST.cons (qx qa _ (Nat.le_of_ble_eq_true rfl)) AllST.nil))) (AllST.cons (Still.str 11 _) AllST.nil)) (qcw N (⟨r10.1.Day, r10.1.Slings⟩ : qC) sling e_r11) (Still.int 11 _ _)) trivial) ?_
    refine sq ?_
    obtain ⟨r12, e_r12, h⟩ := bnd h
    obtain ⟨r13, e_r13, h⟩ := bnd h
    obtain ⟨r14, e_r14, h⟩ := bnd h
    refine Goes.ro fol [(2, (.call [] [.str sling] (.i r12))), (5, (.call [] [.bool (decide (r11 < 0)), .i 10] (.i r13))), (7, (.call [1] [vl encI ([r10.2.2, r12, r13] : List Int)] (.i r14)))] [(0, vl qb l), (1, .str sling), (2, .i day), (7, vl encI r7.1), (8, .i r7.2), (9, .bool r8.1), (10, .i r8.2), (11, .i r9.1), (12, .i r9.2), (13, .ptr 0 0), (15, .i r10.2.2), (16, .i r11), (17, .i r14)] [.cells [.i r10.1.Day, vl qa r10.1.Slings], .cells [.i r10.2.2, .i r12, .i r13]] [.call 29 [.str sling] [.cells [.i r10.1.Day, vl qa r10.1.Slings]] [] [.str sling] (.i r12), .call 30 [.bool (decide (r11 < 0)), .i 10] [.cells [.i r10.1.Day, vl qa r10.1.Slings]] [] [.bool (decide (r11 < 0)), .i 10] (.i r13), .call 28 [.slice 1 0 3 3 1] [.cells [.i r10.1.Day, vl qa r10.1.Slings], .cells [.i r10.2.2, .i r12, .i r13]] [1] [vl encI ([r10.2.2, r12, r13] : List Int)] (.i r14)] (And.intro (qo (AllST.cons (Still.str 11 _) AllST.nil) (qaH N sling e_r12) (Still.int 11 _ _)) (And.intro (qo (AllST.cons (Still.bool 11 _) (AllST.cons (Still.int 11 _ _) AllST.nil)) (vg (decide (r11 < 0)) 10 e_r13) (Still.int 11 _ _)) (And.intro (yg (FzL.cons (Fz.lit rfl rfl (FzL.still (AllST.cons (Still.int 10 _ _) (AllST.cons (Still.int 10 _ _) (AllST.cons (Still.int 10 _ _) AllST.nil))))) FzL.nil) (xg N ([r10.2.2, r12, r13] : List Int) e_r14) (Still.int 11 _ _) rfl) trivial))) ?_
    refine sq ?_
    obtain ⟨r15, e_r15, h⟩ := bnd h
    obtain ⟨r16, e_r16, h⟩ := bnd h
    obtain ⟨r17, e_r17, h⟩ := bnd h
    obtain ⟨r18, e_r18, h⟩ := bnd h
    refine Goes.ro fol [(2, (.call [] [.str sling] (.i r15))), (4, (.call [] [.i day] (.i r16))), (7, (.call [] [.bool (decide (r11 < 0)), .i 10] (.i r17))), (9, (.call [2] [vl encI ([r10.2.2, r15, r16, r17] : List Int)] (.i r18)))] [(0, vl qb l), (1, .str sling), (2, .i day), (7, vl encI r7.1), (8, .i r7.2), (9, .bool r8.1), (10, .i r8.2), (11, .i r9.1), (12, .i r9.2), (13, .ptr 0 0), (16, .i r11), (17, .i r14), (18, .i r18)] [.cells [.i r10.1.Day, vl qa r10.1.Slings], .cells [.i r10.2.2, .i r12, .i r13], .cells [.i r10.2.2, .i r15, .i r16, .i r17]] [.call 29 [.str sling] [.cells [.i r10.1.Day, vl qa r10.1.Slings], .cells [.i r10.2.2, .i r12, .i r13]] [] [.str sling] (.i r15), .call 31 [.i day] [.cells [.i r10.1.Day, vl qa r10.1.Slings], .cells [.i r10.2.2, .i r12, .i r13]] [] [.i day] (.i r16), .call 30 [.bool (decide (r11 < 0)), .i 10] [.cells [.i r10.1.Day, vl qa r10.1.Slings], .cells [.i r10.2.2, .i r12, .i r13]] [] [.bool (decide (r11 < 0)), .i 10] (.i r17), .call 28 [.slice 2 0 4 4 1] [.cells [.i r10.1.Day, vl qa r10.1.Slings], .cells [.i r10.2.2, .i r12, .i r13], .cells [.i r10.2.2, .i r15, .i r16, .i r17]] [2] [vl encI ([r10.2.2, r15, r16, r17] : List Int)] (.i r18)] (And.intro (qo (AllST.cons (Still.str 11 _) AllST.nil) (qaH N sling e_r15) (Still.int 11 _ _)) (And.intro (qo (AllST.cons (Still.int 11 _ _) AllST.nil) (qc8 day e_r16) (Still.int 11 _ _)) (And.intro (qo (AllST.cons (Still.bool 11 _) (AllST.cons (Still.int 11 _ _) AllST.nil)) (vg (decide (r11 < 0)) 10 e_r17) (Still.int 11 _ _)) (And.intro (yg (FzL.cons (Fz.lit rfl rfl (FzL.still (AllST.cons (Still.int 10 _ _) (AllST.cons (Still.int 10 _ _) (AllST.cons (Still.int 10 _ _) (AllST.cons (Still.int 10 _ _) AllST.nil)))))) FzL.nil) (xg N ([r10.2.2, r15, r16, r17] : List Int) e_r18) (Still.int 11 _ _) rfl) trivial)))) ?_
    refine sq ?_
    refine Goes.rg fol [(0, vl qb l), (1, .str sling), (2, .i day), (7, vl encI r7.1), (8, .i r7.2), (9, .bool r8.1), (10, .i r8.2), (11, .i r9.1), (12, .i r9.2), (13, .ptr 0 0), (16, .i r11), (17, .i r14), (18, .i r18), (19, .i r18)] [.cells [.i r10.1.Day, vl qa r10.1.Slings], .cells [.i r10.2.2, .i r12, .i r13], .cells [.i r10.2.2, .i r15, .i r16, .i r17]] ?_
    refine sq ?_
    refine Goes.rg fol [(0, vl qb l), (1, .str sling), (2, .i day), (7, vl encI r7.1), (8, .i r7.2), (9, .bool r8.1), (10, .i r8.2), (11, .i r9.1), (12, .i r9.2), (13, .ptr 0 0), (16, .i r11), (17, .i r14), (18, .i r18), (19, .i r18), (20, .nilslice)] [.cells [.i r10.1.Day, vl qa r10.1.Slings], .cells [.i r10.2.2, .i r12, .i r13], .cells [.i r10.2.2, .i r15, .i r16, .i r17]] ?_
    refine sq ?_
    refine Goes.rg fol [(0, vl qb l), (1, .str sling), (2, .i day), (7, vl encI r7.1), (8, .i r7.2), (9, .bool r8.1), (10, .i r8.2), (11, .i r9.1), (12, .i r9.2), (13, .ptr 0 0), (16, .i r11), (17, .i r14), (18, .i r18), (19, .i r18), (20, .nilslice), (21, .bool false)] [.cells [.i r10.1.Day, vl qa r10.1.Slings], .cells [.i r10.2.2, .i r12, .i r13], .cells [.i r10.2.2, .i r15, .i r16, .i r17]] ?_
    refine sq ?_
    refine Goes.rg fol [(0, vl qb l), (1, .str sling), (2, .i day), (7, vl encI r7.1), (8, .i r7.2), (9, .bool r8.1), (10, .i r8.2), (11, .i r9.1), (12, .i r9.2), (13, .ptr 0 0), (16, .i r11), (17, .i r14), (18, .i r18), (19, .i r18), (20, .nilslice), (21, .bool false), (22, .i 0)] [.cells [.i r10.1.Day, vl qa r10.1.Slings], .cells [.i r10.2.2, .i r12, .i r13], .cells [.i r10.2.2, .i r15, .i r16, .i r17]] ?_
    refine sq ?_
    refine sq ?_
    refine Goes.rg fol [(0, vl qb l), (1, .str sling), (2, .i day), (7, vl encI r7.1), (8, .i r7.2), (9, .bool r8.1), (10, .i r8.2), (11, .i r9.1), (12, .i r9.2), (13, .ptr 0 0), (16, .i r11), (17, .i r14), (18, .i r18), (19, .i r18), (20, .nilslice), (21, .bool false), (22, .i 0), (82, .bool (decide (r14 = 0)))] [.cells [.i r10.1.Day, vl qa r10.1.Slings], .cells [.i r10.2.2, .i r12, .i r13], .cells [.i r10.2.2, .i r15, .i r16, .i r17]] ?_
    obtain ⟨r20, g20, h⟩ := bnd h
    refine Goes.imp (Q := fun x s' => (x = .normal ∧ ∃ history_19, history_19 = r20 ∧ Sub s' (ofG 140 [(2, .i day), (7, vl encI r7.1), (8, .i r7.2), (9, .bool r8.1), (10, .i r8.2), (11, .i r9.1), (12, .i r9.2), (13, .ptr 0 0), (16, .i r11), (17, .i r14), (18, .i r18), (19, .i r18), (20, vl encI history_19), (21, .bool false), (22, .i 0)], [.cells [.i r10.1.Day, vl qa r10.1.Slings]]))) ?_ ?_
    · refine Goes.ifB (b := decide (r14 = 0)) (by kernel_rfl) (fun c21 => ?_) (fun c21 => ?_)
      · rw [if_pos (ot c21)] at g20
        obtain ⟨r22, e_r22, g20⟩ := bnd g20
        refine Goes.ro fol [(2, (.call [] [vl qb l, .str sling] (vl encI r22)))] [(2, .i day), (7, vl encI r7.1), (8, .i r7.2), (9, .bool r8.1), (10, .i r8.2), (11, .i r9.1), (12, .i r9.2), (13, .ptr 0 0), (16, .i r11), (17, .i r14), (18, .i r18), (19, .i r18), (20, vl encI r22), (21, .bool false), (22, .i 0)] [.cells [.i r10.1.Day, vl qa r10.1.Slings], .cells [.i r10.2.2, .i r12, .i r13], .cells [.i r10.2.2, .i r15, .i r16, .i r17]] [.call 32 [vl qb l, .str sling] [.cells [.i r10.1.Day, vl qa r10.1.Slings], .cells [.i r10.2.2, .i r12, .i r13], .cells [.i r10.2.2, .i r15, .i r16, .i r17]] [] [vl qb l, .str sling] (vl encI r22)] (And.intro (qo (AllST.cons (qx qb _ (Nat.le_of_ble_eq_true rfl)) (AllST.cons (Still.str 11 _) AllST.nil)) (qcs N l sling e_r22) (qx encI _ (Nat.le_of_ble_eq_true rfl))) trivial) ?_
        obtain rfl := Option.some.inj g20
        exact ⟨rfl, _, rfl, (Sub.norm [] [some 0] rfl rfl (.keep (.same (qc.int _ _)) (.keep (.same (ql encI _)) (.keep (.same (qc.int _ _)) (.keep (.same (qc.bool _)) (.keep (.same (qc.int _ _)) (.keep (.same (qc.int _ _)) (.keep (.same (qc.int _ _)) (.keep (.ptr rfl) (.keep (.same (qc.int _ _)) (.keep (.same (qc.int _ _)) (.keep (.same (qc.int _ _)) (.keep (.same (qc.int _ _)) (.keep (.same (ql encI _)) (.keep (.same (qc.bool _)) (.keep (.same (qc.int _ _)) .nil))))))))))))))) (.keep rfl (.same (qf.cons (qc.int _ _) (qf.cons (ql qa _) qf.nil))) rfl rfl .nil))⟩
      · rw [if_neg (of_ c21)] at g20
        refine Goes.skip ?_
        obtain rfl := Option.some.inj g20
        exact ⟨rfl, _, rfl, (Sub.norm [] [some 0] rfl rfl (.drop (.drop (.keep (.same (qc.int _ _)) (.keep (.same (ql encI _)) (.keep (.same (qc.int _ _)) (.keep (.same (qc.bool _)) (.keep (.same (qc.int _ _)) (.keep (.same (qc.int _ _)) (.keep (.same (qc.int _ _)) (.keep (.ptr rfl) (.keep (.same (qc.int _ _)) (.keep (.same (qc.int _ _)) (.keep (.same (qc.int _ _)) (.keep (.same (qc.int _ _)) (.keep .nilv (.keep (.same (qc.bool _)) (.keep (.same (qc.int _ _)) .nil))))))))))))))))) (.keep rfl (.same (qf.cons (qc.int _ _) (qf.cons (ql qa _) qf.nil))) rfl rfl .nil))⟩
    rintro x s' ⟨rfl, history_19, rfl, hsub⟩
    refine Goes.sub hsub ?_
    refine sq ?_
    refine sq ?_
    refine Goes.rg fol [(2, .i day), (7, vl encI r7.1), (8, .i r7.2), (9, .bool r8.1), (10, .i r8.2), (11, .i r9.1), (12, .i r9.2), (13, .ptr 0 0), (16, .i r11), (17, .i r14), (18, .i r18), (19, .i r18), (20, vl encI history_19), (21, .bool false), (22, .i 0), (87, .bool (decide (r18 = 0)))] [.cells [.i r10.1.Day, vl qa r10.1.Slings]] ?_
    obtain ⟨r26, g26, h⟩ := bnd h
    refine Goes.imp (Q := fun x s' => (x = .normal ∧ ∃ three_23 retired_24 limit_25, (three_23, retired_24, limit_25) = r26 ∧ Sub s' (ofG 140 [(7, vl encI r7.1), (8, .i r7.2), (9, .bool r8.1), (10, .i r8.2), (11, .i r9.1), (12, .i r9.2), (17, .i r14), (18, .i r18), (19, .i three_23), (20, vl encI history_19), (21, .bool retired_24), (22, .i limit_25)], []))) ?_ ?_
    · refine Goes.ifB (b := decide (r18 = 0)) (by kernel_rfl) (fun c27 => ?_) (fun c27 => ?_)
      · rw [if_pos (ot c27)] at g26
        refine sq ?_
        obtain ⟨x28, e_x28, g26⟩ := bnd g26
        refine Goes.ro fol [(3, (.done (.fptr (r10.1.Slings.flatMap qa.c) ((r11 : Int).toNat * 9 + 0)))), (4, (.done (.agg [.str x28.Name, .str x28.Batch, .i x28.Born, .i x28.Last, .i x28.Uses, .i x28.Used, .i x28.Limit, .i x28.Until, .bool x28.Gone])))] [(2, .i day), (7, vl encI r7.1), (8, .i r7.2), (9, .bool r8.1), (10, .i r8.2), (11, .i r9.1), (12, .i r9.2), (17, .i r14), (18, .i r18), (20, vl encI history_19), (22, .i 0), (23, .ptr 1 0)] [.cells [.i r10.1.Day, vl qa r10.1.Slings], .cells [.str x28.Name, .str x28.Batch, .i x28.Born, .i x28.Last, .i x28.Uses, .i x28.Used, .i x28.Limit, .i x28.Until, .bool x28.Gone]] [.done (.opt (qj Tryz.prog 35 (vl qa r10.1.Slings) (.i r11))) (.fptr (r10.1.Slings.flatMap qa.c) ((r11 : Int).toNat * 9 + 0)), .done (qz Tryz.prog 60 (.fptr (r10.1.Slings.flatMap qa.c) ((r11 : Int).toNat * 9 + 0))) (.agg [.str x28.Name, .str x28.Batch, .i x28.Born, .i x28.Last, .i x28.Uses, .i x28.Used, .i x28.Limit, .i x28.Until, .bool x28.Gone])] (And.intro (qF xW (E := qa) rfl e_x28) (And.intro (qax ag60 (E := qa) rfl e_x28) trivial)) ?_
        refine sq ?_
        obtain ⟨r29, e_r29, g26⟩ := bnd g26
        refine Goes.ro fol [(2, (.call [] [.agg [.str x28.Name, .str x28.Batch, .i x28.Born, .i x28.Last, .i x28.Uses, .i x28.Used, .i x28.Limit, .i x28.Until, .bool x28.Gone], .i day] (.bool r29)))] [(2, .i day), (7, vl encI r7.1), (8, .i r7.2), (9, .bool r8.1), (10, .i r8.2), (11, .i r9.1), (12, .i r9.2), (17, .i r14), (18, .i r18), (20, vl encI history_19), (21, .bool r29), (22, .i 0), (23, .ptr 1 0)] [.cells [.i r10.1.Day, vl qa r10.1.Slings], .cells [.str x28.Name, .str x28.Batch, .i x28.Born, .i x28.Last, .i x28.Uses, .i x28.Used, .i x28.Limit, .i x28.Until, .bool x28.Gone]] [.call 33 [.agg [.str x28.Name, .str x28.Batch, .i x28.Born, .i x28.Last, .i x28.Uses, .i x28.Used, .i x28.Limit, .i x28.Until, .bool x28.Gone], .i day] [.cells [.i r10.1.Day, vl qa r10.1.Slings], .cells [.str x28.Name, .str x28.Batch, .i x28.Born, .i x28.Last, .i x28.Uses, .i x28.Used, .i x28.Limit, .i x28.Until, .bool x28.Gone]] [] [.agg [.str x28.Name, .str x28.Batch, .i x28.Born, .i x28.Last, .i x28.Uses, .i x28.Used, .i x28.Limit, .i x28.Until, .bool x28.Gone], .i day] (.bool r29)] (And.intro (qo (AllST.cons (Still.agg (AllST.cons (Still.str 10 _) (AllST.cons (Still.str 10 _) (AllST.cons (Still.int 10 _ _) (AllST.cons (Still.int 10 _ _) (AllST.cons (Still.int 10 _ _) (AllST.cons (Still.int 10 _ _) (AllST.cons (Still.int 10 _ _) (AllST.cons (Still.int 10 _ _) (AllST.cons (Still.bool 10 _) AllST.nil)))))))))) (AllST.cons (Still.int 11 _ _) AllST.nil)) (yE x28 day e_r29) (Still.bool 11 _)) trivial) ?_
        refine sq ?_
        obtain ⟨r30, e_r30, g26⟩ := bnd g26
        obtain ⟨r31, e_r31, g26⟩ := bnd g26
        obtain ⟨r32, e_r32, g26⟩ := bnd g26
        obtain ⟨r33, e_r33, g26⟩ := bnd g26
        refine Goes.ro fol [(1, (.call [] [.bool r29, .i 20] (.i r30))), (4, (.call [] [.agg [.str x28.Name, .str x28.Batch, .i x28.Born, .i x28.Last, .i x28.Uses, .i x28.Used, .i x28.Limit, .i x28.Until, .bool x28.Gone], .i day] (.bool r31))), (6, (.call [] [.bool (!r31), .i 24] (.i r32))), (8, (.call [2] [vl encI ([r30, r32] : List Int)] (.i r33)))] [(7, vl encI r7.1), (8, .i r7.2), (9, .bool r8.1), (10, .i r8.2), (11, .i r9.1), (12, .i r9.2), (17, .i r14), (18, .i r18), (19, .i r33), (20, vl encI history_19), (21, .bool r29), (22, .i 0), (23, .ptr 1 0)] [.cells [.i r10.1.Day, vl qa r10.1.Slings], .cells [.str x28.Name, .str x28.Batch, .i x28.Born, .i x28.Last, .i x28.Uses, .i x28.Used, .i x28.Limit, .i x28.Until, .bool x28.Gone], .cells [.i r30, .i r32]] [.call 30 [.bool r29, .i 20] [.cells [.i r10.1.Day, vl qa r10.1.Slings], .cells [.str x28.Name, .str x28.Batch, .i x28.Born, .i x28.Last, .i x28.Uses, .i x28.Used, .i x28.Limit, .i x28.Until, .bool x28.Gone]] [] [.bool r29, .i 20] (.i r30), .call 34 [.agg [.str x28.Name, .str x28.Batch, .i x28.Born, .i x28.Last, .i x28.Uses, .i x28.Used, .i x28.Limit, .i x28.Until, .bool x28.Gone], .i day] [.cells [.i r10.1.Day, vl qa r10.1.Slings], .cells [.str x28.Name, .str x28.Batch, .i x28.Born, .i x28.Last, .i x28.Uses, .i x28.Used, .i x28.Limit, .i x28.Until, .bool x28.Gone]] [] [.agg [.str x28.Name, .str x28.Batch, .i x28.Born, .i x28.Last, .i x28.Uses, .i x28.Used, .i x28.Limit, .i x28.Until, .bool x28.Gone], .i day] (.bool r31), .call 30 [.bool (!r31), .i 24] [.cells [.i r10.1.Day, vl qa r10.1.Slings], .cells [.str x28.Name, .str x28.Batch, .i x28.Born, .i x28.Last, .i x28.Uses, .i x28.Used, .i x28.Limit, .i x28.Until, .bool x28.Gone]] [] [.bool (!r31), .i 24] (.i r32), .call 28 [.slice 2 0 2 2 1] [.cells [.i r10.1.Day, vl qa r10.1.Slings], .cells [.str x28.Name, .str x28.Batch, .i x28.Born, .i x28.Last, .i x28.Uses, .i x28.Used, .i x28.Limit, .i x28.Until, .bool x28.Gone], .cells [.i r30, .i r32]] [2] [vl encI ([r30, r32] : List Int)] (.i r33)] (And.intro (qo (AllST.cons (Still.bool 11 _) (AllST.cons (Still.int 11 _ _) AllST.nil)) (vg r29 20 e_r30) (Still.int 11 _ _)) (And.intro (qo (AllST.cons (Still.agg (AllST.cons (Still.str 10 _) (AllST.cons (Still.str 10 _) (AllST.cons (Still.int 10 _ _) (AllST.cons (Still.int 10 _ _) (AllST.cons (Still.int 10 _ _) (AllST.cons (Still.int 10 _ _) (AllST.cons (Still.int 10 _ _) (AllST.cons (Still.int 10 _ _) (AllST.cons (Still.bool 10 _) AllST.nil)))))))))) (AllST.cons (Still.int 11 _ _) AllST.nil)) (qaP x28 day e_r31) (Still.bool 11 _)) (And.intro (qo (AllST.cons (Still.bool 11 _) (AllST.cons (Still.int 11 _ _) AllST.nil)) (vg (!r31) 24 e_r32) (Still.int 11 _ _)) (And.intro (yg (FzL.cons (Fz.lit rfl rfl (FzL.still (AllST.cons (Still.int 10 _ _) (AllST.cons (Still.int 10 _ _) AllST.nil)))) FzL.nil) (xg N ([r30, r32] : List Int) e_r33) (Still.int 11 _ _) rfl) trivial)))) ?_
        refine sq ?_
        refine Goes.rg fol [(7, vl encI r7.1), (8, .i r7.2), (9, .bool r8.1), (10, .i r8.2), (11, .i r9.1), (12, .i r9.2), (17, .i r14), (18, .i r18), (19, .i r33), (20, vl encI history_19), (21, .bool r29), (22, .i 0), (23, .ptr 1 0), (106, .bool (decide (r33 = 0)))] [.cells [.i r10.1.Day, vl qa r10.1.Slings], .cells [.str x28.Name, .str x28.Batch, .i x28.Born, .i x28.Last, .i x28.Uses, .i x28.Used, .i x28.Limit, .i x28.Until, .bool x28.Gone], .cells [.i r30, .i r32]] ?_
        refine Goes.ifB (b := decide (r33 = 0)) (by kernel_rfl) (fun c34 => ?_) (fun c34 => ?_)
        · rw [if_pos (ot c34)] at g26
          refine Goes.rg fol [(7, vl encI r7.1), (8, .i r7.2), (9, .bool r8.1), (10, .i r8.2), (11, .i r9.1), (12, .i r9.2), (17, .i r14), (18, .i r18), (19, .i r33), (20, vl encI history_19), (21, .bool r29), (22, .i x28.Limit)] [.cells [.i r10.1.Day, vl qa r10.1.Slings], .cells [.str x28.Name, .str x28.Batch, .i x28.Born, .i x28.Last, .i x28.Uses, .i x28.Used, .i x28.Limit, .i x28.Until, .bool x28.Gone], .cells [.i r30, .i r32]] ?_
          obtain rfl := Option.some.inj g26
          exact ⟨rfl, _, _, _, rfl, (Sub.norm [] [] rfl rfl (.keep (.same (ql encI _)) (.keep (.same (qc.int _ _)) (.keep (.same (qc.bool _)) (.keep (.same (qc.int _ _)) (.keep (.same (qc.int _ _)) (.keep (.same (qc.int _ _)) (.keep (.same (qc.int _ _)) (.keep (.same (qc.int _ _)) (.keep (.same (qc.int _ _)) (.keep (.same (ql encI _)) (.keep (.same (qc.bool _)) (.keep (.same (qc.int _ _)) .nil)))))))))))) .nil)⟩
        · rw [if_neg (of_ c34)] at g26
          refine Goes.skip ?_
          obtain rfl := Option.some.inj g26
          exact ⟨rfl, _, _, _, rfl, (Sub.norm [] [] rfl rfl (.keep (.same (ql encI _)) (.keep (.same (qc.int _ _)) (.keep (.same (qc.bool _)) (.keep (.same (qc.int _ _)) (.keep (.same (qc.int _ _)) (.keep (.same (qc.int _ _)) (.keep (.same (qc.int _ _)) (.keep (.same (qc.int _ _)) (.keep (.same (qc.int _ _)) (.keep (.same (ql encI _)) (.keep (.same (qc.bool _)) (.keep (.same (qc.int _ _)) .nil)))))))))))) .nil)⟩
      · rw [if_neg (of_ c27)] at g26
        refine Goes.skip ?_
        obtain rfl := Option.some.inj g26
        exact ⟨rfl, _, _, _, rfl, (Sub.norm [] [] rfl rfl (.drop (.keep (.same (ql encI _)) (.keep (.same (qc.int _ _)) (.keep (.same (qc.bool _)) (.keep (.same (qc.int _ _)) (.keep (.same (qc.int _ _)) (.keep (.same (qc.int _ _)) (.drop (.drop (.keep (.same (qc.int _ _)) (.keep (.same (qc.int _ _)) (.keep (.same (qc.int _ _)) (.keep (.same (ql encI _)) (.keep (.same (qc.bool _)) (.keep (.same (qc.int _ _)) .nil))))))))))))))) .nil)⟩
    rintro x s' ⟨rfl, three_23, retired_24, limit_25, rfl, hsub⟩
    try dsimp only at h
    refine Goes.sub hsub ?_
    refine sq ?_
    obtain ⟨b43, g_v44, h⟩ := bnd h
    refine Goes.cut (s' := (ofG 140 [(6, .bool b43)], [])) ?_ ?_
    · rcases Bool.eq_false_or_eq_true (decide (r7.2 = r14)) with c35 | c35
      · rw [if_pos (ot c35)] at g_v44
        obtain ⟨r36, e_r36, g_v44⟩ := bnd g_v44
        rcases Bool.eq_false_or_eq_true (r36) with c37 | c37
        · rw [if_pos (c37)] at g_v44
          rcases Bool.eq_false_or_eq_true (decide (r8.2 = r18)) with c38 | c38
          · rw [if_pos (ot c38)] at g_v44
            rcases Bool.eq_false_or_eq_true (r8.1 == retired_24) with c39 | c39
            · rw [if_pos (c39)] at g_v44
              rcases Bool.eq_false_or_eq_true (decide (r9.2 = three_23)) with c40 | c40
              · rw [if_pos (ot c40)] at g_v44
                rcases Bool.eq_false_or_eq_true (decide (r9.1 = limit_25)) with c41 | c41
                · rw [if_pos (ot c41)] at g_v44
                  obtain ⟨r42, e_r42, g_v44⟩ := bnd g_v44
                  obtain rfl := Option.some.inj g_v44
                  exact qp.ro fol [(3, (.done (.bool true))), (6, (.call [] [vl encI r7.1, vl encI history_19] (.bool r36))), (8, (.done (.bool true))), (13, (.done (.bool true))), (18, (.done (.bool true))), (23, (.done (.bool true))), (28, (.done (.bool true))), (29, (.call [] [] (.bool r42)))] [(6, .bool r42)] [] [.done (.done (.bool (decide (r7.2 = r14)))) (.bool true), .call 35 [vl encI r7.1, vl encI history_19] [] [] [vl encI r7.1, vl encI history_19] (.bool r36), .done (.done (.bool r36)) (.bool true), .done (.done (.bool (decide (r8.2 = r18)))) (.bool true), .done (.done (.bool (r8.1 == retired_24))) (.bool true), .done (.done (.bool (decide (r9.2 = three_23)))) (.bool true), .done (.done (.bool (decide (r9.1 = limit_25)))) (.bool true), .call 15 [] [] [] [] (.bool r42)] (And.intro (congrArg (fun x => Pg.done (.bool x)) c35) (And.intro (qo (AllST.cons (qx encI _ (Nat.le_of_ble_eq_true rfl)) (AllST.cons (qx encI _ (Nat.le_of_ble_eq_true rfl)) AllST.nil)) (zX N r7.1 history_19 e_r36) (Still.bool 11 _)) (And.intro (congrArg (fun x => Pg.done (.bool x)) c37) (And.intro (congrArg (fun x => Pg.done (.bool x)) c38) (And.intro (congrArg (fun x => Pg.done (.bool x)) c39) (And.intro (congrArg (fun x => Pg.done (.bool x)) c40) (And.intro (congrArg (fun x => Pg.done (.bool x)) c41) (And.intro (qo AllST.nil (qip e_r42) (Still.bool 11 _)) trivial))))))))
                · rw [if_neg (of_ c41)] at g_v44
                  obtain rfl := Option.some.inj g_v44
                  exact qp.ro fol [(3, (.done (.bool true))), (6, (.call [] [vl encI r7.1, vl encI history_19] (.bool r36))), (8, (.done (.bool true))), (13, (.done (.bool true))), (18, (.done (.bool true))), (23, (.done (.bool true))), (28, (.done (.bool false)))] [(6, .bool false)] [] [.done (.done (.bool (decide (r7.2 = r14)))) (.bool true), .call 35 [vl encI r7.1, vl encI history_19] [] [] [vl encI r7.1, vl encI history_19] (.bool r36), .done (.done (.bool r36)) (.bool true), .done (.done (.bool (decide (r8.2 = r18)))) (.bool true), .done (.done (.bool (r8.1 == retired_24))) (.bool true), .done (.done (.bool (decide (r9.2 = three_23)))) (.bool true), .done (.done (.bool (decide (r9.1 = limit_25)))) (.bool false)] (And.intro (congrArg (fun x => Pg.done (.bool x)) c35) (And.intro (qo (AllST.cons (qx encI _ (Nat.le_of_ble_eq_true rfl)) (AllST.cons (qx encI _ (Nat.le_of_ble_eq_true rfl)) AllST.nil)) (zX N r7.1 history_19 e_r36) (Still.bool 11 _)) (And.intro (congrArg (fun x => Pg.done (.bool x)) c37) (And.intro (congrArg (fun x => Pg.done (.bool x)) c38) (And.intro (congrArg (fun x => Pg.done (.bool x)) c39) (And.intro (congrArg (fun x => Pg.done (.bool x)) c40) (And.intro (congrArg (fun x => Pg.done (.bool x)) c41) trivial)))))))
              · rw [if_neg (of_ c40)] at g_v44
                obtain rfl := Option.some.inj g_v44
                exact qp.ro fol [(3, (.done (.bool true))), (6, (.call [] [vl encI r7.1, vl encI history_19] (.bool r36))), (8, (.done (.bool true))), (13, (.done (.bool true))), (18, (.done (.bool true))), (23, (.done (.bool false)))] [(6, .bool false)] [] [.done (.done (.bool (decide (r7.2 = r14)))) (.bool true), .call 35 [vl encI r7.1, vl encI history_19] [] [] [vl encI r7.1, vl encI history_19] (.bool r36), .done (.done (.bool r36)) (.bool true), .done (.done (.bool (decide (r8.2 = r18)))) (.bool true), .done (.done (.bool (r8.1 == retired_24))) (.bool true), .done (.done (.bool (decide (r9.2 = three_23)))) (.bool false)] (And.intro (congrArg (fun x => Pg.done (.bool x)) c35) (And.intro (qo (AllST.cons (qx encI _ (Nat.le_of_ble_eq_true rfl)) (AllST.cons (qx encI _ (Nat.le_of_ble_eq_true rfl)) AllST.nil)) (zX N r7.1 history_19 e_r36) (Still.bool 11 _)) (And.intro (congrArg (fun x => Pg.done (.bool x)) c37) (And.intro (congrArg (fun x => Pg.done (.bool x)) c38) (And.intro (congrArg (fun x => Pg.done (.bool x)) c39) (And.intro (congrArg (fun x => Pg.done (.bool x)) c40) trivial))))))
            · rw [if_neg (by rw [c39]; exact Bool.false_ne_true)] at g_v44
              obtain rfl := Option.some.inj g_v44
              exact qp.ro fol [(3, (.done (.bool true))), (6, (.call [] [vl encI r7.1, vl encI history_19] (.bool r36))), (8, (.done (.bool true))), (13, (.done (.bool true))), (18, (.done (.bool false)))] [(6, .bool false)] [] [.done (.done (.bool (decide (r7.2 = r14)))) (.bool true), .call 35 [vl encI r7.1, vl encI history_19] [] [] [vl encI r7.1, vl encI history_19] (.bool r36), .done (.done (.bool r36)) (.bool true), .done (.done (.bool (decide (r8.2 = r18)))) (.bool true), .done (.done (.bool (r8.1 == retired_24))) (.bool false)] (And.intro (congrArg (fun x => Pg.done (.bool x)) c35) (And.intro (qo (AllST.cons (qx encI _ (Nat.le_of_ble_eq_true rfl)) (AllST.cons (qx encI _ (Nat.le_of_ble_eq_true rfl)) AllST.nil)) (zX N r7.1 history_19 e_r36) (Still.bool 11 _)) (And.intro (congrArg (fun x => Pg.done (.bool x)) c37) (And.intro (congrArg (fun x => Pg.done (.bool x)) c38) (And.intro (congrArg (fun x => Pg.done (.bool x)) c39) trivial)))))
          · rw [if_neg (of_ c38)] at g_v44
            obtain rfl := Option.some.inj g_v44
            exact qp.ro fol [(3, (.done (.bool true))), (6, (.call [] [vl encI r7.1, vl encI history_19] (.bool r36))), (8, (.done (.bool true))), (13, (.done (.bool false)))] [(6, .bool false)] [] [.done (.done (.bool (decide (r7.2 = r14)))) (.bool true), .call 35 [vl encI r7.1, vl encI history_19] [] [] [vl encI r7.1, vl encI history_19] (.bool r36), .done (.done (.bool r36)) (.bool true), .done (.done (.bool (decide (r8.2 = r18)))) (.bool false)] (And.intro (congrArg (fun x => Pg.done (.bool x)) c35) (And.intro (qo (AllST.cons (qx encI _ (Nat.le_of_ble_eq_true rfl)) (AllST.cons (qx encI _ (Nat.le_of_ble_eq_true rfl)) AllST.nil)) (zX N r7.1 history_19 e_r36) (Still.bool 11 _)) (And.intro (congrArg (fun x => Pg.done (.bool x)) c37) (And.intro (congrArg (fun x => Pg.done (.bool x)) c38) trivial))))
        · rw [if_neg (by rw [c37]; exact Bool.false_ne_true)] at g_v44
          obtain rfl := Option.some.inj g_v44
          exact qp.ro fol [(3, (.done (.bool true))), (6, (.call [] [vl encI r7.1, vl encI history_19] (.bool r36))), (8, (.done (.bool false)))] [(6, .bool false)] [] [.done (.done (.bool (decide (r7.2 = r14)))) (.bool true), .call 35 [vl encI r7.1, vl encI history_19] [] [] [vl encI r7.1, vl encI history_19] (.bool r36), .done (.done (.bool r36)) (.bool false)] (And.intro (congrArg (fun x => Pg.done (.bool x)) c35) (And.intro (qo (AllST.cons (qx encI _ (Nat.le_of_ble_eq_true rfl)) (AllST.cons (qx encI _ (Nat.le_of_ble_eq_true rfl)) AllST.nil)) (zX N r7.1 history_19 e_r36) (Still.bool 11 _)) (And.intro (congrArg (fun x => Pg.done (.bool x)) c37) trivial)))
      · rw [if_neg (of_ c35)] at g_v44
        obtain rfl := Option.some.inj g_v44
        exact qp.ro fol [(3, (.done (.bool false)))] [(6, .bool false)] [] [.done (.done (.bool (decide (r7.2 = r14)))) (.bool false)] (And.intro (congrArg (fun x => Pg.done (.bool x)) c35) trivial)
    refine Goes.ret ?_
    obtain rfl := Option.some.inj h
    exact (Goes.retW (xs := [.bool b43]) (by kernel_rfl) (FzW.still (Still.bool 11 _)))
end Go.Av
