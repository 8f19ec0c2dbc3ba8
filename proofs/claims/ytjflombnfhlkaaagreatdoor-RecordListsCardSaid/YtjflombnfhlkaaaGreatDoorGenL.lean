/-
  The walk of the law.
-/
import Derived.Test.YtjflombnfhlkaaaGreatDoorGenL3
import Derived.Test.YtjflombnfhlkaaaGreatDoorAvAwk10
noncomputable section
namespace Go.Av
open Go.Proofs Go.RowKit
set_option linter.unusedSectionVars false
set_option linter.unusedVariables false
set_option linter.unusedSimpArgs false
set_option maxRecDepth 100000
def awk : Option Bool := some true
theorem awk_ok {res : Bool} (h : awk = some res) : CallOK Tryz.prog (.fn 15) [] [] (.bool res) [] := by
  obtain rfl := Option.some.inj h
  exact awake15
def law10_RecordLists (N : Nat) (l : List EventT) (batch : Str) (day : Int) : Option Bool :=
  ((ref10_ShortEvents N l 24).bind fun r1 =>
  if (!r1) = true then
  some true
  else
  some (decide ((batch.length : Int) > 60)) : Option Bool).bind fun b3 =>
  if b3 = true then
  (awk).bind fun r6 =>
  some r6
  else
  (record_Due N l day).bind fun r7 =>
  (record_Batch N l batch).bind fun r8 =>
  (ref10_Replay N l).bind fun r9 =>
  (law10_dayed day).bind fun r10 =>
  (law10_first N ([r9.2.2, r10] : List Int)).bind fun r11 =>
  (law10_named N batch).bind fun r12 =>
  (law10_first N ([r9.2.2, r12] : List Int)).bind fun r13 =>
  ((if r11 = 0 then
  (ref10_Due N (⟨r9.1.Day, r9.1.Slings⟩ : RegisterTq) day).bind fun r17 =>
  some r17
  else
  some [] : Option (List Str))).bind fun due_14 =>
  ((if r13 = 0 then
  (ref10_Batch N (⟨r9.1.Day, r9.1.Slings⟩ : RegisterTq) batch).bind fun r22 =>
  (law10_when (decide ((r22.length : Int) = 0)) 10).bind fun r23 =>
  some (r23, r22)
  else
  some (r13, []) : Option (Int × (List Str)))).bind fun (two_18, slings_19) =>
  (if r7.2 = r11 then
  (ref01_SameWords N r7.1 due_14).bind fun r25 =>
  if r25 = true then
  if r8.2 = two_18 then
  (ref01_SameWords N r8.1 slings_19).bind fun r28 =>
  if r28 = true then
  (awk).bind fun r30 =>
  some r30
  else
  some false
  else
  some false
  else
  some false
  else
  some false : Option Bool).bind fun b31 =>
  some b31
theorem law10_RecordLists_ok (N : Nat) (l : List EventT) (batch : Str) (day : Int) {res : Bool} (h : law10_RecordLists N l batch day = some res) : CallOK Tryz.prog (.fn 6) [vl encEventT l, .str batch, .i day] [] (.bool res) [] := by
  unfold law10_RecordLists at h
  refine Goes.fnW Tryz.func6 rfl rfl (m := 90) rfl (rs := [.tmp 6]) rfl (l := [(0, vl encEventT l), (1, .str batch), (2, .i day)]) rfl ?_
  refine sq ?_
  refine Goes.rg fol [(0, vl encEventT l), (1, .str batch), (2, .i day)] [] ?_
  refine sq ?_
  refine sq ?_
  obtain ⟨b3, g_v4, h⟩ := bnd h
  refine Goes.cut (s' := (ofG 90 [(0, vl encEventT l), (1, .str batch), (2, .i day), (25, .bool b3)], [])) ?_ ?_
  · obtain ⟨r1, e_r1, g_v4⟩ := bnd g_v4
    rcases Bool.eq_false_or_eq_true (!r1) with c2 | c2
    · rw [if_pos (c2)] at g_v4
      obtain rfl := Option.some.inj g_v4
      exact RegTo.ro fol [(1, (.call [] [vl encEventT l, .i 24] (.bool r1))), (3, (.done (.bool true)))] [(0, vl encEventT l), (1, .str batch), (2, .i day), (25, .bool true)] [] [.call 14 [vl encEventT l, .i 24] [] [] [vl encEventT l, .i 24] (.bool r1), .done (.done (.bool (!r1))) (.bool true)] (And.intro (call_val (AllST.cons (vl_still encEventT _ (Nat.le_of_ble_eq_true rfl)) (AllST.cons (Still.int 11 _ _) AllST.nil)) (ref10_ShortEvents_ok N l 24 e_r1) (Still.bool 11 _)) (And.intro (congrArg (fun x => Pg.done (.bool x)) c2) trivial))
    · rw [if_neg (by rw [c2]; exact Bool.false_ne_true)] at g_v4
      obtain rfl := Option.some.inj g_v4
      exact RegTo.ro fol [(1, (.call [] [vl encEventT l, .i 24] (.bool r1))), (3, (.done (.bool false)))] [(0, vl encEventT l), (1, .str batch), (2, .i day), (25, .bool (decide ((batch.length : Int) > 60)))] [] [.call 14 [vl encEventT l, .i 24] [] [] [vl encEventT l, .i 24] (.bool r1), .done (.done (.bool (!r1))) (.bool false)] (And.intro (call_val (AllST.cons (vl_still encEventT _ (Nat.le_of_ble_eq_true rfl)) (AllST.cons (Still.int 11 _ _) AllST.nil)) (ref10_ShortEvents_ok N l 24 e_r1) (Still.bool 11 _)) (And.intro (congrArg (fun x => Pg.done (.bool x)) c2) trivial))
  refine Goes.ifB (b := b3) (by kernel_rfl) (fun c5 => ?_) (fun c5 => ?_)
  · rw [if_pos (c5)] at h
    refine sq ?_
    obtain ⟨r6, e_r6, h⟩ := bnd h
    refine Goes.ro fol [(0, (.call [] [] (.bool r6)))] [(6, .bool r6)] [] [.call 15 [] [] [] [] (.bool r6)] (And.intro (call_val AllST.nil (awk_ok e_r6) (Still.bool 11 _)) trivial) ?_
    refine Goes.ret ?_
    obtain rfl := Option.some.inj h
    exact (Goes.retW (xs := [.bool r6]) (by kernel_rfl) (FzW.still (Still.bool 11 _)))
  · rw [if_neg (by rw [c5]; exact Bool.false_ne_true)] at h
    refine Goes.skip ?_
    refine sq ?_
    obtain ⟨r7, e_r7, h⟩ := bnd h
    refine Goes.ro fol [(2, (.call [] [vl encEventT l, .i day] (.tuple [vl encS r7.1, .i r7.2])))] [(0, vl encEventT l), (1, .str batch), (2, .i day), (7, vl encS r7.1), (8, .i r7.2)] [] [.call 37 [vl encEventT l, .i day] [] [] [vl encEventT l, .i day] (.tuple [vl encS r7.1, .i r7.2])] (And.intro (call_val (AllST.cons (vl_still encEventT _ (Nat.le_of_ble_eq_true rfl)) (AllST.cons (Still.int 11 _ _) AllST.nil)) (record_Due_ok N l day e_r7) (Still.tuple (AllST.cons (vl_still encS _ (Nat.le_of_ble_eq_true rfl)) (AllST.cons (Still.int 10 _ _) AllST.nil)))) trivial) ?_
    refine sq ?_
    obtain ⟨r8, e_r8, h⟩ := bnd h
    refine Goes.ro fol [(2, (.call [] [vl encEventT l, .str batch] (.tuple [vl encS r8.1, .i r8.2])))] [(0, vl encEventT l), (1, .str batch), (2, .i day), (7, vl encS r7.1), (8, .i r7.2), (9, vl encS r8.1), (10, .i r8.2)] [] [.call 38 [vl encEventT l, .str batch] [] [] [vl encEventT l, .str batch] (.tuple [vl encS r8.1, .i r8.2])] (And.intro (call_val (AllST.cons (vl_still encEventT _ (Nat.le_of_ble_eq_true rfl)) (AllST.cons (Still.str 11 _) AllST.nil)) (record_Batch_ok N l batch e_r8) (Still.tuple (AllST.cons (vl_still encS _ (Nat.le_of_ble_eq_true rfl)) (AllST.cons (Still.int 10 _ _) AllST.nil)))) trivial) ?_
    refine sq ?_
    obtain ⟨r9, e_r9, h⟩ := bnd h
    refine Goes.ro fol [(1, (.call [] [vl encEventT l] (.tuple [.agg [.i r9.1.Day, vl encSlingT r9.1.Slings], .i r9.2.1, .i r9.2.2])))] [(1, .str batch), (2, .i day), (7, vl encS r7.1), (8, .i r7.2), (9, vl encS r8.1), (10, .i r8.2), (11, .ptr 0 0), (13, .i r9.2.2)] [.cells [.i r9.1.Day, vl encSlingT r9.1.Slings]] [.call 17 [vl encEventT l] [] [] [vl encEventT l] (.tuple [.agg [.i r9.1.Day, vl encSlingT r9.1.Slings], .i r9.2.1, .i r9.2.2])] (And.intro (call_val (AllST.cons (vl_still encEventT _ (Nat.le_of_ble_eq_true rfl)) AllST.nil) (ref10_Replay_ok N l e_r9) (Still.tuple (AllST.cons (Still.agg (AllST.cons (Still.int 9 _ _) (AllST.cons (vl_still encSlingT _ (Nat.le_of_ble_eq_true rfl)) AllST.nil))) (AllST.cons (Still.int 10 _ _) (AllST.cons (Still.int 10 _ _) AllST.nil))))) trivial) ?_
    refine sq ?_
    obtain ⟨r10, e_r10, h⟩ := bnd h
    obtain ⟨r11, e_r11, h⟩ := bnd h
    refine Goes.ro fol [(2, (.call [] [.i day] (.i r10))), (4, (.call [1] [vl encI ([r9.2.2, r10] : List Int)] (.i r11)))] [(1, .str batch), (2, .i day), (7, vl encS r7.1), (8, .i r7.2), (9, vl encS r8.1), (10, .i r8.2), (11, .ptr 0 0), (13, .i r9.2.2), (14, .i r11)] [.cells [.i r9.1.Day, vl encSlingT r9.1.Slings], .cells [.i r9.2.2, .i r10]] [.call 31 [.i day] [.cells [.i r9.1.Day, vl encSlingT r9.1.Slings]] [] [.i day] (.i r10), .call 28 [.slice 1 0 2 2 1] [.cells [.i r9.1.Day, vl encSlingT r9.1.Slings], .cells [.i r9.2.2, .i r10]] [1] [vl encI ([r9.2.2, r10] : List Int)] (.i r11)] (And.intro (call_val (AllST.cons (Still.int 11 _ _) AllST.nil) (law10_dayed_ok day e_r10) (Still.int 11 _ _)) (And.intro (call_S (FzL.cons (Fz.lit rfl rfl (FzL.still (AllST.cons (Still.int 10 _ _) (AllST.cons (Still.int 10 _ _) AllST.nil)))) FzL.nil) (law10_first_ok N ([r9.2.2, r10] : List Int) e_r11) (Still.int 11 _ _) rfl) trivial)) ?_
    refine sq ?_
    obtain ⟨r12, e_r12, h⟩ := bnd h
    obtain ⟨r13, e_r13, h⟩ := bnd h
    refine Goes.ro fol [(2, (.call [] [.str batch] (.i r12))), (4, (.call [2] [vl encI ([r9.2.2, r12] : List Int)] (.i r13)))] [(1, .str batch), (2, .i day), (7, vl encS r7.1), (8, .i r7.2), (9, vl encS r8.1), (10, .i r8.2), (11, .ptr 0 0), (14, .i r11), (15, .i r13)] [.cells [.i r9.1.Day, vl encSlingT r9.1.Slings], .cells [.i r9.2.2, .i r10], .cells [.i r9.2.2, .i r12]] [.call 29 [.str batch] [.cells [.i r9.1.Day, vl encSlingT r9.1.Slings], .cells [.i r9.2.2, .i r10]] [] [.str batch] (.i r12), .call 28 [.slice 2 0 2 2 1] [.cells [.i r9.1.Day, vl encSlingT r9.1.Slings], .cells [.i r9.2.2, .i r10], .cells [.i r9.2.2, .i r12]] [2] [vl encI ([r9.2.2, r12] : List Int)] (.i r13)] (And.intro (call_val (AllST.cons (Still.str 11 _) AllST.nil) (law10_named_ok N batch e_r12) (Still.int 11 _ _)) (And.intro (call_S (FzL.cons (Fz.lit rfl rfl (FzL.still (AllST.cons (Still.int 10 _ _) (AllST.cons (Still.int 10 _ _) AllST.nil)))) FzL.nil) (law10_first_ok N ([r9.2.2, r12] : List Int) e_r13) (Still.int 11 _ _) rfl) trivial)) ?_
    refine sq ?_
    refine Goes.rg fol [(1, .str batch), (2, .i day), (7, vl encS r7.1), (8, .i r7.2), (9, vl encS r8.1), (10, .i r8.2), (11, .ptr 0 0), (14, .i r11), (15, .i r13), (16, .nilslice), (17, .nilslice)] [.cells [.i r9.1.Day, vl encSlingT r9.1.Slings], .cells [.i r9.2.2, .i r10], .cells [.i r9.2.2, .i r12]] ?_
    refine sq ?_
    refine sq ?_
    refine Goes.rg fol [(1, .str batch), (2, .i day), (7, vl encS r7.1), (8, .i r7.2), (9, vl encS r8.1), (10, .i r8.2), (11, .ptr 0 0), (14, .i r11), (15, .i r13), (16, .nilslice), (17, .nilslice), (56, .bool (decide (r11 = 0)))] [.cells [.i r9.1.Day, vl encSlingT r9.1.Slings], .cells [.i r9.2.2, .i r10], .cells [.i r9.2.2, .i r12]] ?_
    obtain ⟨r15, g15, h⟩ := bnd h
    refine Goes.imp (Q := fun x s' => (x = .normal ∧ ∃ due_14, due_14 = r15 ∧ Sub s' (ofG 90 [(1, .str batch), (7, vl encS r7.1), (8, .i r7.2), (9, vl encS r8.1), (10, .i r8.2), (11, .ptr 0 0), (14, .i r11), (15, .i r13), (16, vl encS due_14), (17, .nilslice)], [.cells [.i r9.1.Day, vl encSlingT r9.1.Slings]]))) ?_ ?_
    · refine Goes.ifB (b := decide (r11 = 0)) (by kernel_rfl) (fun c16 => ?_) (fun c16 => ?_)
      · rw [if_pos (ot c16)] at g15
        obtain ⟨r17, e_r17, g15⟩ := bnd g15
        refine Goes.ro fol [(2, (.call [] [.agg [.i r9.1.Day, vl encSlingT r9.1.Slings], .i day] (vl encS r17)))] [(1, .str batch), (7, vl encS r7.1), (8, .i r7.2), (9, vl encS r8.1), (10, .i r8.2), (11, .ptr 0 0), (14, .i r11), (15, .i r13), (16, vl encS r17), (17, .nilslice)] [.cells [.i r9.1.Day, vl encSlingT r9.1.Slings], .cells [.i r9.2.2, .i r10], .cells [.i r9.2.2, .i r12]] [.call 39 [.agg [.i r9.1.Day, vl encSlingT r9.1.Slings], .i day] [.cells [.i r9.1.Day, vl encSlingT r9.1.Slings], .cells [.i r9.2.2, .i r10], .cells [.i r9.2.2, .i r12]] [] [.agg [.i r9.1.Day, vl encSlingT r9.1.Slings], .i day] (vl encS r17)] (And.intro (call_val (AllST.cons (Still.agg (AllST.cons (Still.int 10 _ _) (AllST.cons (vl_still encSlingT _ (Nat.le_of_ble_eq_true rfl)) AllST.nil))) (AllST.cons (Still.int 11 _ _) AllST.nil)) (ref10_Due_ok N (⟨r9.1.Day, r9.1.Slings⟩ : RegisterTq) day e_r17) (vl_still encS _ (Nat.le_of_ble_eq_true rfl))) trivial) ?_
        obtain rfl := Option.some.inj g15
        exact ⟨rfl, _, rfl, (Sub.norm [] [some 0] rfl rfl (.keep (.same (NoRef.str _)) (.keep (.same (vl_noRef encS _)) (.keep (.same (NoRef.int _ _)) (.keep (.same (vl_noRef encS _)) (.keep (.same (NoRef.int _ _)) (.keep (.ptr rfl) (.keep (.same (NoRef.int _ _)) (.keep (.same (NoRef.int _ _)) (.keep (.same (vl_noRef encS _)) (.keep (.same (NoRef.nilslice)) .nil)))))))))) (.keep rfl (.same (AllN.cons (NoRef.int _ _) (AllN.cons (vl_noRef encSlingT _) AllN.nil))) rfl rfl .nil))⟩
      · rw [if_neg (of_ c16)] at g15
        refine Goes.skip ?_
        obtain rfl := Option.some.inj g15
        exact ⟨rfl, _, rfl, (Sub.norm [] [some 0] rfl rfl (.keep (.same (NoRef.str _)) (.drop (.keep (.same (vl_noRef encS _)) (.keep (.same (NoRef.int _ _)) (.keep (.same (vl_noRef encS _)) (.keep (.same (NoRef.int _ _)) (.keep (.ptr rfl) (.keep (.same (NoRef.int _ _)) (.keep (.same (NoRef.int _ _)) (.keep .nilv (.keep (.same (NoRef.nilslice)) .nil))))))))))) (.keep rfl (.same (AllN.cons (NoRef.int _ _) (AllN.cons (vl_noRef encSlingT _) AllN.nil))) rfl rfl .nil))⟩
    rintro x s' ⟨rfl, due_14, rfl, hsub⟩
    refine Goes.sub hsub ?_
    refine sq ?_
    refine sq ?_
    refine Goes.rg fol [(1, .str batch), (7, vl encS r7.1), (8, .i r7.2), (9, vl encS r8.1), (10, .i r8.2), (11, .ptr 0 0), (14, .i r11), (15, .i r13), (16, vl encS due_14), (17, .nilslice), (61, .bool (decide (r13 = 0)))] [.cells [.i r9.1.Day, vl encSlingT r9.1.Slings]] ?_
    obtain ⟨r20, g20, h⟩ := bnd h
    refine Goes.imp (Q := fun x s' => (x = .normal ∧ ∃ two_18 slings_19, (two_18, slings_19) = r20 ∧ Sub s' (ofG 90 [(7, vl encS r7.1), (8, .i r7.2), (9, vl encS r8.1), (10, .i r8.2), (14, .i r11), (15, .i two_18), (16, vl encS due_14), (17, vl encS slings_19)], []))) ?_ ?_
    · refine Goes.ifB (b := decide (r13 = 0)) (by kernel_rfl) (fun c21 => ?_) (fun c21 => ?_)
      · rw [if_pos (ot c21)] at g20
        refine sq ?_
        obtain ⟨r22, e_r22, g20⟩ := bnd g20
        refine Goes.ro fol [(2, (.call [] [.agg [.i r9.1.Day, vl encSlingT r9.1.Slings], .str batch] (vl encS r22)))] [(7, vl encS r7.1), (8, .i r7.2), (9, vl encS r8.1), (10, .i r8.2), (14, .i r11), (16, vl encS due_14), (17, vl encS r22)] [.cells [.i r9.1.Day, vl encSlingT r9.1.Slings]] [.call 40 [.agg [.i r9.1.Day, vl encSlingT r9.1.Slings], .str batch] [.cells [.i r9.1.Day, vl encSlingT r9.1.Slings]] [] [.agg [.i r9.1.Day, vl encSlingT r9.1.Slings], .str batch] (vl encS r22)] (And.intro (call_val (AllST.cons (Still.agg (AllST.cons (Still.int 10 _ _) (AllST.cons (vl_still encSlingT _ (Nat.le_of_ble_eq_true rfl)) AllST.nil))) (AllST.cons (Still.str 11 _) AllST.nil)) (ref10_Batch_ok N (⟨r9.1.Day, r9.1.Slings⟩ : RegisterTq) batch e_r22) (vl_still encS _ (Nat.le_of_ble_eq_true rfl))) trivial) ?_
        obtain ⟨r23, e_r23, g20⟩ := bnd g20
        refine Goes.ro fol [(3, (.call [] [.bool (decide ((r22.length : Int) = 0)), .i 10] (.i r23)))] [(7, vl encS r7.1), (8, .i r7.2), (9, vl encS r8.1), (10, .i r8.2), (14, .i r11), (15, .i r23), (16, vl encS due_14), (17, vl encS r22)] [.cells [.i r9.1.Day, vl encSlingT r9.1.Slings]] [.call 30 [.bool (decide ((r22.length : Int) = 0)), .i 10] [.cells [.i r9.1.Day, vl encSlingT r9.1.Slings]] [] [.bool (decide ((r22.length : Int) = 0)), .i 10] (.i r23)] (And.intro (call_val (AllST.cons (Still.bool 11 _) (AllST.cons (Still.int 11 _ _) AllST.nil)) (law10_when_ok (decide ((r22.length : Int) = 0)) 10 e_r23) (Still.int 11 _ _)) trivial) ?_
        obtain rfl := Option.some.inj g20
        exact ⟨rfl, _, _, rfl, (Sub.norm [] [] rfl rfl (.keep (.same (vl_noRef encS _)) (.keep (.same (NoRef.int _ _)) (.keep (.same (vl_noRef encS _)) (.keep (.same (NoRef.int _ _)) (.keep (.same (NoRef.int _ _)) (.keep (.same (NoRef.int _ _)) (.keep (.same (vl_noRef encS _)) (.keep (.same (vl_noRef encS _)) .nil)))))))) .nil)⟩
      · rw [if_neg (of_ c21)] at g20
        refine Goes.skip ?_
        obtain rfl := Option.some.inj g20
        exact ⟨rfl, _, _, rfl, (Sub.norm [] [] rfl rfl (.drop (.keep (.same (vl_noRef encS _)) (.keep (.same (NoRef.int _ _)) (.keep (.same (vl_noRef encS _)) (.keep (.same (NoRef.int _ _)) (.drop (.keep (.same (NoRef.int _ _)) (.keep (.same (NoRef.int _ _)) (.keep (.same (vl_noRef encS _)) (.keep .nilv .nil)))))))))) .nil)⟩
    rintro x s' ⟨rfl, two_18, slings_19, rfl, hsub⟩
    try dsimp only at h
    refine Goes.sub hsub ?_
    refine sq ?_
    obtain ⟨b31, g_v32, h⟩ := bnd h
    refine Goes.cut (s' := (ofG 90 [(6, .bool b31)], [])) ?_ ?_
    · rcases Bool.eq_false_or_eq_true (decide (r7.2 = r11)) with c24 | c24
      · rw [if_pos (ot c24)] at g_v32
        obtain ⟨r25, e_r25, g_v32⟩ := bnd g_v32
        rcases Bool.eq_false_or_eq_true (r25) with c26 | c26
        · rw [if_pos (c26)] at g_v32
          rcases Bool.eq_false_or_eq_true (decide (r8.2 = two_18)) with c27 | c27
          · rw [if_pos (ot c27)] at g_v32
            obtain ⟨r28, e_r28, g_v32⟩ := bnd g_v32
            rcases Bool.eq_false_or_eq_true (r28) with c29 | c29
            · rw [if_pos (c29)] at g_v32
              obtain ⟨r30, e_r30, g_v32⟩ := bnd g_v32
              obtain rfl := Option.some.inj g_v32
              exact RegTo.ro fol [(3, (.done (.bool true))), (6, (.call [] [vl encS r7.1, vl encS due_14] (.bool r25))), (8, (.done (.bool true))), (13, (.done (.bool true))), (16, (.call [] [vl encS r8.1, vl encS slings_19] (.bool r28))), (18, (.done (.bool true))), (19, (.call [] [] (.bool r30)))] [(6, .bool r30)] [] [.done (.done (.bool (decide (r7.2 = r11)))) (.bool true), .call 41 [vl encS r7.1, vl encS due_14] [] [] [vl encS r7.1, vl encS due_14] (.bool r25), .done (.done (.bool r25)) (.bool true), .done (.done (.bool (decide (r8.2 = two_18)))) (.bool true), .call 41 [vl encS r8.1, vl encS slings_19] [] [] [vl encS r8.1, vl encS slings_19] (.bool r28), .done (.done (.bool r28)) (.bool true), .call 15 [] [] [] [] (.bool r30)] (And.intro (congrArg (fun x => Pg.done (.bool x)) c24) (And.intro (call_val (AllST.cons (vl_still encS _ (Nat.le_of_ble_eq_true rfl)) (AllST.cons (vl_still encS _ (Nat.le_of_ble_eq_true rfl)) AllST.nil)) (ref01_SameWords_ok N r7.1 due_14 e_r25) (Still.bool 11 _)) (And.intro (congrArg (fun x => Pg.done (.bool x)) c26) (And.intro (congrArg (fun x => Pg.done (.bool x)) c27) (And.intro (call_val (AllST.cons (vl_still encS _ (Nat.le_of_ble_eq_true rfl)) (AllST.cons (vl_still encS _ (Nat.le_of_ble_eq_true rfl)) AllST.nil)) (ref01_SameWords_ok N r8.1 slings_19 e_r28) (Still.bool 11 _)) (And.intro (congrArg (fun x => Pg.done (.bool x)) c29) (And.intro (call_val AllST.nil (awk_ok e_r30) (Still.bool 11 _)) trivial)))))))
            · rw [if_neg (by rw [c29]; exact Bool.false_ne_true)] at g_v32
              obtain rfl := Option.some.inj g_v32
              exact RegTo.ro fol [(3, (.done (.bool true))), (6, (.call [] [vl encS r7.1, vl encS due_14] (.bool r25))), (8, (.done (.bool true))), (13, (.done (.bool true))), (16, (.call [] [vl encS r8.1, vl encS slings_19] (.bool r28))), (18, (.done (.bool false)))] [(6, .bool false)] [] [.done (.done (.bool (decide (r7.2 = r11)))) (.bool true), .call 41 [vl encS r7.1, vl encS due_14] [] [] [vl encS r7.1, vl encS due_14] (.bool r25), .done (.done (.bool r25)) (.bool true), .done (.done (.bool (decide (r8.2 = two_18)))) (.bool true), .call 41 [vl encS r8.1, vl encS slings_19] [] [] [vl encS r8.1, vl encS slings_19] (.bool r28), .done (.done (.bool r28)) (.bool false)] (And.intro (congrArg (fun x => Pg.done (.bool x)) c24) (And.intro (call_val (AllST.cons (vl_still encS _ (Nat.le_of_ble_eq_true rfl)) (AllST.cons (vl_still encS _ (Nat.le_of_ble_eq_true rfl)) AllST.nil)) (ref01_SameWords_ok N r7.1 due_14 e_r25) (Still.bool 11 _)) (And.intro (congrArg (fun x => Pg.done (.bool x)) c26) (And.intro (congrArg (fun x => Pg.done (.bool x)) c27) (And.intro (call_val (AllST.cons (vl_still encS _ (Nat.le_of_ble_eq_true rfl)) (AllST.cons (vl_still encS _ (Nat.le_of_ble_eq_true rfl)) AllST.nil)) (ref01_SameWords_ok N r8.1 slings_19 e_r28) (Still.bool 11 _)) (And.intro (congrArg (fun x => Pg.done (.bool x)) c29) trivial))))))
          · rw [if_neg (of_ c27)] at g_v32
            obtain rfl := Option.some.inj g_v32
            exact RegTo.ro fol [(3, (.done (.bool true))), (6, (.call [] [vl encS r7.1, vl encS due_14] (.bool r25))), (8, (.done (.bool true))), (13, (.done (.bool false)))] [(6, .bool false)] [] [.done (.done (.bool (decide (r7.2 = r11)))) (.bool true), .call 41 [vl encS r7.1, vl encS due_14] [] [] [vl encS r7.1, vl encS due_14] (.bool r25), .done (.done (.bool r25)) (.bool true), .done (.done (.bool (decide (r8.2 = two_18)))) (.bool false)] (And.intro (congrArg (fun x => Pg.done (.bool x)) c24) (And.intro (call_val (AllST.cons (vl_still encS _ (Nat.le_of_ble_eq_true rfl)) (AllST.cons (vl_still encS _ (Nat.le_of_ble_eq_true rfl)) AllST.nil)) (ref01_SameWords_ok N r7.1 due_14 e_r25) (Still.bool 11 _)) (And.intro (congrArg (fun x => Pg.done (.bool x)) c26) (And.intro (congrArg (fun x => Pg.done (.bool x)) c27) trivial))))
        · rw [if_neg (by rw [c26]; exact Bool.false_ne_true)] at g_v32
          obtain rfl := Option.some.inj g_v32
          exact RegTo.ro fol [(3, (.done (.bool true))), (6, (.call [] [vl encS r7.1, vl encS due_14] (.bool r25))), (8, (.done (.bool false)))] [(6, .bool false)] [] [.done (.done (.bool (decide (r7.2 = r11)))) (.bool true), .call 41 [vl encS r7.1, vl encS due_14] [] [] [vl encS r7.1, vl encS due_14] (.bool r25), .done (.done (.bool r25)) (.bool false)] (And.intro (congrArg (fun x => Pg.done (.bool x)) c24) (And.intro (call_val (AllST.cons (vl_still encS _ (Nat.le_of_ble_eq_true rfl)) (AllST.cons (vl_still encS _ (Nat.le_of_ble_eq_true rfl)) AllST.nil)) (ref01_SameWords_ok N r7.1 due_14 e_r25) (Still.bool 11 _)) (And.intro (congrArg (fun x => Pg.done (.bool x)) c26) trivial)))
      · rw [if_neg (of_ c24)] at g_v32
        obtain rfl := Option.some.inj g_v32
        exact RegTo.ro fol [(3, (.done (.bool false)))] [(6, .bool false)] [] [.done (.done (.bool (decide (r7.2 = r11)))) (.bool false)] (And.intro (congrArg (fun x => Pg.done (.bool x)) c24) trivial)
    refine Goes.ret ?_
    obtain rfl := Option.some.inj h
    exact (Goes.retW (xs := [.bool b31]) (by kernel_rfl) (FzW.still (Still.bool 11 _)))
end Go.Av
