/-
  Walks of functions: what each computes, as a plain function.
-/
import Derived.Test.YtjflombnfhlkaaaGreatDoorGenA2
noncomputable section
namespace Go.Av
open Go.Proofs Go.RowKit
set_option linter.unusedSectionVars false
set_option linter.unusedVariables false
set_option linter.unusedSimpArgs false
set_option maxRecDepth 100000
variable [Glob]
def ref10_after_L0 (l2 : List SlingT) (x4 : Str) : Nat → Int → Int → Option (Int × Int)
  | 0, _, _ => none
  | K + 1, n8, at__9 =>
    (if at__9 < (l2.length : Int) then
    (idx l2 at__9).bind fun x14 =>
    some (ltL x14.Name x4)
    else
    some false : Option Bool).bind fun b15 =>
    if b15 = true then
    ref10_after_L0 l2 x4 K n8 (w64 (at__9 + 1))
    else
    some (n8, at__9)
def ref10_after_L1 (e : EventT) (x1 : Int) : Nat → (List SlingT) → Int → Option (List SlingT)
  | 0, _, _ => none
  | K + 1, l23, i_24 =>
    if i_24 < (l23.length : Int) then
    (((idx l23 i_24).bind fun x30 =>
    (idx e.Names 0).bind fun x31 =>
    (if (e.Kind == [116, 101, 115, 116]) = true then
    some (x30.Name == x31)
    else
    some false : Option Bool).bind fun b33 =>
    if b33 = true then
    (idx e.Values 1).bind fun x36 =>
    (put l23 i_24 (⟨x30.Name, x30.Batch, x30.Born, x30.Last, x30.Uses, x30.Used, w64 (x36.tdiv 2), x30.Until, x30.Gone⟩ : SlingT)).bind fun l37 =>
    (idx l37 i_24).bind fun x38 =>
    (put l37 i_24 (⟨x38.Name, x38.Batch, x38.Born, x38.Last, x38.Uses, x38.Used, x38.Limit, (if x38.Last < (w64 (x1 + 365)) then x38.Last else (w64 (x1 + 365))), x38.Gone⟩ : SlingT)).bind fun l39 =>
    some l39
    else
    (if (e.Kind == [117, 115, 101]) = true then
    some (x30.Name == x31)
    else
    some false : Option Bool).bind fun b41 =>
    if b41 = true then
    (put l23 i_24 (⟨x30.Name, x30.Batch, x30.Born, x30.Last, x30.Uses, w64 (x30.Used + 1), x30.Limit, x30.Until, x30.Gone⟩ : SlingT)).bind fun l44 =>
    some l44
    else
    (if (e.Kind == [102, 97, 105, 108]) = true then
    some (x30.Name == x31)
    else
    some false : Option Bool).bind fun b46 =>
    ((if b46 = true then
    some b46
    else
    (if (e.Kind == [114, 101, 99, 97, 108, 108]) = true then
    some (x30.Batch == x31)
    else
    some false : Option Bool).bind fun b52 =>
    some b52 : Option Bool)).bind fun b48 =>
    if b48 = true then
    (put l23 i_24 (⟨x30.Name, x30.Batch, x30.Born, x30.Last, x30.Uses, x30.Used, x30.Limit, x30.Until, true⟩ : SlingT)).bind fun l55 =>
    some l55
    else
    some l23 : Option (List SlingT))).bind fun l28 =>
    ref10_after_L1 e x1 K l28 (w64 (i_24 + 1))
    else
    some l23
def ref10_after (N : Nat) (r : RegisterTq) (e : EventT) : Option RegisterTq :=
  (idx e.Values 0).bind fun x1 =>
  (app 88 ([] : List SlingT) r.Slings).bind fun l2 =>
  if (e.Kind == [109, 97, 107, 101]) = true then
  (idx e.Names 0).bind fun x4 =>
  (idx e.Names 1).bind fun x5 =>
  (idx e.Values 1).bind fun x6 =>
  (idx e.Values 2).bind fun x7 =>
  (ref10_after_L0 l2 x4 N (w64 (x1 + x6)) 0).bind fun (n10, at__11) =>
  (cut l2 0 at__11).bind fun s18 =>
  (app 88 ([] : List SlingT) s18).bind fun l19 =>
  (app 88 l19 [(⟨x4, x5, x1, n10, x7, 0, 0, 0, false⟩ : SlingT)]).bind fun l20 =>
  (cut l2 at__11 (l2.length : Int)).bind fun s21 =>
  (app 88 l20 s21).bind fun l22 =>
  some (⟨x1, l22⟩ : RegisterTq)
  else
  (ref10_after_L1 e x1 N l2 0).bind fun l25 =>
  some (⟨x1, l25⟩ : RegisterTq)
theorem ref10_after_ok (N : Nat) (r : RegisterTq) (e : EventT) {res : RegisterTq} (h : ref10_after N r e = some res) : CallOK Tryz.prog (.fn 140) [.agg [.i r.Day, vl encSlingT r.Slings], .agg [.i e.Number, .str e.Kind, vl encS e.Names, vl encI e.Values, .str e.Text]] [] (.agg [.i res.Day, vl encSlingT res.Slings]) [] := by
  unfold ref10_after at h
  refine Goes.fnW Tryz.func140 rfl rfl (m := 162) rfl (rs := [.cell 4 37]) rfl (l := [(0, .agg [.i r.Day, vl encSlingT r.Slings]), (1, .agg [.i e.Number, .str e.Kind, vl encS e.Names, vl encI e.Values, .str e.Text])]) rfl ?_
  refine sq ?_
  refine Goes.rg fol [(2, .ptr 0 0), (3, .ptr 1 0), (4, .ptr 2 0)] [.cells [.i r.Day, vl encSlingT r.Slings], .cells [.i e.Number, .str e.Kind, vl encS e.Names, vl encI e.Values, .str e.Text], .cells [.i 0, .nilslice]] ?_
  refine sq ?_
  obtain ⟨x1, e_x1, h⟩ := bnd h
  refine Goes.ro fol [(2, (.done (.fptr (e.Values.flatMap encI.c) ((0 : Int).toNat * 1 + 0)))), (3, (.done (.i x1)))] [(2, .ptr 0 0), (3, .ptr 1 0), (4, .ptr 2 0), (5, .i x1)] [.cells [.i r.Day, vl encSlingT r.Slings], .cells [.i e.Number, .str e.Kind, vl encS e.Names, vl encI e.Values, .str e.Text], .cells [.i 0, .nilslice]] [.done (.opt (aIndexAddr Tryz.prog 24 (vl encI e.Values) (.i 0))) (.fptr (e.Values.flatMap encI.c) ((0 : Int).toNat * 1 + 0)), .done (aLoad Tryz.prog 3 (.fptr (e.Values.flatMap encI.c) ((0 : Int).toNat * 1 + 0))) (.i x1)] (And.intro (ix_vl sl24 (E := encI) rfl e_x1) (And.intro (ld_vl ce3 (E := encI) rfl e_x1 (Nat.le_of_ble_eq_true rfl) rfl) trivial)) ?_
  refine sq ?_
  refine Goes.rg fol [(2, .ptr 0 0), (3, .ptr 1 0), (4, .ptr 2 0), (5, .i x1)] [.cells [.i x1, vl encSlingT r.Slings], .cells [.i e.Number, .str e.Kind, vl encS e.Names, vl encI e.Values, .str e.Text], .cells [.i 0, .nilslice]] ?_
  refine sq ?_
  obtain ⟨l2, e_l2, h⟩ := bnd h
  refine Goes.ro fol [(3, (.run (.oslice 4 l2.length 9) [.cells [.i x1, vl encSlingT r.Slings], .cells [.i e.Number, .str e.Kind, vl encS e.Names, vl encI e.Values, .str e.Text], .cells [.i 0, .nilslice], .dead, .cells (l2.flatMap encSlingT.c)] true))] [(2, .ptr 0 0), (3, .ptr 1 0), (4, .ptr 2 0), (5, .i x1), (6, .oslice 4 l2.length 9)] [.cells [.i x1, vl encSlingT r.Slings], .cells [.i e.Number, .str e.Kind, vl encS e.Names, vl encI e.Values, .str e.Text], .cells [.i 0, .nilslice], .dead, .cells (l2.flatMap encSlingT.c)] [.run [3] (aAppend Tryz.prog [35, 35] (.slice 3 0 0 0 9) (vl encSlingT r.Slings)) [.cells [.i x1, vl encSlingT r.Slings], .cells [.i e.Number, .str e.Kind, vl encS e.Names, vl encI e.Values, .str e.Text], .cells [.i 0, .nilslice], .cells []] (.oslice 4 l2.length 9) [.cells [.i x1, vl encSlingT r.Slings], .cells [.i e.Number, .str e.Kind, vl encS e.Names, vl encI e.Values, .str e.Text], .cells [.i 0, .nilslice], .dead, .cells (l2.flatMap encSlingT.c)] true] (And.intro (app_run sl35 (E := encSlingT) rfl (src_v (E := encSlingT) rfl _) (dst_z (E := encSlingT) rfl rfl rfl e_l2 rfl)) trivial) ?_
  refine sq ?_
  refine sq ?_
  refine Goes.rg fol [(2, .ptr 0 0), (3, .ptr 1 0), (4, .ptr 2 0), (5, .i x1), (6, .oslice 4 l2.length 9), (23, .bool (e.Kind == [109, 97, 107, 101]))] [.cells [.i x1, vl encSlingT r.Slings], .cells [.i e.Number, .str e.Kind, vl encS e.Names, vl encI e.Values, .str e.Text], .cells [.i 0, .nilslice], .dead, .cells (l2.flatMap encSlingT.c)] ?_
  refine Goes.ifB (b := e.Kind == [109, 97, 107, 101]) (by kernel_rfl) (fun c3 => ?_) (fun c3 => ?_)
  · rw [if_pos (c3)] at h
    refine sq ?_
    obtain ⟨x4, e_x4, h⟩ := bnd h
    obtain ⟨x5, e_x5, h⟩ := bnd h
    obtain ⟨x6, e_x6, h⟩ := bnd h
    obtain ⟨x7, e_x7, h⟩ := bnd h
    refine Goes.ro fol [(2, (.done (.fptr (e.Names.flatMap encS.c) ((0 : Int).toNat * 1 + 0)))), (3, (.done (.str x4))), (6, (.done (.fptr (e.Names.flatMap encS.c) ((1 : Int).toNat * 1 + 0)))), (7, (.done (.str x5))), (12, (.done (.fptr (e.Values.flatMap encI.c) ((1 : Int).toNat * 1 + 0)))), (13, (.done (.i x6))), (17, (.done (.fptr (e.Values.flatMap encI.c) ((2 : Int).toNat * 1 + 0)))), (18, (.done (.i x7)))] [(2, .ptr 0 0), (4, .ptr 2 0), (6, .oslice 4 l2.length 9), (7, .ptr 5 0)] [.cells [.i x1, vl encSlingT r.Slings], .cells [.i e.Number, .str e.Kind, vl encS e.Names, vl encI e.Values, .str e.Text], .cells [.i 0, .nilslice], .dead, .cells (l2.flatMap encSlingT.c), .cells [.str x4, .str x5, .i x1, .i (w64 (x1 + x6)), .i x7, .i 0, .i 0, .i 0, .bool false]] [.done (.opt (aIndexAddr Tryz.prog 23 (vl encS e.Names) (.i 0))) (.fptr (e.Names.flatMap encS.c) ((0 : Int).toNat * 1 + 0)), .done (aLoad Tryz.prog 9 (.fptr (e.Names.flatMap encS.c) ((0 : Int).toNat * 1 + 0))) (.str x4), .done (.opt (aIndexAddr Tryz.prog 23 (vl encS e.Names) (.i 1))) (.fptr (e.Names.flatMap encS.c) ((1 : Int).toNat * 1 + 0)), .done (aLoad Tryz.prog 9 (.fptr (e.Names.flatMap encS.c) ((1 : Int).toNat * 1 + 0))) (.str x5), .done (.opt (aIndexAddr Tryz.prog 24 (vl encI e.Values) (.i 1))) (.fptr (e.Values.flatMap encI.c) ((1 : Int).toNat * 1 + 0)), .done (aLoad Tryz.prog 3 (.fptr (e.Values.flatMap encI.c) ((1 : Int).toNat * 1 + 0))) (.i x6), .done (.opt (aIndexAddr Tryz.prog 24 (vl encI e.Values) (.i 2))) (.fptr (e.Values.flatMap encI.c) ((2 : Int).toNat * 1 + 0)), .done (aLoad Tryz.prog 3 (.fptr (e.Values.flatMap encI.c) ((2 : Int).toNat * 1 + 0))) (.i x7)] (And.intro (ix_vl sl23 (E := encS) rfl e_x4) (And.intro (ld_vl ce9 (E := encS) rfl e_x4 (Nat.le_of_ble_eq_true rfl) rfl) (And.intro (ix_vl sl23 (E := encS) rfl e_x5) (And.intro (ld_vl ce9 (E := encS) rfl e_x5 (Nat.le_of_ble_eq_true rfl) rfl) (And.intro (ix_vl sl24 (E := encI) rfl e_x6) (And.intro (ld_vl ce3 (E := encI) rfl e_x6 (Nat.le_of_ble_eq_true rfl) rfl) (And.intro (ix_vl sl24 (E := encI) rfl e_x7) (And.intro (ld_vl ce3 (E := encI) rfl e_x7 (Nat.le_of_ble_eq_true rfl) rfl) trivial)))))))) ?_
    refine sq ?_
    refine Goes.rg fol [(2, .ptr 0 0), (4, .ptr 2 0), (6, .oslice 4 l2.length 9), (7, .ptr 5 0), (8, .i 0)] [.cells [.i x1, vl encSlingT r.Slings], .cells [.i e.Number, .str e.Kind, vl encS e.Names, vl encI e.Values, .str e.Text], .cells [.i 0, .nilslice], .dead, .cells (l2.flatMap encSlingT.c), .cells [.str x4, .str x5, .i x1, .i (w64 (x1 + x6)), .i x7, .i 0, .i 0, .i 0, .bool false]] ?_
    refine sq ?_
    refine Goes.block ?_
    obtain ⟨r12, g12, h⟩ := bnd h
    refine Goes.imp (Q := fun x s' => (x = .exit 0 ∧ ∃ n10 at__11, (n10, at__11) = r12 ∧ Sub s' (ofG 162 [(2, .ptr 0 0), (4, .ptr 1 0), (6, .oslice 2 l2.length 9), (7, .ptr 3 0), (8, .i at__11)], [.cells [.i x1, vl encSlingT r.Slings], .cells [.i 0, .nilslice], .cells (l2.flatMap encSlingT.c), .cells [.str x4, .str x5, .i x1, .i n10, .i x7, .i 0, .i 0, .i 0, .bool false]]))) ?_ ?_
    · refine Goes.sub (s' := (ofG 162 [(2, .ptr 0 0), (4, .ptr 1 0), (6, .oslice 2 l2.length 9), (7, .ptr 3 0), (8, .i 0)], [.cells [.i x1, vl encSlingT r.Slings], .cells [.i 0, .nilslice], .cells (l2.flatMap encSlingT.c), .cells [.str x4, .str x5, .i x1, .i (w64 (x1 + x6)), .i x7, .i 0, .i 0, .i 0, .bool false]])) (Sub.norm [] [some 0, some 2, some 4, some 5] rfl rfl (.keep (.ptr rfl) (.keep (.ptr rfl) (.keep (.oslice rfl) (.keep (.ptr rfl) (.keep (.same (NoRef.int _ _)) .nil))))) (.keep rfl (.same (AllN.cons (NoRef.int _ _) (AllN.cons (vl_noRef encSlingT _) AllN.nil))) rfl rfl (.keep rfl (.same (AllN.cons (NoRef.int _ _) (AllN.cons (NoRef.nilslice) AllN.nil))) rfl rfl (.keep rfl (.same fa) rfl rfl (.keep rfl (.same (AllN.cons (NoRef.str _) (AllN.cons (NoRef.str _) (AllN.cons (NoRef.int _ _) (AllN.cons (NoRef.int _ _) (AllN.cons (NoRef.int _ _) (AllN.cons (NoRef.int _ _) (AllN.cons (NoRef.int _ _) (AllN.cons (NoRef.int _ _) (AllN.cons (NoRef.bool _) AllN.nil)))))))))) rfl rfl .nil))))) ?_
      refine Goes.loopS (fun M s => ∃ (n8 : Int) (at__9 : Int), s = (ofG 162 [(2, .ptr 0 0), (4, .ptr 1 0), (6, .oslice 2 l2.length 9), (7, .ptr 3 0), (8, .i at__9)], [.cells [.i x1, vl encSlingT r.Slings], .cells [.i 0, .nilslice], .cells (l2.flatMap encSlingT.c), .cells [.str x4, .str x5, .i x1, .i n8, .i x7, .i 0, .i 0, .i 0, .bool false]]) ∧ ref10_after_L0 l2 x4 M n8 at__9 = some r12) ?_ (m := N) ⟨_, _, rfl, g12⟩
      rintro M s ⟨n8, at__9, rfl, g12⟩
      cases M with
      | zero => simp only [ref10_after_L0] at g12; cases g12
      | succ M =>
        rw [ref10_after_L0] at g12
        refine sq ?_
        refine sq ?_
        obtain ⟨b15, g_v16, g12⟩ := bnd g12
        refine Goes.cut (s' := (ofG 162 [(2, .ptr 0 0), (4, .ptr 1 0), (6, .oslice 2 l2.length 9), (7, .ptr 3 0), (8, .i at__9), (57, .bool b15)], [.cells [.i x1, vl encSlingT r.Slings], .cells [.i 0, .nilslice], .cells (l2.flatMap encSlingT.c), .cells [.str x4, .str x5, .i x1, .i n8, .i x7, .i 0, .i 0, .i 0, .bool false]])) ?_ ?_
        · rcases Bool.eq_false_or_eq_true (decide (at__9 < (l2.length : Int))) with c13 | c13
          · rw [if_pos (ot c13)] at g_v16
            obtain ⟨x14, e_x14, g_v16⟩ := bnd g_v16
            obtain rfl := Option.some.inj g_v16
            exact RegTo.ro fol [(4, (.done (.bool true))), (7, (.done (.ptr 2 ((at__9 : Int).toNat * 9 + 0)))), (9, (.run (.str x14.Name) [.cells [.i x1, vl encSlingT r.Slings], .cells [.i 0, .nilslice], .cells (l2.flatMap encSlingT.c), .cells [.str x4, .str x5, .i x1, .i n8, .i x7, .i 0, .i 0, .i 0, .bool false]] false))] [(2, .ptr 0 0), (4, .ptr 1 0), (6, .oslice 2 l2.length 9), (7, .ptr 3 0), (8, .i at__9), (57, .bool (ltL x14.Name x4))] [.cells [.i x1, vl encSlingT r.Slings], .cells [.i 0, .nilslice], .cells (l2.flatMap encSlingT.c), .cells [.str x4, .str x5, .i x1, .i n8, .i x7, .i 0, .i 0, .i 0, .bool false]] [.done (.done (.bool (decide (at__9 < (l2.length : Int))))) (.bool true), .done (.opt (aIndexAddr Tryz.prog 35 (.oslice 2 l2.length 9) (.i at__9))) (.ptr 2 ((at__9 : Int).toNat * 9 + 0)), .run [2] (aLoad Tryz.prog 9 (.ptr 2 ((at__9 : Int).toNat * 9 + 0))) [.cells [.i x1, vl encSlingT r.Slings], .cells [.i 0, .nilslice], .cells (l2.flatMap encSlingT.c), .cells [.str x4, .str x5, .i x1, .i n8, .i x7, .i 0, .i 0, .i 0, .bool false]] (.str x14.Name) [.cells [.i x1, vl encSlingT r.Slings], .cells [.i 0, .nilslice], .cells (l2.flatMap encSlingT.c), .cells [.str x4, .str x5, .i x1, .i n8, .i x7, .i 0, .i 0, .i 0, .bool false]] false] (And.intro (congrArg (fun x => Pg.done (.bool x)) c13) (And.intro (ix_os sl35 e_x14) (And.intro (ld_p ce9 (E := encSlingT) (l := l2) rfl rfl e_x14 (Nat.le_of_ble_eq_true rfl) rfl) trivial)))
          · rw [if_neg (of_ c13)] at g_v16
            obtain rfl := Option.some.inj g_v16
            exact RegTo.ro fol [(4, (.done (.bool false)))] [(2, .ptr 0 0), (4, .ptr 1 0), (6, .oslice 2 l2.length 9), (7, .ptr 3 0), (8, .i at__9), (57, .bool false)] [.cells [.i x1, vl encSlingT r.Slings], .cells [.i 0, .nilslice], .cells (l2.flatMap encSlingT.c), .cells [.str x4, .str x5, .i x1, .i n8, .i x7, .i 0, .i 0, .i 0, .bool false]] [.done (.done (.bool (decide (at__9 < (l2.length : Int))))) (.bool false)] (And.intro (congrArg (fun x => Pg.done (.bool x)) c13) trivial)
        refine Goes.ifB (b := b15) (by kernel_rfl) (fun c17 => ?_) (fun c17 => ?_)
        · rw [if_pos (c17)] at g12
          refine Goes.skip ?_
          refine Goes.block ?_
          refine Goes.rg fol [(2, .ptr 0 0), (4, .ptr 1 0), (6, .oslice 2 l2.length 9), (7, .ptr 3 0), (8, .i (w64 (at__9 + 1)))] [.cells [.i x1, vl encSlingT r.Slings], .cells [.i 0, .nilslice], .cells (l2.flatMap encSlingT.c), .cells [.str x4, .str x5, .i x1, .i n8, .i x7, .i 0, .i 0, .i 0, .bool false]] ?_
          exact ⟨M, (ofG 162 [(2, .ptr 0 0), (4, .ptr 1 0), (6, .oslice 2 l2.length 9), (7, .ptr 3 0), (8, .i (w64 (at__9 + 1)))], [.cells [.i x1, vl encSlingT r.Slings], .cells [.i 0, .nilslice], .cells (l2.flatMap encSlingT.c), .cells [.str x4, .str x5, .i x1, .i n8, .i x7, .i 0, .i 0, .i 0, .bool false]]), Nat.lt_succ_self _, (Sub.refl _), _, _, rfl, g12⟩
        · rw [if_neg (by rw [c17]; exact Bool.false_ne_true)] at g12
          refine Goes.exit ?_
          obtain rfl := Option.some.inj g12
          exact ⟨rfl, _, _, rfl, (Sub.keep [2, 4, 6, 7, 8] rfl rfl)⟩
    rintro x s' ⟨rfl, n10, at__11, rfl, hsub⟩
    try dsimp only at h
    refine Goes.sub hsub ?_
    refine sq ?_
    refine Goes.sub (s' := (ofG 162 [(2, .ptr 0 0), (4, .ptr 1 0), (6, vl encSlingT l2), (7, .ptr 2 0), (8, .i at__11)], [.cells [.i x1, vl encSlingT r.Slings], .cells [.i 0, .nilslice], .cells [.str x4, .str x5, .i x1, .i n10, .i x7, .i 0, .i 0, .i 0, .bool false]])) (Sub.norm [2] [some 0, some 1, some 3] rfl rfl (.keep (.ptr rfl) (.keep (.ptr rfl) (.keep (.frz (Fz.os (E := encSlingT) rfl rfl (Nat.le_of_ble_eq_true rfl)) (vl_noRef encSlingT _)) (.keep (.ptr rfl) (.keep (.same (NoRef.int _ _)) .nil))))) (.keep rfl (.same (AllN.cons (NoRef.int _ _) (AllN.cons (vl_noRef encSlingT _) AllN.nil))) rfl rfl (.keep rfl (.same (AllN.cons (NoRef.int _ _) (AllN.cons (NoRef.nilslice) AllN.nil))) rfl rfl (.keep rfl (.same (AllN.cons (NoRef.str _) (AllN.cons (NoRef.str _) (AllN.cons (NoRef.int _ _) (AllN.cons (NoRef.int _ _) (AllN.cons (NoRef.int _ _) (AllN.cons (NoRef.int _ _) (AllN.cons (NoRef.int _ _) (AllN.cons (NoRef.int _ _) (AllN.cons (NoRef.bool _) AllN.nil)))))))))) rfl rfl .nil)))) ?_
    obtain ⟨s18, e_s18, h⟩ := bnd h
    obtain ⟨l19, e_l19, h⟩ := bnd h
    obtain ⟨l20, e_l20, h⟩ := bnd h
    obtain ⟨s21, e_s21, h⟩ := bnd h
    obtain ⟨l22, e_l22, h⟩ := bnd h
    refine Goes.ro fol [(3, (.done (vl encSlingT s18))), (4, (.run (.oslice 4 l19.length 9) [.cells [.i x1, vl encSlingT r.Slings], .cells [.i 0, .nilslice], .cells [.str x4, .str x5, .i x1, .i n10, .i x7, .i 0, .i 0, .i 0, .bool false], .dead, .cells (l19.flatMap encSlingT.c)] true)), (7, (.run (.oslice 6 l20.length 9) [.cells [.i x1, vl encSlingT r.Slings], .cells [.i 0, .nilslice], .cells [.str x4, .str x5, .i x1, .i n10, .i x7, .i 0, .i 0, .i 0, .bool false], .dead, .dead, .cells [.str x4, .str x5, .i x1, .i n10, .i x7, .i 0, .i 0, .i 0, .bool false], .cells (l20.flatMap encSlingT.c)] true)), (10, (.done (vl encSlingT s21))), (11, (.run (.oslice 7 l22.length 9) [.cells [.i x1, vl encSlingT r.Slings], .cells [.i 0, .nilslice], .cells [.str x4, .str x5, .i x1, .i n10, .i x7, .i 0, .i 0, .i 0, .bool false], .dead, .dead, .cells [.str x4, .str x5, .i x1, .i n10, .i x7, .i 0, .i 0, .i 0, .bool false], .dead, .cells (l22.flatMap encSlingT.c)] true))] [(2, .ptr 0 0), (4, .ptr 1 0)] [.cells [.i x1, .oslice 7 l22.length 9], .cells [.i 0, .nilslice], .cells [.str x4, .str x5, .i x1, .i n10, .i x7, .i 0, .i 0, .i 0, .bool false], .dead, .dead, .cells [.str x4, .str x5, .i x1, .i n10, .i x7, .i 0, .i 0, .i 0, .bool false], .dead, .cells (l22.flatMap encSlingT.c)] [.done (.opt (aSlice Tryz.prog 35 (vl encSlingT l2) none (some (.i at__11)) none)) (vl encSlingT s18), .run [3] (aAppend Tryz.prog [35, 35] (.slice 3 0 0 0 9) (vl encSlingT s18)) [.cells [.i x1, vl encSlingT r.Slings], .cells [.i 0, .nilslice], .cells [.str x4, .str x5, .i x1, .i n10, .i x7, .i 0, .i 0, .i 0, .bool false], .cells []] (.oslice 4 l19.length 9) [.cells [.i x1, vl encSlingT r.Slings], .cells [.i 0, .nilslice], .cells [.str x4, .str x5, .i x1, .i n10, .i x7, .i 0, .i 0, .i 0, .bool false], .dead, .cells (l19.flatMap encSlingT.c)] true, .run [4, 5] (aAppend Tryz.prog [35, 35] (.oslice 4 l19.length 9) (.slice 5 0 1 1 9)) [.cells [.i x1, vl encSlingT r.Slings], .cells [.i 0, .nilslice], .cells [.str x4, .str x5, .i x1, .i n10, .i x7, .i 0, .i 0, .i 0, .bool false], .dead, .cells (l19.flatMap encSlingT.c), .cells [.str x4, .str x5, .i x1, .i n10, .i x7, .i 0, .i 0, .i 0, .bool false]] (.oslice 6 l20.length 9) [.cells [.i x1, vl encSlingT r.Slings], .cells [.i 0, .nilslice], .cells [.str x4, .str x5, .i x1, .i n10, .i x7, .i 0, .i 0, .i 0, .bool false], .dead, .dead, .cells [.str x4, .str x5, .i x1, .i n10, .i x7, .i 0, .i 0, .i 0, .bool false], .cells (l20.flatMap encSlingT.c)] true, .done (.opt (aSlice Tryz.prog 35 (vl encSlingT l2) (some (.i at__11)) none none)) (vl encSlingT s21), .run [6] (aAppend Tryz.prog [35, 35] (.oslice 6 l20.length 9) (vl encSlingT s21)) [.cells [.i x1, vl encSlingT r.Slings], .cells [.i 0, .nilslice], .cells [.str x4, .str x5, .i x1, .i n10, .i x7, .i 0, .i 0, .i 0, .bool false], .dead, .dead, .cells [.str x4, .str x5, .i x1, .i n10, .i x7, .i 0, .i 0, .i 0, .bool false], .cells (l20.flatMap encSlingT.c)] (.oslice 7 l22.length 9) [.cells [.i x1, vl encSlingT r.Slings], .cells [.i 0, .nilslice], .cells [.str x4, .str x5, .i x1, .i n10, .i x7, .i 0, .i 0, .i 0, .bool false], .dead, .dead, .cells [.str x4, .str x5, .i x1, .i n10, .i x7, .i 0, .i 0, .i 0, .bool false], .dead, .cells (l22.flatMap encSlingT.c)] true] (And.intro (vl_sl sl35 (E := encSlingT) rfl none (some at__11) e_s18) (And.intro (app_run sl35 (E := encSlingT) rfl (src_v (E := encSlingT) rfl _) (dst_z (E := encSlingT) rfl rfl rfl e_l19 rfl)) (And.intro (app_run sl35 (E := encSlingT) rfl (src_c (E := encSlingT) (ys := [(⟨x4, x5, x1, n10, x7, 0, 0, 0, false⟩ : SlingT)]) rfl rfl rfl rfl) (dst_o (E := encSlingT) (l := l19) rfl rfl rfl e_l20 rfl)) (And.intro (vl_sl sl35 (E := encSlingT) rfl (some at__11) none e_s21) (And.intro (app_run sl35 (E := encSlingT) rfl (src_v (E := encSlingT) rfl _) (dst_o (E := encSlingT) (l := l20) rfl rfl rfl e_l22 rfl)) trivial))))) ?_
    refine sq ?_
    refine Goes.rg fol [(4, .ptr 1 0)] [.cells [.i x1, .oslice 7 l22.length 9], .cells [.i x1, .oslice 7 l22.length 9], .cells [.str x4, .str x5, .i x1, .i n10, .i x7, .i 0, .i 0, .i 0, .bool false], .dead, .dead, .cells [.str x4, .str x5, .i x1, .i n10, .i x7, .i 0, .i 0, .i 0, .bool false], .dead, .cells (l22.flatMap encSlingT.c)] ?_
    refine Goes.ret ?_
    obtain rfl := Option.some.inj h
    exact (Goes.retW (xs := [.agg [.i x1, .oslice 7 l22.length 9]]) (by kernel_rfl) (FzW.agg (FzLW.cons (FzW.still (Still.int 10 _ _)) (FzLW.cons (FzW.fz (Fz.os (E := encSlingT) rfl rfl (Nat.le_of_ble_eq_true rfl))) FzLW.nil))))
  · rw [if_neg (by rw [c3]; exact Bool.false_ne_true)] at h
    refine Goes.skip ?_
    refine sq ?_
    refine sq ?_
    refine Goes.rg fol [(2, .ptr 0 0), (3, .ptr 1 0), (4, .ptr 2 0), (5, .i x1), (6, .oslice 4 l2.length 9), (9, .i 0)] [.cells [.i x1, vl encSlingT r.Slings], .cells [.i e.Number, .str e.Kind, vl encS e.Names, vl encI e.Values, .str e.Text], .cells [.i 0, .nilslice], .dead, .cells (l2.flatMap encSlingT.c)] ?_
    refine Goes.block ?_
    obtain ⟨r26, g26, h⟩ := bnd h
    refine Goes.imp (Q := fun x s' => (x = .exit 2 ∧ ∃ l25, l25 = r26 ∧ Sub s' (ofG 162 [(2, .ptr 0 0), (4, .ptr 1 0), (6, .oslice 2 l25.length 9)], [.cells [.i x1, vl encSlingT r.Slings], .cells [.i 0, .nilslice], .cells (l25.flatMap encSlingT.c)]))) ?_ ?_
    · refine Goes.sub (s' := (ofG 162 [(2, .ptr 0 0), (3, .ptr 1 0), (4, .ptr 2 0), (5, .i x1), (6, .oslice 3 l2.length 9), (9, .i 0)], [.cells [.i x1, vl encSlingT r.Slings], .cells [.i e.Number, .str e.Kind, vl encS e.Names, vl encI e.Values, .str e.Text], .cells [.i 0, .nilslice], .cells (l2.flatMap encSlingT.c)])) (Sub.norm [] [some 0, some 1, some 2, some 4] rfl rfl (.keep (.ptr rfl) (.keep (.ptr rfl) (.keep (.ptr rfl) (.keep (.same (NoRef.int _ _)) (.keep (.oslice rfl) (.keep (.same (NoRef.int _ _)) .nil)))))) (.keep rfl (.same (AllN.cons (NoRef.int _ _) (AllN.cons (vl_noRef encSlingT _) AllN.nil))) rfl rfl (.keep rfl (.same (AllN.cons (NoRef.int _ _) (AllN.cons (NoRef.str _) (AllN.cons (vl_noRef encS _) (AllN.cons (vl_noRef encI _) (AllN.cons (NoRef.str _) AllN.nil)))))) rfl rfl (.keep rfl (.same (AllN.cons (NoRef.int _ _) (AllN.cons (NoRef.nilslice) AllN.nil))) rfl rfl (.keep rfl (.same fa) rfl rfl .nil))))) ?_
      refine Goes.loopS (fun M s => ∃ (l23 : List SlingT) (i_24 : Int), s = (ofG 162 [(2, .ptr 0 0), (3, .ptr 1 0), (4, .ptr 2 0), (5, .i x1), (6, .oslice 3 l23.length 9), (9, .i i_24)], [.cells [.i x1, vl encSlingT r.Slings], .cells [.i e.Number, .str e.Kind, vl encS e.Names, vl encI e.Values, .str e.Text], .cells [.i 0, .nilslice], .cells (l23.flatMap encSlingT.c)]) ∧ ref10_after_L1 e x1 M l23 i_24 = some r26) ?_ (m := N) ⟨_, _, rfl, g26⟩
      rintro M s ⟨l23, i_24, rfl, g26⟩
      cases M with
      | zero => simp only [ref10_after_L1] at g26; cases g26
      | succ M =>
        rw [ref10_after_L1] at g26
        refine sq ?_
        refine sq ?_
        refine Goes.rg fol [(2, .ptr 0 0), (3, .ptr 1 0), (4, .ptr 2 0), (5, .i x1), (6, .oslice 3 l23.length 9), (9, .i i_24), (77, .bool (decide (i_24 < (l23.length : Int))))] [.cells [.i x1, vl encSlingT r.Slings], .cells [.i e.Number, .str e.Kind, vl encS e.Names, vl encI e.Values, .str e.Text], .cells [.i 0, .nilslice], .cells (l23.flatMap encSlingT.c)] ?_
        refine Goes.ifB (b := decide (i_24 < (l23.length : Int))) (by kernel_rfl) (fun c27 => ?_) (fun c27 => ?_)
        · rw [if_pos (ot c27)] at g26
          refine Goes.skip ?_
          refine sq ?_
          obtain ⟨r29, g29, g26⟩ := bnd g26
          refine Goes.imp (Q := fun x s' => (x = .normal ∧ ∃ l28, l28 = r29 ∧ Sub s' (ofG 162 [(2, .ptr 0 0), (3, .ptr 1 0), (4, .ptr 2 0), (5, .i x1), (6, .oslice 3 l28.length 9), (9, .i i_24)], [.cells [.i x1, vl encSlingT r.Slings], .cells [.i e.Number, .str e.Kind, vl encS e.Names, vl encI e.Values, .str e.Text], .cells [.i 0, .nilslice], .cells (l28.flatMap encSlingT.c)]))) ?_ ?_
          · refine Goes.block ?_
            refine sq ?_
            obtain ⟨x30, e_x30, g29⟩ := bnd g29
            obtain ⟨x31, e_x31, g29⟩ := bnd g29
            refine Goes.ro fol [(2, (.done (.ptr 3 ((i_24 : Int).toNat * 9 + 0)))), (4, (.run (.str x30.Name) [.cells [.i x1, vl encSlingT r.Slings], .cells [.i e.Number, .str e.Kind, vl encS e.Names, vl encI e.Values, .str e.Text], .cells [.i 0, .nilslice], .cells (l23.flatMap encSlingT.c)] false)), (7, (.done (.fptr (e.Names.flatMap encS.c) ((0 : Int).toNat * 1 + 0)))), (8, (.done (.str x31)))] [(2, .ptr 0 0), (3, .ptr 1 0), (4, .ptr 2 0), (5, .i x1), (6, .oslice 3 l23.length 9), (9, .i i_24), (10, .bool (x30.Name == x31))] [.cells [.i x1, vl encSlingT r.Slings], .cells [.i e.Number, .str e.Kind, vl encS e.Names, vl encI e.Values, .str e.Text], .cells [.i 0, .nilslice], .cells (l23.flatMap encSlingT.c)] [.done (.opt (aIndexAddr Tryz.prog 35 (.oslice 3 l23.length 9) (.i i_24))) (.ptr 3 ((i_24 : Int).toNat * 9 + 0)), .run [3] (aLoad Tryz.prog 9 (.ptr 3 ((i_24 : Int).toNat * 9 + 0))) [.cells [.i x1, vl encSlingT r.Slings], .cells [.i e.Number, .str e.Kind, vl encS e.Names, vl encI e.Values, .str e.Text], .cells [.i 0, .nilslice], .cells (l23.flatMap encSlingT.c)] (.str x30.Name) [.cells [.i x1, vl encSlingT r.Slings], .cells [.i e.Number, .str e.Kind, vl encS e.Names, vl encI e.Values, .str e.Text], .cells [.i 0, .nilslice], .cells (l23.flatMap encSlingT.c)] false, .done (.opt (aIndexAddr Tryz.prog 23 (vl encS e.Names) (.i 0))) (.fptr (e.Names.flatMap encS.c) ((0 : Int).toNat * 1 + 0)), .done (aLoad Tryz.prog 9 (.fptr (e.Names.flatMap encS.c) ((0 : Int).toNat * 1 + 0))) (.str x31)] (And.intro (ix_os sl35 e_x30) (And.intro (ld_p ce9 (E := encSlingT) (l := l23) rfl rfl e_x30 (Nat.le_of_ble_eq_true rfl) rfl) (And.intro (ix_vl sl23 (E := encS) rfl e_x31) (And.intro (ld_vl ce9 (E := encS) rfl e_x31 (Nat.le_of_ble_eq_true rfl) rfl) trivial)))) ?_
            refine Goes.block ?_
            refine sq ?_
            obtain ⟨b33, g_v34, g29⟩ := bnd g29
            refine Goes.cut (s' := (ofG 162 [(2, .ptr 0 0), (3, .ptr 1 0), (4, .ptr 2 0), (5, .i x1), (6, .oslice 3 l23.length 9), (9, .i i_24), (10, .bool (x30.Name == x31)), (90, .bool b33)], [.cells [.i x1, vl encSlingT r.Slings], .cells [.i e.Number, .str e.Kind, vl encS e.Names, vl encI e.Values, .str e.Text], .cells [.i 0, .nilslice], .cells (l23.flatMap encSlingT.c)])) ?_ ?_
            · rcases Bool.eq_false_or_eq_true (e.Kind == [116, 101, 115, 116]) with c32 | c32
              · rw [if_pos (c32)] at g_v34
                obtain rfl := Option.some.inj g_v34
                exact RegTo.ro fol [(3, (.done (.bool true)))] [(2, .ptr 0 0), (3, .ptr 1 0), (4, .ptr 2 0), (5, .i x1), (6, .oslice 3 l23.length 9), (9, .i i_24), (10, .bool (x30.Name == x31)), (90, .bool (x30.Name == x31))] [.cells [.i x1, vl encSlingT r.Slings], .cells [.i e.Number, .str e.Kind, vl encS e.Names, vl encI e.Values, .str e.Text], .cells [.i 0, .nilslice], .cells (l23.flatMap encSlingT.c)] [.done (.done (.bool (e.Kind == [116, 101, 115, 116]))) (.bool true)] (And.intro (congrArg (fun x => Pg.done (.bool x)) c32) trivial)
              · rw [if_neg (by rw [c32]; exact Bool.false_ne_true)] at g_v34
                obtain rfl := Option.some.inj g_v34
                exact RegTo.ro fol [(3, (.done (.bool false)))] [(2, .ptr 0 0), (3, .ptr 1 0), (4, .ptr 2 0), (5, .i x1), (6, .oslice 3 l23.length 9), (9, .i i_24), (10, .bool (x30.Name == x31)), (90, .bool false)] [.cells [.i x1, vl encSlingT r.Slings], .cells [.i e.Number, .str e.Kind, vl encS e.Names, vl encI e.Values, .str e.Text], .cells [.i 0, .nilslice], .cells (l23.flatMap encSlingT.c)] [.done (.done (.bool (e.Kind == [116, 101, 115, 116]))) (.bool false)] (And.intro (congrArg (fun x => Pg.done (.bool x)) c32) trivial)
            refine Goes.ifB (b := b33) (by kernel_rfl) (fun c35 => ?_) (fun c35 => ?_)
            · rw [if_pos (c35)] at g29
              refine sq ?_
              obtain ⟨x36, e_x36, g29⟩ := bnd g29
              obtain ⟨l37, e_l37, g29⟩ := bnd g29
              refine Goes.ro fol [(4, (.done (.fptr (e.Values.flatMap encI.c) ((1 : Int).toNat * 1 + 0)))), (5, (.done (.i x36))), (7, (.done (.ptr 3 ((i_24 : Int).toNat * 9 + 0)))), (9, (.run .undef [.cells [.i x1, vl encSlingT r.Slings], .cells [.i e.Number, .str e.Kind, vl encS e.Names, vl encI e.Values, .str e.Text], .cells [.i 0, .nilslice], .cells (l37.flatMap encSlingT.c)] true))] [(2, .ptr 0 0), (3, .ptr 1 0), (4, .ptr 2 0), (5, .i x1), (6, .oslice 3 l23.length 9), (9, .i i_24)] [.cells [.i x1, vl encSlingT r.Slings], .cells [.i e.Number, .str e.Kind, vl encS e.Names, vl encI e.Values, .str e.Text], .cells [.i 0, .nilslice], .cells (l37.flatMap encSlingT.c)] [.done (.opt (aIndexAddr Tryz.prog 24 (vl encI e.Values) (.i 1))) (.fptr (e.Values.flatMap encI.c) ((1 : Int).toNat * 1 + 0)), .done (aLoad Tryz.prog 3 (.fptr (e.Values.flatMap encI.c) ((1 : Int).toNat * 1 + 0))) (.i x36), .done (.opt (aIndexAddr Tryz.prog 35 (.oslice 3 l23.length 9) (.i i_24))) (.ptr 3 ((i_24 : Int).toNat * 9 + 0)), .run [3] (aStore Tryz.prog 3 (.ptr 3 ((i_24 : Int).toNat * 9 + 6)) (.i (w64 (x36.tdiv 2)))) [.cells [.i x1, vl encSlingT r.Slings], .cells [.i e.Number, .str e.Kind, vl encS e.Names, vl encI e.Values, .str e.Text], .cells [.i 0, .nilslice], .cells (l23.flatMap encSlingT.c)] .undef [.cells [.i x1, vl encSlingT r.Slings], .cells [.i e.Number, .str e.Kind, vl encS e.Names, vl encI e.Values, .str e.Text], .cells [.i 0, .nilslice], .cells (l37.flatMap encSlingT.c)] true] (And.intro (ix_vl sl24 (E := encI) rfl e_x36) (And.intro (ld_vl ce3 (E := encI) rfl e_x36 (Nat.le_of_ble_eq_true rfl) rfl) (And.intro (ix_os sl35 e_x30) (And.intro (sto_p (E := encSlingT) (l := l23) (y := (⟨x30.Name, x30.Batch, x30.Born, x30.Last, x30.Uses, x30.Used, w64 (x36.tdiv 2), x30.Until, x30.Gone⟩ : SlingT)) rfl (show _ = some 1 by kernel_rfl) rfl e_x30 rfl rfl rfl rfl rfl e_l37 rfl) trivial)))) ?_
              refine Goes.sub (show Sub (ofG 162 [(2, .ptr 0 0), (3, .ptr 1 0), (4, .ptr 2 0), (5, .i x1), (6, .oslice 3 l23.length 9), (9, .i i_24)], [.cells [.i x1, vl encSlingT r.Slings], .cells [.i e.Number, .str e.Kind, vl encS e.Names, vl encI e.Values, .str e.Text], .cells [.i 0, .nilslice], .cells (l37.flatMap encSlingT.c)]) (ofG 162 [(2, .ptr 0 0), (3, .ptr 1 0), (4, .ptr 2 0), (5, .i x1), (6, .oslice 3 l37.length 9), (9, .i i_24)], [.cells [.i x1, vl encSlingT r.Slings], .cells [.i e.Number, .str e.Kind, vl encS e.Names, vl encI e.Values, .str e.Text], .cells [.i 0, .nilslice], .cells (l37.flatMap encSlingT.c)]) from (Sub.norm [] [some 0, some 1, some 2, some 3] rfl rfl (.keep (.ptr rfl) (.keep (.ptr rfl) (.keep (.ptr rfl) (.keep (.same (NoRef.int _ _)) (.keep (.osliceE rfl (put_len e_l37)) (.keep (.same (NoRef.int _ _)) .nil)))))) (.keep rfl (.same (AllN.cons (NoRef.int _ _) (AllN.cons (vl_noRef encSlingT _) AllN.nil))) rfl rfl (.keep rfl (.same (AllN.cons (NoRef.int _ _) (AllN.cons (NoRef.str _) (AllN.cons (vl_noRef encS _) (AllN.cons (vl_noRef encI _) (AllN.cons (NoRef.str _) AllN.nil)))))) rfl rfl (.keep rfl (.same (AllN.cons (NoRef.int _ _) (AllN.cons (NoRef.nilslice) AllN.nil))) rfl rfl (.keep rfl (.same fa) rfl rfl .nil)))))) ?_
              obtain ⟨x38, e_x38, g29⟩ := bnd g29
              obtain ⟨l39, e_l39, g29⟩ := bnd g29
              refine Goes.ro fol [(6, (.done (.ptr 3 ((i_24 : Int).toNat * 9 + 0)))), (8, (.run (.i x38.Last) [.cells [.i x1, vl encSlingT r.Slings], .cells [.i e.Number, .str e.Kind, vl encS e.Names, vl encI e.Values, .str e.Text], .cells [.i 0, .nilslice], .cells (l37.flatMap encSlingT.c)] false)), (10, (.done (.ptr 3 ((i_24 : Int).toNat * 9 + 0)))), (12, (.run .undef [.cells [.i x1, vl encSlingT r.Slings], .cells [.i e.Number, .str e.Kind, vl encS e.Names, vl encI e.Values, .str e.Text], .cells [.i 0, .nilslice], .cells (l39.flatMap encSlingT.c)] true))] [(2, .ptr 0 0), (3, .ptr 1 0), (4, .ptr 2 0), (5, .i x1), (6, .oslice 3 l37.length 9), (9, .i i_24)] [.cells [.i x1, vl encSlingT r.Slings], .cells [.i e.Number, .str e.Kind, vl encS e.Names, vl encI e.Values, .str e.Text], .cells [.i 0, .nilslice], .cells (l39.flatMap encSlingT.c)] [.done (.opt (aIndexAddr Tryz.prog 35 (.oslice 3 l37.length 9) (.i i_24))) (.ptr 3 ((i_24 : Int).toNat * 9 + 0)), .run [3] (aLoad Tryz.prog 3 (.ptr 3 ((i_24 : Int).toNat * 9 + 3))) [.cells [.i x1, vl encSlingT r.Slings], .cells [.i e.Number, .str e.Kind, vl encS e.Names, vl encI e.Values, .str e.Text], .cells [.i 0, .nilslice], .cells (l37.flatMap encSlingT.c)] (.i x38.Last) [.cells [.i x1, vl encSlingT r.Slings], .cells [.i e.Number, .str e.Kind, vl encS e.Names, vl encI e.Values, .str e.Text], .cells [.i 0, .nilslice], .cells (l37.flatMap encSlingT.c)] false, .done (.opt (aIndexAddr Tryz.prog 35 (.oslice 3 l37.length 9) (.i i_24))) (.ptr 3 ((i_24 : Int).toNat * 9 + 0)), .run [3] (aStore Tryz.prog 3 (.ptr 3 ((i_24 : Int).toNat * 9 + 7)) (.i (if x38.Last < (w64 (x1 + 365)) then x38.Last else (w64 (x1 + 365))))) [.cells [.i x1, vl encSlingT r.Slings], .cells [.i e.Number, .str e.Kind, vl encS e.Names, vl encI e.Values, .str e.Text], .cells [.i 0, .nilslice], .cells (l37.flatMap encSlingT.c)] .undef [.cells [.i x1, vl encSlingT r.Slings], .cells [.i e.Number, .str e.Kind, vl encS e.Names, vl encI e.Values, .str e.Text], .cells [.i 0, .nilslice], .cells (l39.flatMap encSlingT.c)] true] (And.intro (ix_os sl35 e_x38) (And.intro (ld_p ce3 (E := encSlingT) (l := l37) rfl rfl e_x38 (Nat.le_of_ble_eq_true rfl) rfl) (And.intro (ix_os sl35 e_x38) (And.intro (sto_p (E := encSlingT) (l := l37) (y := (⟨x38.Name, x38.Batch, x38.Born, x38.Last, x38.Uses, x38.Used, x38.Limit, (if x38.Last < (w64 (x1 + 365)) then x38.Last else (w64 (x1 + 365))), x38.Gone⟩ : SlingT)) rfl (show _ = some 1 by kernel_rfl) rfl e_x38 rfl rfl rfl rfl rfl e_l39 rfl) trivial)))) ?_
              obtain rfl := Option.some.inj g29
              exact ⟨rfl, _, rfl, ((show Sub (ofG 162 [(2, .ptr 0 0), (3, .ptr 1 0), (4, .ptr 2 0), (5, .i x1), (6, .oslice 3 l37.length 9), (9, .i i_24)], [.cells [.i x1, vl encSlingT r.Slings], .cells [.i e.Number, .str e.Kind, vl encS e.Names, vl encI e.Values, .str e.Text], .cells [.i 0, .nilslice], .cells (l39.flatMap encSlingT.c)]) (ofG 162 [(2, .ptr 0 0), (3, .ptr 1 0), (4, .ptr 2 0), (5, .i x1), (6, .oslice 3 l39.length 9), (9, .i i_24)], [.cells [.i x1, vl encSlingT r.Slings], .cells [.i e.Number, .str e.Kind, vl encS e.Names, vl encI e.Values, .str e.Text], .cells [.i 0, .nilslice], .cells (l39.flatMap encSlingT.c)]) from (Sub.norm [] [some 0, some 1, some 2, some 3] rfl rfl (.keep (.ptr rfl) (.keep (.ptr rfl) (.keep (.ptr rfl) (.keep (.same (NoRef.int _ _)) (.keep (.osliceE rfl (put_len e_l39)) (.keep (.same (NoRef.int _ _)) .nil)))))) (.keep rfl (.same (AllN.cons (NoRef.int _ _) (AllN.cons (vl_noRef encSlingT _) AllN.nil))) rfl rfl (.keep rfl (.same (AllN.cons (NoRef.int _ _) (AllN.cons (NoRef.str _) (AllN.cons (vl_noRef encS _) (AllN.cons (vl_noRef encI _) (AllN.cons (NoRef.str _) AllN.nil)))))) rfl rfl (.keep rfl (.same (AllN.cons (NoRef.int _ _) (AllN.cons (NoRef.nilslice) AllN.nil))) rfl rfl (.keep rfl (.same fa) rfl rfl .nil)))))).trans (Sub.refl _))⟩
            · rw [if_neg (by rw [c35]; exact Bool.false_ne_true)] at g29
              refine sq ?_
              obtain ⟨b41, g_v42, g29⟩ := bnd g29
              refine Goes.cut (s' := (ofG 162 [(2, .ptr 0 0), (3, .ptr 1 0), (4, .ptr 2 0), (5, .i x1), (6, .oslice 3 l23.length 9), (9, .i i_24), (10, .bool (x30.Name == x31)), (118, .bool b41)], [.cells [.i x1, vl encSlingT r.Slings], .cells [.i e.Number, .str e.Kind, vl encS e.Names, vl encI e.Values, .str e.Text], .cells [.i 0, .nilslice], .cells (l23.flatMap encSlingT.c)])) ?_ ?_
              · rcases Bool.eq_false_or_eq_true (e.Kind == [117, 115, 101]) with c40 | c40
                · rw [if_pos (c40)] at g_v42
                  obtain rfl := Option.some.inj g_v42
                  exact RegTo.ro fol [(3, (.done (.bool true)))] [(2, .ptr 0 0), (3, .ptr 1 0), (4, .ptr 2 0), (5, .i x1), (6, .oslice 3 l23.length 9), (9, .i i_24), (10, .bool (x30.Name == x31)), (118, .bool (x30.Name == x31))] [.cells [.i x1, vl encSlingT r.Slings], .cells [.i e.Number, .str e.Kind, vl encS e.Names, vl encI e.Values, .str e.Text], .cells [.i 0, .nilslice], .cells (l23.flatMap encSlingT.c)] [.done (.done (.bool (e.Kind == [117, 115, 101]))) (.bool true)] (And.intro (congrArg (fun x => Pg.done (.bool x)) c40) trivial)
                · rw [if_neg (by rw [c40]; exact Bool.false_ne_true)] at g_v42
                  obtain rfl := Option.some.inj g_v42
                  exact RegTo.ro fol [(3, (.done (.bool false)))] [(2, .ptr 0 0), (3, .ptr 1 0), (4, .ptr 2 0), (5, .i x1), (6, .oslice 3 l23.length 9), (9, .i i_24), (10, .bool (x30.Name == x31)), (118, .bool false)] [.cells [.i x1, vl encSlingT r.Slings], .cells [.i e.Number, .str e.Kind, vl encS e.Names, vl encI e.Values, .str e.Text], .cells [.i 0, .nilslice], .cells (l23.flatMap encSlingT.c)] [.done (.done (.bool (e.Kind == [117, 115, 101]))) (.bool false)] (And.intro (congrArg (fun x => Pg.done (.bool x)) c40) trivial)
              refine Goes.ifB (b := b41) (by kernel_rfl) (fun c43 => ?_) (fun c43 => ?_)
              · rw [if_pos (c43)] at g29
                obtain ⟨l44, e_l44, g29⟩ := bnd g29
                refine Goes.ro fol [(2, (.done (.ptr 3 ((i_24 : Int).toNat * 9 + 0)))), (4, (.run (.i x30.Used) [.cells [.i x1, vl encSlingT r.Slings], .cells [.i e.Number, .str e.Kind, vl encS e.Names, vl encI e.Values, .str e.Text], .cells [.i 0, .nilslice], .cells (l23.flatMap encSlingT.c)] false)), (6, (.done (.ptr 3 ((i_24 : Int).toNat * 9 + 0)))), (8, (.run .undef [.cells [.i x1, vl encSlingT r.Slings], .cells [.i e.Number, .str e.Kind, vl encS e.Names, vl encI e.Values, .str e.Text], .cells [.i 0, .nilslice], .cells (l44.flatMap encSlingT.c)] true))] [(2, .ptr 0 0), (3, .ptr 1 0), (4, .ptr 2 0), (5, .i x1), (6, .oslice 3 l23.length 9), (9, .i i_24)] [.cells [.i x1, vl encSlingT r.Slings], .cells [.i e.Number, .str e.Kind, vl encS e.Names, vl encI e.Values, .str e.Text], .cells [.i 0, .nilslice], .cells (l44.flatMap encSlingT.c)] [.done (.opt (aIndexAddr Tryz.prog 35 (.oslice 3 l23.length 9) (.i i_24))) (.ptr 3 ((i_24 : Int).toNat * 9 + 0)), .run [3] (aLoad Tryz.prog 3 (.ptr 3 ((i_24 : Int).toNat * 9 + 5))) [.cells [.i x1, vl encSlingT r.Slings], .cells [.i e.Number, .str e.Kind, vl encS e.Names, vl encI e.Values, .str e.Text], .cells [.i 0, .nilslice], .cells (l23.flatMap encSlingT.c)] (.i x30.Used) [.cells [.i x1, vl encSlingT r.Slings], .cells [.i e.Number, .str e.Kind, vl encS e.Names, vl encI e.Values, .str e.Text], .cells [.i 0, .nilslice], .cells (l23.flatMap encSlingT.c)] false, .done (.opt (aIndexAddr Tryz.prog 35 (.oslice 3 l23.length 9) (.i i_24))) (.ptr 3 ((i_24 : Int).toNat * 9 + 0)), .run [3] (aStore Tryz.prog 3 (.ptr 3 ((i_24 : Int).toNat * 9 + 5)) (.i (w64 (x30.Used + 1)))) [.cells [.i x1, vl encSlingT r.Slings], .cells [.i e.Number, .str e.Kind, vl encS e.Names, vl encI e.Values, .str e.Text], .cells [.i 0, .nilslice], .cells (l23.flatMap encSlingT.c)] .undef [.cells [.i x1, vl encSlingT r.Slings], .cells [.i e.Number, .str e.Kind, vl encS e.Names, vl encI e.Values, .str e.Text], .cells [.i 0, .nilslice], .cells (l44.flatMap encSlingT.c)] true] (And.intro (ix_os sl35 e_x30) (And.intro (ld_p ce3 (E := encSlingT) (l := l23) rfl rfl e_x30 (Nat.le_of_ble_eq_true rfl) rfl) (And.intro (ix_os sl35 e_x30) (And.intro (sto_p (E := encSlingT) (l := l23) (y := (⟨x30.Name, x30.Batch, x30.Born, x30.Last, x30.Uses, w64 (x30.Used + 1), x30.Limit, x30.Until, x30.Gone⟩ : SlingT)) rfl (show _ = some 1 by kernel_rfl) rfl e_x30 rfl rfl rfl rfl rfl e_l44 rfl) trivial)))) ?_
                obtain rfl := Option.some.inj g29
                exact ⟨rfl, _, rfl, ((show Sub (ofG 162 [(2, .ptr 0 0), (3, .ptr 1 0), (4, .ptr 2 0), (5, .i x1), (6, .oslice 3 l23.length 9), (9, .i i_24)], [.cells [.i x1, vl encSlingT r.Slings], .cells [.i e.Number, .str e.Kind, vl encS e.Names, vl encI e.Values, .str e.Text], .cells [.i 0, .nilslice], .cells (l44.flatMap encSlingT.c)]) (ofG 162 [(2, .ptr 0 0), (3, .ptr 1 0), (4, .ptr 2 0), (5, .i x1), (6, .oslice 3 l44.length 9), (9, .i i_24)], [.cells [.i x1, vl encSlingT r.Slings], .cells [.i e.Number, .str e.Kind, vl encS e.Names, vl encI e.Values, .str e.Text], .cells [.i 0, .nilslice], .cells (l44.flatMap encSlingT.c)]) from (Sub.norm [] [some 0, some 1, some 2, some 3] rfl rfl (.keep (.ptr rfl) (.keep (.ptr rfl) (.keep (.ptr rfl) (.keep (.same (NoRef.int _ _)) (.keep (.osliceE rfl (put_len e_l44)) (.keep (.same (NoRef.int _ _)) .nil)))))) (.keep rfl (.same (AllN.cons (NoRef.int _ _) (AllN.cons (vl_noRef encSlingT _) AllN.nil))) rfl rfl (.keep rfl (.same (AllN.cons (NoRef.int _ _) (AllN.cons (NoRef.str _) (AllN.cons (vl_noRef encS _) (AllN.cons (vl_noRef encI _) (AllN.cons (NoRef.str _) AllN.nil)))))) rfl rfl (.keep rfl (.same (AllN.cons (NoRef.int _ _) (AllN.cons (NoRef.nilslice) AllN.nil))) rfl rfl (.keep rfl (.same fa) rfl rfl .nil)))))).trans (Sub.refl _))⟩
              · rw [if_neg (by rw [c43]; exact Bool.false_ne_true)] at g29
                refine sq ?_
                refine sq ?_
                obtain ⟨b46, g_v47, g29⟩ := bnd g29
                refine Goes.cut (s' := (ofG 162 [(2, .ptr 0 0), (3, .ptr 1 0), (4, .ptr 2 0), (5, .i x1), (6, .oslice 3 l23.length 9), (9, .i i_24), (133, .bool b46)], [.cells [.i x1, vl encSlingT r.Slings], .cells [.i e.Number, .str e.Kind, vl encS e.Names, vl encI e.Values, .str e.Text], .cells [.i 0, .nilslice], .cells (l23.flatMap encSlingT.c)])) ?_ ?_
                · rcases Bool.eq_false_or_eq_true (e.Kind == [102, 97, 105, 108]) with c45 | c45
                  · rw [if_pos (c45)] at g_v47
                    obtain rfl := Option.some.inj g_v47
                    exact RegTo.ro fol [(3, (.done (.bool true)))] [(2, .ptr 0 0), (3, .ptr 1 0), (4, .ptr 2 0), (5, .i x1), (6, .oslice 3 l23.length 9), (9, .i i_24), (133, .bool (x30.Name == x31))] [.cells [.i x1, vl encSlingT r.Slings], .cells [.i e.Number, .str e.Kind, vl encS e.Names, vl encI e.Values, .str e.Text], .cells [.i 0, .nilslice], .cells (l23.flatMap encSlingT.c)] [.done (.done (.bool (e.Kind == [102, 97, 105, 108]))) (.bool true)] (And.intro (congrArg (fun x => Pg.done (.bool x)) c45) trivial)
                  · rw [if_neg (by rw [c45]; exact Bool.false_ne_true)] at g_v47
                    obtain rfl := Option.some.inj g_v47
                    exact RegTo.ro fol [(3, (.done (.bool false)))] [(2, .ptr 0 0), (3, .ptr 1 0), (4, .ptr 2 0), (5, .i x1), (6, .oslice 3 l23.length 9), (9, .i i_24), (133, .bool false)] [.cells [.i x1, vl encSlingT r.Slings], .cells [.i e.Number, .str e.Kind, vl encS e.Names, vl encI e.Values, .str e.Text], .cells [.i 0, .nilslice], .cells (l23.flatMap encSlingT.c)] [.done (.done (.bool (e.Kind == [102, 97, 105, 108]))) (.bool false)] (And.intro (congrArg (fun x => Pg.done (.bool x)) c45) trivial)
                obtain ⟨r49, g49, g29⟩ := bnd g29
                refine Goes.imp (Q := fun x s' => (x = .normal ∧ ∃ b48, b48 = r49 ∧ Sub s' (ofG 162 [(2, .ptr 0 0), (3, .ptr 1 0), (4, .ptr 2 0), (5, .i x1), (6, .oslice 3 l23.length 9), (9, .i i_24), (133, .bool b48)], [.cells [.i x1, vl encSlingT r.Slings], .cells [.i e.Number, .str e.Kind, vl encS e.Names, vl encI e.Values, .str e.Text], .cells [.i 0, .nilslice], .cells (l23.flatMap encSlingT.c)]))) ?_ ?_
                · refine Goes.ifB (b := b46) (by kernel_rfl) (fun c50 => ?_) (fun c50 => ?_)
                  · rw [if_pos (c50)] at g49
                    refine Goes.skip ?_
                    obtain rfl := Option.some.inj g49
                    exact ⟨rfl, _, rfl, (Sub.refl _)⟩
                  · rw [if_neg (by rw [c50]; exact Bool.false_ne_true)] at g49
                    obtain ⟨b52, g_v53, g49⟩ := bnd g49
                    refine Goes.cut (s' := (ofG 162 [(2, .ptr 0 0), (3, .ptr 1 0), (4, .ptr 2 0), (5, .i x1), (6, .oslice 3 l23.length 9), (9, .i i_24), (133, .bool b52)], [.cells [.i x1, vl encSlingT r.Slings], .cells [.i e.Number, .str e.Kind, vl encS e.Names, vl encI e.Values, .str e.Text], .cells [.i 0, .nilslice], .cells (l23.flatMap encSlingT.c)])) ?_ ?_
                    · rcases Bool.eq_false_or_eq_true (e.Kind == [114, 101, 99, 97, 108, 108]) with c51 | c51
                      · rw [if_pos (c51)] at g_v53
                        obtain rfl := Option.some.inj g_v53
                        exact RegTo.ro fol [(3, (.done (.bool true))), (6, (.done (.ptr 3 ((i_24 : Int).toNat * 9 + 0)))), (8, (.run (.str x30.Batch) [.cells [.i x1, vl encSlingT r.Slings], .cells [.i e.Number, .str e.Kind, vl encS e.Names, vl encI e.Values, .str e.Text], .cells [.i 0, .nilslice], .cells (l23.flatMap encSlingT.c)] false)), (11, (.done (.fptr (e.Names.flatMap encS.c) ((0 : Int).toNat * 1 + 0)))), (12, (.done (.str x31)))] [(2, .ptr 0 0), (3, .ptr 1 0), (4, .ptr 2 0), (5, .i x1), (6, .oslice 3 l23.length 9), (9, .i i_24), (133, .bool (x30.Batch == x31))] [.cells [.i x1, vl encSlingT r.Slings], .cells [.i e.Number, .str e.Kind, vl encS e.Names, vl encI e.Values, .str e.Text], .cells [.i 0, .nilslice], .cells (l23.flatMap encSlingT.c)] [.done (.done (.bool (e.Kind == [114, 101, 99, 97, 108, 108]))) (.bool true), .done (.opt (aIndexAddr Tryz.prog 35 (.oslice 3 l23.length 9) (.i i_24))) (.ptr 3 ((i_24 : Int).toNat * 9 + 0)), .run [3] (aLoad Tryz.prog 9 (.ptr 3 ((i_24 : Int).toNat * 9 + 1))) [.cells [.i x1, vl encSlingT r.Slings], .cells [.i e.Number, .str e.Kind, vl encS e.Names, vl encI e.Values, .str e.Text], .cells [.i 0, .nilslice], .cells (l23.flatMap encSlingT.c)] (.str x30.Batch) [.cells [.i x1, vl encSlingT r.Slings], .cells [.i e.Number, .str e.Kind, vl encS e.Names, vl encI e.Values, .str e.Text], .cells [.i 0, .nilslice], .cells (l23.flatMap encSlingT.c)] false, .done (.opt (aIndexAddr Tryz.prog 23 (vl encS e.Names) (.i 0))) (.fptr (e.Names.flatMap encS.c) ((0 : Int).toNat * 1 + 0)), .done (aLoad Tryz.prog 9 (.fptr (e.Names.flatMap encS.c) ((0 : Int).toNat * 1 + 0))) (.str x31)] (And.intro (congrArg (fun x => Pg.done (.bool x)) c51) (And.intro (ix_os sl35 e_x30) (And.intro (ld_p ce9 (E := encSlingT) (l := l23) rfl rfl e_x30 (Nat.le_of_ble_eq_true rfl) rfl) (And.intro (ix_vl sl23 (E := encS) rfl e_x31) (And.intro (ld_vl ce9 (E := encS) rfl e_x31 (Nat.le_of_ble_eq_true rfl) rfl) trivial)))))
                      · rw [if_neg (by rw [c51]; exact Bool.false_ne_true)] at g_v53
                        obtain rfl := Option.some.inj g_v53
                        exact RegTo.ro fol [(3, (.done (.bool false)))] [(2, .ptr 0 0), (3, .ptr 1 0), (4, .ptr 2 0), (5, .i x1), (6, .oslice 3 l23.length 9), (9, .i i_24), (133, .bool false)] [.cells [.i x1, vl encSlingT r.Slings], .cells [.i e.Number, .str e.Kind, vl encS e.Names, vl encI e.Values, .str e.Text], .cells [.i 0, .nilslice], .cells (l23.flatMap encSlingT.c)] [.done (.done (.bool (e.Kind == [114, 101, 99, 97, 108, 108]))) (.bool false)] (And.intro (congrArg (fun x => Pg.done (.bool x)) c51) trivial)
                    obtain rfl := Option.some.inj g49
                    exact ⟨rfl, _, rfl, (Sub.refl _)⟩
                rintro x s' ⟨rfl, b48, rfl, hsub⟩
                refine Goes.sub hsub ?_
                refine Goes.ifB (b := b48) (by kernel_rfl) (fun c54 => ?_) (fun c54 => ?_)
                · rw [if_pos (c54)] at g29
                  obtain ⟨l55, e_l55, g29⟩ := bnd g29
                  refine Goes.ro fol [(2, (.done (.ptr 3 ((i_24 : Int).toNat * 9 + 0)))), (4, (.run .undef [.cells [.i x1, vl encSlingT r.Slings], .cells [.i e.Number, .str e.Kind, vl encS e.Names, vl encI e.Values, .str e.Text], .cells [.i 0, .nilslice], .cells (l55.flatMap encSlingT.c)] true))] [(2, .ptr 0 0), (3, .ptr 1 0), (4, .ptr 2 0), (5, .i x1), (6, .oslice 3 l23.length 9), (9, .i i_24)] [.cells [.i x1, vl encSlingT r.Slings], .cells [.i e.Number, .str e.Kind, vl encS e.Names, vl encI e.Values, .str e.Text], .cells [.i 0, .nilslice], .cells (l55.flatMap encSlingT.c)] [.done (.opt (aIndexAddr Tryz.prog 35 (.oslice 3 l23.length 9) (.i i_24))) (.ptr 3 ((i_24 : Int).toNat * 9 + 0)), .run [3] (aStore Tryz.prog 4 (.ptr 3 ((i_24 : Int).toNat * 9 + 8)) (.bool true)) [.cells [.i x1, vl encSlingT r.Slings], .cells [.i e.Number, .str e.Kind, vl encS e.Names, vl encI e.Values, .str e.Text], .cells [.i 0, .nilslice], .cells (l23.flatMap encSlingT.c)] .undef [.cells [.i x1, vl encSlingT r.Slings], .cells [.i e.Number, .str e.Kind, vl encS e.Names, vl encI e.Values, .str e.Text], .cells [.i 0, .nilslice], .cells (l55.flatMap encSlingT.c)] true] (And.intro (ix_os sl35 e_x30) (And.intro (sto_p (E := encSlingT) (l := l23) (y := (⟨x30.Name, x30.Batch, x30.Born, x30.Last, x30.Uses, x30.Used, x30.Limit, x30.Until, true⟩ : SlingT)) rfl (show _ = some 1 by kernel_rfl) rfl e_x30 rfl rfl rfl rfl rfl e_l55 rfl) trivial)) ?_
                  obtain rfl := Option.some.inj g29
                  exact ⟨rfl, _, rfl, ((show Sub (ofG 162 [(2, .ptr 0 0), (3, .ptr 1 0), (4, .ptr 2 0), (5, .i x1), (6, .oslice 3 l23.length 9), (9, .i i_24)], [.cells [.i x1, vl encSlingT r.Slings], .cells [.i e.Number, .str e.Kind, vl encS e.Names, vl encI e.Values, .str e.Text], .cells [.i 0, .nilslice], .cells (l55.flatMap encSlingT.c)]) (ofG 162 [(2, .ptr 0 0), (3, .ptr 1 0), (4, .ptr 2 0), (5, .i x1), (6, .oslice 3 l55.length 9), (9, .i i_24)], [.cells [.i x1, vl encSlingT r.Slings], .cells [.i e.Number, .str e.Kind, vl encS e.Names, vl encI e.Values, .str e.Text], .cells [.i 0, .nilslice], .cells (l55.flatMap encSlingT.c)]) from (Sub.norm [] [some 0, some 1, some 2, some 3] rfl rfl (.keep (.ptr rfl) (.keep (.ptr rfl) (.keep (.ptr rfl) (.keep (.same (NoRef.int _ _)) (.keep (.osliceE rfl (put_len e_l55)) (.keep (.same (NoRef.int _ _)) .nil)))))) (.keep rfl (.same (AllN.cons (NoRef.int _ _) (AllN.cons (vl_noRef encSlingT _) AllN.nil))) rfl rfl (.keep rfl (.same (AllN.cons (NoRef.int _ _) (AllN.cons (NoRef.str _) (AllN.cons (vl_noRef encS _) (AllN.cons (vl_noRef encI _) (AllN.cons (NoRef.str _) AllN.nil)))))) rfl rfl (.keep rfl (.same (AllN.cons (NoRef.int _ _) (AllN.cons (NoRef.nilslice) AllN.nil))) rfl rfl (.keep rfl (.same fa) rfl rfl .nil)))))).trans (Sub.refl _))⟩
                · rw [if_neg (by rw [c54]; exact Bool.false_ne_true)] at g29
                  refine Goes.skip ?_
                  obtain rfl := Option.some.inj g29
                  exact ⟨rfl, _, rfl, (Sub.keep [2, 3, 4, 5, 6, 9] rfl rfl)⟩
          rintro x s' ⟨rfl, l28, rfl, hsub⟩
          refine Goes.sub hsub ?_
          refine Goes.rg fol [(2, .ptr 0 0), (3, .ptr 1 0), (4, .ptr 2 0), (5, .i x1), (6, .oslice 3 l28.length 9), (9, .i (w64 (i_24 + 1)))] [.cells [.i x1, vl encSlingT r.Slings], .cells [.i e.Number, .str e.Kind, vl encS e.Names, vl encI e.Values, .str e.Text], .cells [.i 0, .nilslice], .cells (l28.flatMap encSlingT.c)] ?_
          exact ⟨M, (ofG 162 [(2, .ptr 0 0), (3, .ptr 1 0), (4, .ptr 2 0), (5, .i x1), (6, .oslice 3 l28.length 9), (9, .i (w64 (i_24 + 1)))], [.cells [.i x1, vl encSlingT r.Slings], .cells [.i e.Number, .str e.Kind, vl encS e.Names, vl encI e.Values, .str e.Text], .cells [.i 0, .nilslice], .cells (l28.flatMap encSlingT.c)]), Nat.lt_succ_self _, (Sub.refl _), _, _, rfl, g26⟩
        · rw [if_neg (of_ c27)] at g26
          refine Goes.exit ?_
          obtain rfl := Option.some.inj g26
          exact ⟨rfl, _, rfl, (Sub.norm [] [some 0, some 2, some 3] rfl rfl (.keep (.ptr rfl) (.drop (.keep (.ptr rfl) (.drop (.keep (.oslice rfl) .nil))))) (.keep rfl (.same (AllN.cons (NoRef.int _ _) (AllN.cons (vl_noRef encSlingT _) AllN.nil))) rfl rfl (.keep rfl (.same (AllN.cons (NoRef.int _ _) (AllN.cons (NoRef.nilslice) AllN.nil))) rfl rfl (.keep rfl (.same fa) rfl rfl .nil))))⟩
    rintro x s' ⟨rfl, l25, rfl, hsub⟩
    refine Goes.sub hsub ?_
    refine sq ?_
    refine Goes.rg fol [(2, .ptr 0 0), (4, .ptr 1 0)] [.cells [.i x1, .oslice 2 l25.length 9], .cells [.i 0, .nilslice], .cells (l25.flatMap encSlingT.c)] ?_
    refine sq ?_
    refine Goes.rg fol [(4, .ptr 1 0)] [.cells [.i x1, .oslice 2 l25.length 9], .cells [.i x1, .oslice 2 l25.length 9], .cells (l25.flatMap encSlingT.c)] ?_
    refine Goes.ret ?_
    obtain rfl := Option.some.inj h
    exact (Goes.retW (xs := [.agg [.i x1, .oslice 2 l25.length 9]]) (by kernel_rfl) (FzW.agg (FzLW.cons (FzW.still (Still.int 10 _ _)) (FzLW.cons (FzW.fz (Fz.os (E := encSlingT) rfl rfl (Nat.le_of_ble_eq_true rfl))) FzLW.nil))))
def ref10_register_L0 (N : Nat) (l : List EventT) : Nat → Int → (List SlingT) → Int → Option (Int × (List SlingT))
  | 0, _, _, _ => none
  | K + 1, n1, l2, i_3 =>
    if i_3 < (l.length : Int) then
    (idx l i_3).bind fun x8 =>
    (ref10_after N (⟨n1, l2⟩ : RegisterTq) x8).bind fun r9 =>
    ref10_register_L0 N l K r9.Day r9.Slings (w64 (i_3 + 1))
    else
    some (n1, l2)
def ref10_register (N : Nat) (l : List EventT) : Option RegisterTq :=
  (ref10_register_L0 N l N 0 ([] : List SlingT) 0).bind fun (n4, l5) =>
  some (⟨n4, l5⟩ : RegisterTq)
theorem ref10_register_ok (N : Nat) (l : List EventT) {res : RegisterTq} (h : ref10_register N l = some res) : CallOK Tryz.prog (.fn 84) [vl encEventT l] [] (.agg [.i res.Day, vl encSlingT res.Slings]) [] := by
  unfold ref10_register at h
  refine Goes.fnW Tryz.func84 rfl rfl (m := 18) rfl (rs := [.cell 2 37]) rfl (l := [(0, vl encEventT l)]) rfl ?_
  refine sq ?_
  refine Goes.rg fol [(0, vl encEventT l), (2, .ptr 0 0)] [.cells [.i 0, .nilslice]] ?_
  refine sq ?_
  refine Goes.rg fol [(0, vl encEventT l), (2, .ptr 0 0), (3, .ptr 1 0)] [.cells [.i 0, .nilslice], .cells [.i 0, .nilslice]] ?_
  refine sq ?_
  refine sq ?_
  refine Goes.rg fol [(0, vl encEventT l), (2, .ptr 0 0), (3, .ptr 1 0), (4, .i 0)] [.cells [.i 0, .nilslice], .cells [.i 0, .nilslice]] ?_
  refine Goes.block ?_
  obtain ⟨r6, g6, h⟩ := bnd h
  refine Goes.imp (Q := fun x s' => (x = .exit 0 ∧ ∃ n4 l5, (n4, l5) = r6 ∧ Sub s' (ofG 18 [(2, .ptr 0 0), (3, .ptr 1 0)], [.cells [.i 0, .nilslice], .cells [.i n4, vl encSlingT l5]]))) ?_ ?_
  · refine Goes.sub (s' := (ofG 18 [(0, vl encEventT l), (2, .ptr 0 0), (3, .ptr 1 0), (4, .i 0)], [.cells [.i 0, .nilslice], .cells [.i 0, vl encSlingT ([] : List SlingT)]])) (Sub.norm [] [some 0, some 1] rfl rfl (.keep (.same (vl_noRef encEventT _)) (.keep (.ptr rfl) (.keep (.ptr rfl) (.keep (.same (NoRef.int _ _)) .nil)))) (.keep rfl (.same (AllN.cons (NoRef.int _ _) (AllN.cons (NoRef.nilslice) AllN.nil))) rfl rfl (.keep rfl (.cells (RenL.cons (.same (NoRef.int _ _)) (RenL.cons (.nilv) RenL.nil))) rfl rfl .nil))) ?_
    refine Goes.loopS (fun M s => ∃ (n1 : Int) (l2 : List SlingT) (i_3 : Int), s = (ofG 18 [(0, vl encEventT l), (2, .ptr 0 0), (3, .ptr 1 0), (4, .i i_3)], [.cells [.i 0, .nilslice], .cells [.i n1, vl encSlingT l2]]) ∧ ref10_register_L0 N l M n1 l2 i_3 = some r6) ?_ (m := N) ⟨_, _, _, rfl, g6⟩
    rintro M s ⟨n1, l2, i_3, rfl, g6⟩
    cases M with
    | zero => simp only [ref10_register_L0] at g6; cases g6
    | succ M =>
      rw [ref10_register_L0] at g6
      refine sq ?_
      refine sq ?_
      refine Goes.rg fol [(0, vl encEventT l), (2, .ptr 0 0), (3, .ptr 1 0), (4, .i i_3), (8, .bool (decide (i_3 < (l.length : Int))))] [.cells [.i 0, .nilslice], .cells [.i n1, vl encSlingT l2]] ?_
      refine Goes.ifB (b := decide (i_3 < (l.length : Int))) (by kernel_rfl) (fun c7 => ?_) (fun c7 => ?_)
      · rw [if_pos (ot c7)] at g6
        refine Goes.skip ?_
        refine sq ?_
        refine Goes.block ?_
        obtain ⟨x8, e_x8, g6⟩ := bnd g6
        obtain ⟨r9, e_r9, g6⟩ := bnd g6
        refine Goes.ro fol [(3, (.done (.fptr (l.flatMap encEventT.c) ((i_3 : Int).toNat * 5 + 0)))), (4, (.done (.agg [.i x8.Number, .str x8.Kind, vl encS x8.Names, vl encI x8.Values, .str x8.Text]))), (5, (.call [] [.agg [.i n1, vl encSlingT l2], .agg [.i x8.Number, .str x8.Kind, vl encS x8.Names, vl encI x8.Values, .str x8.Text]] (.agg [.i r9.Day, vl encSlingT r9.Slings])))] [(0, vl encEventT l), (2, .ptr 0 0), (3, .ptr 1 0), (4, .i i_3)] [.cells [.i 0, .nilslice], .cells [.i r9.Day, vl encSlingT r9.Slings]] [.done (.opt (aIndexAddr Tryz.prog 22 (vl encEventT l) (.i i_3))) (.fptr (l.flatMap encEventT.c) ((i_3 : Int).toNat * 5 + 0)), .done (aLoad Tryz.prog 26 (.fptr (l.flatMap encEventT.c) ((i_3 : Int).toNat * 5 + 0))) (.agg [.i x8.Number, .str x8.Kind, vl encS x8.Names, vl encI x8.Values, .str x8.Text]), .call 140 [.agg [.i n1, vl encSlingT l2], .agg [.i x8.Number, .str x8.Kind, vl encS x8.Names, vl encI x8.Values, .str x8.Text]] [.cells [.i 0, .nilslice], .cells [.i n1, vl encSlingT l2]] [] [.agg [.i n1, vl encSlingT l2], .agg [.i x8.Number, .str x8.Kind, vl encS x8.Names, vl encI x8.Values, .str x8.Text]] (.agg [.i r9.Day, vl encSlingT r9.Slings])] (And.intro (ix_vl sl22 (E := encEventT) rfl e_x8) (And.intro (ld_ag ag26 (E := encEventT) rfl e_x8) (And.intro (call_val (AllST.cons (Still.agg (AllST.cons (Still.int 10 _ _) (AllST.cons (vl_still encSlingT _ (Nat.le_of_ble_eq_true rfl)) AllST.nil))) (AllST.cons (Still.agg (AllST.cons (Still.int 10 _ _) (AllST.cons (Still.str 10 _) (AllST.cons (vl_still encS _ (Nat.le_of_ble_eq_true rfl)) (AllST.cons (vl_still encI _ (Nat.le_of_ble_eq_true rfl)) (AllST.cons (Still.str 10 _) AllST.nil)))))) AllST.nil)) (ref10_after_ok N (⟨n1, l2⟩ : RegisterTq) x8 e_r9) (Still.agg (AllST.cons (Still.int 10 _ _) (AllST.cons (vl_still encSlingT _ (Nat.le_of_ble_eq_true rfl)) AllST.nil)))) trivial))) ?_
        refine Goes.rg fol [(0, vl encEventT l), (2, .ptr 0 0), (3, .ptr 1 0), (4, .i (w64 (i_3 + 1)))] [.cells [.i 0, .nilslice], .cells [.i r9.Day, vl encSlingT r9.Slings]] ?_
        exact ⟨M, (ofG 18 [(0, vl encEventT l), (2, .ptr 0 0), (3, .ptr 1 0), (4, .i (w64 (i_3 + 1)))], [.cells [.i 0, .nilslice], .cells [.i r9.Day, vl encSlingT r9.Slings]]), Nat.lt_succ_self _, (Sub.refl _), _, _, _, rfl, g6⟩
      · rw [if_neg (of_ c7)] at g6
        refine Goes.exit ?_
        obtain rfl := Option.some.inj g6
        exact ⟨rfl, _, _, rfl, (Sub.keep [2, 3] rfl rfl)⟩
  rintro x s' ⟨rfl, n4, l5, rfl, hsub⟩
  try dsimp only at h
  refine Goes.sub hsub ?_
  refine sq ?_
  refine Goes.rg fol [(2, .ptr 0 0)] [.cells [.i n4, vl encSlingT l5], .cells [.i n4, vl encSlingT l5]] ?_
  refine Goes.ret ?_
  obtain rfl := Option.some.inj h
  exact (Goes.retW (xs := [.agg [.i n4, vl encSlingT l5]]) (by kernel_rfl) (FzW.agg (FzLW.cons (FzW.still (Still.int 10 _ _)) (FzLW.cons (FzW.still (vl_still encSlingT _ (Nat.le_of_ble_eq_true rfl))) FzLW.nil))))
def ref10_At_L0 (r : RegisterTq) (name : Str) : Nat → Int → Option (Unit ⊕ Int)
  | 0, _ => none
  | K + 1, i_1 =>
    if i_1 < (r.Slings.length : Int) then
    (idx r.Slings i_1).bind fun x5 =>
    if (x5.Name == name) = true then
    some (.inr i_1)
    else
    ref10_At_L0 r name K (w64 (i_1 + 1))
    else
    some (.inl ())
def ref10_At (N : Nat) (r : RegisterTq) (name : Str) : Option Int :=
  (ref10_At_L0 r name N 0).bind (fun
  | (.inl ()) =>
  some (-1)
  | (.inr q7) =>
  some q7)
theorem ref10_At_ok (N : Nat) (r : RegisterTq) (name : Str) {res : Int} (h : ref10_At N r name = some res) : CallOK Tryz.prog (.fn 27) [.agg [.i r.Day, vl encSlingT r.Slings], .str name] [] (.i res) [] := by
  unfold ref10_At at h
  refine Goes.fnW Tryz.func27 rfl rfl (m := 22) rfl (rs := [.tmp 4]) rfl (l := [(0, .agg [.i r.Day, vl encSlingT r.Slings]), (1, .str name)]) rfl ?_
  refine sq ?_
  refine Goes.rg fol [(1, .str name), (2, .ptr 0 0)] [.cells [.i r.Day, vl encSlingT r.Slings]] ?_
  refine sq ?_
  refine sq ?_
  refine Goes.rg fol [(1, .str name), (2, .ptr 0 0), (5, .i 0)] [.cells [.i r.Day, vl encSlingT r.Slings]] ?_
  refine Goes.block ?_
  obtain ⟨r2, g2, h⟩ := bnd h
  refine Goes.imp (Q := fun x s' => (x = .exit 0 ∧ (.inl ()) = r2 ∧ Sub s' (ofG 22 [], [])) ∨ (x = .ret ∧ ∃ q3, (.inr q3) = r2 ∧ returnsW Tryz.prog [.tmp 4] (.i q3) .ret s')) ?_ ?_
  · refine Goes.loopS (fun M s => ∃ (i_1 : Int), s = (ofG 22 [(1, .str name), (2, .ptr 0 0), (5, .i i_1)], [.cells [.i r.Day, vl encSlingT r.Slings]]) ∧ ref10_At_L0 r name M i_1 = some r2) ?_ (m := N) ⟨_, rfl, g2⟩
    rintro M s ⟨i_1, rfl, g2⟩
    cases M with
    | zero => simp only [ref10_At_L0] at g2; cases g2
    | succ M =>
      rw [ref10_At_L0] at g2
      refine sq ?_
      refine sq ?_
      refine Goes.rg fol [(1, .str name), (2, .ptr 0 0), (5, .i i_1), (10, .bool (decide (i_1 < (r.Slings.length : Int))))] [.cells [.i r.Day, vl encSlingT r.Slings]] ?_
      refine Goes.ifB (b := decide (i_1 < (r.Slings.length : Int))) (by kernel_rfl) (fun c4 => ?_) (fun c4 => ?_)
      · rw [if_pos (ot c4)] at g2
        refine Goes.skip ?_
        refine sq ?_
        refine Goes.block ?_
        refine sq ?_
        obtain ⟨x5, e_x5, g2⟩ := bnd g2
        refine Goes.ro fol [(3, (.done (.fptr (r.Slings.flatMap encSlingT.c) ((i_1 : Int).toNat * 9 + 0)))), (5, (.done (.str x5.Name)))] [(1, .str name), (2, .ptr 0 0), (5, .i i_1), (20, .bool (x5.Name == name))] [.cells [.i r.Day, vl encSlingT r.Slings]] [.done (.opt (aIndexAddr Tryz.prog 35 (vl encSlingT r.Slings) (.i i_1))) (.fptr (r.Slings.flatMap encSlingT.c) ((i_1 : Int).toNat * 9 + 0)), .done (aLoad Tryz.prog 9 (.fptr (r.Slings.flatMap encSlingT.c) ((i_1 : Int).toNat * 9 + 0))) (.str x5.Name)] (And.intro (ix_vl sl35 (E := encSlingT) rfl e_x5) (And.intro (ld_vl ce9 (E := encSlingT) rfl e_x5 (Nat.le_of_ble_eq_true rfl) rfl) trivial)) ?_
        refine Goes.ifB (b := x5.Name == name) (by kernel_rfl) (fun c6 => ?_) (fun c6 => ?_)
        · rw [if_pos (c6)] at g2
          refine sq ?_
          refine Goes.rg fol [(4, .i i_1)] [.cells [.i r.Day, vl encSlingT r.Slings]] ?_
          refine Goes.ret ?_
          obtain rfl := Option.some.inj g2
          exact Or.inr (⟨rfl, _, rfl, (Goes.retW (xs := [.i i_1]) (by kernel_rfl) (FzW.still (Still.int 11 _ _)))⟩)
        · rw [if_neg (by rw [c6]; exact Bool.false_ne_true)] at g2
          refine Goes.skip ?_
          refine Goes.rg fol [(1, .str name), (2, .ptr 0 0), (5, .i (w64 (i_1 + 1)))] [.cells [.i r.Day, vl encSlingT r.Slings]] ?_
          exact ⟨M, (ofG 22 [(1, .str name), (2, .ptr 0 0), (5, .i (w64 (i_1 + 1)))], [.cells [.i r.Day, vl encSlingT r.Slings]]), Nat.lt_succ_self _, (Sub.refl _), _, rfl, g2⟩
      · rw [if_neg (of_ c4)] at g2
        refine Goes.exit ?_
        obtain rfl := Option.some.inj g2
        exact Or.inl (⟨rfl, rfl, (Sub.norm [] [] rfl rfl .nil .nil)⟩)
  rintro x s' (⟨rfl, rfl, hsub⟩ | ⟨rfl, q7, rfl, hret⟩)
  · try dsimp only at h
    refine Goes.sub hsub ?_
    refine sq ?_
    refine Goes.rg fol [(4, .i (-1))] [] ?_
    refine Goes.ret ?_
    obtain rfl := Option.some.inj h
    exact (Goes.retW (xs := [.i (-1)]) (by kernel_rfl) (FzW.still (Still.int 11 _ _)))
  · try dsimp only at h
    obtain rfl := Option.some.inj h
    exact hret
def ref10_Retired (s_ : SlingT) (day : Int) : Option Bool :=
  (if s_.Gone = true then
  some true
  else
  if day > s_.Last then
  some true
  else
  some (decide (s_.Used = s_.Uses)) : Option Bool).bind fun b3 =>
  some b3
theorem ref10_Retired_ok (s_ : SlingT) (day : Int) {res : Bool} (h : ref10_Retired s_ day = some res) : CallOK Tryz.prog (.fn 33) [.agg [.str s_.Name, .str s_.Batch, .i s_.Born, .i s_.Last, .i s_.Uses, .i s_.Used, .i s_.Limit, .i s_.Until, .bool s_.Gone], .i day] [] (.bool res) [] := by
  unfold ref10_Retired at h
  refine Goes.fnW Tryz.func33 rfl rfl (m := 20) rfl (rs := [.tmp 4]) rfl (l := [(0, .agg [.str s_.Name, .str s_.Batch, .i s_.Born, .i s_.Last, .i s_.Uses, .i s_.Used, .i s_.Limit, .i s_.Until, .bool s_.Gone]), (1, .i day)]) rfl ?_
  refine sq ?_
  refine Goes.rg fol [(1, .i day), (2, .ptr 0 0)] [.cells [.str s_.Name, .str s_.Batch, .i s_.Born, .i s_.Last, .i s_.Uses, .i s_.Used, .i s_.Limit, .i s_.Until, .bool s_.Gone]] ?_
  refine sq ?_
  obtain ⟨b3, g_v4, h⟩ := bnd h
  refine Goes.cut (s' := (ofG 20 [(4, .bool b3)], [.cells [.str s_.Name, .str s_.Batch, .i s_.Born, .i s_.Last, .i s_.Uses, .i s_.Used, .i s_.Limit, .i s_.Until, .bool s_.Gone]])) ?_ ?_
  · rcases Bool.eq_false_or_eq_true (s_.Gone) with c1 | c1
    · rw [if_pos (c1)] at g_v4
      obtain rfl := Option.some.inj g_v4
      exact RegTo.ro fol [(2, (.done (.bool true)))] [(4, .bool true)] [.cells [.str s_.Name, .str s_.Batch, .i s_.Born, .i s_.Last, .i s_.Uses, .i s_.Used, .i s_.Limit, .i s_.Until, .bool s_.Gone]] [.done (.done (.bool s_.Gone)) (.bool true)] (And.intro (congrArg (fun x => Pg.done (.bool x)) c1) trivial)
    · rw [if_neg (by rw [c1]; exact Bool.false_ne_true)] at g_v4
      rcases Bool.eq_false_or_eq_true (decide (day > s_.Last)) with c2 | c2
      · rw [if_pos (ot c2)] at g_v4
        obtain rfl := Option.some.inj g_v4
        exact RegTo.ro fol [(2, (.done (.bool false))), (8, (.done (.bool true)))] [(4, .bool true)] [.cells [.str s_.Name, .str s_.Batch, .i s_.Born, .i s_.Last, .i s_.Uses, .i s_.Used, .i s_.Limit, .i s_.Until, .bool s_.Gone]] [.done (.done (.bool s_.Gone)) (.bool false), .done (.done (.bool (decide (day > s_.Last)))) (.bool true)] (And.intro (congrArg (fun x => Pg.done (.bool x)) c1) (And.intro (congrArg (fun x => Pg.done (.bool x)) c2) trivial))
      · rw [if_neg (of_ c2)] at g_v4
        obtain rfl := Option.some.inj g_v4
        exact RegTo.ro fol [(2, (.done (.bool false))), (8, (.done (.bool false)))] [(4, .bool (decide (s_.Used = s_.Uses)))] [.cells [.str s_.Name, .str s_.Batch, .i s_.Born, .i s_.Last, .i s_.Uses, .i s_.Used, .i s_.Limit, .i s_.Until, .bool s_.Gone]] [.done (.done (.bool s_.Gone)) (.bool false), .done (.done (.bool (decide (day > s_.Last)))) (.bool false)] (And.intro (congrArg (fun x => Pg.done (.bool x)) c1) (And.intro (congrArg (fun x => Pg.done (.bool x)) c2) trivial))
  refine Goes.ret ?_
  obtain rfl := Option.some.inj h
  exact (Goes.retW (xs := [.bool b3]) (by kernel_rfl) (FzW.still (Still.bool 11 _)))
def ref10_Holds (s_ : SlingT) (day : Int) : Option Bool :=
  (if s_.Limit > 0 then
  some (decide (day ≤ s_.Until))
  else
  some false : Option Bool).bind fun b2 =>
  some b2
theorem ref10_Holds_ok (s_ : SlingT) (day : Int) {res : Bool} (h : ref10_Holds s_ day = some res) : CallOK Tryz.prog (.fn 34) [.agg [.str s_.Name, .str s_.Batch, .i s_.Born, .i s_.Last, .i s_.Uses, .i s_.Used, .i s_.Limit, .i s_.Until, .bool s_.Gone], .i day] [] (.bool res) [] := by
  unfold ref10_Holds at h
  refine Goes.fnW Tryz.func34 rfl rfl (m := 14) rfl (rs := [.tmp 4]) rfl (l := [(0, .agg [.str s_.Name, .str s_.Batch, .i s_.Born, .i s_.Last, .i s_.Uses, .i s_.Used, .i s_.Limit, .i s_.Until, .bool s_.Gone]), (1, .i day)]) rfl ?_
  refine sq ?_
  refine Goes.rg fol [(1, .i day), (2, .ptr 0 0)] [.cells [.str s_.Name, .str s_.Batch, .i s_.Born, .i s_.Last, .i s_.Uses, .i s_.Used, .i s_.Limit, .i s_.Until, .bool s_.Gone]] ?_
  refine sq ?_
  obtain ⟨b2, g_v3, h⟩ := bnd h
  refine Goes.cut (s' := (ofG 14 [(4, .bool b2)], [.cells [.str s_.Name, .str s_.Batch, .i s_.Born, .i s_.Last, .i s_.Uses, .i s_.Used, .i s_.Limit, .i s_.Until, .bool s_.Gone]])) ?_ ?_
  · rcases Bool.eq_false_or_eq_true (decide (s_.Limit > 0)) with c1 | c1
    · rw [if_pos (ot c1)] at g_v3
      obtain rfl := Option.some.inj g_v3
      exact RegTo.ro fol [(3, (.done (.bool true)))] [(4, .bool (decide (day ≤ s_.Until)))] [.cells [.str s_.Name, .str s_.Batch, .i s_.Born, .i s_.Last, .i s_.Uses, .i s_.Used, .i s_.Limit, .i s_.Until, .bool s_.Gone]] [.done (.done (.bool (decide (s_.Limit > 0)))) (.bool true)] (And.intro (congrArg (fun x => Pg.done (.bool x)) c1) trivial)
    · rw [if_neg (of_ c1)] at g_v3
      obtain rfl := Option.some.inj g_v3
      exact RegTo.ro fol [(3, (.done (.bool false)))] [(4, .bool false)] [.cells [.str s_.Name, .str s_.Batch, .i s_.Born, .i s_.Last, .i s_.Uses, .i s_.Used, .i s_.Limit, .i s_.Until, .bool s_.Gone]] [.done (.done (.bool (decide (s_.Limit > 0)))) (.bool false)] (And.intro (congrArg (fun x => Pg.done (.bool x)) c1) trivial)
  refine Goes.ret ?_
  obtain rfl := Option.some.inj h
  exact (Goes.retW (xs := [.bool b2]) (by kernel_rfl) (FzW.still (Still.bool 11 _)))
def ref10_refused_L0 (r : RegisterTq) (e : EventT) (x1 : Int) : Nat → Bool → Bool → Int → Option (Bool × Bool)
  | 0, _, _, _ => none
  | K + 1, some_19, open__20, i_21 =>
    if i_21 < (r.Slings.length : Int) then
    (((idx r.Slings i_21).bind fun x29 =>
    (idx e.Names 0).bind fun x30 =>
    if (x29.Batch == x30) = true then
    (if open__20 = true then
    some true
    else
    (ref10_Retired x29 x1).bind fun r33 =>
    some (!r33) : Option Bool).bind fun open__34 =>
    some (true, open__34)
    else
    some (some_19, open__20) : Option (Bool × Bool))).bind fun (some_26, open__27) =>
    ref10_refused_L0 r e x1 K some_26 open__27 (w64 (i_21 + 1))
    else
    some (some_19, open__20)
def ref10_refused (N : Nat) (r : RegisterTq) (e : EventT) : Option Int :=
  (idx e.Values 0).bind fun x1 =>
  if x1 > 99999 then
  some 3
  else
  if x1 < r.Day then
  some 19
  else
  (idx e.Names 0).bind fun x4 =>
  (ref10_At N r x4).bind fun r5 =>
  if (e.Kind == [109, 97, 107, 101]) = true then
  if r5 ≥ 0 then
  some 9
  else
  ((idx e.Values 1).bind fun x8 =>
  (ref10_Outside x8 1 9999).bind fun r9 =>
  if r9 = true then
  some true
  else
  (idx e.Values 2).bind fun x11 =>
  (ref10_Outside x11 1 9999).bind fun r12 =>
  if r12 = true then
  some true
  else
  some (decide ((w64 (x1 + x8)) > 99999)) : Option Bool).bind fun b14 =>
  if b14 = true then
  some 3
  else
  if (r.Slings.length : Int) ≥ 256 then
  some 5
  else
  some 0
  else
  if (e.Kind == [114, 101, 99, 97, 108, 108]) = true then
  (ref10_refused_L0 r e x1 N false false 0).bind fun (some_22, open__23) =>
  if (!some_22) = true then
  some 10
  else
  if (!open__23) = true then
  some 20
  else
  some 0
  else
  if r5 < 0 then
  some 10
  else
  (idx r.Slings r5).bind fun x39 =>
  (ref10_Retired x39 x1).bind fun r40 =>
  if r40 = true then
  some 20
  else
  (if (e.Kind == [116, 101, 115, 116]) = true then
  (idx e.Values 1).bind fun x43 =>
  (ref10_Outside x43 2 999999999).bind fun r44 =>
  some r44
  else
  some false : Option Bool).bind fun b45 =>
  if b45 = true then
  some 3
  else
  ((if (e.Kind == [117, 115, 101]) = true then
  (ref10_Holds x39 x1).bind fun r51 =>
  if (!r51) = true then
  some (.inr 24)
  else
  (idx e.Values 1).bind fun x53 =>
  if x53 > x39.Limit then
  some (.inr 31)
  else
  some (.inl ())
  else
  some (.inl ()) : Option (Unit ⊕ Int))).bind (fun
  | (.inl ()) =>
  some 0
  | (.inr q55) =>
  some q55)
theorem ref10_refused_ok (N : Nat) (r : RegisterTq) (e : EventT) {res : Int} (h : ref10_refused N r e = some res) : CallOK Tryz.prog (.fn 139) [.agg [.i r.Day, vl encSlingT r.Slings], .agg [.i e.Number, .str e.Kind, vl encS e.Names, vl encI e.Values, .str e.Text]] [] (.i res) [] := by
  unfold ref10_refused at h
  refine Goes.fnW Tryz.func139 rfl rfl (m := 127) rfl (rs := [.tmp 4]) rfl (l := [(0, .agg [.i r.Day, vl encSlingT r.Slings]), (1, .agg [.i e.Number, .str e.Kind, vl encS e.Names, vl encI e.Values, .str e.Text])]) rfl ?_
  refine sq ?_
  refine Goes.rg fol [(2, .ptr 0 0), (3, .ptr 1 0)] [.cells [.i r.Day, vl encSlingT r.Slings], .cells [.i e.Number, .str e.Kind, vl encS e.Names, vl encI e.Values, .str e.Text]] ?_
  refine sq ?_
  obtain ⟨x1, e_x1, h⟩ := bnd h
  refine Goes.ro fol [(2, (.done (.fptr (e.Values.flatMap encI.c) ((0 : Int).toNat * 1 + 0)))), (3, (.done (.i x1)))] [(2, .ptr 0 0), (3, .ptr 1 0), (5, .i x1)] [.cells [.i r.Day, vl encSlingT r.Slings], .cells [.i e.Number, .str e.Kind, vl encS e.Names, vl encI e.Values, .str e.Text]] [.done (.opt (aIndexAddr Tryz.prog 24 (vl encI e.Values) (.i 0))) (.fptr (e.Values.flatMap encI.c) ((0 : Int).toNat * 1 + 0)), .done (aLoad Tryz.prog 3 (.fptr (e.Values.flatMap encI.c) ((0 : Int).toNat * 1 + 0))) (.i x1)] (And.intro (ix_vl sl24 (E := encI) rfl e_x1) (And.intro (ld_vl ce3 (E := encI) rfl e_x1 (Nat.le_of_ble_eq_true rfl) rfl) trivial)) ?_
  refine sq ?_
  refine sq ?_
  refine Goes.rg fol [(2, .ptr 0 0), (3, .ptr 1 0), (5, .i x1), (16, .bool (decide (x1 > 99999)))] [.cells [.i r.Day, vl encSlingT r.Slings], .cells [.i e.Number, .str e.Kind, vl encS e.Names, vl encI e.Values, .str e.Text]] ?_
  refine Goes.ifB (b := decide (x1 > 99999)) (by kernel_rfl) (fun c2 => ?_) (fun c2 => ?_)
  · rw [if_pos (ot c2)] at h
    refine sq ?_
    refine Goes.rg fol [(4, .i 3)] [.cells [.i r.Day, vl encSlingT r.Slings], .cells [.i e.Number, .str e.Kind, vl encS e.Names, vl encI e.Values, .str e.Text]] ?_
    refine Goes.ret ?_
    obtain rfl := Option.some.inj h
    exact (Goes.retW (xs := [.i 3]) (by kernel_rfl) (FzW.still (Still.int 11 _ _)))
  · rw [if_neg (of_ c2)] at h
    refine Goes.skip ?_
    refine sq ?_
    refine sq ?_
    refine Goes.rg fol [(2, .ptr 0 0), (3, .ptr 1 0), (5, .i x1), (20, .bool (decide (x1 < r.Day)))] [.cells [.i r.Day, vl encSlingT r.Slings], .cells [.i e.Number, .str e.Kind, vl encS e.Names, vl encI e.Values, .str e.Text]] ?_
    refine Goes.ifB (b := decide (x1 < r.Day)) (by kernel_rfl) (fun c3 => ?_) (fun c3 => ?_)
    · rw [if_pos (ot c3)] at h
      refine sq ?_
      refine Goes.rg fol [(4, .i 19)] [.cells [.i r.Day, vl encSlingT r.Slings], .cells [.i e.Number, .str e.Kind, vl encS e.Names, vl encI e.Values, .str e.Text]] ?_
      refine Goes.ret ?_
      obtain rfl := Option.some.inj h
      exact (Goes.retW (xs := [.i 19]) (by kernel_rfl) (FzW.still (Still.int 11 _ _)))
    · rw [if_neg (of_ c3)] at h
      refine Goes.skip ?_
      refine sq ?_
      obtain ⟨x4, e_x4, h⟩ := bnd h
      obtain ⟨r5, e_r5, h⟩ := bnd h
      refine Goes.ro fol [(3, (.done (.fptr (e.Names.flatMap encS.c) ((0 : Int).toNat * 1 + 0)))), (4, (.done (.str x4))), (5, (.call [] [.agg [.i r.Day, vl encSlingT r.Slings], .str x4] (.i r5)))] [(2, .ptr 0 0), (3, .ptr 1 0), (5, .i x1), (6, .i r5)] [.cells [.i r.Day, vl encSlingT r.Slings], .cells [.i e.Number, .str e.Kind, vl encS e.Names, vl encI e.Values, .str e.Text]] [.done (.opt (aIndexAddr Tryz.prog 23 (vl encS e.Names) (.i 0))) (.fptr (e.Names.flatMap encS.c) ((0 : Int).toNat * 1 + 0)), .done (aLoad Tryz.prog 9 (.fptr (e.Names.flatMap encS.c) ((0 : Int).toNat * 1 + 0))) (.str x4), .call 27 [.agg [.i r.Day, vl encSlingT r.Slings], .str x4] [.cells [.i r.Day, vl encSlingT r.Slings], .cells [.i e.Number, .str e.Kind, vl encS e.Names, vl encI e.Values, .str e.Text]] [] [.agg [.i r.Day, vl encSlingT r.Slings], .str x4] (.i r5)] (And.intro (ix_vl sl23 (E := encS) rfl e_x4) (And.intro (ld_vl ce9 (E := encS) rfl e_x4 (Nat.le_of_ble_eq_true rfl) rfl) (And.intro (call_val (AllST.cons (Still.agg (AllST.cons (Still.int 10 _ _) (AllST.cons (vl_still encSlingT _ (Nat.le_of_ble_eq_true rfl)) AllST.nil))) (AllST.cons (Still.str 11 _) AllST.nil)) (ref10_At_ok N r x4 e_r5) (Still.int 11 _ _)) trivial))) ?_
      refine sq ?_
      refine sq ?_
      refine Goes.rg fol [(2, .ptr 0 0), (3, .ptr 1 0), (5, .i x1), (6, .i r5), (28, .str e.Kind)] [.cells [.i r.Day, vl encSlingT r.Slings], .cells [.i e.Number, .str e.Kind, vl encS e.Names, vl encI e.Values, .str e.Text]] ?_
      refine Goes.block ?_
      refine sq ?_
      refine Goes.rg fol [(2, .ptr 0 0), (3, .ptr 1 0), (5, .i x1), (6, .i r5), (28, .str e.Kind), (29, .bool (e.Kind == [109, 97, 107, 101]))] [.cells [.i r.Day, vl encSlingT r.Slings], .cells [.i e.Number, .str e.Kind, vl encS e.Names, vl encI e.Values, .str e.Text]] ?_
      refine Goes.ifB (b := e.Kind == [109, 97, 107, 101]) (by kernel_rfl) (fun c6 => ?_) (fun c6 => ?_)
      · rw [if_pos (c6)] at h
        refine sq ?_
        refine sq ?_
        refine Goes.rg fol [(2, .ptr 0 0), (3, .ptr 1 0), (5, .i x1), (32, .bool (decide (r5 ≥ 0)))] [.cells [.i r.Day, vl encSlingT r.Slings], .cells [.i e.Number, .str e.Kind, vl encS e.Names, vl encI e.Values, .str e.Text]] ?_
        refine Goes.ifB (b := decide (r5 ≥ 0)) (by kernel_rfl) (fun c7 => ?_) (fun c7 => ?_)
        · rw [if_pos (ot c7)] at h
          refine sq ?_
          refine Goes.rg fol [(4, .i 9)] [.cells [.i r.Day, vl encSlingT r.Slings], .cells [.i e.Number, .str e.Kind, vl encS e.Names, vl encI e.Values, .str e.Text]] ?_
          refine Goes.ret ?_
          obtain rfl := Option.some.inj h
          exact (Goes.retW (xs := [.i 9]) (by kernel_rfl) (FzW.still (Still.int 11 _ _)))
        · rw [if_neg (of_ c7)] at h
          refine Goes.skip ?_
          refine sq ?_
          refine sq ?_
          obtain ⟨b14, g_v15, h⟩ := bnd h
          refine Goes.cut (s' := (ofG 127 [(2, .ptr 0 0), (53, .bool b14)], [.cells [.i r.Day, vl encSlingT r.Slings], .cells [.i e.Number, .str e.Kind, vl encS e.Names, vl encI e.Values, .str e.Text]])) ?_ ?_
          · obtain ⟨x8, e_x8, g_v15⟩ := bnd g_v15
            obtain ⟨r9, e_r9, g_v15⟩ := bnd g_v15
            rcases Bool.eq_false_or_eq_true (r9) with c10 | c10
            · rw [if_pos (c10)] at g_v15
              obtain rfl := Option.some.inj g_v15
              exact RegTo.ro fol [(2, (.done (.fptr (e.Values.flatMap encI.c) ((1 : Int).toNat * 1 + 0)))), (3, (.done (.i x8))), (4, (.call [] [.i x8, .i 1, .i 9999] (.bool r9))), (5, (.done (.bool true)))] [(2, .ptr 0 0), (53, .bool true)] [.cells [.i r.Day, vl encSlingT r.Slings], .cells [.i e.Number, .str e.Kind, vl encS e.Names, vl encI e.Values, .str e.Text]] [.done (.opt (aIndexAddr Tryz.prog 24 (vl encI e.Values) (.i 1))) (.fptr (e.Values.flatMap encI.c) ((1 : Int).toNat * 1 + 0)), .done (aLoad Tryz.prog 3 (.fptr (e.Values.flatMap encI.c) ((1 : Int).toNat * 1 + 0))) (.i x8), .call 36 [.i x8, .i 1, .i 9999] [.cells [.i r.Day, vl encSlingT r.Slings], .cells [.i e.Number, .str e.Kind, vl encS e.Names, vl encI e.Values, .str e.Text]] [] [.i x8, .i 1, .i 9999] (.bool r9), .done (.done (.bool r9)) (.bool true)] (And.intro (ix_vl sl24 (E := encI) rfl e_x8) (And.intro (ld_vl ce3 (E := encI) rfl e_x8 (Nat.le_of_ble_eq_true rfl) rfl) (And.intro (call_val (AllST.cons (Still.int 11 _ _) (AllST.cons (Still.int 11 _ _) (AllST.cons (Still.int 11 _ _) AllST.nil))) (ref10_Outside_ok x8 1 9999 e_r9) (Still.bool 11 _)) (And.intro (congrArg (fun x => Pg.done (.bool x)) c10) trivial))))
            · rw [if_neg (by rw [c10]; exact Bool.false_ne_true)] at g_v15
              obtain ⟨x11, e_x11, g_v15⟩ := bnd g_v15
              obtain ⟨r12, e_r12, g_v15⟩ := bnd g_v15
              rcases Bool.eq_false_or_eq_true (r12) with c13 | c13
              · rw [if_pos (c13)] at g_v15
                obtain rfl := Option.some.inj g_v15
                exact RegTo.ro fol [(2, (.done (.fptr (e.Values.flatMap encI.c) ((1 : Int).toNat * 1 + 0)))), (3, (.done (.i x8))), (4, (.call [] [.i x8, .i 1, .i 9999] (.bool r9))), (5, (.done (.bool false))), (8, (.done (.fptr (e.Values.flatMap encI.c) ((2 : Int).toNat * 1 + 0)))), (9, (.done (.i x11))), (10, (.call [] [.i x11, .i 1, .i 9999] (.bool r12))), (12, (.done (.bool true)))] [(2, .ptr 0 0), (53, .bool true)] [.cells [.i r.Day, vl encSlingT r.Slings], .cells [.i e.Number, .str e.Kind, vl encS e.Names, vl encI e.Values, .str e.Text]] [.done (.opt (aIndexAddr Tryz.prog 24 (vl encI e.Values) (.i 1))) (.fptr (e.Values.flatMap encI.c) ((1 : Int).toNat * 1 + 0)), .done (aLoad Tryz.prog 3 (.fptr (e.Values.flatMap encI.c) ((1 : Int).toNat * 1 + 0))) (.i x8), .call 36 [.i x8, .i 1, .i 9999] [.cells [.i r.Day, vl encSlingT r.Slings], .cells [.i e.Number, .str e.Kind, vl encS e.Names, vl encI e.Values, .str e.Text]] [] [.i x8, .i 1, .i 9999] (.bool r9), .done (.done (.bool r9)) (.bool false), .done (.opt (aIndexAddr Tryz.prog 24 (vl encI e.Values) (.i 2))) (.fptr (e.Values.flatMap encI.c) ((2 : Int).toNat * 1 + 0)), .done (aLoad Tryz.prog 3 (.fptr (e.Values.flatMap encI.c) ((2 : Int).toNat * 1 + 0))) (.i x11), .call 36 [.i x11, .i 1, .i 9999] [.cells [.i r.Day, vl encSlingT r.Slings], .cells [.i e.Number, .str e.Kind, vl encS e.Names, vl encI e.Values, .str e.Text]] [] [.i x11, .i 1, .i 9999] (.bool r12), .done (.done (.bool r12)) (.bool true)] (And.intro (ix_vl sl24 (E := encI) rfl e_x8) (And.intro (ld_vl ce3 (E := encI) rfl e_x8 (Nat.le_of_ble_eq_true rfl) rfl) (And.intro (call_val (AllST.cons (Still.int 11 _ _) (AllST.cons (Still.int 11 _ _) (AllST.cons (Still.int 11 _ _) AllST.nil))) (ref10_Outside_ok x8 1 9999 e_r9) (Still.bool 11 _)) (And.intro (congrArg (fun x => Pg.done (.bool x)) c10) (And.intro (ix_vl sl24 (E := encI) rfl e_x11) (And.intro (ld_vl ce3 (E := encI) rfl e_x11 (Nat.le_of_ble_eq_true rfl) rfl) (And.intro (call_val (AllST.cons (Still.int 11 _ _) (AllST.cons (Still.int 11 _ _) (AllST.cons (Still.int 11 _ _) AllST.nil))) (ref10_Outside_ok x11 1 9999 e_r12) (Still.bool 11 _)) (And.intro (congrArg (fun x => Pg.done (.bool x)) c13) trivial))))))))
              · rw [if_neg (by rw [c13]; exact Bool.false_ne_true)] at g_v15
                obtain rfl := Option.some.inj g_v15
                exact RegTo.ro fol [(2, (.done (.fptr (e.Values.flatMap encI.c) ((1 : Int).toNat * 1 + 0)))), (3, (.done (.i x8))), (4, (.call [] [.i x8, .i 1, .i 9999] (.bool r9))), (5, (.done (.bool false))), (8, (.done (.fptr (e.Values.flatMap encI.c) ((2 : Int).toNat * 1 + 0)))), (9, (.done (.i x11))), (10, (.call [] [.i x11, .i 1, .i 9999] (.bool r12))), (12, (.done (.bool false))), (16, (.done (.fptr (e.Values.flatMap encI.c) ((1 : Int).toNat * 1 + 0)))), (17, (.done (.i x8)))] [(2, .ptr 0 0), (53, .bool (decide ((w64 (x1 + x8)) > 99999)))] [.cells [.i r.Day, vl encSlingT r.Slings], .cells [.i e.Number, .str e.Kind, vl encS e.Names, vl encI e.Values, .str e.Text]] [.done (.opt (aIndexAddr Tryz.prog 24 (vl encI e.Values) (.i 1))) (.fptr (e.Values.flatMap encI.c) ((1 : Int).toNat * 1 + 0)), .done (aLoad Tryz.prog 3 (.fptr (e.Values.flatMap encI.c) ((1 : Int).toNat * 1 + 0))) (.i x8), .call 36 [.i x8, .i 1, .i 9999] [.cells [.i r.Day, vl encSlingT r.Slings], .cells [.i e.Number, .str e.Kind, vl encS e.Names, vl encI e.Values, .str e.Text]] [] [.i x8, .i 1, .i 9999] (.bool r9), .done (.done (.bool r9)) (.bool false), .done (.opt (aIndexAddr Tryz.prog 24 (vl encI e.Values) (.i 2))) (.fptr (e.Values.flatMap encI.c) ((2 : Int).toNat * 1 + 0)), .done (aLoad Tryz.prog 3 (.fptr (e.Values.flatMap encI.c) ((2 : Int).toNat * 1 + 0))) (.i x11), .call 36 [.i x11, .i 1, .i 9999] [.cells [.i r.Day, vl encSlingT r.Slings], .cells [.i e.Number, .str e.Kind, vl encS e.Names, vl encI e.Values, .str e.Text]] [] [.i x11, .i 1, .i 9999] (.bool r12), .done (.done (.bool r12)) (.bool false), .done (.opt (aIndexAddr Tryz.prog 24 (vl encI e.Values) (.i 1))) (.fptr (e.Values.flatMap encI.c) ((1 : Int).toNat * 1 + 0)), .done (aLoad Tryz.prog 3 (.fptr (e.Values.flatMap encI.c) ((1 : Int).toNat * 1 + 0))) (.i x8)] (And.intro (ix_vl sl24 (E := encI) rfl e_x8) (And.intro (ld_vl ce3 (E := encI) rfl e_x8 (Nat.le_of_ble_eq_true rfl) rfl) (And.intro (call_val (AllST.cons (Still.int 11 _ _) (AllST.cons (Still.int 11 _ _) (AllST.cons (Still.int 11 _ _) AllST.nil))) (ref10_Outside_ok x8 1 9999 e_r9) (Still.bool 11 _)) (And.intro (congrArg (fun x => Pg.done (.bool x)) c10) (And.intro (ix_vl sl24 (E := encI) rfl e_x11) (And.intro (ld_vl ce3 (E := encI) rfl e_x11 (Nat.le_of_ble_eq_true rfl) rfl) (And.intro (call_val (AllST.cons (Still.int 11 _ _) (AllST.cons (Still.int 11 _ _) (AllST.cons (Still.int 11 _ _) AllST.nil))) (ref10_Outside_ok x11 1 9999 e_r12) (Still.bool 11 _)) (And.intro (congrArg (fun x => Pg.done (.bool x)) c13) (And.intro (ix_vl sl24 (E := encI) rfl e_x8) (And.intro (ld_vl ce3 (E := encI) rfl e_x8 (Nat.le_of_ble_eq_true rfl) rfl) trivial))))))))))
          refine Goes.ifB (b := b14) (by kernel_rfl) (fun c16 => ?_) (fun c16 => ?_)
          · rw [if_pos (c16)] at h
            refine sq ?_
            refine Goes.rg fol [(4, .i 3)] [.cells [.i r.Day, vl encSlingT r.Slings], .cells [.i e.Number, .str e.Kind, vl encS e.Names, vl encI e.Values, .str e.Text]] ?_
            refine Goes.ret ?_
            obtain rfl := Option.some.inj h
            exact (Goes.retW (xs := [.i 3]) (by kernel_rfl) (FzW.still (Still.int 11 _ _)))
          · rw [if_neg (by rw [c16]; exact Bool.false_ne_true)] at h
            refine Goes.skip ?_
            refine sq ?_
            refine sq ?_
            refine Goes.rg fol [(57, .bool (decide ((r.Slings.length : Int) ≥ 256)))] [.cells [.i r.Day, vl encSlingT r.Slings], .cells [.i e.Number, .str e.Kind, vl encS e.Names, vl encI e.Values, .str e.Text]] ?_
            refine Goes.ifB (b := decide ((r.Slings.length : Int) ≥ 256)) (by kernel_rfl) (fun c17 => ?_) (fun c17 => ?_)
            · rw [if_pos (ot c17)] at h
              refine sq ?_
              refine Goes.rg fol [(4, .i 5)] [.cells [.i r.Day, vl encSlingT r.Slings], .cells [.i e.Number, .str e.Kind, vl encS e.Names, vl encI e.Values, .str e.Text]] ?_
              refine Goes.ret ?_
              obtain rfl := Option.some.inj h
              exact (Goes.retW (xs := [.i 5]) (by kernel_rfl) (FzW.still (Still.int 11 _ _)))
            · rw [if_neg (of_ c17)] at h
              refine Goes.skip ?_
              refine sq ?_
              refine Goes.rg fol [(4, .i 0)] [.cells [.i r.Day, vl encSlingT r.Slings], .cells [.i e.Number, .str e.Kind, vl encS e.Names, vl encI e.Values, .str e.Text]] ?_
              refine Goes.ret ?_
              obtain rfl := Option.some.inj h
              exact (Goes.retW (xs := [.i 0]) (by kernel_rfl) (FzW.still (Still.int 11 _ _)))
      · rw [if_neg (by rw [c6]; exact Bool.false_ne_true)] at h
        refine sq ?_
        refine Goes.rg fol [(2, .ptr 0 0), (3, .ptr 1 0), (5, .i x1), (6, .i r5), (58, .bool (e.Kind == [114, 101, 99, 97, 108, 108]))] [.cells [.i r.Day, vl encSlingT r.Slings], .cells [.i e.Number, .str e.Kind, vl encS e.Names, vl encI e.Values, .str e.Text]] ?_
        refine Goes.ifB (b := e.Kind == [114, 101, 99, 97, 108, 108]) (by kernel_rfl) (fun c18 => ?_) (fun c18 => ?_)
        · rw [if_pos (c18)] at h
          refine sq ?_
          refine Goes.rg fol [(2, .ptr 0 0), (3, .ptr 1 0), (5, .i x1), (7, .bool false), (8, .bool false)] [.cells [.i r.Day, vl encSlingT r.Slings], .cells [.i e.Number, .str e.Kind, vl encS e.Names, vl encI e.Values, .str e.Text]] ?_
          refine sq ?_
          refine sq ?_
          refine Goes.rg fol [(2, .ptr 0 0), (3, .ptr 1 0), (5, .i x1), (7, .bool false), (8, .bool false), (9, .i 0)] [.cells [.i r.Day, vl encSlingT r.Slings], .cells [.i e.Number, .str e.Kind, vl encS e.Names, vl encI e.Values, .str e.Text]] ?_
          refine Goes.block ?_
          obtain ⟨r24, g24, h⟩ := bnd h
          refine Goes.imp (Q := fun x s' => (x = .exit 1 ∧ ∃ some_22 open__23, (some_22, open__23) = r24 ∧ Sub s' (ofG 127 [(7, .bool some_22), (8, .bool open__23)], []))) ?_ ?_
          · refine Goes.loopS (fun M s => ∃ (some_19 : Bool) (open__20 : Bool) (i_21 : Int), s = (ofG 127 [(2, .ptr 0 0), (3, .ptr 1 0), (5, .i x1), (7, .bool some_19), (8, .bool open__20), (9, .i i_21)], [.cells [.i r.Day, vl encSlingT r.Slings], .cells [.i e.Number, .str e.Kind, vl encS e.Names, vl encI e.Values, .str e.Text]]) ∧ ref10_refused_L0 r e x1 M some_19 open__20 i_21 = some r24) ?_ (m := N) ⟨_, _, _, rfl, g24⟩
            rintro M s ⟨some_19, open__20, i_21, rfl, g24⟩
            cases M with
            | zero => simp only [ref10_refused_L0] at g24; cases g24
            | succ M =>
              rw [ref10_refused_L0] at g24
              refine sq ?_
              refine sq ?_
              refine Goes.rg fol [(2, .ptr 0 0), (3, .ptr 1 0), (5, .i x1), (7, .bool some_19), (8, .bool open__20), (9, .i i_21), (64, .bool (decide (i_21 < (r.Slings.length : Int))))] [.cells [.i r.Day, vl encSlingT r.Slings], .cells [.i e.Number, .str e.Kind, vl encS e.Names, vl encI e.Values, .str e.Text]] ?_
              refine Goes.ifB (b := decide (i_21 < (r.Slings.length : Int))) (by kernel_rfl) (fun c25 => ?_) (fun c25 => ?_)
              · rw [if_pos (ot c25)] at g24
                refine Goes.skip ?_
                refine sq ?_
                obtain ⟨r28, g28, g24⟩ := bnd g24
                refine Goes.imp (Q := fun x s' => (x = .normal ∧ ∃ some_26 open__27, (some_26, open__27) = r28 ∧ Sub s' (ofG 127 [(2, .ptr 0 0), (3, .ptr 1 0), (5, .i x1), (7, .bool some_26), (8, .bool open__27), (9, .i i_21)], [.cells [.i r.Day, vl encSlingT r.Slings], .cells [.i e.Number, .str e.Kind, vl encS e.Names, vl encI e.Values, .str e.Text]]))) ?_ ?_
                · refine Goes.block ?_
                  refine sq ?_
                  obtain ⟨x29, e_x29, g28⟩ := bnd g28
                  obtain ⟨x30, e_x30, g28⟩ := bnd g28
                  refine Goes.ro fol [(3, (.done (.fptr (r.Slings.flatMap encSlingT.c) ((i_21 : Int).toNat * 9 + 0)))), (5, (.done (.str x29.Batch))), (8, (.done (.fptr (e.Names.flatMap encS.c) ((0 : Int).toNat * 1 + 0)))), (9, (.done (.str x30)))] [(2, .ptr 0 0), (3, .ptr 1 0), (5, .i x1), (7, .bool some_19), (8, .bool open__20), (9, .i i_21), (77, .bool (x29.Batch == x30))] [.cells [.i r.Day, vl encSlingT r.Slings], .cells [.i e.Number, .str e.Kind, vl encS e.Names, vl encI e.Values, .str e.Text]] [.done (.opt (aIndexAddr Tryz.prog 35 (vl encSlingT r.Slings) (.i i_21))) (.fptr (r.Slings.flatMap encSlingT.c) ((i_21 : Int).toNat * 9 + 0)), .done (aLoad Tryz.prog 9 (.fptr (r.Slings.flatMap encSlingT.c) ((i_21 : Int).toNat * 9 + 1))) (.str x29.Batch), .done (.opt (aIndexAddr Tryz.prog 23 (vl encS e.Names) (.i 0))) (.fptr (e.Names.flatMap encS.c) ((0 : Int).toNat * 1 + 0)), .done (aLoad Tryz.prog 9 (.fptr (e.Names.flatMap encS.c) ((0 : Int).toNat * 1 + 0))) (.str x30)] (And.intro (ix_vl sl35 (E := encSlingT) rfl e_x29) (And.intro (ld_vl ce9 (E := encSlingT) rfl e_x29 (Nat.le_of_ble_eq_true rfl) rfl) (And.intro (ix_vl sl23 (E := encS) rfl e_x30) (And.intro (ld_vl ce9 (E := encS) rfl e_x30 (Nat.le_of_ble_eq_true rfl) rfl) trivial)))) ?_
                  refine Goes.ifB (b := x29.Batch == x30) (by kernel_rfl) (fun c31 => ?_) (fun c31 => ?_)
                  · rw [if_pos (c31)] at g28
                    refine sq ?_
                    refine Goes.rg fol [(2, .ptr 0 0), (3, .ptr 1 0), (5, .i x1), (7, .bool true), (8, .bool open__20), (9, .i i_21)] [.cells [.i r.Day, vl encSlingT r.Slings], .cells [.i e.Number, .str e.Kind, vl encS e.Names, vl encI e.Values, .str e.Text]] ?_
                    obtain ⟨open__34, g_v35, g28⟩ := bnd g28
                    refine Goes.cut (s' := (ofG 127 [(2, .ptr 0 0), (3, .ptr 1 0), (5, .i x1), (7, .bool true), (8, .bool open__34), (9, .i i_21)], [.cells [.i r.Day, vl encSlingT r.Slings], .cells [.i e.Number, .str e.Kind, vl encS e.Names, vl encI e.Values, .str e.Text]])) ?_ ?_
                    · rcases Bool.eq_false_or_eq_true (open__20) with c32 | c32
                      · rw [if_pos (c32)] at g_v35
                        obtain rfl := Option.some.inj g_v35
                        exact RegTo.ro fol [(1, (.done (.bool true)))] [(2, .ptr 0 0), (3, .ptr 1 0), (5, .i x1), (7, .bool true), (8, .bool true), (9, .i i_21)] [.cells [.i r.Day, vl encSlingT r.Slings], .cells [.i e.Number, .str e.Kind, vl encS e.Names, vl encI e.Values, .str e.Text]] [.done (.done (.bool open__20)) (.bool true)] (And.intro (congrArg (fun x => Pg.done (.bool x)) c32) trivial)
                      · rw [if_neg (by rw [c32]; exact Bool.false_ne_true)] at g_v35
                        obtain ⟨r33, e_r33, g_v35⟩ := bnd g_v35
                        obtain rfl := Option.some.inj g_v35
                        exact RegTo.ro fol [(1, (.done (.bool false))), (5, (.done (.fptr (r.Slings.flatMap encSlingT.c) ((i_21 : Int).toNat * 9 + 0)))), (6, (.done (.agg [.str x29.Name, .str x29.Batch, .i x29.Born, .i x29.Last, .i x29.Uses, .i x29.Used, .i x29.Limit, .i x29.Until, .bool x29.Gone]))), (8, (.call [] [.agg [.str x29.Name, .str x29.Batch, .i x29.Born, .i x29.Last, .i x29.Uses, .i x29.Used, .i x29.Limit, .i x29.Until, .bool x29.Gone], .i x1] (.bool r33)))] [(2, .ptr 0 0), (3, .ptr 1 0), (5, .i x1), (7, .bool true), (8, .bool (!r33)), (9, .i i_21)] [.cells [.i r.Day, vl encSlingT r.Slings], .cells [.i e.Number, .str e.Kind, vl encS e.Names, vl encI e.Values, .str e.Text]] [.done (.done (.bool open__20)) (.bool false), .done (.opt (aIndexAddr Tryz.prog 35 (vl encSlingT r.Slings) (.i i_21))) (.fptr (r.Slings.flatMap encSlingT.c) ((i_21 : Int).toNat * 9 + 0)), .done (aLoad Tryz.prog 60 (.fptr (r.Slings.flatMap encSlingT.c) ((i_21 : Int).toNat * 9 + 0))) (.agg [.str x29.Name, .str x29.Batch, .i x29.Born, .i x29.Last, .i x29.Uses, .i x29.Used, .i x29.Limit, .i x29.Until, .bool x29.Gone]), .call 33 [.agg [.str x29.Name, .str x29.Batch, .i x29.Born, .i x29.Last, .i x29.Uses, .i x29.Used, .i x29.Limit, .i x29.Until, .bool x29.Gone], .i x1] [.cells [.i r.Day, vl encSlingT r.Slings], .cells [.i e.Number, .str e.Kind, vl encS e.Names, vl encI e.Values, .str e.Text]] [] [.agg [.str x29.Name, .str x29.Batch, .i x29.Born, .i x29.Last, .i x29.Uses, .i x29.Used, .i x29.Limit, .i x29.Until, .bool x29.Gone], .i x1] (.bool r33)] (And.intro (congrArg (fun x => Pg.done (.bool x)) c32) (And.intro (ix_vl sl35 (E := encSlingT) rfl e_x29) (And.intro (ld_ag ag60 (E := encSlingT) rfl e_x29) (And.intro (call_val (AllST.cons (Still.agg (AllST.cons (Still.str 10 _) (AllST.cons (Still.str 10 _) (AllST.cons (Still.int 10 _ _) (AllST.cons (Still.int 10 _ _) (AllST.cons (Still.int 10 _ _) (AllST.cons (Still.int 10 _ _) (AllST.cons (Still.int 10 _ _) (AllST.cons (Still.int 10 _ _) (AllST.cons (Still.bool 10 _) AllST.nil)))))))))) (AllST.cons (Still.int 11 _ _) AllST.nil)) (ref10_Retired_ok x29 x1 e_r33) (Still.bool 11 _)) trivial))))
                    obtain rfl := Option.some.inj g28
                    exact ⟨rfl, _, _, rfl, (Sub.refl _)⟩
                  · rw [if_neg (by rw [c31]; exact Bool.false_ne_true)] at g28
                    refine Goes.skip ?_
                    obtain rfl := Option.some.inj g28
                    exact ⟨rfl, _, _, rfl, (Sub.keep [2, 3, 5, 7, 8, 9] rfl rfl)⟩
                rintro x s' ⟨rfl, some_26, open__27, rfl, hsub⟩
                try dsimp only at g24
                refine Goes.sub hsub ?_
                refine Goes.rg fol [(2, .ptr 0 0), (3, .ptr 1 0), (5, .i x1), (7, .bool some_26), (8, .bool open__27), (9, .i (w64 (i_21 + 1)))] [.cells [.i r.Day, vl encSlingT r.Slings], .cells [.i e.Number, .str e.Kind, vl encS e.Names, vl encI e.Values, .str e.Text]] ?_
                exact ⟨M, (ofG 127 [(2, .ptr 0 0), (3, .ptr 1 0), (5, .i x1), (7, .bool some_26), (8, .bool open__27), (9, .i (w64 (i_21 + 1)))], [.cells [.i r.Day, vl encSlingT r.Slings], .cells [.i e.Number, .str e.Kind, vl encS e.Names, vl encI e.Values, .str e.Text]]), Nat.lt_succ_self _, (Sub.refl _), _, _, _, rfl, g24⟩
              · rw [if_neg (of_ c25)] at g24
                refine Goes.exit ?_
                obtain rfl := Option.some.inj g24
                exact ⟨rfl, _, _, rfl, (Sub.norm [] [] rfl rfl (.drop (.drop (.drop (.keep (.same (NoRef.bool _)) (.keep (.same (NoRef.bool _)) .nil))))) .nil)⟩
          rintro x s' ⟨rfl, some_22, open__23, rfl, hsub⟩
          try dsimp only at h
          refine Goes.sub hsub ?_
          refine sq ?_
          refine sq ?_
          refine Goes.rg fol [(8, .bool open__23), (90, .bool (!some_22))] [] ?_
          refine Goes.ifB (b := !some_22) (by kernel_rfl) (fun c36 => ?_) (fun c36 => ?_)
          · rw [if_pos (c36)] at h
            refine sq ?_
            refine Goes.rg fol [(4, .i 10)] [] ?_
            refine Goes.ret ?_
            obtain rfl := Option.some.inj h
            exact (Goes.retW (xs := [.i 10]) (by kernel_rfl) (FzW.still (Still.int 11 _ _)))
          · rw [if_neg (by rw [c36]; exact Bool.false_ne_true)] at h
            refine Goes.skip ?_
            refine sq ?_
            refine sq ?_
            refine Goes.rg fol [(92, .bool (!open__23))] [] ?_
            refine Goes.ifB (b := !open__23) (by kernel_rfl) (fun c37 => ?_) (fun c37 => ?_)
            · rw [if_pos (c37)] at h
              refine sq ?_
              refine Goes.rg fol [(4, .i 20)] [] ?_
              refine Goes.ret ?_
              obtain rfl := Option.some.inj h
              exact (Goes.retW (xs := [.i 20]) (by kernel_rfl) (FzW.still (Still.int 11 _ _)))
            · rw [if_neg (by rw [c37]; exact Bool.false_ne_true)] at h
              refine Goes.skip ?_
              refine sq ?_
              refine Goes.rg fol [(4, .i 0)] [] ?_
              refine Goes.ret ?_
              obtain rfl := Option.some.inj h
              exact (Goes.retW (xs := [.i 0]) (by kernel_rfl) (FzW.still (Still.int 11 _ _)))
        · rw [if_neg (by rw [c18]; exact Bool.false_ne_true)] at h
          refine Goes.skip ?_
          refine sq ?_
          refine sq ?_
          refine Goes.rg fol [(2, .ptr 0 0), (3, .ptr 1 0), (5, .i x1), (6, .i r5), (94, .bool (decide (r5 < 0)))] [.cells [.i r.Day, vl encSlingT r.Slings], .cells [.i e.Number, .str e.Kind, vl encS e.Names, vl encI e.Values, .str e.Text]] ?_
          refine Goes.ifB (b := decide (r5 < 0)) (by kernel_rfl) (fun c38 => ?_) (fun c38 => ?_)
          · rw [if_pos (ot c38)] at h
            refine sq ?_
            refine Goes.rg fol [(4, .i 10)] [.cells [.i r.Day, vl encSlingT r.Slings], .cells [.i e.Number, .str e.Kind, vl encS e.Names, vl encI e.Values, .str e.Text]] ?_
            refine Goes.ret ?_
            obtain rfl := Option.some.inj h
            exact (Goes.retW (xs := [.i 10]) (by kernel_rfl) (FzW.still (Still.int 11 _ _)))
          · rw [if_neg (of_ c38)] at h
            refine Goes.skip ?_
            refine sq ?_
            obtain ⟨x39, e_x39, h⟩ := bnd h
            refine Goes.ro fol [(3, (.done (.fptr (r.Slings.flatMap encSlingT.c) ((r5 : Int).toNat * 9 + 0)))), (4, (.done (.agg [.str x39.Name, .str x39.Batch, .i x39.Born, .i x39.Last, .i x39.Uses, .i x39.Used, .i x39.Limit, .i x39.Until, .bool x39.Gone])))] [(3, .ptr 1 0), (5, .i x1), (10, .ptr 2 0)] [.cells [.i r.Day, vl encSlingT r.Slings], .cells [.i e.Number, .str e.Kind, vl encS e.Names, vl encI e.Values, .str e.Text], .cells [.str x39.Name, .str x39.Batch, .i x39.Born, .i x39.Last, .i x39.Uses, .i x39.Used, .i x39.Limit, .i x39.Until, .bool x39.Gone]] [.done (.opt (aIndexAddr Tryz.prog 35 (vl encSlingT r.Slings) (.i r5))) (.fptr (r.Slings.flatMap encSlingT.c) ((r5 : Int).toNat * 9 + 0)), .done (aLoad Tryz.prog 60 (.fptr (r.Slings.flatMap encSlingT.c) ((r5 : Int).toNat * 9 + 0))) (.agg [.str x39.Name, .str x39.Batch, .i x39.Born, .i x39.Last, .i x39.Uses, .i x39.Used, .i x39.Limit, .i x39.Until, .bool x39.Gone])] (And.intro (ix_vl sl35 (E := encSlingT) rfl e_x39) (And.intro (ld_ag ag60 (E := encSlingT) rfl e_x39) trivial)) ?_
            refine sq ?_
            refine sq ?_
            obtain ⟨r40, e_r40, h⟩ := bnd h
            refine Goes.ro fol [(2, (.call [] [.agg [.str x39.Name, .str x39.Batch, .i x39.Born, .i x39.Last, .i x39.Uses, .i x39.Used, .i x39.Limit, .i x39.Until, .bool x39.Gone], .i x1] (.bool r40)))] [(3, .ptr 1 0), (5, .i x1), (10, .ptr 2 0), (102, .bool r40)] [.cells [.i r.Day, vl encSlingT r.Slings], .cells [.i e.Number, .str e.Kind, vl encS e.Names, vl encI e.Values, .str e.Text], .cells [.str x39.Name, .str x39.Batch, .i x39.Born, .i x39.Last, .i x39.Uses, .i x39.Used, .i x39.Limit, .i x39.Until, .bool x39.Gone]] [.call 33 [.agg [.str x39.Name, .str x39.Batch, .i x39.Born, .i x39.Last, .i x39.Uses, .i x39.Used, .i x39.Limit, .i x39.Until, .bool x39.Gone], .i x1] [.cells [.i r.Day, vl encSlingT r.Slings], .cells [.i e.Number, .str e.Kind, vl encS e.Names, vl encI e.Values, .str e.Text], .cells [.str x39.Name, .str x39.Batch, .i x39.Born, .i x39.Last, .i x39.Uses, .i x39.Used, .i x39.Limit, .i x39.Until, .bool x39.Gone]] [] [.agg [.str x39.Name, .str x39.Batch, .i x39.Born, .i x39.Last, .i x39.Uses, .i x39.Used, .i x39.Limit, .i x39.Until, .bool x39.Gone], .i x1] (.bool r40)] (And.intro (call_val (AllST.cons (Still.agg (AllST.cons (Still.str 10 _) (AllST.cons (Still.str 10 _) (AllST.cons (Still.int 10 _ _) (AllST.cons (Still.int 10 _ _) (AllST.cons (Still.int 10 _ _) (AllST.cons (Still.int 10 _ _) (AllST.cons (Still.int 10 _ _) (AllST.cons (Still.int 10 _ _) (AllST.cons (Still.bool 10 _) AllST.nil)))))))))) (AllST.cons (Still.int 11 _ _) AllST.nil)) (ref10_Retired_ok x39 x1 e_r40) (Still.bool 11 _)) trivial) ?_
            refine Goes.ifB (b := r40) (by kernel_rfl) (fun c41 => ?_) (fun c41 => ?_)
            · rw [if_pos (c41)] at h
              refine sq ?_
              refine Goes.rg fol [(4, .i 20)] [.cells [.i r.Day, vl encSlingT r.Slings], .cells [.i e.Number, .str e.Kind, vl encS e.Names, vl encI e.Values, .str e.Text], .cells [.str x39.Name, .str x39.Batch, .i x39.Born, .i x39.Last, .i x39.Uses, .i x39.Used, .i x39.Limit, .i x39.Until, .bool x39.Gone]] ?_
              refine Goes.ret ?_
              obtain rfl := Option.some.inj h
              exact (Goes.retW (xs := [.i 20]) (by kernel_rfl) (FzW.still (Still.int 11 _ _)))
            · rw [if_neg (by rw [c41]; exact Bool.false_ne_true)] at h
              refine Goes.skip ?_
              refine sq ?_
              refine sq ?_
              obtain ⟨b45, g_v46, h⟩ := bnd h
              refine Goes.cut (s' := (ofG 127 [(3, .ptr 1 0), (5, .i x1), (10, .ptr 2 0), (112, .bool b45)], [.cells [.i r.Day, vl encSlingT r.Slings], .cells [.i e.Number, .str e.Kind, vl encS e.Names, vl encI e.Values, .str e.Text], .cells [.str x39.Name, .str x39.Batch, .i x39.Born, .i x39.Last, .i x39.Uses, .i x39.Used, .i x39.Limit, .i x39.Until, .bool x39.Gone]])) ?_ ?_
              · rcases Bool.eq_false_or_eq_true (e.Kind == [116, 101, 115, 116]) with c42 | c42
                · rw [if_pos (c42)] at g_v46
                  obtain ⟨x43, e_x43, g_v46⟩ := bnd g_v46
                  obtain ⟨r44, e_r44, g_v46⟩ := bnd g_v46
                  obtain rfl := Option.some.inj g_v46
                  exact RegTo.ro fol [(3, (.done (.bool true))), (6, (.done (.fptr (e.Values.flatMap encI.c) ((1 : Int).toNat * 1 + 0)))), (7, (.done (.i x43))), (8, (.call [] [.i x43, .i 2, .i 999999999] (.bool r44)))] [(3, .ptr 1 0), (5, .i x1), (10, .ptr 2 0), (112, .bool r44)] [.cells [.i r.Day, vl encSlingT r.Slings], .cells [.i e.Number, .str e.Kind, vl encS e.Names, vl encI e.Values, .str e.Text], .cells [.str x39.Name, .str x39.Batch, .i x39.Born, .i x39.Last, .i x39.Uses, .i x39.Used, .i x39.Limit, .i x39.Until, .bool x39.Gone]] [.done (.done (.bool (e.Kind == [116, 101, 115, 116]))) (.bool true), .done (.opt (aIndexAddr Tryz.prog 24 (vl encI e.Values) (.i 1))) (.fptr (e.Values.flatMap encI.c) ((1 : Int).toNat * 1 + 0)), .done (aLoad Tryz.prog 3 (.fptr (e.Values.flatMap encI.c) ((1 : Int).toNat * 1 + 0))) (.i x43), .call 36 [.i x43, .i 2, .i 999999999] [.cells [.i r.Day, vl encSlingT r.Slings], .cells [.i e.Number, .str e.Kind, vl encS e.Names, vl encI e.Values, .str e.Text], .cells [.str x39.Name, .str x39.Batch, .i x39.Born, .i x39.Last, .i x39.Uses, .i x39.Used, .i x39.Limit, .i x39.Until, .bool x39.Gone]] [] [.i x43, .i 2, .i 999999999] (.bool r44)] (And.intro (congrArg (fun x => Pg.done (.bool x)) c42) (And.intro (ix_vl sl24 (E := encI) rfl e_x43) (And.intro (ld_vl ce3 (E := encI) rfl e_x43 (Nat.le_of_ble_eq_true rfl) rfl) (And.intro (call_val (AllST.cons (Still.int 11 _ _) (AllST.cons (Still.int 11 _ _) (AllST.cons (Still.int 11 _ _) AllST.nil))) (ref10_Outside_ok x43 2 999999999 e_r44) (Still.bool 11 _)) trivial))))
                · rw [if_neg (by rw [c42]; exact Bool.false_ne_true)] at g_v46
                  obtain rfl := Option.some.inj g_v46
                  exact RegTo.ro fol [(3, (.done (.bool false)))] [(3, .ptr 1 0), (5, .i x1), (10, .ptr 2 0), (112, .bool false)] [.cells [.i r.Day, vl encSlingT r.Slings], .cells [.i e.Number, .str e.Kind, vl encS e.Names, vl encI e.Values, .str e.Text], .cells [.str x39.Name, .str x39.Batch, .i x39.Born, .i x39.Last, .i x39.Uses, .i x39.Used, .i x39.Limit, .i x39.Until, .bool x39.Gone]] [.done (.done (.bool (e.Kind == [116, 101, 115, 116]))) (.bool false)] (And.intro (congrArg (fun x => Pg.done (.bool x)) c42) trivial)
              refine Goes.ifB (b := b45) (by kernel_rfl) (fun c47 => ?_) (fun c47 => ?_)
              · rw [if_pos (c47)] at h
                refine sq ?_
                refine Goes.rg fol [(4, .i 3)] [.cells [.i r.Day, vl encSlingT r.Slings], .cells [.i e.Number, .str e.Kind, vl encS e.Names, vl encI e.Values, .str e.Text], .cells [.str x39.Name, .str x39.Batch, .i x39.Born, .i x39.Last, .i x39.Uses, .i x39.Used, .i x39.Limit, .i x39.Until, .bool x39.Gone]] ?_
                refine Goes.ret ?_
                obtain rfl := Option.some.inj h
                exact (Goes.retW (xs := [.i 3]) (by kernel_rfl) (FzW.still (Still.int 11 _ _)))
              · rw [if_neg (by rw [c47]; exact Bool.false_ne_true)] at h
                refine Goes.skip ?_
                refine sq ?_
                refine sq ?_
                refine Goes.rg fol [(3, .ptr 1 0), (5, .i x1), (10, .ptr 2 0), (115, .bool (e.Kind == [117, 115, 101]))] [.cells [.i r.Day, vl encSlingT r.Slings], .cells [.i e.Number, .str e.Kind, vl encS e.Names, vl encI e.Values, .str e.Text], .cells [.str x39.Name, .str x39.Batch, .i x39.Born, .i x39.Last, .i x39.Uses, .i x39.Used, .i x39.Limit, .i x39.Until, .bool x39.Gone]] ?_
                obtain ⟨r48, g48, h⟩ := bnd h
                refine Goes.imp (Q := fun x s' => (x = .normal ∧ (.inl ()) = r48 ∧ Sub s' (ofG 127 [], [])) ∨ (x = .ret ∧ ∃ q49, (.inr q49) = r48 ∧ returnsW Tryz.prog [.tmp 4] (.i q49) .ret s')) ?_ ?_
                · refine Goes.ifB (b := e.Kind == [117, 115, 101]) (by kernel_rfl) (fun c50 => ?_) (fun c50 => ?_)
                  · rw [if_pos (c50)] at g48
                    refine sq ?_
                    refine sq ?_
                    obtain ⟨r51, e_r51, g48⟩ := bnd g48
                    refine Goes.ro fol [(2, (.call [] [.agg [.str x39.Name, .str x39.Batch, .i x39.Born, .i x39.Last, .i x39.Uses, .i x39.Used, .i x39.Limit, .i x39.Until, .bool x39.Gone], .i x1] (.bool r51)))] [(3, .ptr 1 0), (10, .ptr 2 0), (119, .bool (!r51))] [.cells [.i r.Day, vl encSlingT r.Slings], .cells [.i e.Number, .str e.Kind, vl encS e.Names, vl encI e.Values, .str e.Text], .cells [.str x39.Name, .str x39.Batch, .i x39.Born, .i x39.Last, .i x39.Uses, .i x39.Used, .i x39.Limit, .i x39.Until, .bool x39.Gone]] [.call 34 [.agg [.str x39.Name, .str x39.Batch, .i x39.Born, .i x39.Last, .i x39.Uses, .i x39.Used, .i x39.Limit, .i x39.Until, .bool x39.Gone], .i x1] [.cells [.i r.Day, vl encSlingT r.Slings], .cells [.i e.Number, .str e.Kind, vl encS e.Names, vl encI e.Values, .str e.Text], .cells [.str x39.Name, .str x39.Batch, .i x39.Born, .i x39.Last, .i x39.Uses, .i x39.Used, .i x39.Limit, .i x39.Until, .bool x39.Gone]] [] [.agg [.str x39.Name, .str x39.Batch, .i x39.Born, .i x39.Last, .i x39.Uses, .i x39.Used, .i x39.Limit, .i x39.Until, .bool x39.Gone], .i x1] (.bool r51)] (And.intro (call_val (AllST.cons (Still.agg (AllST.cons (Still.str 10 _) (AllST.cons (Still.str 10 _) (AllST.cons (Still.int 10 _ _) (AllST.cons (Still.int 10 _ _) (AllST.cons (Still.int 10 _ _) (AllST.cons (Still.int 10 _ _) (AllST.cons (Still.int 10 _ _) (AllST.cons (Still.int 10 _ _) (AllST.cons (Still.bool 10 _) AllST.nil)))))))))) (AllST.cons (Still.int 11 _ _) AllST.nil)) (ref10_Holds_ok x39 x1 e_r51) (Still.bool 11 _)) trivial) ?_
                    refine Goes.ifB (b := !r51) (by kernel_rfl) (fun c52 => ?_) (fun c52 => ?_)
                    · rw [if_pos (c52)] at g48
                      refine sq ?_
                      refine Goes.rg fol [(4, .i 24)] [.cells [.i r.Day, vl encSlingT r.Slings], .cells [.i e.Number, .str e.Kind, vl encS e.Names, vl encI e.Values, .str e.Text], .cells [.str x39.Name, .str x39.Batch, .i x39.Born, .i x39.Last, .i x39.Uses, .i x39.Used, .i x39.Limit, .i x39.Until, .bool x39.Gone]] ?_
                      refine Goes.ret ?_
                      obtain rfl := Option.some.inj g48
                      exact Or.inr (⟨rfl, _, rfl, (Goes.retW (xs := [.i 24]) (by kernel_rfl) (FzW.still (Still.int 11 _ _)))⟩)
                    · rw [if_neg (by rw [c52]; exact Bool.false_ne_true)] at g48
                      refine Goes.skip ?_
                      refine sq ?_
                      obtain ⟨x53, e_x53, g48⟩ := bnd g48
                      refine Goes.ro fol [(2, (.done (.fptr (e.Values.flatMap encI.c) ((1 : Int).toNat * 1 + 0)))), (3, (.done (.i x53)))] [(126, .bool (decide (x53 > x39.Limit)))] [.cells [.i r.Day, vl encSlingT r.Slings], .cells [.i e.Number, .str e.Kind, vl encS e.Names, vl encI e.Values, .str e.Text], .cells [.str x39.Name, .str x39.Batch, .i x39.Born, .i x39.Last, .i x39.Uses, .i x39.Used, .i x39.Limit, .i x39.Until, .bool x39.Gone]] [.done (.opt (aIndexAddr Tryz.prog 24 (vl encI e.Values) (.i 1))) (.fptr (e.Values.flatMap encI.c) ((1 : Int).toNat * 1 + 0)), .done (aLoad Tryz.prog 3 (.fptr (e.Values.flatMap encI.c) ((1 : Int).toNat * 1 + 0))) (.i x53)] (And.intro (ix_vl sl24 (E := encI) rfl e_x53) (And.intro (ld_vl ce3 (E := encI) rfl e_x53 (Nat.le_of_ble_eq_true rfl) rfl) trivial)) ?_
                      refine Goes.ifB (b := decide (x53 > x39.Limit)) (by kernel_rfl) (fun c54 => ?_) (fun c54 => ?_)
                      · rw [if_pos (ot c54)] at g48
                        refine sq ?_
                        refine Goes.rg fol [(4, .i 31)] [.cells [.i r.Day, vl encSlingT r.Slings], .cells [.i e.Number, .str e.Kind, vl encS e.Names, vl encI e.Values, .str e.Text], .cells [.str x39.Name, .str x39.Batch, .i x39.Born, .i x39.Last, .i x39.Uses, .i x39.Used, .i x39.Limit, .i x39.Until, .bool x39.Gone]] ?_
                        refine Goes.ret ?_
                        obtain rfl := Option.some.inj g48
                        exact Or.inr (⟨rfl, _, rfl, (Goes.retW (xs := [.i 31]) (by kernel_rfl) (FzW.still (Still.int 11 _ _)))⟩)
                      · rw [if_neg (of_ c54)] at g48
                        refine Goes.skip ?_
                        obtain rfl := Option.some.inj g48
                        exact Or.inl (⟨rfl, rfl, (Sub.norm [] [] rfl rfl .nil .nil)⟩)
                  · rw [if_neg (by rw [c50]; exact Bool.false_ne_true)] at g48
                    refine Goes.skip ?_
                    obtain rfl := Option.some.inj g48
                    exact Or.inl (⟨rfl, rfl, (Sub.norm [] [] rfl rfl .nil .nil)⟩)
                rintro x s' (⟨rfl, rfl, hsub⟩ | ⟨rfl, q55, rfl, hret⟩)
                · try dsimp only at h
                  refine Goes.sub hsub ?_
                  refine sq ?_
                  refine Goes.rg fol [(4, .i 0)] [] ?_
                  refine Goes.ret ?_
                  obtain rfl := Option.some.inj h
                  exact (Goes.retW (xs := [.i 0]) (by kernel_rfl) (FzW.still (Still.int 11 _ _)))
                · try dsimp only at h
                  obtain rfl := Option.some.inj h
                  exact hret
def ref10_Counted_L0 (N : Nat) (l : List EventT) : Nat → (List EventT) → Int → Option ((List EventT) ⊕ ((List EventT) × Int × Int))
  | 0, _, _ => none
  | K + 1, counted_1, i_2 =>
    if i_2 < (l.length : Int) then
    (((idx l i_2).bind fun x10 =>
    (ref10_CheckEvent N x10).bind fun r11 =>
    (if r11 = 0 then
    some (!decide (x10.Number = (w64 (i_2 + 1))))
    else
    some false : Option Bool).bind fun b13 =>
    ((if b13 = true then
    some 11
    else
    some r11 : Option Int)).bind fun e_15 =>
    (if e_15 = 0 then
    if (x10.Kind == [117, 110, 100, 111]) = true then
    some (decide ((counted_1.length : Int) = 0))
    else
    some false
    else
    some false : Option Bool).bind fun b20 =>
    ((if b20 = true then
    some 12
    else
    some e_15 : Option Int)).bind fun e_22 =>
    (if e_22 = 0 then
    some (!(x10.Kind == [117, 110, 100, 111]))
    else
    some false : Option Bool).bind fun b26 =>
    ((if b26 = true then
    (ref10_register N counted_1).bind fun r31 =>
    (ref10_refused N r31 x10).bind fun r32 =>
    some r32
    else
    some e_22 : Option Int)).bind fun e_28 =>
    if (!decide (e_28 = 0)) = true then
    some (.inr ([], w64 (i_2 + 1), e_28))
    else
    if (x10.Kind == [117, 110, 100, 111]) = true then
    (cut counted_1 0 (w64 ((counted_1.length : Int) - 1))).bind fun s35 =>
    some (.inl s35)
    else
    (app 88 ([] : List EventT) counted_1).bind fun l36 =>
    (app 88 l36 [x10]).bind fun l37 =>
    some (.inl l37) : Option ((List EventT) ⊕ ((List EventT) × Int × Int)))).bind (fun
    | (.inl counted_7) =>
    ref10_Counted_L0 N l K counted_7 (w64 (i_2 + 1))
    | (.inr q38) =>
    some (.inr q38))
    else
    some (.inl counted_1)
def ref10_Counted (N : Nat) (l : List EventT) : Option ((List EventT) × Int × Int) :=
  (ref10_Counted_L0 N l N ([] : List EventT) 0).bind (fun
  | (.inl counted_3) =>
  some (counted_3, 0, 0)
  | (.inr q39) =>
  some q39)
theorem ref10_Counted_ok (N : Nat) (l : List EventT) {res : (List EventT) × Int × Int} (h : ref10_Counted N l = some res) : CallOK Tryz.prog (.fn 83) [vl encEventT l] [] (.tuple [vl encEventT res.1, .i res.2.1, .i res.2.2]) [] := by
  unfold ref10_Counted at h
  refine Goes.fnW Tryz.func83 rfl rfl (m := 82) rfl (rs := [.tmp 2, .tmp 3, .tmp 4]) rfl (l := [(0, vl encEventT l)]) rfl ?_
  refine sq ?_
  refine Goes.rg fol [(0, vl encEventT l)] [] ?_
  refine sq ?_
  refine Goes.rg fol [(0, vl encEventT l), (5, .nilslice)] [] ?_
  refine sq ?_
  refine sq ?_
  refine Goes.rg fol [(0, vl encEventT l), (5, .nilslice), (6, .i 0)] [] ?_
  refine Goes.block ?_
  obtain ⟨r4, g4, h⟩ := bnd h
  refine Goes.imp (Q := fun x s' => (x = .exit 0 ∧ ∃ counted_3, (.inl counted_3) = r4 ∧ Sub s' (ofG 82 [(5, vl encEventT counted_3)], [])) ∨ (x = .ret ∧ ∃ q5, (.inr q5) = r4 ∧ returnsW Tryz.prog [.tmp 2, .tmp 3, .tmp 4] (.tuple [vl encEventT q5.1, .i q5.2.1, .i q5.2.2]) .ret s')) ?_ ?_
  · refine Goes.sub (s' := (ofG 82 [(0, vl encEventT l), (5, vl encEventT ([] : List EventT)), (6, .i 0)], [])) (Sub.norm [] [] rfl rfl (.keep (.same (vl_noRef encEventT _)) (.keep .nilv (.keep (.same (NoRef.int _ _)) .nil))) .nil) ?_
    refine Goes.loopS (fun M s => ∃ (counted_1 : List EventT) (i_2 : Int), s = (ofG 82 [(0, vl encEventT l), (5, vl encEventT counted_1), (6, .i i_2)], []) ∧ ref10_Counted_L0 N l M counted_1 i_2 = some r4) ?_ (m := N) ⟨_, _, rfl, g4⟩
    rintro M s ⟨counted_1, i_2, rfl, g4⟩
    cases M with
    | zero => simp only [ref10_Counted_L0] at g4; cases g4
    | succ M =>
      rw [ref10_Counted_L0] at g4
      refine sq ?_
      refine sq ?_
      refine Goes.rg fol [(0, vl encEventT l), (5, vl encEventT counted_1), (6, .i i_2), (12, .bool (decide (i_2 < (l.length : Int))))] [] ?_
      refine Goes.ifB (b := decide (i_2 < (l.length : Int))) (by kernel_rfl) (fun c6 => ?_) (fun c6 => ?_)
      · rw [if_pos (ot c6)] at g4
        refine Goes.skip ?_
        refine sq ?_
        obtain ⟨r8, g8, g4⟩ := bnd g4
        refine Goes.imp (Q := fun x s' => (x = .normal ∧ ∃ counted_7, (.inl counted_7) = r8 ∧ Sub s' (ofG 82 [(0, vl encEventT l), (5, vl encEventT counted_7), (6, .i i_2)], [])) ∨ (x = .ret ∧ ∃ q9, (.inr q9) = r8 ∧ returnsW Tryz.prog [.tmp 2, .tmp 3, .tmp 4] (.tuple [vl encEventT q9.1, .i q9.2.1, .i q9.2.2]) .ret s')) ?_ ?_
        · refine Goes.block ?_
          refine sq ?_
          obtain ⟨x10, e_x10, g8⟩ := bnd g8
          obtain ⟨r11, e_r11, g8⟩ := bnd g8
          refine Goes.ro fol [(2, (.done (.fptr (l.flatMap encEventT.c) ((i_2 : Int).toNat * 5 + 0)))), (3, (.done (.agg [.i x10.Number, .str x10.Kind, vl encS x10.Names, vl encI x10.Values, .str x10.Text]))), (4, (.call [] [.agg [.i x10.Number, .str x10.Kind, vl encS x10.Names, vl encI x10.Values, .str x10.Text]] (.i r11)))] [(0, vl encEventT l), (5, vl encEventT counted_1), (6, .i i_2), (7, .i r11)] [] [.done (.opt (aIndexAddr Tryz.prog 22 (vl encEventT l) (.i i_2))) (.fptr (l.flatMap encEventT.c) ((i_2 : Int).toNat * 5 + 0)), .done (aLoad Tryz.prog 26 (.fptr (l.flatMap encEventT.c) ((i_2 : Int).toNat * 5 + 0))) (.agg [.i x10.Number, .str x10.Kind, vl encS x10.Names, vl encI x10.Values, .str x10.Text]), .call 19 [.agg [.i x10.Number, .str x10.Kind, vl encS x10.Names, vl encI x10.Values, .str x10.Text]] [] [] [.agg [.i x10.Number, .str x10.Kind, vl encS x10.Names, vl encI x10.Values, .str x10.Text]] (.i r11)] (And.intro (ix_vl sl22 (E := encEventT) rfl e_x10) (And.intro (ld_ag ag26 (E := encEventT) rfl e_x10) (And.intro (call_val (AllST.cons (Still.agg (AllST.cons (Still.int 10 _ _) (AllST.cons (Still.str 10 _) (AllST.cons (vl_still encS _ (Nat.le_of_ble_eq_true rfl)) (AllST.cons (vl_still encI _ (Nat.le_of_ble_eq_true rfl)) (AllST.cons (Still.str 10 _) AllST.nil)))))) AllST.nil) (ref10_CheckEvent_ok N x10 e_r11) (Still.int 11 _ _)) trivial))) ?_
          refine sq ?_
          refine sq ?_
          obtain ⟨b13, g_v14, g8⟩ := bnd g8
          refine Goes.cut (s' := (ofG 82 [(0, vl encEventT l), (5, vl encEventT counted_1), (6, .i i_2), (7, .i r11), (31, .bool b13)], [])) ?_ ?_
          · rcases Bool.eq_false_or_eq_true (decide (r11 = 0)) with c12 | c12
            · rw [if_pos (ot c12)] at g_v14
              obtain rfl := Option.some.inj g_v14
              exact RegTo.ro fol [(2, (.done (.bool true))), (5, (.done (.fptr (l.flatMap encEventT.c) ((i_2 : Int).toNat * 5 + 0)))), (7, (.done (.i x10.Number)))] [(0, vl encEventT l), (5, vl encEventT counted_1), (6, .i i_2), (7, .i r11), (31, .bool (!decide (x10.Number = (w64 (i_2 + 1)))))] [] [.done (.done (.bool (decide (r11 = 0)))) (.bool true), .done (.opt (aIndexAddr Tryz.prog 22 (vl encEventT l) (.i i_2))) (.fptr (l.flatMap encEventT.c) ((i_2 : Int).toNat * 5 + 0)), .done (aLoad Tryz.prog 3 (.fptr (l.flatMap encEventT.c) ((i_2 : Int).toNat * 5 + 0))) (.i x10.Number)] (And.intro (congrArg (fun x => Pg.done (.bool x)) c12) (And.intro (ix_vl sl22 (E := encEventT) rfl e_x10) (And.intro (ld_vl ce3 (E := encEventT) rfl e_x10 (Nat.le_of_ble_eq_true rfl) rfl) trivial)))
            · rw [if_neg (of_ c12)] at g_v14
              obtain rfl := Option.some.inj g_v14
              exact RegTo.ro fol [(2, (.done (.bool false)))] [(0, vl encEventT l), (5, vl encEventT counted_1), (6, .i i_2), (7, .i r11), (31, .bool false)] [] [.done (.done (.bool (decide (r11 = 0)))) (.bool false)] (And.intro (congrArg (fun x => Pg.done (.bool x)) c12) trivial)
          obtain ⟨r16, g16, g8⟩ := bnd g8
          refine Goes.imp (Q := fun x s' => (x = .normal ∧ ∃ e_15, e_15 = r16 ∧ Sub s' (ofG 82 [(0, vl encEventT l), (5, vl encEventT counted_1), (6, .i i_2), (7, .i e_15)], []))) ?_ ?_
          · refine Goes.ifB (b := b13) (by kernel_rfl) (fun c17 => ?_) (fun c17 => ?_)
            · rw [if_pos (c17)] at g16
              refine Goes.rg fol [(0, vl encEventT l), (5, vl encEventT counted_1), (6, .i i_2), (7, .i 11)] [] ?_
              obtain rfl := Option.some.inj g16
              exact ⟨rfl, _, rfl, (Sub.refl _)⟩
            · rw [if_neg (by rw [c17]; exact Bool.false_ne_true)] at g16
              refine Goes.skip ?_
              obtain rfl := Option.some.inj g16
              exact ⟨rfl, _, rfl, (Sub.keep [0, 5, 6, 7] rfl rfl)⟩
          rintro x s' ⟨rfl, e_15, rfl, hsub⟩
          refine Goes.sub hsub ?_
          refine sq ?_
          refine Goes.ro fol [(2, (.done (.fptr (l.flatMap encEventT.c) ((i_2 : Int).toNat * 5 + 0)))), (4, (.done (.str x10.Kind)))] [(0, vl encEventT l), (5, vl encEventT counted_1), (6, .i i_2), (7, .i e_15), (8, .bool (x10.Kind == [117, 110, 100, 111]))] [] [.done (.opt (aIndexAddr Tryz.prog 22 (vl encEventT l) (.i i_2))) (.fptr (l.flatMap encEventT.c) ((i_2 : Int).toNat * 5 + 0)), .done (aLoad Tryz.prog 9 (.fptr (l.flatMap encEventT.c) ((i_2 : Int).toNat * 5 + 1))) (.str x10.Kind)] (And.intro (ix_vl sl22 (E := encEventT) rfl e_x10) (And.intro (ld_vl ce9 (E := encEventT) rfl e_x10 (Nat.le_of_ble_eq_true rfl) rfl) trivial)) ?_
          refine sq ?_
          refine sq ?_
          obtain ⟨b20, g_v21, g8⟩ := bnd g8
          refine Goes.cut (s' := (ofG 82 [(0, vl encEventT l), (5, vl encEventT counted_1), (6, .i i_2), (7, .i e_15), (8, .bool (x10.Kind == [117, 110, 100, 111])), (47, .bool b20)], [])) ?_ ?_
          · rcases Bool.eq_false_or_eq_true (decide (e_15 = 0)) with c18 | c18
            · rw [if_pos (ot c18)] at g_v21
              rcases Bool.eq_false_or_eq_true (x10.Kind == [117, 110, 100, 111]) with c19 | c19
              · rw [if_pos (c19)] at g_v21
                obtain rfl := Option.some.inj g_v21
                exact RegTo.ro fol [(2, (.done (.bool true))), (5, (.done (.bool true)))] [(0, vl encEventT l), (5, vl encEventT counted_1), (6, .i i_2), (7, .i e_15), (8, .bool (x10.Kind == [117, 110, 100, 111])), (47, .bool (decide ((counted_1.length : Int) = 0)))] [] [.done (.done (.bool (decide (e_15 = 0)))) (.bool true), .done (.done (.bool (x10.Kind == [117, 110, 100, 111]))) (.bool true)] (And.intro (congrArg (fun x => Pg.done (.bool x)) c18) (And.intro (congrArg (fun x => Pg.done (.bool x)) c19) trivial))
              · rw [if_neg (by rw [c19]; exact Bool.false_ne_true)] at g_v21
                obtain rfl := Option.some.inj g_v21
                exact RegTo.ro fol [(2, (.done (.bool true))), (5, (.done (.bool false)))] [(0, vl encEventT l), (5, vl encEventT counted_1), (6, .i i_2), (7, .i e_15), (8, .bool (x10.Kind == [117, 110, 100, 111])), (47, .bool false)] [] [.done (.done (.bool (decide (e_15 = 0)))) (.bool true), .done (.done (.bool (x10.Kind == [117, 110, 100, 111]))) (.bool false)] (And.intro (congrArg (fun x => Pg.done (.bool x)) c18) (And.intro (congrArg (fun x => Pg.done (.bool x)) c19) trivial))
            · rw [if_neg (of_ c18)] at g_v21
              obtain rfl := Option.some.inj g_v21
              exact RegTo.ro fol [(2, (.done (.bool false)))] [(0, vl encEventT l), (5, vl encEventT counted_1), (6, .i i_2), (7, .i e_15), (8, .bool (x10.Kind == [117, 110, 100, 111])), (47, .bool false)] [] [.done (.done (.bool (decide (e_15 = 0)))) (.bool false)] (And.intro (congrArg (fun x => Pg.done (.bool x)) c18) trivial)
          obtain ⟨r23, g23, g8⟩ := bnd g8
          refine Goes.imp (Q := fun x s' => (x = .normal ∧ ∃ e_22, e_22 = r23 ∧ Sub s' (ofG 82 [(0, vl encEventT l), (5, vl encEventT counted_1), (6, .i i_2), (7, .i e_22), (8, .bool (x10.Kind == [117, 110, 100, 111]))], []))) ?_ ?_
          · refine Goes.ifB (b := b20) (by kernel_rfl) (fun c24 => ?_) (fun c24 => ?_)
            · rw [if_pos (c24)] at g23
              refine Goes.rg fol [(0, vl encEventT l), (5, vl encEventT counted_1), (6, .i i_2), (7, .i 12), (8, .bool (x10.Kind == [117, 110, 100, 111]))] [] ?_
              obtain rfl := Option.some.inj g23
              exact ⟨rfl, _, rfl, (Sub.refl _)⟩
            · rw [if_neg (by rw [c24]; exact Bool.false_ne_true)] at g23
              refine Goes.skip ?_
              obtain rfl := Option.some.inj g23
              exact ⟨rfl, _, rfl, (Sub.keep [0, 5, 6, 7, 8] rfl rfl)⟩
          rintro x s' ⟨rfl, e_22, rfl, hsub⟩
          refine Goes.sub hsub ?_
          refine sq ?_
          refine sq ?_
          obtain ⟨b26, g_v27, g8⟩ := bnd g8
          refine Goes.cut (s' := (ofG 82 [(0, vl encEventT l), (5, vl encEventT counted_1), (6, .i i_2), (7, .i e_22), (8, .bool (x10.Kind == [117, 110, 100, 111])), (53, .bool b26)], [])) ?_ ?_
          · rcases Bool.eq_false_or_eq_true (decide (e_22 = 0)) with c25 | c25
            · rw [if_pos (ot c25)] at g_v27
              obtain rfl := Option.some.inj g_v27
              exact RegTo.ro fol [(2, (.done (.bool true)))] [(0, vl encEventT l), (5, vl encEventT counted_1), (6, .i i_2), (7, .i e_22), (8, .bool (x10.Kind == [117, 110, 100, 111])), (53, .bool (!(x10.Kind == [117, 110, 100, 111])))] [] [.done (.done (.bool (decide (e_22 = 0)))) (.bool true)] (And.intro (congrArg (fun x => Pg.done (.bool x)) c25) trivial)
            · rw [if_neg (of_ c25)] at g_v27
              obtain rfl := Option.some.inj g_v27
              exact RegTo.ro fol [(2, (.done (.bool false)))] [(0, vl encEventT l), (5, vl encEventT counted_1), (6, .i i_2), (7, .i e_22), (8, .bool (x10.Kind == [117, 110, 100, 111])), (53, .bool false)] [] [.done (.done (.bool (decide (e_22 = 0)))) (.bool false)] (And.intro (congrArg (fun x => Pg.done (.bool x)) c25) trivial)
          obtain ⟨r29, g29, g8⟩ := bnd g8
          refine Goes.imp (Q := fun x s' => (x = .normal ∧ ∃ e_28, e_28 = r29 ∧ Sub s' (ofG 82 [(0, vl encEventT l), (5, vl encEventT counted_1), (6, .i i_2), (7, .i e_28), (8, .bool (x10.Kind == [117, 110, 100, 111]))], []))) ?_ ?_
          · refine Goes.ifB (b := b26) (by kernel_rfl) (fun c30 => ?_) (fun c30 => ?_)
            · rw [if_pos (c30)] at g29
              obtain ⟨r31, e_r31, g29⟩ := bnd g29
              obtain ⟨r32, e_r32, g29⟩ := bnd g29
              refine Goes.ro fol [(1, (.call [] [vl encEventT counted_1] (.agg [.i r31.Day, vl encSlingT r31.Slings]))), (4, (.done (.fptr (l.flatMap encEventT.c) ((i_2 : Int).toNat * 5 + 0)))), (5, (.done (.agg [.i x10.Number, .str x10.Kind, vl encS x10.Names, vl encI x10.Values, .str x10.Text]))), (6, (.call [] [.agg [.i r31.Day, vl encSlingT r31.Slings], .agg [.i x10.Number, .str x10.Kind, vl encS x10.Names, vl encI x10.Values, .str x10.Text]] (.i r32)))] [(0, vl encEventT l), (5, vl encEventT counted_1), (6, .i i_2), (7, .i r32), (8, .bool (x10.Kind == [117, 110, 100, 111]))] [] [.call 84 [vl encEventT counted_1] [] [] [vl encEventT counted_1] (.agg [.i r31.Day, vl encSlingT r31.Slings]), .done (.opt (aIndexAddr Tryz.prog 22 (vl encEventT l) (.i i_2))) (.fptr (l.flatMap encEventT.c) ((i_2 : Int).toNat * 5 + 0)), .done (aLoad Tryz.prog 26 (.fptr (l.flatMap encEventT.c) ((i_2 : Int).toNat * 5 + 0))) (.agg [.i x10.Number, .str x10.Kind, vl encS x10.Names, vl encI x10.Values, .str x10.Text]), .call 139 [.agg [.i r31.Day, vl encSlingT r31.Slings], .agg [.i x10.Number, .str x10.Kind, vl encS x10.Names, vl encI x10.Values, .str x10.Text]] [] [] [.agg [.i r31.Day, vl encSlingT r31.Slings], .agg [.i x10.Number, .str x10.Kind, vl encS x10.Names, vl encI x10.Values, .str x10.Text]] (.i r32)] (And.intro (call_val (AllST.cons (vl_still encEventT _ (Nat.le_of_ble_eq_true rfl)) AllST.nil) (ref10_register_ok N counted_1 e_r31) (Still.agg (AllST.cons (Still.int 10 _ _) (AllST.cons (vl_still encSlingT _ (Nat.le_of_ble_eq_true rfl)) AllST.nil)))) (And.intro (ix_vl sl22 (E := encEventT) rfl e_x10) (And.intro (ld_ag ag26 (E := encEventT) rfl e_x10) (And.intro (call_val (AllST.cons (Still.agg (AllST.cons (Still.int 10 _ _) (AllST.cons (vl_still encSlingT _ (Nat.le_of_ble_eq_true rfl)) AllST.nil))) (AllST.cons (Still.agg (AllST.cons (Still.int 10 _ _) (AllST.cons (Still.str 10 _) (AllST.cons (vl_still encS _ (Nat.le_of_ble_eq_true rfl)) (AllST.cons (vl_still encI _ (Nat.le_of_ble_eq_true rfl)) (AllST.cons (Still.str 10 _) AllST.nil)))))) AllST.nil)) (ref10_refused_ok N r31 x10 e_r32) (Still.int 11 _ _)) trivial)))) ?_
              obtain rfl := Option.some.inj g29
              exact ⟨rfl, _, rfl, (Sub.refl _)⟩
            · rw [if_neg (by rw [c30]; exact Bool.false_ne_true)] at g29
              refine Goes.skip ?_
              obtain rfl := Option.some.inj g29
              exact ⟨rfl, _, rfl, (Sub.keep [0, 5, 6, 7, 8] rfl rfl)⟩
          rintro x s' ⟨rfl, e_28, rfl, hsub⟩
          refine Goes.sub hsub ?_
          refine sq ?_
          refine sq ?_
          refine Goes.rg fol [(0, vl encEventT l), (5, vl encEventT counted_1), (6, .i i_2), (7, .i e_28), (8, .bool (x10.Kind == [117, 110, 100, 111])), (62, .bool (!decide (e_28 = 0)))] [] ?_
          refine Goes.ifB (b := !decide (e_28 = 0)) (by kernel_rfl) (fun c33 => ?_) (fun c33 => ?_)
          · rw [if_pos (c33)] at g8
            refine sq ?_
            refine Goes.rg fol [(2, .nilslice), (3, .i (w64 (i_2 + 1))), (4, .i e_28)] [] ?_
            refine Goes.ret ?_
            obtain rfl := Option.some.inj g8
            exact Or.inr (⟨rfl, _, rfl, (Goes.retW (xs := [.nilslice, .i (w64 (i_2 + 1)), .i e_28]) (by kernel_rfl) (FzW.tuple (FzLW.cons (FzW.nilv (E := encEventT)) (FzLW.cons (FzW.still (Still.int 10 _ _)) (FzLW.cons (FzW.still (Still.int 10 _ _)) FzLW.nil)))))⟩)
          · rw [if_neg (by rw [c33]; exact Bool.false_ne_true)] at g8
            refine Goes.skip ?_
            refine sq ?_
            refine Goes.rg fol [(0, vl encEventT l), (5, vl encEventT counted_1), (6, .i i_2), (66, .bool (x10.Kind == [117, 110, 100, 111]))] [] ?_
            refine Goes.ifB (b := x10.Kind == [117, 110, 100, 111]) (by kernel_rfl) (fun c34 => ?_) (fun c34 => ?_)
            · rw [if_pos (c34)] at g8
              obtain ⟨s35, e_s35, g8⟩ := bnd g8
              refine Goes.ro fol [(4, (.done (vl encEventT s35)))] [(0, vl encEventT l), (5, vl encEventT s35), (6, .i i_2)] [] [.done (.opt (aSlice Tryz.prog 22 (vl encEventT counted_1) none (some (.i (w64 ((counted_1.length : Int) - 1)))) none)) (vl encEventT s35)] (And.intro (vl_sl sl22 (E := encEventT) rfl none (some (w64 ((counted_1.length : Int) - 1))) e_s35) trivial) ?_
              obtain rfl := Option.some.inj g8
              exact Or.inl (⟨rfl, _, rfl, (Sub.refl _)⟩)
            · rw [if_neg (by rw [c34]; exact Bool.false_ne_true)] at g8
              obtain ⟨l36, e_l36, g8⟩ := bnd g8
              obtain ⟨l37, e_l37, g8⟩ := bnd g8
              refine Goes.ro fol [(2, (.run (.oslice 1 l36.length 5) [.dead, .cells (l36.flatMap encEventT.c)] true)), (5, (.done (.fptr (l.flatMap encEventT.c) ((i_2 : Int).toNat * 5 + 0)))), (6, (.done (.agg [.i x10.Number, .str x10.Kind, vl encS x10.Names, vl encI x10.Values, .str x10.Text]))), (8, (.run (.oslice 3 l37.length 5) [.dead, .dead, .cells [.i x10.Number, .str x10.Kind, vl encS x10.Names, vl encI x10.Values, .str x10.Text], .cells (l37.flatMap encEventT.c)] true))] [(0, vl encEventT l), (5, .oslice 3 l37.length 5), (6, .i i_2)] [.dead, .dead, .cells [.i x10.Number, .str x10.Kind, vl encS x10.Names, vl encI x10.Values, .str x10.Text], .cells (l37.flatMap encEventT.c)] [.run [0] (aAppend Tryz.prog [22, 22] (.slice 0 0 0 0 5) (vl encEventT counted_1)) [.cells []] (.oslice 1 l36.length 5) [.dead, .cells (l36.flatMap encEventT.c)] true, .done (.opt (aIndexAddr Tryz.prog 22 (vl encEventT l) (.i i_2))) (.fptr (l.flatMap encEventT.c) ((i_2 : Int).toNat * 5 + 0)), .done (aLoad Tryz.prog 26 (.fptr (l.flatMap encEventT.c) ((i_2 : Int).toNat * 5 + 0))) (.agg [.i x10.Number, .str x10.Kind, vl encS x10.Names, vl encI x10.Values, .str x10.Text]), .run [1, 2] (aAppend Tryz.prog [22, 22] (.oslice 1 l36.length 5) (.slice 2 0 1 1 5)) [.dead, .cells (l36.flatMap encEventT.c), .cells [.i x10.Number, .str x10.Kind, vl encS x10.Names, vl encI x10.Values, .str x10.Text]] (.oslice 3 l37.length 5) [.dead, .dead, .cells [.i x10.Number, .str x10.Kind, vl encS x10.Names, vl encI x10.Values, .str x10.Text], .cells (l37.flatMap encEventT.c)] true] (And.intro (app_run sl22 (E := encEventT) rfl (src_v (E := encEventT) rfl _) (dst_z (E := encEventT) rfl rfl rfl e_l36 rfl)) (And.intro (ix_vl sl22 (E := encEventT) rfl e_x10) (And.intro (ld_ag ag26 (E := encEventT) rfl e_x10) (And.intro (app_run sl22 (E := encEventT) rfl (src_c (E := encEventT) (ys := [x10]) rfl rfl rfl rfl) (dst_o (E := encEventT) (l := l36) rfl rfl rfl e_l37 rfl)) trivial)))) ?_
              obtain rfl := Option.some.inj g8
              exact Or.inl (⟨rfl, _, rfl, (Sub.norm [3] [] rfl rfl (.keep (.same (vl_noRef encEventT _)) (.keep (.frz (Fz.os (E := encEventT) rfl rfl (Nat.le_of_ble_eq_true rfl)) (vl_noRef encEventT _)) (.keep (.same (NoRef.int _ _)) .nil))) .nil)⟩)
        rintro x s' (⟨rfl, counted_7, rfl, hsub⟩ | ⟨rfl, q38, rfl, hret⟩)
        · try dsimp only at g4
          refine Goes.sub hsub ?_
          refine Goes.rg fol [(0, vl encEventT l), (5, vl encEventT counted_7), (6, .i (w64 (i_2 + 1)))] [] ?_
          exact ⟨M, (ofG 82 [(0, vl encEventT l), (5, vl encEventT counted_7), (6, .i (w64 (i_2 + 1)))], []), Nat.lt_succ_self _, (Sub.refl _), _, _, rfl, g4⟩
        · try dsimp only at g4
          obtain rfl := Option.some.inj g4
          exact Or.inr (⟨rfl, _, rfl, hret⟩)
      · rw [if_neg (of_ c6)] at g4
        refine Goes.exit ?_
        obtain rfl := Option.some.inj g4
        exact Or.inl (⟨rfl, _, rfl, (Sub.keep [5] rfl rfl)⟩)
  rintro x s' (⟨rfl, counted_3, rfl, hsub⟩ | ⟨rfl, q39, rfl, hret⟩)
  · try dsimp only at h
    refine Goes.sub hsub ?_
    refine sq ?_
    refine Goes.rg fol [(2, vl encEventT counted_3), (3, .i 0), (4, .i 0)] [] ?_
    refine Goes.ret ?_
    obtain rfl := Option.some.inj h
    exact (Goes.retW (xs := [vl encEventT counted_3, .i 0, .i 0]) (by kernel_rfl) (FzW.tuple (FzLW.cons (FzW.still (vl_still encEventT _ (Nat.le_of_ble_eq_true rfl))) (FzLW.cons (FzW.still (Still.int 10 _ _)) (FzLW.cons (FzW.still (Still.int 10 _ _)) FzLW.nil)))))
  · try dsimp only at h
    obtain rfl := Option.some.inj h
    exact hret
def ref10_Replay (N : Nat) (l : List EventT) : Option (RegisterTq × Int × Int) :=
  if (l.length : Int) > 1000 then
  some ((⟨0, []⟩ : RegisterTq), 0, 5)
  else
  (ref10_Counted N l).bind fun r2 =>
  if (!decide (r2.2.2 = 0)) = true then
  some ((⟨0, []⟩ : RegisterTq), r2.2.1, r2.2.2)
  else
  (ref10_register N r2.1).bind fun r4 =>
  some (r4, 0, 0)
theorem ref10_Replay_ok (N : Nat) (l : List EventT) {res : RegisterTq × Int × Int} (h : ref10_Replay N l = some res) : CallOK Tryz.prog (.fn 17) [vl encEventT l] [] (.tuple [.agg [.i res.1.Day, vl encSlingT res.1.Slings], .i res.2.1, .i res.2.2]) [] := by
  unfold ref10_Replay at h
  refine Goes.fnW Tryz.func17 rfl rfl (m := 25) rfl (rs := [.cell 2 37, .tmp 3, .tmp 4]) rfl (l := [(0, vl encEventT l)]) rfl ?_
  refine sq ?_
  refine Goes.rg fol [(0, vl encEventT l), (2, .ptr 0 0)] [.cells [.i 0, .nilslice]] ?_
  refine sq ?_
  refine sq ?_
  refine Goes.rg fol [(0, vl encEventT l), (2, .ptr 0 0), (10, .bool (decide ((l.length : Int) > 1000)))] [.cells [.i 0, .nilslice]] ?_
  refine Goes.ifB (b := decide ((l.length : Int) > 1000)) (by kernel_rfl) (fun c1 => ?_) (fun c1 => ?_)
  · rw [if_pos (ot c1)] at h
    refine sq ?_
    refine Goes.rg fol [(2, .ptr 0 0), (3, .i 0), (4, .i 5)] [.cells [.i 0, .nilslice]] ?_
    refine Goes.ret ?_
    obtain rfl := Option.some.inj h
    exact (Goes.retW (xs := [.agg [.i 0, .nilslice], .i 0, .i 5]) (by kernel_rfl) (FzW.tuple (FzLW.cons (FzW.agg (FzLW.cons (FzW.still (Still.int 9 _ _)) (FzLW.cons (FzW.nilv (E := encSlingT)) FzLW.nil))) (FzLW.cons (FzW.still (Still.int 10 _ _)) (FzLW.cons (FzW.still (Still.int 10 _ _)) FzLW.nil)))))
  · rw [if_neg (of_ c1)] at h
    refine Goes.skip ?_
    refine sq ?_
    obtain ⟨r2, e_r2, h⟩ := bnd h
    refine Goes.ro fol [(1, (.call [] [vl encEventT l] (.tuple [vl encEventT r2.1, .i r2.2.1, .i r2.2.2])))] [(2, .ptr 0 0), (5, vl encEventT r2.1), (6, .i r2.2.1), (7, .i r2.2.2)] [.cells [.i 0, .nilslice]] [.call 83 [vl encEventT l] [.cells [.i 0, .nilslice]] [] [vl encEventT l] (.tuple [vl encEventT r2.1, .i r2.2.1, .i r2.2.2])] (And.intro (call_val (AllST.cons (vl_still encEventT _ (Nat.le_of_ble_eq_true rfl)) AllST.nil) (ref10_Counted_ok N l e_r2) (Still.tuple (AllST.cons (vl_still encEventT _ (Nat.le_of_ble_eq_true rfl)) (AllST.cons (Still.int 10 _ _) (AllST.cons (Still.int 10 _ _) AllST.nil))))) trivial) ?_
    refine sq ?_
    refine sq ?_
    refine Goes.rg fol [(2, .ptr 0 0), (5, vl encEventT r2.1), (6, .i r2.2.1), (7, .i r2.2.2), (19, .bool (!decide (r2.2.2 = 0)))] [.cells [.i 0, .nilslice]] ?_
    refine Goes.ifB (b := !decide (r2.2.2 = 0)) (by kernel_rfl) (fun c3 => ?_) (fun c3 => ?_)
    · rw [if_pos (c3)] at h
      refine sq ?_
      refine Goes.rg fol [(2, .ptr 0 0), (3, .i r2.2.1), (4, .i r2.2.2)] [.cells [.i 0, .nilslice]] ?_
      refine Goes.ret ?_
      obtain rfl := Option.some.inj h
      exact (Goes.retW (xs := [.agg [.i 0, .nilslice], .i r2.2.1, .i r2.2.2]) (by kernel_rfl) (FzW.tuple (FzLW.cons (FzW.agg (FzLW.cons (FzW.still (Still.int 9 _ _)) (FzLW.cons (FzW.nilv (E := encSlingT)) FzLW.nil))) (FzLW.cons (FzW.still (Still.int 10 _ _)) (FzLW.cons (FzW.still (Still.int 10 _ _)) FzLW.nil)))))
    · rw [if_neg (by rw [c3]; exact Bool.false_ne_true)] at h
      refine Goes.skip ?_
      refine sq ?_
      obtain ⟨r4, e_r4, h⟩ := bnd h
      refine Goes.ro fol [(1, (.call [] [vl encEventT r2.1] (.agg [.i r4.Day, vl encSlingT r4.Slings])))] [(2, .ptr 0 0), (3, .i 0), (4, .i 0)] [.cells [.i r4.Day, vl encSlingT r4.Slings]] [.call 84 [vl encEventT r2.1] [.cells [.i 0, .nilslice]] [] [vl encEventT r2.1] (.agg [.i r4.Day, vl encSlingT r4.Slings])] (And.intro (call_val (AllST.cons (vl_still encEventT _ (Nat.le_of_ble_eq_true rfl)) AllST.nil) (ref10_register_ok N r2.1 e_r4) (Still.agg (AllST.cons (Still.int 10 _ _) (AllST.cons (vl_still encSlingT _ (Nat.le_of_ble_eq_true rfl)) AllST.nil)))) trivial) ?_
      refine Goes.ret ?_
      obtain rfl := Option.some.inj h
      exact (Goes.retW (xs := [.agg [.i r4.Day, vl encSlingT r4.Slings], .i 0, .i 0]) (by kernel_rfl) (FzW.tuple (FzLW.cons (FzW.agg (FzLW.cons (FzW.still (Still.int 9 _ _)) (FzLW.cons (FzW.still (vl_still encSlingT _ (Nat.le_of_ble_eq_true rfl))) FzLW.nil))) (FzLW.cons (FzW.still (Still.int 10 _ _)) (FzLW.cons (FzW.still (Still.int 10 _ _)) FzLW.nil)))))
def ref10_Same_L0 (a : RegisterTq) (b : RegisterTq) : Nat → Int → Option (Unit ⊕ Bool)
  | 0, _ => none
  | K + 1, i_5 =>
    if i_5 < (a.Slings.length : Int) then
    (idx a.Slings i_5).bind fun x9 =>
    (idx b.Slings i_5).bind fun x10 =>
    if (!((x9.Name == x10.Name) && ((x9.Batch == x10.Batch) && (decide (x9.Born = x10.Born) && (decide (x9.Last = x10.Last) && (decide (x9.Uses = x10.Uses) && (decide (x9.Used = x10.Used) && (decide (x9.Limit = x10.Limit) && (decide (x9.Until = x10.Until) && ((x9.Gone == x10.Gone) && true)))))))))) = true then
    some (.inr false)
    else
    ref10_Same_L0 a b K (w64 (i_5 + 1))
    else
    some (.inl ())
def ref10_Same (N : Nat) (a : RegisterTq) (b : RegisterTq) : Option Bool :=
  (if (!decide (a.Day = b.Day)) = true then
  some true
  else
  some (!decide ((a.Slings.length : Int) = (b.Slings.length : Int))) : Option Bool).bind fun b2 =>
  if b2 = true then
  some false
  else
  (ref10_Same_L0 a b N 0).bind (fun
  | (.inl ()) =>
  some true
  | (.inr q12) =>
  some q12)
theorem ref10_Same_ok (N : Nat) (a : RegisterTq) (b : RegisterTq) {res : Bool} (h : ref10_Same N a b = some res) : CallOK Tryz.prog (.fn 20) [.agg [.i a.Day, vl encSlingT a.Slings], .agg [.i b.Day, vl encSlingT b.Slings]] [] (.bool res) [] := by
  unfold ref10_Same at h
  refine Goes.fnW Tryz.func20 rfl rfl (m := 38) rfl (rs := [.tmp 4]) rfl (l := [(0, .agg [.i a.Day, vl encSlingT a.Slings]), (1, .agg [.i b.Day, vl encSlingT b.Slings])]) rfl ?_
  refine sq ?_
  refine Goes.rg fol [(2, .ptr 0 0), (3, .ptr 1 0)] [.cells [.i a.Day, vl encSlingT a.Slings], .cells [.i b.Day, vl encSlingT b.Slings]] ?_
  refine sq ?_
  refine sq ?_
  obtain ⟨b2, g_v3, h⟩ := bnd h
  refine Goes.cut (s' := (ofG 38 [(2, .ptr 0 0), (3, .ptr 1 0), (19, .bool b2)], [.cells [.i a.Day, vl encSlingT a.Slings], .cells [.i b.Day, vl encSlingT b.Slings]])) ?_ ?_
  · rcases Bool.eq_false_or_eq_true (!decide (a.Day = b.Day)) with c1 | c1
    · rw [if_pos (c1)] at g_v3
      obtain rfl := Option.some.inj g_v3
      exact RegTo.ro fol [(5, (.done (.bool true)))] [(2, .ptr 0 0), (3, .ptr 1 0), (19, .bool true)] [.cells [.i a.Day, vl encSlingT a.Slings], .cells [.i b.Day, vl encSlingT b.Slings]] [.done (.done (.bool (!decide (a.Day = b.Day)))) (.bool true)] (And.intro (congrArg (fun x => Pg.done (.bool x)) c1) trivial)
    · rw [if_neg (by rw [c1]; exact Bool.false_ne_true)] at g_v3
      obtain rfl := Option.some.inj g_v3
      exact RegTo.ro fol [(5, (.done (.bool false)))] [(2, .ptr 0 0), (3, .ptr 1 0), (19, .bool (!decide ((a.Slings.length : Int) = (b.Slings.length : Int))))] [.cells [.i a.Day, vl encSlingT a.Slings], .cells [.i b.Day, vl encSlingT b.Slings]] [.done (.done (.bool (!decide (a.Day = b.Day)))) (.bool false)] (And.intro (congrArg (fun x => Pg.done (.bool x)) c1) trivial)
  refine Goes.ifB (b := b2) (by kernel_rfl) (fun c4 => ?_) (fun c4 => ?_)
  · rw [if_pos (c4)] at h
    refine sq ?_
    refine Goes.rg fol [(4, .bool false)] [.cells [.i a.Day, vl encSlingT a.Slings], .cells [.i b.Day, vl encSlingT b.Slings]] ?_
    refine Goes.ret ?_
    obtain rfl := Option.some.inj h
    exact (Goes.retW (xs := [.bool false]) (by kernel_rfl) (FzW.still (Still.bool 11 _)))
  · rw [if_neg (by rw [c4]; exact Bool.false_ne_true)] at h
    refine Goes.skip ?_
    refine sq ?_
    refine sq ?_
    refine Goes.rg fol [(2, .ptr 0 0), (3, .ptr 1 0), (5, .i 0)] [.cells [.i a.Day, vl encSlingT a.Slings], .cells [.i b.Day, vl encSlingT b.Slings]] ?_
    refine Goes.block ?_
    obtain ⟨r6, g6, h⟩ := bnd h
    refine Goes.imp (Q := fun x s' => (x = .exit 0 ∧ (.inl ()) = r6 ∧ Sub s' (ofG 38 [], [])) ∨ (x = .ret ∧ ∃ q7, (.inr q7) = r6 ∧ returnsW Tryz.prog [.tmp 4] (.bool q7) .ret s')) ?_ ?_
    · refine Goes.loopS (fun M s => ∃ (i_5 : Int), s = (ofG 38 [(2, .ptr 0 0), (3, .ptr 1 0), (5, .i i_5)], [.cells [.i a.Day, vl encSlingT a.Slings], .cells [.i b.Day, vl encSlingT b.Slings]]) ∧ ref10_Same_L0 a b M i_5 = some r6) ?_ (m := N) ⟨_, rfl, g6⟩
      rintro M s ⟨i_5, rfl, g6⟩
      cases M with
      | zero => simp only [ref10_Same_L0] at g6; cases g6
      | succ M =>
        rw [ref10_Same_L0] at g6
        refine sq ?_
        refine sq ?_
        refine Goes.rg fol [(2, .ptr 0 0), (3, .ptr 1 0), (5, .i i_5), (24, .bool (decide (i_5 < (a.Slings.length : Int))))] [.cells [.i a.Day, vl encSlingT a.Slings], .cells [.i b.Day, vl encSlingT b.Slings]] ?_
        refine Goes.ifB (b := decide (i_5 < (a.Slings.length : Int))) (by kernel_rfl) (fun c8 => ?_) (fun c8 => ?_)
        · rw [if_pos (ot c8)] at g6
          refine Goes.skip ?_
          refine sq ?_
          refine Goes.block ?_
          refine sq ?_
          obtain ⟨x9, e_x9, g6⟩ := bnd g6
          obtain ⟨x10, e_x10, g6⟩ := bnd g6
          refine Goes.ro fol [(3, (.done (.fptr (a.Slings.flatMap encSlingT.c) ((i_5 : Int).toNat * 9 + 0)))), (4, (.done (.agg [.str x9.Name, .str x9.Batch, .i x9.Born, .i x9.Last, .i x9.Uses, .i x9.Used, .i x9.Limit, .i x9.Until, .bool x9.Gone]))), (8, (.done (.fptr (b.Slings.flatMap encSlingT.c) ((i_5 : Int).toNat * 9 + 0)))), (9, (.done (.agg [.str x10.Name, .str x10.Batch, .i x10.Born, .i x10.Last, .i x10.Uses, .i x10.Used, .i x10.Limit, .i x10.Until, .bool x10.Gone]))), (10, (.done (.bool (!((x9.Name == x10.Name) && ((x9.Batch == x10.Batch) && (decide (x9.Born = x10.Born) && (decide (x9.Last = x10.Last) && (decide (x9.Uses = x10.Uses) && (decide (x9.Used = x10.Used) && (decide (x9.Limit = x10.Limit) && (decide (x9.Until = x10.Until) && ((x9.Gone == x10.Gone) && true)))))))))))))] [(2, .ptr 0 0), (3, .ptr 1 0), (5, .i i_5), (37, .bool (!((x9.Name == x10.Name) && ((x9.Batch == x10.Batch) && (decide (x9.Born = x10.Born) && (decide (x9.Last = x10.Last) && (decide (x9.Uses = x10.Uses) && (decide (x9.Used = x10.Used) && (decide (x9.Limit = x10.Limit) && (decide (x9.Until = x10.Until) && ((x9.Gone == x10.Gone) && true)))))))))))] [.cells [.i a.Day, vl encSlingT a.Slings], .cells [.i b.Day, vl encSlingT b.Slings]] [.done (.opt (aIndexAddr Tryz.prog 35 (vl encSlingT a.Slings) (.i i_5))) (.fptr (a.Slings.flatMap encSlingT.c) ((i_5 : Int).toNat * 9 + 0)), .done (aLoad Tryz.prog 60 (.fptr (a.Slings.flatMap encSlingT.c) ((i_5 : Int).toNat * 9 + 0))) (.agg [.str x9.Name, .str x9.Batch, .i x9.Born, .i x9.Last, .i x9.Uses, .i x9.Used, .i x9.Limit, .i x9.Until, .bool x9.Gone]), .done (.opt (aIndexAddr Tryz.prog 35 (vl encSlingT b.Slings) (.i i_5))) (.fptr (b.Slings.flatMap encSlingT.c) ((i_5 : Int).toNat * 9 + 0)), .done (aLoad Tryz.prog 60 (.fptr (b.Slings.flatMap encSlingT.c) ((i_5 : Int).toNat * 9 + 0))) (.agg [.str x10.Name, .str x10.Batch, .i x10.Born, .i x10.Last, .i x10.Uses, .i x10.Used, .i x10.Limit, .i x10.Until, .bool x10.Gone]), .done (.opt (aBin Tryz.prog .neq 60 (.tmp 31) (.tmp 36) (.agg [.str x9.Name, .str x9.Batch, .i x9.Born, .i x9.Last, .i x9.Uses, .i x9.Used, .i x9.Limit, .i x9.Until, .bool x9.Gone]) (.agg [.str x10.Name, .str x10.Batch, .i x10.Born, .i x10.Last, .i x10.Uses, .i x10.Used, .i x10.Limit, .i x10.Until, .bool x10.Gone]))) (.bool (!((x9.Name == x10.Name) && ((x9.Batch == x10.Batch) && (decide (x9.Born = x10.Born) && (decide (x9.Last = x10.Last) && (decide (x9.Uses = x10.Uses) && (decide (x9.Used = x10.Used) && (decide (x9.Limit = x10.Limit) && (decide (x9.Until = x10.Until) && ((x9.Gone == x10.Gone) && true)))))))))))] (And.intro (ix_vl sl35 (E := encSlingT) rfl e_x9) (And.intro (ld_ag ag60 (E := encSlingT) rfl e_x9) (And.intro (ix_vl sl35 (E := encSlingT) rfl e_x10) (And.intro (ld_ag ag60 (E := encSlingT) rfl e_x10) (And.intro (ne_ag eqt60 (e := ((x9.Name == x10.Name) && ((x9.Batch == x10.Batch) && (decide (x9.Born = x10.Born) && (decide (x9.Last = x10.Last) && (decide (x9.Uses = x10.Uses) && (decide (x9.Used = x10.Used) && (decide (x9.Limit = x10.Limit) && (decide (x9.Until = x10.Until) && ((x9.Gone == x10.Gone) && true)))))))))) (.cons (a := .str x9.Name) (b := .str x10.Name) rfl (by kernel_rfl) (by kernel_rfl) (by kernel_rfl) (.cons (a := .str x9.Batch) (b := .str x10.Batch) rfl (by kernel_rfl) (by kernel_rfl) (by kernel_rfl) (.cons (a := .i x9.Born) (b := .i x10.Born) rfl (by kernel_rfl) (by kernel_rfl) (by kernel_rfl) (.cons (a := .i x9.Last) (b := .i x10.Last) rfl (by kernel_rfl) (by kernel_rfl) (by kernel_rfl) (.cons (a := .i x9.Uses) (b := .i x10.Uses) rfl (by kernel_rfl) (by kernel_rfl) (by kernel_rfl) (.cons (a := .i x9.Used) (b := .i x10.Used) rfl (by kernel_rfl) (by kernel_rfl) (by kernel_rfl) (.cons (a := .i x9.Limit) (b := .i x10.Limit) rfl (by kernel_rfl) (by kernel_rfl) (by kernel_rfl) (.cons (a := .i x9.Until) (b := .i x10.Until) rfl (by kernel_rfl) (by kernel_rfl) (by kernel_rfl) (.cons (a := .bool x9.Gone) (b := .bool x10.Gone) rfl (by kernel_rfl) (by kernel_rfl) (by kernel_rfl) .nil)))))))))) trivial))))) ?_
          refine Goes.ifB (b := !((x9.Name == x10.Name) && ((x9.Batch == x10.Batch) && (decide (x9.Born = x10.Born) && (decide (x9.Last = x10.Last) && (decide (x9.Uses = x10.Uses) && (decide (x9.Used = x10.Used) && (decide (x9.Limit = x10.Limit) && (decide (x9.Until = x10.Until) && ((x9.Gone == x10.Gone) && true)))))))))) (by kernel_rfl) (fun c11 => ?_) (fun c11 => ?_)
          · rw [if_pos (c11)] at g6
            refine sq ?_
            refine Goes.rg fol [(4, .bool false)] [.cells [.i a.Day, vl encSlingT a.Slings], .cells [.i b.Day, vl encSlingT b.Slings]] ?_
            refine Goes.ret ?_
            obtain rfl := Option.some.inj g6
            exact Or.inr (⟨rfl, _, rfl, (Goes.retW (xs := [.bool false]) (by kernel_rfl) (FzW.still (Still.bool 11 _)))⟩)
          · rw [if_neg (by rw [c11]; exact Bool.false_ne_true)] at g6
            refine Goes.skip ?_
            refine Goes.rg fol [(2, .ptr 0 0), (3, .ptr 1 0), (5, .i (w64 (i_5 + 1)))] [.cells [.i a.Day, vl encSlingT a.Slings], .cells [.i b.Day, vl encSlingT b.Slings]] ?_
            exact ⟨M, (ofG 38 [(2, .ptr 0 0), (3, .ptr 1 0), (5, .i (w64 (i_5 + 1)))], [.cells [.i a.Day, vl encSlingT a.Slings], .cells [.i b.Day, vl encSlingT b.Slings]]), Nat.lt_succ_self _, (Sub.refl _), _, rfl, g6⟩
        · rw [if_neg (of_ c8)] at g6
          refine Goes.exit ?_
          obtain rfl := Option.some.inj g6
          exact Or.inl (⟨rfl, rfl, (Sub.norm [] [] rfl rfl .nil .nil)⟩)
    rintro x s' (⟨rfl, rfl, hsub⟩ | ⟨rfl, q12, rfl, hret⟩)
    · try dsimp only at h
      refine Goes.sub hsub ?_
      refine sq ?_
      refine Goes.rg fol [(4, .bool true)] [] ?_
      refine Goes.ret ?_
      obtain rfl := Option.some.inj h
      exact (Goes.retW (xs := [.bool true]) (by kernel_rfl) (FzW.still (Still.bool 11 _)))
    · try dsimp only at h
      obtain rfl := Option.some.inj h
      exact hret
def law10_own_L0 (r : RegisterT) : Nat → (List SlingT) → Int → Option (List SlingT)
  | 0, _, _ => none
  | K + 1, l1, n2 =>
    if n2 < (r.Slings.length : Int) then
    (idx r.Slings n2).bind fun x6 =>
    (app 88 l1 [x6]).bind fun l7 =>
    law10_own_L0 r K l7 (w64 (n2 + 1))
    else
    some l1
def law10_own (N : Nat) (r : RegisterT) : Option RegisterTq :=
  (law10_own_L0 r N ([] : List SlingT) 0).bind fun l3 =>
  some (⟨r.Day, l3⟩ : RegisterTq)
theorem law10_own_ok (N : Nat) (r : RegisterT) {res : RegisterTq} (h : law10_own N r = some res) : CallOK Tryz.prog (.fn 21) [.agg [.i r.Day, vl encSlingT r.Slings]] [] (.agg [.i res.Day, vl encSlingT res.Slings]) [] := by
  unfold law10_own at h
  refine Goes.fnW Tryz.func21 rfl rfl (m := 24) rfl (rs := [.cell 2 37]) rfl (l := [(0, .agg [.i r.Day, vl encSlingT r.Slings])]) rfl ?_
  refine sq ?_
  refine Goes.rg fol [(1, .ptr 0 0), (2, .ptr 1 0)] [.cells [.i r.Day, vl encSlingT r.Slings], .cells [.i 0, .nilslice]] ?_
  refine sq ?_
  refine Goes.rg fol [(1, .ptr 0 0), (2, .ptr 1 0), (3, .ptr 2 0)] [.cells [.i r.Day, vl encSlingT r.Slings], .cells [.i 0, .nilslice], .cells [.i r.Day, .nilslice]] ?_
  refine sq ?_
  refine sq ?_
  refine Goes.rg fol [(2, .ptr 1 0), (3, .ptr 2 0), (10, vl encSlingT r.Slings), (11, .i (r.Slings.length : Int)), (12, .i 0)] [.cells [.i r.Day, vl encSlingT r.Slings], .cells [.i 0, .nilslice], .cells [.i r.Day, .nilslice]] ?_
  refine Goes.block ?_
  obtain ⟨r4, g4, h⟩ := bnd h
  refine Goes.imp (Q := fun x s' => (x = .exit 0 ∧ ∃ l3, l3 = r4 ∧ Sub s' (ofG 24 [(2, .ptr 0 0), (3, .ptr 1 0)], [.cells [.i 0, .nilslice], .cells [.i r.Day, .gslice 2 l3.length 9], .cells (l3.flatMap encSlingT.c)]))) ?_ ?_
  · refine Goes.sub (s' := (ofG 24 [(2, .ptr 0 0), (3, .ptr 1 0), (10, vl encSlingT r.Slings), (11, .i (r.Slings.length : Int)), (12, .i 0)], [.cells [.i 0, .nilslice], .cells [.i r.Day, .gslice 2 ([] : List SlingT).length 9], .cells (([] : List SlingT).flatMap encSlingT.c)])) (Sub.norm [] [some 1, some 2, none] rfl rfl (.keep (.ptr rfl) (.keep (.ptr rfl) (.keep (.same (vl_noRef encSlingT _)) (.keep (.same (NoRef.int _ _)) (.keep (.same (NoRef.int _ _)) .nil))))) (.keep rfl (.same (AllN.cons (NoRef.int _ _) (AllN.cons (NoRef.nilslice) AllN.nil))) rfl rfl (.keep rfl (.cells (RenL.cons (.same (NoRef.int _ _)) (RenL.cons (.nil) RenL.nil))) rfl rfl (.fresh .nil)))) ?_
    refine Goes.loopS (fun M s => ∃ (l1 : List SlingT) (n2 : Int), s = (ofG 24 [(2, .ptr 0 0), (3, .ptr 1 0), (10, vl encSlingT r.Slings), (11, .i (r.Slings.length : Int)), (12, .i n2)], [.cells [.i 0, .nilslice], .cells [.i r.Day, .gslice 2 l1.length 9], .cells (l1.flatMap encSlingT.c)]) ∧ law10_own_L0 r M l1 n2 = some r4) ?_ (m := N) ⟨_, _, rfl, g4⟩
    rintro M s ⟨l1, n2, rfl, g4⟩
    cases M with
    | zero => simp only [law10_own_L0] at g4; cases g4
    | succ M =>
      rw [law10_own_L0] at g4
      refine sq ?_
      refine Goes.rg fol [(2, .ptr 0 0), (3, .ptr 1 0), (10, vl encSlingT r.Slings), (11, .i (r.Slings.length : Int)), (12, .i n2), (13, .bool (decide (n2 < (r.Slings.length : Int))))] [.cells [.i 0, .nilslice], .cells [.i r.Day, .gslice 2 l1.length 9], .cells (l1.flatMap encSlingT.c)] ?_
      refine sq ?_
      refine Goes.ifB (b := decide (n2 < (r.Slings.length : Int))) (by kernel_rfl) (fun c5 => ?_) (fun c5 => ?_)
      · rw [if_pos (ot c5)] at g4
        refine Goes.skip ?_
        refine sq ?_
        refine Goes.block ?_
        refine sq ?_
        obtain ⟨x6, e_x6, g4⟩ := bnd g4
        refine Goes.ro fol [(0, (.done (.fptr (r.Slings.flatMap encSlingT.c) ((n2 : Int).toNat * 9 + 0)))), (1, (.done (.agg [.str x6.Name, .str x6.Batch, .i x6.Born, .i x6.Last, .i x6.Uses, .i x6.Used, .i x6.Limit, .i x6.Until, .bool x6.Gone])))] [(2, .ptr 0 0), (3, .ptr 1 0), (5, .ptr 3 0), (10, vl encSlingT r.Slings), (11, .i (r.Slings.length : Int)), (12, .i n2)] [.cells [.i 0, .nilslice], .cells [.i r.Day, .gslice 2 l1.length 9], .cells (l1.flatMap encSlingT.c), .cells [.str x6.Name, .str x6.Batch, .i x6.Born, .i x6.Last, .i x6.Uses, .i x6.Used, .i x6.Limit, .i x6.Until, .bool x6.Gone]] [.done (.opt (aIndexAddr Tryz.prog 29 (vl encSlingT r.Slings) (.i n2))) (.fptr (r.Slings.flatMap encSlingT.c) ((n2 : Int).toNat * 9 + 0)), .done (aLoad Tryz.prog 68 (.fptr (r.Slings.flatMap encSlingT.c) ((n2 : Int).toNat * 9 + 0))) (.agg [.str x6.Name, .str x6.Batch, .i x6.Born, .i x6.Last, .i x6.Uses, .i x6.Used, .i x6.Limit, .i x6.Until, .bool x6.Gone])] (And.intro (ix_vl sl29 (E := encSlingT) rfl e_x6) (And.intro (ld_ag ag68 (E := encSlingT) rfl e_x6) trivial)) ?_
        obtain ⟨l7, e_l7, g4⟩ := bnd g4
        refine Goes.ro fol [(4, (.run (.gslice 5 l7.length 9) [.cells [.i 0, .nilslice], .cells [.i r.Day, .gslice 2 l1.length 9], .dead, .cells [.str x6.Name, .str x6.Batch, .i x6.Born, .i x6.Last, .i x6.Uses, .i x6.Used, .i x6.Limit, .i x6.Until, .bool x6.Gone], .cells [.str x6.Name, .str x6.Batch, .i x6.Born, .i x6.Last, .i x6.Uses, .i x6.Used, .i x6.Limit, .i x6.Until, .bool x6.Gone], .cells (l7.flatMap encSlingT.c)] true))] [(2, .ptr 0 0), (3, .ptr 1 0), (10, vl encSlingT r.Slings), (11, .i (r.Slings.length : Int)), (12, .i n2)] [.cells [.i 0, .nilslice], .cells [.i r.Day, .gslice 5 l7.length 9], .dead, .cells [.str x6.Name, .str x6.Batch, .i x6.Born, .i x6.Last, .i x6.Uses, .i x6.Used, .i x6.Limit, .i x6.Until, .bool x6.Gone], .cells [.str x6.Name, .str x6.Batch, .i x6.Born, .i x6.Last, .i x6.Uses, .i x6.Used, .i x6.Limit, .i x6.Until, .bool x6.Gone], .cells (l7.flatMap encSlingT.c)] [.run [2, 4] (aAppend Tryz.prog [35, 35] (.gslice 2 l1.length 9) (.slice 4 0 1 1 9)) [.cells [.i 0, .nilslice], .cells [.i r.Day, .gslice 2 l1.length 9], .cells (l1.flatMap encSlingT.c), .cells [.str x6.Name, .str x6.Batch, .i x6.Born, .i x6.Last, .i x6.Uses, .i x6.Used, .i x6.Limit, .i x6.Until, .bool x6.Gone], .cells [.str x6.Name, .str x6.Batch, .i x6.Born, .i x6.Last, .i x6.Uses, .i x6.Used, .i x6.Limit, .i x6.Until, .bool x6.Gone]] (.gslice 5 l7.length 9) [.cells [.i 0, .nilslice], .cells [.i r.Day, .gslice 2 l1.length 9], .dead, .cells [.str x6.Name, .str x6.Batch, .i x6.Born, .i x6.Last, .i x6.Uses, .i x6.Used, .i x6.Limit, .i x6.Until, .bool x6.Gone], .cells [.str x6.Name, .str x6.Batch, .i x6.Born, .i x6.Last, .i x6.Uses, .i x6.Used, .i x6.Limit, .i x6.Until, .bool x6.Gone], .cells (l7.flatMap encSlingT.c)] true] (And.intro (app_run sl35 (E := encSlingT) rfl (src_c (E := encSlingT) (ys := [x6]) rfl rfl rfl rfl) (dst_g (E := encSlingT) (l := l1) rfl rfl rfl e_l7 rfl)) trivial) ?_
        refine Goes.rg fol [(2, .ptr 0 0), (3, .ptr 1 0), (10, vl encSlingT r.Slings), (11, .i (r.Slings.length : Int)), (12, .i (w64 (n2 + 1)))] [.cells [.i 0, .nilslice], .cells [.i r.Day, .gslice 5 l7.length 9], .dead, .cells [.str x6.Name, .str x6.Batch, .i x6.Born, .i x6.Last, .i x6.Uses, .i x6.Used, .i x6.Limit, .i x6.Until, .bool x6.Gone], .cells [.str x6.Name, .str x6.Batch, .i x6.Born, .i x6.Last, .i x6.Uses, .i x6.Used, .i x6.Limit, .i x6.Until, .bool x6.Gone], .cells (l7.flatMap encSlingT.c)] ?_
        exact ⟨M, (ofG 24 [(2, .ptr 0 0), (3, .ptr 1 0), (10, vl encSlingT r.Slings), (11, .i (r.Slings.length : Int)), (12, .i (w64 (n2 + 1)))], [.cells [.i 0, .nilslice], .cells [.i r.Day, .gslice 2 l7.length 9], .cells (l7.flatMap encSlingT.c)]), Nat.lt_succ_self _, (Sub.norm [] [some 0, some 1, some 5] rfl rfl (.keep (.ptr rfl) (.keep (.ptr rfl) (.keep (.same (vl_noRef encSlingT _)) (.keep (.same (NoRef.int _ _)) (.keep (.same (NoRef.int _ _)) .nil))))) (.keep rfl (.same (AllN.cons (NoRef.int _ _) (AllN.cons (NoRef.nilslice) AllN.nil))) rfl rfl (.keep rfl (.cells (RenL.cons (.same (NoRef.int _ _)) (RenL.cons (.gslice rfl) RenL.nil))) rfl rfl (.keep rfl (.same fa) rfl rfl .nil)))), _, _, rfl, g4⟩
      · rw [if_neg (of_ c5)] at g4
        refine Goes.exit ?_
        obtain rfl := Option.some.inj g4
        exact ⟨rfl, _, rfl, (Sub.keep [2, 3] rfl rfl)⟩
  rintro x s' ⟨rfl, l3, rfl, hsub⟩
  refine Goes.sub hsub ?_
  refine sq ?_
  refine Goes.rg fol [(2, .ptr 0 0)] [.cells [.i r.Day, .gslice 2 l3.length 9], .cells [.i r.Day, .gslice 2 l3.length 9], .cells (l3.flatMap encSlingT.c)] ?_
  refine Goes.ret ?_
  obtain rfl := Option.some.inj h
  exact (Goes.retW (xs := [.agg [.i r.Day, .gslice 2 l3.length 9]]) (by kernel_rfl) (FzW.agg (FzLW.cons (FzW.still (Still.int 10 _ _)) (FzLW.cons (FzW.fz (Fz.gs (E := encSlingT) rfl rfl (Nat.le_of_ble_eq_true rfl))) FzLW.nil))))
def record_Accepts (N : Nat) (l : List EventT) (e : EventT) : Option Int :=
  (record_replay_h1 N l).bind fun (l2, o3, ok4, l_5, n6) =>
  (record_CheckEvent N e).bind fun r7 =>
  (record_when (decide ((l.length : Int) ≥ 1000)) 5).bind fun r8 =>
  (record_first N ([n6, r7, r8] : List Int)).bind fun r9 =>
  if (!decide (r9 = 0)) = true then
  some r9
  else
  ((match ok4 with
  | false =>
  none
  | true =>
  (record_story_accept_h1 N l2 o3 e.Number e.Kind e.Names e.Values e.Text).bind fun (l12, o13, h_14) =>
  some (l12, o13, h_14)) : Option ((List EventT) × (Option (List StateT)) × Int)).bind fun (l15, o16, n17) =>
  some n17
theorem record_Accepts_ok (N : Nat) (l : List EventT) (e : EventT) {res : Int} (h : record_Accepts N l e = some res) : CallOK Tryz.prog (.fn 22) [vl encEventT l, .agg [.i e.Number, .str e.Kind, vl encS e.Names, vl encI e.Values, .str e.Text]] [] (.i res) [] := by
  unfold record_Accepts at h
  refine Goes.fnW Tryz.func22 rfl rfl (m := 29) rfl (rs := [.tmp 4]) rfl (l := [(0, vl encEventT l), (1, .agg [.i e.Number, .str e.Kind, vl encS e.Names, vl encI e.Values, .str e.Text])]) rfl ?_
  refine sq ?_
  refine Goes.rg fol [(0, vl encEventT l), (3, .ptr 0 0)] [.cells [.i e.Number, .str e.Kind, vl encS e.Names, vl encI e.Values, .str e.Text]] ?_
  refine sq ?_
  obtain ⟨⟨l2, o3, ok4, l_5, n6⟩, e_r1, h⟩ := bnd h
  try dsimp only at h
  refine Goes.ro fol [(1, (.callH [] (.tuple [pz ok4 1 0, .i l_5, .i n6]) [.cells [.i e.Number, .str e.Kind, vl encS e.Names, vl encI e.Values, .str e.Text], .cells [.gslice 2 l2.length 5, hsl 3 3 o3], .cells (l2.flatMap encEventT.c), .cells ((hof o3).flatMap encStateT.c)]))] [(0, vl encEventT l), (3, .ptr 0 0), (5, pz ok4 1 0), (7, .i n6)] [.cells [.i e.Number, .str e.Kind, vl encS e.Names, vl encI e.Values, .str e.Text], .cells [.gslice 2 l2.length 5, hsl 3 3 o3], .cells (l2.flatMap encEventT.c), .cells ((hof o3).flatMap encStateT.c)] [.callH 80 [vl encEventT l] [.cells [.i e.Number, .str e.Kind, vl encS e.Names, vl encI e.Values, .str e.Text]] [] (.tuple [pz ok4 1 0, .i l_5, .i n6]) [.cells [.i e.Number, .str e.Kind, vl encS e.Names, vl encI e.Values, .str e.Text], .cells [.gslice 2 l2.length 5, hsl 3 3 o3], .cells (l2.flatMap encEventT.c), .cells ((hof o3).flatMap encStateT.c)]] (And.intro (call_H [] [none, some 0, some 1, some 2] (record_replay_h1_ok N l e_r1) .nil rfl rfl (.old rfl rfl (.new rfl rfl (.cells (RenL.cons (.gslice rfl) (RenL.cons ((RenV.hs rfl)) RenL.nil))) rfl (.new rfl rfl (.same fa) rfl (.new rfl rfl (.same fa) rfl .nil)))) (RenL.cons (.same (vl_noRef encEventT _)) RenL.nil) (.tupleL (RenL.cons ((RenV.pz rfl)) (RenL.cons (.same (NoRef.int _ _)) (RenL.cons (.same (NoRef.int _ _)) RenL.nil)))) rfl) trivial) ?_
  refine sq ?_
  refine sq ?_
  obtain ⟨r7, e_r7, h⟩ := bnd h
  obtain ⟨r8, e_r8, h⟩ := bnd h
  obtain ⟨r9, e_r9, h⟩ := bnd h
  refine Goes.ro fol [(2, (.call [] [.agg [.i e.Number, .str e.Kind, vl encS e.Names, vl encI e.Values, .str e.Text]] (.i r7))), (6, (.call [] [.bool (decide ((l.length : Int) ≥ 1000)), .i 5] (.i r8))), (8, (.call [4] [vl encI ([n6, r7, r8] : List Int)] (.i r9)))] [(3, .ptr 0 0), (5, pz ok4 1 0), (7, .i r9)] [.cells [.i e.Number, .str e.Kind, vl encS e.Names, vl encI e.Values, .str e.Text], .cells [.gslice 2 l2.length 5, hsl 3 3 o3], .cells (l2.flatMap encEventT.c), .cells ((hof o3).flatMap encStateT.c), .cells [.i n6, .i r7, .i r8]] [.call 18 [.agg [.i e.Number, .str e.Kind, vl encS e.Names, vl encI e.Values, .str e.Text]] [.cells [.i e.Number, .str e.Kind, vl encS e.Names, vl encI e.Values, .str e.Text], .cells [.gslice 2 l2.length 5, hsl 3 3 o3], .cells (l2.flatMap encEventT.c), .cells ((hof o3).flatMap encStateT.c)] [] [.agg [.i e.Number, .str e.Kind, vl encS e.Names, vl encI e.Values, .str e.Text]] (.i r7), .call 88 [.bool (decide ((l.length : Int) ≥ 1000)), .i 5] [.cells [.i e.Number, .str e.Kind, vl encS e.Names, vl encI e.Values, .str e.Text], .cells [.gslice 2 l2.length 5, hsl 3 3 o3], .cells (l2.flatMap encEventT.c), .cells ((hof o3).flatMap encStateT.c)] [] [.bool (decide ((l.length : Int) ≥ 1000)), .i 5] (.i r8), .call 86 [.slice 4 0 3 3 1] [.cells [.i e.Number, .str e.Kind, vl encS e.Names, vl encI e.Values, .str e.Text], .cells [.gslice 2 l2.length 5, hsl 3 3 o3], .cells (l2.flatMap encEventT.c), .cells ((hof o3).flatMap encStateT.c), .cells [.i n6, .i r7, .i r8]] [4] [vl encI ([n6, r7, r8] : List Int)] (.i r9)] (And.intro (call_val (AllST.cons (Still.agg (AllST.cons (Still.int 10 _ _) (AllST.cons (Still.str 10 _) (AllST.cons (vl_still encS _ (Nat.le_of_ble_eq_true rfl)) (AllST.cons (vl_still encI _ (Nat.le_of_ble_eq_true rfl)) (AllST.cons (Still.str 10 _) AllST.nil)))))) AllST.nil) (record_CheckEvent_ok N e e_r7) (Still.int 11 _ _)) (And.intro (call_val (AllST.cons (Still.bool 11 _) (AllST.cons (Still.int 11 _ _) AllST.nil)) (record_when_ok (decide ((l.length : Int) ≥ 1000)) 5 e_r8) (Still.int 11 _ _)) (And.intro (call_S (FzL.cons (Fz.lit rfl rfl (FzL.still (AllST.cons (Still.int 10 _ _) (AllST.cons (Still.int 10 _ _) (AllST.cons (Still.int 10 _ _) AllST.nil))))) FzL.nil) (record_first_ok N ([n6, r7, r8] : List Int) e_r9) (Still.int 11 _ _) rfl) trivial))) ?_
  refine sq ?_
  refine Goes.rg fol [(3, .ptr 0 0), (5, pz ok4 1 0), (7, .i r9), (24, .bool (!decide (r9 = 0)))] [.cells [.i e.Number, .str e.Kind, vl encS e.Names, vl encI e.Values, .str e.Text], .cells [.gslice 2 l2.length 5, hsl 3 3 o3], .cells (l2.flatMap encEventT.c), .cells ((hof o3).flatMap encStateT.c), .cells [.i n6, .i r7, .i r8]] ?_
  refine Goes.ifB (b := !decide (r9 = 0)) (by kernel_rfl) (fun c10 => ?_) (fun c10 => ?_)
  · rw [if_pos (c10)] at h
    refine sq ?_
    refine Goes.rg fol [(4, .i r9)] [.cells [.i e.Number, .str e.Kind, vl encS e.Names, vl encI e.Values, .str e.Text], .cells [.gslice 2 l2.length 5, hsl 3 3 o3], .cells (l2.flatMap encEventT.c), .cells ((hof o3).flatMap encStateT.c), .cells [.i n6, .i r7, .i r8]] ?_
    refine Goes.ret ?_
    obtain rfl := Option.some.inj h
    exact (Goes.retW (xs := [.i r9]) (by kernel_rfl) (FzW.still (Still.int 11 _ _)))
  · rw [if_neg (by rw [c10]; exact Bool.false_ne_true)] at h
    refine Goes.skip ?_
    refine sq ?_
    obtain ⟨⟨l15, o16, n17⟩, g_v18, h⟩ := bnd h
    refine Goes.cut (s' := (ofG 29 [(4, .i n17)], [.cells [.i e.Number, .str e.Kind, vl encS e.Names, vl encI e.Values, .str e.Text], .cells [.gslice 5 l15.length 5, hsl 6 3 o16], .dead, .dead, .cells [.i n6, .i r7, .i r8], .cells (l15.flatMap encEventT.c), .cells ((hof o16).flatMap encStateT.c)])) ?_ ?_
    · rcases ok4 with _ | _
      · try dsimp only at g_v18
        cases g_v18
      · try dsimp only at g_v18
        obtain ⟨⟨l12, o13, h_14⟩, e_r11, g_v18⟩ := bnd g_v18
        try dsimp only at g_v18
        simp only [Option.some.injEq, Prod.mk.injEq] at g_v18
        obtain ⟨rfl, rfl, rfl⟩ := g_v18
        exact RegTo.ro fol [(2, (.callH [1, 2, 3] (.i h_14) [.cells [.i e.Number, .str e.Kind, vl encS e.Names, vl encI e.Values, .str e.Text], .cells [.gslice 5 l12.length 5, hsl 6 3 o13], .dead, .dead, .cells [.i n6, .i r7, .i r8], .cells (l12.flatMap encEventT.c), .cells ((hof o13).flatMap encStateT.c)]))] [(4, .i h_14)] [.cells [.i e.Number, .str e.Kind, vl encS e.Names, vl encI e.Values, .str e.Text], .cells [.gslice 5 l12.length 5, hsl 6 3 o13], .dead, .dead, .cells [.i n6, .i r7, .i r8], .cells (l12.flatMap encEventT.c), .cells ((hof o13).flatMap encStateT.c)] [.callH 91 [.ptr 1 0, .agg [.i e.Number, .str e.Kind, vl encS e.Names, vl encI e.Values, .str e.Text]] [.cells [.i e.Number, .str e.Kind, vl encS e.Names, vl encI e.Values, .str e.Text], .cells [.gslice 2 l2.length 5, hsl 3 3 o3], .cells (l2.flatMap encEventT.c), .cells ((hof o3).flatMap encStateT.c), .cells [.i n6, .i r7, .i r8]] [1, 2, 3] (.i h_14) [.cells [.i e.Number, .str e.Kind, vl encS e.Names, vl encI e.Values, .str e.Text], .cells [.gslice 5 l12.length 5, hsl 6 3 o13], .dead, .dead, .cells [.i n6, .i r7, .i r8], .cells (l12.flatMap encEventT.c), .cells ((hof o13).flatMap encStateT.c)]] (And.intro (call_H [some 1, some 2, some 3] [none, some 0, none, none, none, some 3, some 4] (record_story_accept_h1_ok N l2 o3 e.Number e.Kind e.Names e.Values e.Text e_r11) (.keep rfl (.cells (RenL.cons (.gslice rfl) (RenL.cons ((RenV.hs rfl)) RenL.nil))) rfl rfl (.keep rfl (.same fa) rfl rfl (.keep rfl (.same fa) rfl rfl .nil))) rfl rfl (.old rfl rfl (.back rfl rfl (.cells (RenL.cons (.gslice rfl) (RenL.cons ((RenV.hs rfl)) RenL.nil))) rfl (.dead (.dead (.old rfl rfl (.new rfl rfl (.same fa) rfl (.new rfl rfl (.same fa) rfl .nil))))))) (RenL.cons (.ptr rfl) (RenL.cons (.same (NoRef.agg (AllN.cons (NoRef.int _ _) (AllN.cons (NoRef.str _) (AllN.cons (vl_noRef encS _) (AllN.cons (vl_noRef encI _) (AllN.cons (NoRef.str _) AllN.nil))))))) RenL.nil)) (.same (NoRef.int _ _)) rfl) trivial)
    try dsimp only at h
    refine Goes.ret ?_
    obtain rfl := Option.some.inj h
    exact (Goes.retW (xs := [.i n17]) (by kernel_rfl) (FzW.still (Still.int 11 _ _)))
def ref10_Accepts (N : Nat) (l : List EventT) (e : EventT) : Option Int :=
  (ref10_Replay N l).bind fun r1 =>
  ((if r1.2.2 = 0 then
  (ref10_CheckEvent N e).bind fun r5 =>
  some r5
  else
  some r1.2.2 : Option Int)).bind fun bad_2 =>
  if (!decide (bad_2 = 0)) = true then
  some bad_2
  else
  if (l.length : Int) ≥ 1000 then
  some 5
  else
  (app 88 ([] : List EventT) l).bind fun l8 =>
  (app 88 l8 [e]).bind fun l9 =>
  (ref10_Replay N l9).bind fun r10 =>
  some r10.2.2
theorem ref10_Accepts_ok (N : Nat) (l : List EventT) (e : EventT) {res : Int} (h : ref10_Accepts N l e = some res) : CallOK Tryz.prog (.fn 23) [vl encEventT l, .agg [.i e.Number, .str e.Kind, vl encS e.Names, vl encI e.Values, .str e.Text]] [] (.i res) [] := by
  unfold ref10_Accepts at h
  refine Goes.fnW Tryz.func23 rfl rfl (m := 36) rfl (rs := [.tmp 4]) rfl (l := [(0, vl encEventT l), (1, .agg [.i e.Number, .str e.Kind, vl encS e.Names, vl encI e.Values, .str e.Text])]) rfl ?_
  refine sq ?_
  refine Goes.rg fol [(0, vl encEventT l), (3, .ptr 0 0)] [.cells [.i e.Number, .str e.Kind, vl encS e.Names, vl encI e.Values, .str e.Text]] ?_
  refine sq ?_
  obtain ⟨r1, e_r1, h⟩ := bnd h
  refine Goes.ro fol [(1, (.call [] [vl encEventT l] (.tuple [.agg [.i r1.1.Day, vl encSlingT r1.1.Slings], .i r1.2.1, .i r1.2.2])))] [(0, vl encEventT l), (3, .ptr 0 0), (7, .i r1.2.2)] [.cells [.i e.Number, .str e.Kind, vl encS e.Names, vl encI e.Values, .str e.Text], .cells [.i r1.1.Day, vl encSlingT r1.1.Slings]] [.call 17 [vl encEventT l] [.cells [.i e.Number, .str e.Kind, vl encS e.Names, vl encI e.Values, .str e.Text]] [] [vl encEventT l] (.tuple [.agg [.i r1.1.Day, vl encSlingT r1.1.Slings], .i r1.2.1, .i r1.2.2])] (And.intro (call_val (AllST.cons (vl_still encEventT _ (Nat.le_of_ble_eq_true rfl)) AllST.nil) (ref10_Replay_ok N l e_r1) (Still.tuple (AllST.cons (Still.agg (AllST.cons (Still.int 9 _ _) (AllST.cons (vl_still encSlingT _ (Nat.le_of_ble_eq_true rfl)) AllST.nil))) (AllST.cons (Still.int 10 _ _) (AllST.cons (Still.int 10 _ _) AllST.nil))))) trivial) ?_
  refine sq ?_
  refine sq ?_
  refine Goes.rg fol [(0, vl encEventT l), (3, .ptr 0 0), (7, .i r1.2.2), (15, .bool (decide (r1.2.2 = 0)))] [.cells [.i e.Number, .str e.Kind, vl encS e.Names, vl encI e.Values, .str e.Text], .cells [.i r1.1.Day, vl encSlingT r1.1.Slings]] ?_
  obtain ⟨r3, g3, h⟩ := bnd h
  refine Goes.imp (Q := fun x s' => (x = .normal ∧ ∃ bad_2, bad_2 = r3 ∧ Sub s' (ofG 36 [(0, vl encEventT l), (3, .ptr 0 0), (7, .i bad_2)], [.cells [.i e.Number, .str e.Kind, vl encS e.Names, vl encI e.Values, .str e.Text]]))) ?_ ?_
  · refine Goes.ifB (b := decide (r1.2.2 = 0)) (by kernel_rfl) (fun c4 => ?_) (fun c4 => ?_)
    · rw [if_pos (ot c4)] at g3
      obtain ⟨r5, e_r5, g3⟩ := bnd g3
      refine Goes.ro fol [(1, (.call [] [.agg [.i e.Number, .str e.Kind, vl encS e.Names, vl encI e.Values, .str e.Text]] (.i r5)))] [(0, vl encEventT l), (3, .ptr 0 0), (7, .i r5)] [.cells [.i e.Number, .str e.Kind, vl encS e.Names, vl encI e.Values, .str e.Text], .cells [.i r1.1.Day, vl encSlingT r1.1.Slings]] [.call 19 [.agg [.i e.Number, .str e.Kind, vl encS e.Names, vl encI e.Values, .str e.Text]] [.cells [.i e.Number, .str e.Kind, vl encS e.Names, vl encI e.Values, .str e.Text], .cells [.i r1.1.Day, vl encSlingT r1.1.Slings]] [] [.agg [.i e.Number, .str e.Kind, vl encS e.Names, vl encI e.Values, .str e.Text]] (.i r5)] (And.intro (call_val (AllST.cons (Still.agg (AllST.cons (Still.int 10 _ _) (AllST.cons (Still.str 10 _) (AllST.cons (vl_still encS _ (Nat.le_of_ble_eq_true rfl)) (AllST.cons (vl_still encI _ (Nat.le_of_ble_eq_true rfl)) (AllST.cons (Still.str 10 _) AllST.nil)))))) AllST.nil) (ref10_CheckEvent_ok N e e_r5) (Still.int 11 _ _)) trivial) ?_
      obtain rfl := Option.some.inj g3
      exact ⟨rfl, _, rfl, (Sub.norm [] [some 0] rfl rfl (.keep (.same (vl_noRef encEventT _)) (.keep (.ptr rfl) (.keep (.same (NoRef.int _ _)) .nil))) (.keep rfl (.same (AllN.cons (NoRef.int _ _) (AllN.cons (NoRef.str _) (AllN.cons (vl_noRef encS _) (AllN.cons (vl_noRef encI _) (AllN.cons (NoRef.str _) AllN.nil)))))) rfl rfl .nil))⟩
    · rw [if_neg (of_ c4)] at g3
      refine Goes.skip ?_
      obtain rfl := Option.some.inj g3
      exact ⟨rfl, _, rfl, (Sub.norm [] [some 0] rfl rfl (.keep (.same (vl_noRef encEventT _)) (.keep (.ptr rfl) (.keep (.same (NoRef.int _ _)) .nil))) (.keep rfl (.same (AllN.cons (NoRef.int _ _) (AllN.cons (NoRef.str _) (AllN.cons (vl_noRef encS _) (AllN.cons (vl_noRef encI _) (AllN.cons (NoRef.str _) AllN.nil)))))) rfl rfl .nil))⟩
  rintro x s' ⟨rfl, bad_2, rfl, hsub⟩
  refine Goes.sub hsub ?_
  refine sq ?_
  refine sq ?_
  refine Goes.rg fol [(0, vl encEventT l), (3, .ptr 0 0), (7, .i bad_2), (19, .bool (!decide (bad_2 = 0)))] [.cells [.i e.Number, .str e.Kind, vl encS e.Names, vl encI e.Values, .str e.Text]] ?_
  refine Goes.ifB (b := !decide (bad_2 = 0)) (by kernel_rfl) (fun c6 => ?_) (fun c6 => ?_)
  · rw [if_pos (c6)] at h
    refine sq ?_
    refine Goes.rg fol [(4, .i bad_2)] [.cells [.i e.Number, .str e.Kind, vl encS e.Names, vl encI e.Values, .str e.Text]] ?_
    refine Goes.ret ?_
    obtain rfl := Option.some.inj h
    exact (Goes.retW (xs := [.i bad_2]) (by kernel_rfl) (FzW.still (Still.int 11 _ _)))
  · rw [if_neg (by rw [c6]; exact Bool.false_ne_true)] at h
    refine Goes.skip ?_
    refine sq ?_
    refine sq ?_
    refine Goes.rg fol [(0, vl encEventT l), (3, .ptr 0 0), (23, .bool (decide ((l.length : Int) ≥ 1000)))] [.cells [.i e.Number, .str e.Kind, vl encS e.Names, vl encI e.Values, .str e.Text]] ?_
    refine Goes.ifB (b := decide ((l.length : Int) ≥ 1000)) (by kernel_rfl) (fun c7 => ?_) (fun c7 => ?_)
    · rw [if_pos (ot c7)] at h
      refine sq ?_
      refine Goes.rg fol [(4, .i 5)] [.cells [.i e.Number, .str e.Kind, vl encS e.Names, vl encI e.Values, .str e.Text]] ?_
      refine Goes.ret ?_
      obtain rfl := Option.some.inj h
      exact (Goes.retW (xs := [.i 5]) (by kernel_rfl) (FzW.still (Still.int 11 _ _)))
    · rw [if_neg (of_ c7)] at h
      refine Goes.skip ?_
      refine sq ?_
      obtain ⟨l8, e_l8, h⟩ := bnd h
      obtain ⟨l9, e_l9, h⟩ := bnd h
      obtain ⟨r10, e_r10, h⟩ := bnd h
      refine Goes.ro fol [(2, (.run (.oslice 2 l8.length 5) [.cells [.i e.Number, .str e.Kind, vl encS e.Names, vl encI e.Values, .str e.Text], .dead, .cells (l8.flatMap encEventT.c)] true)), (5, (.run (.oslice 4 l9.length 5) [.cells [.i e.Number, .str e.Kind, vl encS e.Names, vl encI e.Values, .str e.Text], .dead, .dead, .cells [.i e.Number, .str e.Kind, vl encS e.Names, vl encI e.Values, .str e.Text], .cells (l9.flatMap encEventT.c)] true)), (6, (.callF [4] [vl encEventT l9] (.tuple [.agg [.i r10.1.Day, vl encSlingT r10.1.Slings], .i r10.2.1, .i r10.2.2])))] [(7, .i r10.2.2)] [.cells [.i e.Number, .str e.Kind, vl encS e.Names, vl encI e.Values, .str e.Text], .dead, .dead, .cells [.i e.Number, .str e.Kind, vl encS e.Names, vl encI e.Values, .str e.Text], .frozen (l9.flatMap encEventT.c)] [.run [1] (aAppend Tryz.prog [22, 22] (.slice 1 0 0 0 5) (vl encEventT l)) [.cells [.i e.Number, .str e.Kind, vl encS e.Names, vl encI e.Values, .str e.Text], .cells []] (.oslice 2 l8.length 5) [.cells [.i e.Number, .str e.Kind, vl encS e.Names, vl encI e.Values, .str e.Text], .dead, .cells (l8.flatMap encEventT.c)] true, .run [2, 3] (aAppend Tryz.prog [22, 22] (.oslice 2 l8.length 5) (.slice 3 0 1 1 5)) [.cells [.i e.Number, .str e.Kind, vl encS e.Names, vl encI e.Values, .str e.Text], .dead, .cells (l8.flatMap encEventT.c), .cells [.i e.Number, .str e.Kind, vl encS e.Names, vl encI e.Values, .str e.Text]] (.oslice 4 l9.length 5) [.cells [.i e.Number, .str e.Kind, vl encS e.Names, vl encI e.Values, .str e.Text], .dead, .dead, .cells [.i e.Number, .str e.Kind, vl encS e.Names, vl encI e.Values, .str e.Text], .cells (l9.flatMap encEventT.c)] true, .callF 17 [.oslice 4 l9.length 5] [.cells [.i e.Number, .str e.Kind, vl encS e.Names, vl encI e.Values, .str e.Text], .dead, .dead, .cells [.i e.Number, .str e.Kind, vl encS e.Names, vl encI e.Values, .str e.Text], .cells (l9.flatMap encEventT.c)] [4] [vl encEventT l9] (.tuple [.agg [.i r10.1.Day, vl encSlingT r10.1.Slings], .i r10.2.1, .i r10.2.2])] (And.intro (app_run sl22 (E := encEventT) rfl (src_v (E := encEventT) rfl _) (dst_z (E := encEventT) rfl rfl rfl e_l8 rfl)) (And.intro (app_run sl22 (E := encEventT) rfl (src_c (E := encEventT) (ys := [e]) rfl rfl rfl rfl) (dst_o (E := encEventT) (l := l8) rfl rfl rfl e_l9 rfl)) (And.intro (call_F (FzL.cons (Fz.os (E := encEventT) rfl rfl (Nat.le_of_ble_eq_true rfl)) FzL.nil) (ref10_Replay_ok N l9 e_r10) (Still.tuple (AllST.cons (Still.agg (AllST.cons (Still.int 9 _ _) (AllST.cons (vl_still encSlingT _ (Nat.le_of_ble_eq_true rfl)) AllST.nil))) (AllST.cons (Still.int 10 _ _) (AllST.cons (Still.int 10 _ _) AllST.nil))))) trivial))) ?_
      refine Goes.sub (show Sub (ofG 36 [(7, .i r10.2.2)], [.cells [.i e.Number, .str e.Kind, vl encS e.Names, vl encI e.Values, .str e.Text], .dead, .dead, .cells [.i e.Number, .str e.Kind, vl encS e.Names, vl encI e.Values, .str e.Text], .frozen (l9.flatMap encEventT.c)]) (ofG 36 [(7, .i r10.2.2)], []) from (Sub.norm [] [] rfl rfl (.keep (.same (NoRef.int _ _)) .nil) .nil)) ?_
      refine sq ?_
      refine Goes.rg fol [(4, .i r10.2.2)] [] ?_
      refine Goes.ret ?_
      obtain rfl := Option.some.inj h
      exact (Goes.retW (xs := [.i r10.2.2]) (by kernel_rfl) (FzW.still (Still.int 11 _ _)))
end Go.Av
