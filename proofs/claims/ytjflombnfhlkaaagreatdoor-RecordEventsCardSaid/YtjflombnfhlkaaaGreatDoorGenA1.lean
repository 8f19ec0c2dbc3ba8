/-
  Walks of functions: what each computes, as a plain function.
-/
import Derived.Test.YtjflombnfhlkaaaGreatDoorAvOpt
import Derived.Test.YtjflombnfhlkaaaGreatDoorChecked
noncomputable section
namespace Go.Av
open Go.Proofs Go.RowKit
set_option linter.unusedSectionVars false
set_option linter.unusedVariables false
set_option linter.unusedSimpArgs false
set_option maxRecDepth 100000
variable [Glob]
theorem fol : Tryz.prog.follows .mixedOrders = true := by kernel_rfl
structure EventT where
  Number : Int
  Kind : Str
  Names : List Str
  Values : List Int
  Text : Str
def encEventT : Enc EventT := (encI.prod (encS.prod ((encL encS).prod ((encL encI).prod encS)))).comap fun x => (x.Number, x.Kind, x.Names, x.Values, x.Text)
structure SlingT where
  Name : Str
  Batch : Str
  Born : Int
  Last : Int
  Uses : Int
  Used : Int
  Limit : Int
  Until : Int
  Gone : Bool
def encSlingT : Enc SlingT := (encS.prod (encS.prod (encI.prod (encI.prod (encI.prod (encI.prod (encI.prod (encI.prod encB)))))))).comap fun x => (x.Name, x.Batch, x.Born, x.Last, x.Uses, x.Used, x.Limit, x.Until, x.Gone)
structure RegisterT where
  Day : Int
  Slings : List SlingT
def encRegisterT : Enc RegisterT := (encI.prod (encL encSlingT)).comap fun x => (x.Day, x.Slings)
structure StateT where
  number : Int
  register : RegisterT
def encStateT : Enc StateT := (encI.prod encRegisterT).comap fun x => (x.number, x.register)
structure RegisterTq where
  Day : Int
  Slings : List SlingT
def encRegisterTq : Enc RegisterTq := (encI.prod (encL encSlingT)).comap fun x => (x.Day, x.Slings)
theorem sl22 : SlT Tryz.prog 22 26 5 88 := ⟨by kernel_rfl, by kernel_rfl, by kernel_rfl, by kernel_rfl⟩
theorem ce9 : CeT Tryz.prog 9 := ⟨by kernel_rfl, by kernel_rfl⟩
theorem ce23 : CeT Tryz.prog 23 := ⟨by kernel_rfl, by kernel_rfl⟩
theorem ce24 : CeT Tryz.prog 24 := ⟨by kernel_rfl, by kernel_rfl⟩
theorem sl23 : SlT Tryz.prog 23 9 1 16 := ⟨by kernel_rfl, by kernel_rfl, by kernel_rfl, by kernel_rfl⟩
theorem sl218 : SlT Tryz.prog 218 32 1 8 := ⟨by kernel_rfl, by kernel_rfl, by kernel_rfl, by kernel_rfl⟩
theorem ce32 : CeT Tryz.prog 32 := ⟨by kernel_rfl, by kernel_rfl⟩
theorem sl29 : SlT Tryz.prog 29 68 9 88 := ⟨by kernel_rfl, by kernel_rfl, by kernel_rfl, by kernel_rfl⟩
theorem ag68 : AgT Tryz.prog 68 9 := ⟨by kernel_rfl, by kernel_rfl⟩
theorem mt154 : MapT Tryz.prog 154 9 152 (.agg [.i 0, .i 0, .nilfunc]) := ⟨by kernel_rfl, by kernel_rfl, by kernel_rfl⟩
theorem sl24 : SlT Tryz.prog 24 3 1 8 := ⟨by kernel_rfl, by kernel_rfl, by kernel_rfl, by kernel_rfl⟩
theorem ce3 : CeT Tryz.prog 3 := ⟨by kernel_rfl, by kernel_rfl⟩
theorem ag26 : AgT Tryz.prog 26 5 := ⟨by kernel_rfl, by kernel_rfl⟩
theorem sl163 : SlT Tryz.prog 163 167 3 40 := ⟨by kernel_rfl, by kernel_rfl, by kernel_rfl, by kernel_rfl⟩
theorem ag31 : AgT Tryz.prog 31 2 := ⟨by kernel_rfl, by kernel_rfl⟩
theorem it3 : Tryz.prog.underlying 3 = some (.int .i64) := by kernel_rfl
theorem st9 : Tryz.prog.underlying 9 = some .string := by kernel_rfl
theorem sl35 : SlT Tryz.prog 35 60 9 88 := ⟨by kernel_rfl, by kernel_rfl, by kernel_rfl, by kernel_rfl⟩
theorem ag60 : AgT Tryz.prog 60 9 := ⟨by kernel_rfl, by kernel_rfl⟩
theorem eqt60 : EqT Tryz.prog 60 #[{ name := "Name", type := 9, offset := 0, embedded := false, tag := "", pkgPath := "", byteOffset := 0 }, { name := "Batch", type := 9, offset := 1, embedded := false, tag := "", pkgPath := "", byteOffset := 16 }, { name := "Born", type := 3, offset := 2, embedded := false, tag := "", pkgPath := "", byteOffset := 32 }, { name := "Last", type := 3, offset := 3, embedded := false, tag := "", pkgPath := "", byteOffset := 40 }, { name := "Uses", type := 3, offset := 4, embedded := false, tag := "", pkgPath := "", byteOffset := 48 }, { name := "Used", type := 3, offset := 5, embedded := false, tag := "", pkgPath := "", byteOffset := 56 }, { name := "Limit", type := 3, offset := 6, embedded := false, tag := "", pkgPath := "", byteOffset := 64 }, { name := "Until", type := 3, offset := 7, embedded := false, tag := "", pkgPath := "", byteOffset := 72 }, { name := "Gone", type := 4, offset := 8, embedded := false, tag := "", pkgPath := "", byteOffset := 80 }] := ⟨by kernel_rfl, by kernel_rfl, by kernel_rfl⟩
abbrev fm1 : AV := .fmap [.str [109, 97, 107, 101], .str [116, 101, 115, 116], .str [117, 115, 101], .str [102, 97, 105, 108], .str [114, 101, 99, 97, 108, 108], .str [117, 110, 100, 111]] [.agg [.i 2, .i 3, .func (.func 141) [] []], .agg [.i 1, .i 2, .func (.func 142) [] []], .agg [.i 1, .i 2, .func (.func 143) [] []], .agg [.i 1, .i 1, .func (.func 144) [] []], .agg [.i 1, .i 1, .func (.func 145) [] []], .agg [.i 0, .i 0, .nilfunc]]
def ref10_ShortEvents_L1 (l : List EventT) (i_2 : Int) : Nat → Int → Option (Unit ⊕ Bool)
  | 0, _ => none
  | K + 1, k_13 =>
    (idx l i_2).bind fun x16 =>
    if k_13 < (x16.Names.length : Int) then
    (idx x16.Names k_13).bind fun x18 =>
    if (x18.length : Int) > 60 then
    some (.inr false)
    else
    ref10_ShortEvents_L1 l i_2 K (w64 (k_13 + 1))
    else
    some (.inl ())
def ref10_ShortEvents_L0 (N : Nat) (l : List EventT) : Nat → Int → Option (Unit ⊕ Bool)
  | 0, _ => none
  | K + 1, i_2 =>
    if i_2 < (l.length : Int) then
    ((idx l i_2).bind fun x6 =>
    if (x6.Kind.length : Int) > 60 then
    some true
    else
    if (x6.Names.length : Int) > 5 then
    some true
    else
    if (x6.Values.length : Int) > 5 then
    some true
    else
    some (decide ((x6.Text.length : Int) > 60)) : Option Bool).bind fun b10 =>
    if b10 = true then
    some (.inr false)
    else
    (ref10_ShortEvents_L1 l i_2 N 0).bind (fun
    | (.inl ()) =>
    ref10_ShortEvents_L0 N l K (w64 (i_2 + 1))
    | (.inr q20) =>
    some (.inr q20))
    else
    some (.inl ())
def ref10_ShortEvents (N : Nat) (l : List EventT) (n : Int) : Option Bool :=
  if (l.length : Int) > n then
  some false
  else
  (ref10_ShortEvents_L0 N l N 0).bind (fun
  | (.inl ()) =>
  some true
  | (.inr q21) =>
  some q21)
theorem ref10_ShortEvents_ok (N : Nat) (l : List EventT) (n : Int) {res : Bool} (h : ref10_ShortEvents N l n = some res) : CallOK Tryz.prog (.fn 14) [vl encEventT l, .i n] [] (.bool res) [] := by
  unfold ref10_ShortEvents at h
  refine Goes.fnW Tryz.func14 rfl rfl (m := 71) rfl (rs := [.tmp 4]) rfl (l := [(0, vl encEventT l), (1, .i n)]) rfl ?_
  refine sq ?_
  refine Goes.rg fol [(0, vl encEventT l), (1, .i n)] [] ?_
  refine sq ?_
  refine sq ?_
  refine Goes.rg fol [(0, vl encEventT l), (10, .bool (decide ((l.length : Int) > n)))] [] ?_
  refine Goes.ifB (b := decide ((l.length : Int) > n)) (by kernel_rfl) (fun c1 => ?_) (fun c1 => ?_)
  · rw [if_pos (ot c1)] at h
    refine sq ?_
    refine Goes.rg fol [(4, .bool false)] [] ?_
    refine Goes.ret ?_
    obtain rfl := Option.some.inj h
    exact (Goes.retW (xs := [.bool false]) (by kernel_rfl) (FzW.still (Still.bool 11 _)))
  · rw [if_neg (of_ c1)] at h
    refine Goes.skip ?_
    refine sq ?_
    refine sq ?_
    refine Goes.rg fol [(0, vl encEventT l), (5, .i 0)] [] ?_
    refine Goes.block ?_
    obtain ⟨r3, g3, h⟩ := bnd h
    refine Goes.imp (Q := fun x s' => (x = .exit 0 ∧ (.inl ()) = r3 ∧ Sub s' (ofG 71 [], [])) ∨ (x = .ret ∧ ∃ q4, (.inr q4) = r3 ∧ returnsW Tryz.prog [.tmp 4] (.bool q4) .ret s')) ?_ ?_
    · refine Goes.loopS (fun M s => ∃ (i_2 : Int), s = (ofG 71 [(0, vl encEventT l), (5, .i i_2)], []) ∧ ref10_ShortEvents_L0 N l M i_2 = some r3) ?_ (m := N) ⟨_, rfl, g3⟩
      rintro M s ⟨i_2, rfl, g3⟩
      cases M with
      | zero => simp only [ref10_ShortEvents_L0] at g3; cases g3
      | succ M =>
        rw [ref10_ShortEvents_L0] at g3
        refine sq ?_
        refine sq ?_
        refine Goes.rg fol [(0, vl encEventT l), (5, .i i_2), (14, .bool (decide (i_2 < (l.length : Int))))] [] ?_
        refine Goes.ifB (b := decide (i_2 < (l.length : Int))) (by kernel_rfl) (fun c5 => ?_) (fun c5 => ?_)
        · rw [if_pos (ot c5)] at g3
          refine Goes.skip ?_
          refine sq ?_
          refine Goes.block ?_
          refine sq ?_
          refine sq ?_
          obtain ⟨b10, g_v11, g3⟩ := bnd g3
          refine Goes.cut (s' := (ofG 71 [(0, vl encEventT l), (5, .i i_2), (50, .bool b10)], [])) ?_ ?_
          · obtain ⟨x6, e_x6, g_v11⟩ := bnd g_v11
            rcases Bool.eq_false_or_eq_true (decide ((x6.Kind.length : Int) > 60)) with c7 | c7
            · rw [if_pos (ot c7)] at g_v11
              obtain rfl := Option.some.inj g_v11
              exact RegTo.ro fol [(2, (.done (.fptr (l.flatMap encEventT.c) ((i_2 : Int).toNat * 5 + 0)))), (4, (.done (.str x6.Kind))), (7, (.done (.bool true)))] [(0, vl encEventT l), (5, .i i_2), (50, .bool true)] [] [.done (.opt (aIndexAddr Tryz.prog 22 (vl encEventT l) (.i i_2))) (.fptr (l.flatMap encEventT.c) ((i_2 : Int).toNat * 5 + 0)), .done (aLoad Tryz.prog 9 (.fptr (l.flatMap encEventT.c) ((i_2 : Int).toNat * 5 + 1))) (.str x6.Kind), .done (.done (.bool (decide ((x6.Kind.length : Int) > 60)))) (.bool true)] (And.intro (ix_vl sl22 (E := encEventT) rfl e_x6) (And.intro (ld_vl ce9 (E := encEventT) rfl e_x6 (Nat.le_of_ble_eq_true rfl) rfl) (And.intro (congrArg (fun x => Pg.done (.bool x)) c7) trivial)))
            · rw [if_neg (of_ c7)] at g_v11
              rcases Bool.eq_false_or_eq_true (decide ((x6.Names.length : Int) > 5)) with c8 | c8
              · rw [if_pos (ot c8)] at g_v11
                obtain rfl := Option.some.inj g_v11
                exact RegTo.ro fol [(2, (.done (.fptr (l.flatMap encEventT.c) ((i_2 : Int).toNat * 5 + 0)))), (4, (.done (.str x6.Kind))), (7, (.done (.bool false))), (10, (.done (.fptr (l.flatMap encEventT.c) ((i_2 : Int).toNat * 5 + 0)))), (12, (.done (vl encS x6.Names))), (16, (.done (.bool true)))] [(0, vl encEventT l), (5, .i i_2), (50, .bool true)] [] [.done (.opt (aIndexAddr Tryz.prog 22 (vl encEventT l) (.i i_2))) (.fptr (l.flatMap encEventT.c) ((i_2 : Int).toNat * 5 + 0)), .done (aLoad Tryz.prog 9 (.fptr (l.flatMap encEventT.c) ((i_2 : Int).toNat * 5 + 1))) (.str x6.Kind), .done (.done (.bool (decide ((x6.Kind.length : Int) > 60)))) (.bool false), .done (.opt (aIndexAddr Tryz.prog 22 (vl encEventT l) (.i i_2))) (.fptr (l.flatMap encEventT.c) ((i_2 : Int).toNat * 5 + 0)), .done (aLoad Tryz.prog 23 (.fptr (l.flatMap encEventT.c) ((i_2 : Int).toNat * 5 + 2))) (vl encS x6.Names), .done (.done (.bool (decide ((x6.Names.length : Int) > 5)))) (.bool true)] (And.intro (ix_vl sl22 (E := encEventT) rfl e_x6) (And.intro (ld_vl ce9 (E := encEventT) rfl e_x6 (Nat.le_of_ble_eq_true rfl) rfl) (And.intro (congrArg (fun x => Pg.done (.bool x)) c7) (And.intro (ix_vl sl22 (E := encEventT) rfl e_x6) (And.intro (ld_vl ce23 (E := encEventT) rfl e_x6 (Nat.le_of_ble_eq_true rfl) rfl) (And.intro (congrArg (fun x => Pg.done (.bool x)) c8) trivial))))))
              · rw [if_neg (of_ c8)] at g_v11
                rcases Bool.eq_false_or_eq_true (decide ((x6.Values.length : Int) > 5)) with c9 | c9
                · rw [if_pos (ot c9)] at g_v11
                  obtain rfl := Option.some.inj g_v11
                  exact RegTo.ro fol [(2, (.done (.fptr (l.flatMap encEventT.c) ((i_2 : Int).toNat * 5 + 0)))), (4, (.done (.str x6.Kind))), (7, (.done (.bool false))), (10, (.done (.fptr (l.flatMap encEventT.c) ((i_2 : Int).toNat * 5 + 0)))), (12, (.done (vl encS x6.Names))), (16, (.done (.bool false))), (19, (.done (.fptr (l.flatMap encEventT.c) ((i_2 : Int).toNat * 5 + 0)))), (21, (.done (vl encI x6.Values))), (25, (.done (.bool true)))] [(0, vl encEventT l), (5, .i i_2), (50, .bool true)] [] [.done (.opt (aIndexAddr Tryz.prog 22 (vl encEventT l) (.i i_2))) (.fptr (l.flatMap encEventT.c) ((i_2 : Int).toNat * 5 + 0)), .done (aLoad Tryz.prog 9 (.fptr (l.flatMap encEventT.c) ((i_2 : Int).toNat * 5 + 1))) (.str x6.Kind), .done (.done (.bool (decide ((x6.Kind.length : Int) > 60)))) (.bool false), .done (.opt (aIndexAddr Tryz.prog 22 (vl encEventT l) (.i i_2))) (.fptr (l.flatMap encEventT.c) ((i_2 : Int).toNat * 5 + 0)), .done (aLoad Tryz.prog 23 (.fptr (l.flatMap encEventT.c) ((i_2 : Int).toNat * 5 + 2))) (vl encS x6.Names), .done (.done (.bool (decide ((x6.Names.length : Int) > 5)))) (.bool false), .done (.opt (aIndexAddr Tryz.prog 22 (vl encEventT l) (.i i_2))) (.fptr (l.flatMap encEventT.c) ((i_2 : Int).toNat * 5 + 0)), .done (aLoad Tryz.prog 24 (.fptr (l.flatMap encEventT.c) ((i_2 : Int).toNat * 5 + 3))) (vl encI x6.Values), .done (.done (.bool (decide ((x6.Values.length : Int) > 5)))) (.bool true)] (And.intro (ix_vl sl22 (E := encEventT) rfl e_x6) (And.intro (ld_vl ce9 (E := encEventT) rfl e_x6 (Nat.le_of_ble_eq_true rfl) rfl) (And.intro (congrArg (fun x => Pg.done (.bool x)) c7) (And.intro (ix_vl sl22 (E := encEventT) rfl e_x6) (And.intro (ld_vl ce23 (E := encEventT) rfl e_x6 (Nat.le_of_ble_eq_true rfl) rfl) (And.intro (congrArg (fun x => Pg.done (.bool x)) c8) (And.intro (ix_vl sl22 (E := encEventT) rfl e_x6) (And.intro (ld_vl ce24 (E := encEventT) rfl e_x6 (Nat.le_of_ble_eq_true rfl) rfl) (And.intro (congrArg (fun x => Pg.done (.bool x)) c9) trivial)))))))))
                · rw [if_neg (of_ c9)] at g_v11
                  obtain rfl := Option.some.inj g_v11
                  exact RegTo.ro fol [(2, (.done (.fptr (l.flatMap encEventT.c) ((i_2 : Int).toNat * 5 + 0)))), (4, (.done (.str x6.Kind))), (7, (.done (.bool false))), (10, (.done (.fptr (l.flatMap encEventT.c) ((i_2 : Int).toNat * 5 + 0)))), (12, (.done (vl encS x6.Names))), (16, (.done (.bool false))), (19, (.done (.fptr (l.flatMap encEventT.c) ((i_2 : Int).toNat * 5 + 0)))), (21, (.done (vl encI x6.Values))), (25, (.done (.bool false))), (28, (.done (.fptr (l.flatMap encEventT.c) ((i_2 : Int).toNat * 5 + 0)))), (30, (.done (.str x6.Text)))] [(0, vl encEventT l), (5, .i i_2), (50, .bool (decide ((x6.Text.length : Int) > 60)))] [] [.done (.opt (aIndexAddr Tryz.prog 22 (vl encEventT l) (.i i_2))) (.fptr (l.flatMap encEventT.c) ((i_2 : Int).toNat * 5 + 0)), .done (aLoad Tryz.prog 9 (.fptr (l.flatMap encEventT.c) ((i_2 : Int).toNat * 5 + 1))) (.str x6.Kind), .done (.done (.bool (decide ((x6.Kind.length : Int) > 60)))) (.bool false), .done (.opt (aIndexAddr Tryz.prog 22 (vl encEventT l) (.i i_2))) (.fptr (l.flatMap encEventT.c) ((i_2 : Int).toNat * 5 + 0)), .done (aLoad Tryz.prog 23 (.fptr (l.flatMap encEventT.c) ((i_2 : Int).toNat * 5 + 2))) (vl encS x6.Names), .done (.done (.bool (decide ((x6.Names.length : Int) > 5)))) (.bool false), .done (.opt (aIndexAddr Tryz.prog 22 (vl encEventT l) (.i i_2))) (.fptr (l.flatMap encEventT.c) ((i_2 : Int).toNat * 5 + 0)), .done (aLoad Tryz.prog 24 (.fptr (l.flatMap encEventT.c) ((i_2 : Int).toNat * 5 + 3))) (vl encI x6.Values), .done (.done (.bool (decide ((x6.Values.length : Int) > 5)))) (.bool false), .done (.opt (aIndexAddr Tryz.prog 22 (vl encEventT l) (.i i_2))) (.fptr (l.flatMap encEventT.c) ((i_2 : Int).toNat * 5 + 0)), .done (aLoad Tryz.prog 9 (.fptr (l.flatMap encEventT.c) ((i_2 : Int).toNat * 5 + 4))) (.str x6.Text)] (And.intro (ix_vl sl22 (E := encEventT) rfl e_x6) (And.intro (ld_vl ce9 (E := encEventT) rfl e_x6 (Nat.le_of_ble_eq_true rfl) rfl) (And.intro (congrArg (fun x => Pg.done (.bool x)) c7) (And.intro (ix_vl sl22 (E := encEventT) rfl e_x6) (And.intro (ld_vl ce23 (E := encEventT) rfl e_x6 (Nat.le_of_ble_eq_true rfl) rfl) (And.intro (congrArg (fun x => Pg.done (.bool x)) c8) (And.intro (ix_vl sl22 (E := encEventT) rfl e_x6) (And.intro (ld_vl ce24 (E := encEventT) rfl e_x6 (Nat.le_of_ble_eq_true rfl) rfl) (And.intro (congrArg (fun x => Pg.done (.bool x)) c9) (And.intro (ix_vl sl22 (E := encEventT) rfl e_x6) (And.intro (ld_vl ce9 (E := encEventT) rfl e_x6 (Nat.le_of_ble_eq_true rfl) rfl) trivial)))))))))))
          refine Goes.ifB (b := b10) (by kernel_rfl) (fun c12 => ?_) (fun c12 => ?_)
          · rw [if_pos (c12)] at g3
            refine sq ?_
            refine Goes.rg fol [(4, .bool false)] [] ?_
            refine Goes.ret ?_
            obtain rfl := Option.some.inj g3
            exact Or.inr (⟨rfl, _, rfl, (Goes.retW (xs := [.bool false]) (by kernel_rfl) (FzW.still (Still.bool 11 _)))⟩)
          · rw [if_neg (by rw [c12]; exact Bool.false_ne_true)] at g3
            refine Goes.skip ?_
            refine sq ?_
            refine Goes.rg fol [(0, vl encEventT l), (5, .i i_2), (6, .i 0)] [] ?_
            refine Goes.block ?_
            obtain ⟨r14, g14, g3⟩ := bnd g3
            refine Goes.imp (Q := fun x s' => (x = .exit 2 ∧ (.inl ()) = r14 ∧ Sub s' (ofG 71 [(0, vl encEventT l), (5, .i i_2)], [])) ∨ (x = .ret ∧ ∃ q15, (.inr q15) = r14 ∧ returnsW Tryz.prog [.tmp 4] (.bool q15) .ret s')) ?_ ?_
            · refine Goes.loopS (fun M s => ∃ (k_13 : Int), s = (ofG 71 [(0, vl encEventT l), (5, .i i_2), (6, .i k_13)], []) ∧ ref10_ShortEvents_L1 l i_2 M k_13 = some r14) ?_ (m := N) ⟨_, rfl, g14⟩
              rintro M s ⟨k_13, rfl, g14⟩
              cases M with
              | zero => simp only [ref10_ShortEvents_L1] at g14; cases g14
              | succ M =>
                rw [ref10_ShortEvents_L1] at g14
                refine sq ?_
                refine sq ?_
                obtain ⟨x16, e_x16, g14⟩ := bnd g14
                refine Goes.ro fol [(3, (.done (.fptr (l.flatMap encEventT.c) ((i_2 : Int).toNat * 5 + 0)))), (5, (.done (vl encS x16.Names)))] [(0, vl encEventT l), (5, .i i_2), (6, .i k_13), (58, .bool (decide (k_13 < (x16.Names.length : Int))))] [] [.done (.opt (aIndexAddr Tryz.prog 22 (vl encEventT l) (.i i_2))) (.fptr (l.flatMap encEventT.c) ((i_2 : Int).toNat * 5 + 0)), .done (aLoad Tryz.prog 23 (.fptr (l.flatMap encEventT.c) ((i_2 : Int).toNat * 5 + 2))) (vl encS x16.Names)] (And.intro (ix_vl sl22 (E := encEventT) rfl e_x16) (And.intro (ld_vl ce23 (E := encEventT) rfl e_x16 (Nat.le_of_ble_eq_true rfl) rfl) trivial)) ?_
                refine Goes.ifB (b := decide (k_13 < (x16.Names.length : Int))) (by kernel_rfl) (fun c17 => ?_) (fun c17 => ?_)
                · rw [if_pos (ot c17)] at g14
                  refine Goes.skip ?_
                  refine sq ?_
                  refine Goes.block ?_
                  refine sq ?_
                  obtain ⟨x18, e_x18, g14⟩ := bnd g14
                  refine Goes.ro fol [(2, (.done (.fptr (l.flatMap encEventT.c) ((i_2 : Int).toNat * 5 + 0)))), (4, (.done (vl encS x16.Names))), (6, (.done (.fptr (x16.Names.flatMap encS.c) ((k_13 : Int).toNat * 1 + 0)))), (7, (.done (.str x18)))] [(0, vl encEventT l), (5, .i i_2), (6, .i k_13), (70, .bool (decide ((x18.length : Int) > 60)))] [] [.done (.opt (aIndexAddr Tryz.prog 22 (vl encEventT l) (.i i_2))) (.fptr (l.flatMap encEventT.c) ((i_2 : Int).toNat * 5 + 0)), .done (aLoad Tryz.prog 23 (.fptr (l.flatMap encEventT.c) ((i_2 : Int).toNat * 5 + 2))) (vl encS x16.Names), .done (.opt (aIndexAddr Tryz.prog 23 (vl encS x16.Names) (.i k_13))) (.fptr (x16.Names.flatMap encS.c) ((k_13 : Int).toNat * 1 + 0)), .done (aLoad Tryz.prog 9 (.fptr (x16.Names.flatMap encS.c) ((k_13 : Int).toNat * 1 + 0))) (.str x18)] (And.intro (ix_vl sl22 (E := encEventT) rfl e_x16) (And.intro (ld_vl ce23 (E := encEventT) rfl e_x16 (Nat.le_of_ble_eq_true rfl) rfl) (And.intro (ix_vl sl23 (E := encS) rfl e_x18) (And.intro (ld_vl ce9 (E := encS) rfl e_x18 (Nat.le_of_ble_eq_true rfl) rfl) trivial)))) ?_
                  refine Goes.ifB (b := decide ((x18.length : Int) > 60)) (by kernel_rfl) (fun c19 => ?_) (fun c19 => ?_)
                  · rw [if_pos (ot c19)] at g14
                    refine sq ?_
                    refine Goes.rg fol [(4, .bool false)] [] ?_
                    refine Goes.ret ?_
                    obtain rfl := Option.some.inj g14
                    exact Or.inr (⟨rfl, _, rfl, (Goes.retW (xs := [.bool false]) (by kernel_rfl) (FzW.still (Still.bool 11 _)))⟩)
                  · rw [if_neg (of_ c19)] at g14
                    refine Goes.skip ?_
                    refine Goes.rg fol [(0, vl encEventT l), (5, .i i_2), (6, .i (w64 (k_13 + 1)))] [] ?_
                    exact ⟨M, (ofG 71 [(0, vl encEventT l), (5, .i i_2), (6, .i (w64 (k_13 + 1)))], []), Nat.lt_succ_self _, (Sub.refl _), _, rfl, g14⟩
                · rw [if_neg (of_ c17)] at g14
                  refine Goes.exit ?_
                  obtain rfl := Option.some.inj g14
                  exact Or.inl (⟨rfl, rfl, (Sub.keep [0, 5] rfl rfl)⟩)
            rintro x s' (⟨rfl, rfl, hsub⟩ | ⟨rfl, q20, rfl, hret⟩)
            · try dsimp only at g3
              refine Goes.sub hsub ?_
              refine Goes.rg fol [(0, vl encEventT l), (5, .i (w64 (i_2 + 1)))] [] ?_
              exact ⟨M, (ofG 71 [(0, vl encEventT l), (5, .i (w64 (i_2 + 1)))], []), Nat.lt_succ_self _, (Sub.refl _), _, rfl, g3⟩
            · try dsimp only at g3
              obtain rfl := Option.some.inj g3
              exact Or.inr (⟨rfl, _, rfl, hret⟩)
        · rw [if_neg (of_ c5)] at g3
          refine Goes.exit ?_
          obtain rfl := Option.some.inj g3
          exact Or.inl (⟨rfl, rfl, (Sub.keep [] rfl rfl)⟩)
    rintro x s' (⟨rfl, rfl, hsub⟩ | ⟨rfl, q21, rfl, hret⟩)
    · try dsimp only at h
      refine Goes.sub hsub ?_
      refine sq ?_
      refine Goes.rg fol [(4, .bool true)] [] ?_
      refine Goes.ret ?_
      obtain rfl := Option.some.inj h
      exact (Goes.retW (xs := [.bool true]) (by kernel_rfl) (FzW.still (Still.bool 11 _)))
    · try dsimp only at h
      obtain rfl := Option.some.inj h
      exact hret
def record_first_L0 (l : List Int) : Nat → Int → Option (Unit ⊕ Int)
  | 0, _ => none
  | K + 1, n1 =>
    if n1 < (l.length : Int) then
    (idx l n1).bind fun x5 =>
    if (!decide (x5 = 0)) = true then
    some (.inr x5)
    else
    record_first_L0 l K (w64 (n1 + 1))
    else
    some (.inl ())
def record_first (N : Nat) (l : List Int) : Option Int :=
  (record_first_L0 l N 0).bind (fun
  | (.inl ()) =>
  some 0
  | (.inr q7) =>
  some q7)
theorem record_first_ok (N : Nat) (l : List Int) {res : Int} (h : record_first N l = some res) : CallOK Tryz.prog (.fn 86) [vl encI l] [] (.i res) [] := by
  unfold record_first at h
  refine Goes.fnW Tryz.func86 rfl rfl (m := 15) rfl (rs := [.tmp 2]) rfl (l := [(0, vl encI l)]) rfl ?_
  refine sq ?_
  refine Goes.rg fol [(0, vl encI l)] [] ?_
  refine sq ?_
  refine sq ?_
  refine Goes.rg fol [(5, vl encI l), (6, .i (l.length : Int)), (7, .i 0)] [] ?_
  refine Goes.block ?_
  obtain ⟨r2, g2, h⟩ := bnd h
  refine Goes.imp (Q := fun x s' => (x = .exit 0 ∧ (.inl ()) = r2 ∧ Sub s' (ofG 15 [], [])) ∨ (x = .ret ∧ ∃ q3, (.inr q3) = r2 ∧ returnsW Tryz.prog [.tmp 2] (.i q3) .ret s')) ?_ ?_
  · refine Goes.loopS (fun M s => ∃ (n1 : Int), s = (ofG 15 [(5, vl encI l), (6, .i (l.length : Int)), (7, .i n1)], []) ∧ record_first_L0 l M n1 = some r2) ?_ (m := N) ⟨_, rfl, g2⟩
    rintro M s ⟨n1, rfl, g2⟩
    cases M with
    | zero => simp only [record_first_L0] at g2; cases g2
    | succ M =>
      rw [record_first_L0] at g2
      refine sq ?_
      refine Goes.rg fol [(5, vl encI l), (6, .i (l.length : Int)), (7, .i n1), (8, .bool (decide (n1 < (l.length : Int))))] [] ?_
      refine sq ?_
      refine Goes.ifB (b := decide (n1 < (l.length : Int))) (by kernel_rfl) (fun c4 => ?_) (fun c4 => ?_)
      · rw [if_pos (ot c4)] at g2
        refine Goes.skip ?_
        refine sq ?_
        refine Goes.block ?_
        refine sq ?_
        obtain ⟨x5, e_x5, g2⟩ := bnd g2
        refine Goes.ro fol [(0, (.done (.fptr (l.flatMap encI.c) ((n1 : Int).toNat * 1 + 0)))), (1, (.done (.i x5)))] [(4, .i x5), (5, vl encI l), (6, .i (l.length : Int)), (7, .i n1)] [] [.done (.opt (aIndexAddr Tryz.prog 218 (vl encI l) (.i n1))) (.fptr (l.flatMap encI.c) ((n1 : Int).toNat * 1 + 0)), .done (aLoad Tryz.prog 32 (.fptr (l.flatMap encI.c) ((n1 : Int).toNat * 1 + 0))) (.i x5)] (And.intro (ix_vl sl218 (E := encI) rfl e_x5) (And.intro (ld_vl ce32 (E := encI) rfl e_x5 (Nat.le_of_ble_eq_true rfl) rfl) trivial)) ?_
        refine sq ?_
        refine Goes.rg fol [(4, .i x5), (5, vl encI l), (6, .i (l.length : Int)), (7, .i n1), (12, .bool (!decide (x5 = 0)))] [] ?_
        refine Goes.ifB (b := !decide (x5 = 0)) (by kernel_rfl) (fun c6 => ?_) (fun c6 => ?_)
        · rw [if_pos (c6)] at g2
          refine sq ?_
          refine Goes.rg fol [(2, .i x5)] [] ?_
          refine Goes.ret ?_
          obtain rfl := Option.some.inj g2
          exact Or.inr (⟨rfl, _, rfl, (Goes.retW (xs := [.i x5]) (by kernel_rfl) (FzW.still (Still.int 11 _ _)))⟩)
        · rw [if_neg (by rw [c6]; exact Bool.false_ne_true)] at g2
          refine Goes.skip ?_
          refine Goes.rg fol [(5, vl encI l), (6, .i (l.length : Int)), (7, .i (w64 (n1 + 1)))] [] ?_
          exact ⟨M, (ofG 15 [(5, vl encI l), (6, .i (l.length : Int)), (7, .i (w64 (n1 + 1)))], []), Nat.lt_succ_self _, (Sub.refl _), _, rfl, g2⟩
      · rw [if_neg (of_ c4)] at g2
        refine Goes.exit ?_
        obtain rfl := Option.some.inj g2
        exact Or.inl (⟨rfl, rfl, (Sub.keep [] rfl rfl)⟩)
  rintro x s' (⟨rfl, rfl, hsub⟩ | ⟨rfl, q7, rfl, hret⟩)
  · try dsimp only at h
    refine Goes.sub hsub ?_
    refine sq ?_
    refine Goes.rg fol [(2, .i 0)] [] ?_
    refine Goes.ret ?_
    obtain rfl := Option.some.inj h
    exact (Goes.retW (xs := [.i 0]) (by kernel_rfl) (FzW.still (Still.int 11 _ _)))
  · try dsimp only at h
    obtain rfl := Option.some.inj h
    exact hret
def record_when (holds : Bool) (e : Int) : Option Int :=
  if holds = true then
  some e
  else
  some 0
theorem record_when_ok (holds : Bool) (e : Int) {res : Int} (h : record_when holds e = some res) : CallOK Tryz.prog (.fn 88) [.bool holds, .i e] [] (.i res) [] := by
  unfold record_when at h
  refine Goes.fnW Tryz.func88 rfl rfl (m := 7) rfl (rs := [.tmp 4]) rfl (l := [(0, .bool holds), (1, .i e)]) rfl ?_
  refine sq ?_
  refine Goes.rg fol [(0, .bool holds), (1, .i e)] [] ?_
  refine sq ?_
  refine sq ?_
  refine Goes.rg fol [(1, .i e), (5, .bool holds)] [] ?_
  refine Goes.ifB (b := holds) (by kernel_rfl) (fun c1 => ?_) (fun c1 => ?_)
  · rw [if_pos (c1)] at h
    refine sq ?_
    refine Goes.rg fol [(4, .i e)] [] ?_
    refine Goes.ret ?_
    obtain rfl := Option.some.inj h
    exact (Goes.retW (xs := [.i e]) (by kernel_rfl) (FzW.still (Still.int 11 _ _)))
  · rw [if_neg (by rw [c1]; exact Bool.false_ne_true)] at h
    refine Goes.skip ?_
    refine sq ?_
    refine Goes.rg fol [(4, .i 0)] [] ?_
    refine Goes.ret ?_
    obtain rfl := Option.some.inj h
    exact (Goes.retW (xs := [.i 0]) (by kernel_rfl) (FzW.still (Still.int 11 _ _)))
def record_within (n : Int) (low : Int) (high : Int) : Option Int :=
  (if n < low then
  (record_when true 3).bind fun r2 =>
  some r2
  else
  (record_when (decide (n > high)) 3).bind fun r3 =>
  some r3 : Option Int).bind fun n4 =>
  some n4
theorem record_within_ok (n : Int) (low : Int) (high : Int) {res : Int} (h : record_within n low high = some res) : CallOK Tryz.prog (.fn 87) [.i n, .i low, .i high] [] (.i res) [] := by
  unfold record_within at h
  refine Goes.fnW Tryz.func87 rfl rfl (m := 16) rfl (rs := [.tmp 6]) rfl (l := [(0, .i n), (1, .i low), (2, .i high)]) rfl ?_
  refine sq ?_
  refine Goes.rg fol [(0, .i n), (1, .i low), (2, .i high)] [] ?_
  refine sq ?_
  obtain ⟨n4, g_v5, h⟩ := bnd h
  refine Goes.cut (s' := (ofG 16 [(6, .i n4)], [])) ?_ ?_
  · rcases Bool.eq_false_or_eq_true (decide (n < low)) with c1 | c1
    · rw [if_pos (ot c1)] at g_v5
      obtain ⟨r2, e_r2, g_v5⟩ := bnd g_v5
      obtain rfl := Option.some.inj g_v5
      exact RegTo.ro fol [(3, (.done (.bool true))), (8, (.call [] [.bool true, .i 3] (.i r2)))] [(6, .i r2)] [] [.done (.done (.bool (decide (n < low)))) (.bool true), .call 88 [.bool true, .i 3] [] [] [.bool true, .i 3] (.i r2)] (And.intro (congrArg (fun x => Pg.done (.bool x)) c1) (And.intro (call_val (AllST.cons (Still.bool 11 _) (AllST.cons (Still.int 11 _ _) AllST.nil)) (record_when_ok true 3 e_r2) (Still.int 11 _ _)) trivial))
    · rw [if_neg (of_ c1)] at g_v5
      obtain ⟨r3, e_r3, g_v5⟩ := bnd g_v5
      obtain rfl := Option.some.inj g_v5
      exact RegTo.ro fol [(3, (.done (.bool false))), (8, (.call [] [.bool (decide (n > high)), .i 3] (.i r3)))] [(6, .i r3)] [] [.done (.done (.bool (decide (n < low)))) (.bool false), .call 88 [.bool (decide (n > high)), .i 3] [] [] [.bool (decide (n > high)), .i 3] (.i r3)] (And.intro (congrArg (fun x => Pg.done (.bool x)) c1) (And.intro (call_val (AllST.cons (Still.bool 11 _) (AllST.cons (Still.int 11 _ _) AllST.nil)) (record_when_ok (decide (n > high)) 3 e_r3) (Still.int 11 _ _)) trivial))
  refine Goes.ret ?_
  obtain rfl := Option.some.inj h
  exact (Goes.retW (xs := [.i n4]) (by kernel_rfl) (FzW.still (Still.int 11 _ _)))
def record_Register_find_c1_s1 (a0_ : SlingT) (a1_ : Str) : Option Bool :=
  some (!(ltL a0_.Name a1_))
theorem record_Register_find_c1_s1_ok (a0_ : SlingT) (a1_ : Str) {res : Bool} (h : record_Register_find_c1_s1 a0_ a1_ = some res) : CallOK Tryz.prog (.fn 149) [.agg [.str a0_.Name, .str a0_.Batch, .i a0_.Born, .i a0_.Last, .i a0_.Uses, .i a0_.Used, .i a0_.Limit, .i a0_.Until, .bool a0_.Gone], .fptr [.str a1_] 0] [] (.bool res) [] := by
  unfold record_Register_find_c1_s1 at h
  refine Goes.fnW Tryz.func149 rfl rfl (m := 8) rfl (rs := [.tmp 3]) rfl (l := [(0, .agg [.str a0_.Name, .str a0_.Batch, .i a0_.Born, .i a0_.Last, .i a0_.Uses, .i a0_.Used, .i a0_.Limit, .i a0_.Until, .bool a0_.Gone]), (1, .fptr [.str a1_] 0)]) rfl ?_
  refine sq ?_
  refine Goes.rg fol [(1, .fptr [.str a1_] 0), (2, .ptr 0 0)] [.cells [.str a0_.Name, .str a0_.Batch, .i a0_.Born, .i a0_.Last, .i a0_.Uses, .i a0_.Used, .i a0_.Limit, .i a0_.Until, .bool a0_.Gone]] ?_
  refine sq ?_
  refine Goes.rg fol [(3, .bool (!(ltL a0_.Name a1_)))] [.cells [.str a0_.Name, .str a0_.Batch, .i a0_.Born, .i a0_.Last, .i a0_.Uses, .i a0_.Used, .i a0_.Limit, .i a0_.Until, .bool a0_.Gone]] ?_
  refine Goes.ret ?_
  obtain rfl := Option.some.inj h
  exact (Goes.retW (xs := [.bool (!(ltL a0_.Name a1_))]) (by kernel_rfl) (FzW.still (Still.bool 11 _)))
def slices_IndexFunc_Sling_s1_L0 (a0_ : List SlingT) (a1_ : Str) : Nat → Int → Option (Unit ⊕ Int)
  | 0, _ => none
  | K + 1, n1 =>
    if n1 < (a0_.length : Int) then
    (idx a0_ n1).bind fun x5 =>
    (record_Register_find_c1_s1 x5 a1_).bind fun r6 =>
    if r6 = true then
    some (.inr n1)
    else
    slices_IndexFunc_Sling_s1_L0 a0_ a1_ K (w64 (n1 + 1))
    else
    some (.inl ())
def slices_IndexFunc_Sling_s1 (N : Nat) (a0_ : List SlingT) (a1_ : Str) : Option Int :=
  (slices_IndexFunc_Sling_s1_L0 a0_ a1_ N 0).bind (fun
  | (.inl ()) =>
  some (-1)
  | (.inr q8) =>
  some q8)
theorem slices_IndexFunc_Sling_s1_ok (N : Nat) (a0_ : List SlingT) (a1_ : Str) {res : Int} (h : slices_IndexFunc_Sling_s1 N a0_ a1_ = some res) : CallOK Tryz.prog (.fn 148) [vl encSlingT a0_, .func (.func 149) [] [.fptr [.str a1_] 0]] [] (.i res) [] := by
  unfold slices_IndexFunc_Sling_s1 at h
  refine Goes.fnW Tryz.func148 rfl rfl (m := 19) rfl (rs := [.tmp 4]) rfl (l := [(0, vl encSlingT a0_), (1, .func (.func 149) [] [.fptr [.str a1_] 0])]) rfl ?_
  refine sq ?_
  refine Goes.rg fol [(0, vl encSlingT a0_), (1, .func (.func 149) [] [.fptr [.str a1_] 0])] [] ?_
  refine sq ?_
  refine sq ?_
  refine Goes.rg fol [(0, vl encSlingT a0_), (1, .func (.func 149) [] [.fptr [.str a1_] 0]), (7, .i (a0_.length : Int)), (8, .i 0)] [] ?_
  refine Goes.block ?_
  obtain ⟨r2, g2, h⟩ := bnd h
  refine Goes.imp (Q := fun x s' => (x = .exit 0 ∧ (.inl ()) = r2 ∧ Sub s' (ofG 19 [], [])) ∨ (x = .ret ∧ ∃ q3, (.inr q3) = r2 ∧ returnsW Tryz.prog [.tmp 4] (.i q3) .ret s')) ?_ ?_
  · refine Goes.loopS (fun M s => ∃ (n1 : Int), s = (ofG 19 [(0, vl encSlingT a0_), (1, .func (.func 149) [] [.fptr [.str a1_] 0]), (7, .i (a0_.length : Int)), (8, .i n1)], []) ∧ slices_IndexFunc_Sling_s1_L0 a0_ a1_ M n1 = some r2) ?_ (m := N) ⟨_, rfl, g2⟩
    rintro M s ⟨n1, rfl, g2⟩
    cases M with
    | zero => simp only [slices_IndexFunc_Sling_s1_L0] at g2; cases g2
    | succ M =>
      rw [slices_IndexFunc_Sling_s1_L0] at g2
      refine sq ?_
      refine Goes.rg fol [(0, vl encSlingT a0_), (1, .func (.func 149) [] [.fptr [.str a1_] 0]), (7, .i (a0_.length : Int)), (8, .i n1), (9, .bool (decide (n1 < (a0_.length : Int))))] [] ?_
      refine sq ?_
      refine Goes.ifB (b := decide (n1 < (a0_.length : Int))) (by kernel_rfl) (fun c4 => ?_) (fun c4 => ?_)
      · rw [if_pos (ot c4)] at g2
        refine Goes.skip ?_
        refine sq ?_
        refine Goes.block ?_
        refine sq ?_
        refine Goes.rg fol [(0, vl encSlingT a0_), (1, .func (.func 149) [] [.fptr [.str a1_] 0]), (5, .i n1), (7, .i (a0_.length : Int)), (8, .i n1)] [] ?_
        refine sq ?_
        obtain ⟨x5, e_x5, g2⟩ := bnd g2
        obtain ⟨r6, e_r6, g2⟩ := bnd g2
        refine Goes.ro fol [(3, (.done (.fptr (a0_.flatMap encSlingT.c) ((n1 : Int).toNat * 9 + 0)))), (4, (.done (.agg [.str x5.Name, .str x5.Batch, .i x5.Born, .i x5.Last, .i x5.Uses, .i x5.Used, .i x5.Limit, .i x5.Until, .bool x5.Gone]))), (5, (.call [] [.agg [.str x5.Name, .str x5.Batch, .i x5.Born, .i x5.Last, .i x5.Uses, .i x5.Used, .i x5.Limit, .i x5.Until, .bool x5.Gone], .fptr [.str a1_] 0] (.bool r6)))] [(0, vl encSlingT a0_), (1, .func (.func 149) [] [.fptr [.str a1_] 0]), (5, .i n1), (7, .i (a0_.length : Int)), (8, .i n1), (16, .bool r6)] [] [.done (.opt (aIndexAddr Tryz.prog 29 (vl encSlingT a0_) (.i n1))) (.fptr (a0_.flatMap encSlingT.c) ((n1 : Int).toNat * 9 + 0)), .done (aLoad Tryz.prog 68 (.fptr (a0_.flatMap encSlingT.c) ((n1 : Int).toNat * 9 + 0))) (.agg [.str x5.Name, .str x5.Batch, .i x5.Born, .i x5.Last, .i x5.Uses, .i x5.Used, .i x5.Limit, .i x5.Until, .bool x5.Gone]), .call 149 [.agg [.str x5.Name, .str x5.Batch, .i x5.Born, .i x5.Last, .i x5.Uses, .i x5.Used, .i x5.Limit, .i x5.Until, .bool x5.Gone], .fptr [.str a1_] 0] [] [] [.agg [.str x5.Name, .str x5.Batch, .i x5.Born, .i x5.Last, .i x5.Uses, .i x5.Used, .i x5.Limit, .i x5.Until, .bool x5.Gone], .fptr [.str a1_] 0] (.bool r6)] (And.intro (ix_vl sl29 (E := encSlingT) rfl e_x5) (And.intro (ld_ag ag68 (E := encSlingT) rfl e_x5) (And.intro (call_N (FzL.cons (Fz.still (Still.agg (AllST.cons (Still.str 10 _) (AllST.cons (Still.str 10 _) (AllST.cons (Still.int 10 _ _) (AllST.cons (Still.int 10 _ _) (AllST.cons (Still.int 10 _ _) (AllST.cons (Still.int 10 _ _) (AllST.cons (Still.int 10 _ _) (AllST.cons (Still.int 10 _ _) (AllST.cons (Still.bool 10 _) AllST.nil))))))))))) (FzL.cons (Fz.still (Still.fptr (AllST.cons (Still.str 10 _) AllST.nil))) FzL.nil)) (record_Register_find_c1_s1_ok x5 a1_ e_r6) (Still.bool 11 _)) trivial))) ?_
        refine Goes.ifB (b := r6) (by kernel_rfl) (fun c7 => ?_) (fun c7 => ?_)
        · rw [if_pos (c7)] at g2
          refine sq ?_
          refine Goes.rg fol [(4, .i n1)] [] ?_
          refine Goes.ret ?_
          obtain rfl := Option.some.inj g2
          exact Or.inr (⟨rfl, _, rfl, (Goes.retW (xs := [.i n1]) (by kernel_rfl) (FzW.still (Still.int 11 _ _)))⟩)
        · rw [if_neg (by rw [c7]; exact Bool.false_ne_true)] at g2
          refine Goes.skip ?_
          refine Goes.rg fol [(0, vl encSlingT a0_), (1, .func (.func 149) [] [.fptr [.str a1_] 0]), (7, .i (a0_.length : Int)), (8, .i (w64 (n1 + 1)))] [] ?_
          exact ⟨M, (ofG 19 [(0, vl encSlingT a0_), (1, .func (.func 149) [] [.fptr [.str a1_] 0]), (7, .i (a0_.length : Int)), (8, .i (w64 (n1 + 1)))], []), Nat.lt_succ_self _, (Sub.refl _), _, rfl, g2⟩
      · rw [if_neg (of_ c4)] at g2
        refine Goes.exit ?_
        obtain rfl := Option.some.inj g2
        exact Or.inl (⟨rfl, rfl, (Sub.keep [] rfl rfl)⟩)
  rintro x s' (⟨rfl, rfl, hsub⟩ | ⟨rfl, q8, rfl, hret⟩)
  · try dsimp only at h
    refine Goes.sub hsub ?_
    refine sq ?_
    refine Goes.rg fol [(4, .i (-1))] [] ?_
    refine Goes.ret ?_
    obtain rfl := Option.some.inj h
    exact (Goes.retW (xs := [.i (-1)]) (by kernel_rfl) (FzW.still (Still.int 11 _ _)))
  · try dsimp only at h
    obtain rfl := Option.some.inj h
    exact hret
def record_Register_find (N : Nat) (r : RegisterT) (name : Str) : Option (Int × Bool) :=
  (slices_IndexFunc_Sling_s1 N r.Slings name).bind fun r1 =>
  if r1 < 0 then
  some ((r.Slings.length : Int), false)
  else
  (idx r.Slings r1).bind fun x3 =>
  some (r1, x3.Name == name)
theorem record_Register_find_ok (N : Nat) (r : RegisterT) (name : Str) {res : Int × Bool} (h : record_Register_find N r name = some res) : CallOK Tryz.prog (.fn 93) [.agg [.i r.Day, vl encSlingT r.Slings], .str name] [] (.tuple [.i res.1, .bool res.2]) [] := by
  unfold record_Register_find at h
  refine Goes.fnW Tryz.func93 rfl rfl (m := 25) rfl (rs := [.tmp 4, .tmp 5]) rfl (l := [(0, .agg [.i r.Day, vl encSlingT r.Slings]), (1, .str name)]) rfl ?_
  refine sq ?_
  refine Goes.rg fol [(2, .ptr 0 0), (3, .ptr 1 0)] [.cells [.i r.Day, vl encSlingT r.Slings], .cells [.str name]] ?_
  refine sq ?_
  obtain ⟨r1, e_r1, h⟩ := bnd h
  refine Goes.ro fol [(3, (.call [1] [vl encSlingT r.Slings, .func (.func 149) [] [.fptr [.str name] 0]] (.i r1)))] [(2, .ptr 0 0), (3, .ptr 1 0), (6, .i r1)] [.cells [.i r.Day, vl encSlingT r.Slings], .cells [.str name]] [.call 148 [vl encSlingT r.Slings, .func (.func 149) [] [.ptr 1 0]] [.cells [.i r.Day, vl encSlingT r.Slings], .cells [.str name]] [1] [vl encSlingT r.Slings, .func (.func 149) [] [.fptr [.str name] 0]] (.i r1)] (And.intro (call_S (FzL.cons (Fz.still (vl_still encSlingT _ (Nat.le_of_ble_eq_true rfl))) (FzL.cons (Fz.func FzL.nil (FzL.cons (Fz.ptr rfl rfl (FzL.cons (Fz.still (Still.str 9 _)) FzL.nil)) FzL.nil)) FzL.nil)) (slices_IndexFunc_Sling_s1_ok N r.Slings name e_r1) (Still.int 11 _ _) rfl) trivial) ?_
  refine sq ?_
  refine sq ?_
  refine Goes.rg fol [(2, .ptr 0 0), (3, .ptr 1 0), (6, .i r1), (12, .bool (decide (r1 < 0)))] [.cells [.i r.Day, vl encSlingT r.Slings], .cells [.str name]] ?_
  refine Goes.ifB (b := decide (r1 < 0)) (by kernel_rfl) (fun c2 => ?_) (fun c2 => ?_)
  · rw [if_pos (ot c2)] at h
    refine sq ?_
    refine Goes.rg fol [(4, .i (r.Slings.length : Int)), (5, .bool false)] [.cells [.i r.Day, vl encSlingT r.Slings], .cells [.str name]] ?_
    refine Goes.ret ?_
    obtain rfl := Option.some.inj h
    exact (Goes.retW (xs := [.i (r.Slings.length : Int), .bool false]) (by kernel_rfl) (FzW.tuple (FzLW.cons (FzW.still (Still.int 10 _ _)) (FzLW.cons (FzW.still (Still.bool 10 _)) FzLW.nil))))
  · rw [if_neg (of_ c2)] at h
    refine Goes.skip ?_
    refine sq ?_
    obtain ⟨x3, e_x3, h⟩ := bnd h
    refine Goes.ro fol [(4, (.done (.fptr (r.Slings.flatMap encSlingT.c) ((r1 : Int).toNat * 9 + 0)))), (6, (.done (.str x3.Name)))] [(4, .i r1), (5, .bool (x3.Name == name))] [.cells [.i r.Day, vl encSlingT r.Slings], .cells [.str name]] [.done (.opt (aIndexAddr Tryz.prog 29 (vl encSlingT r.Slings) (.i r1))) (.fptr (r.Slings.flatMap encSlingT.c) ((r1 : Int).toNat * 9 + 0)), .done (aLoad Tryz.prog 9 (.fptr (r.Slings.flatMap encSlingT.c) ((r1 : Int).toNat * 9 + 0))) (.str x3.Name)] (And.intro (ix_vl sl29 (E := encSlingT) rfl e_x3) (And.intro (ld_vl ce9 (E := encSlingT) rfl e_x3 (Nat.le_of_ble_eq_true rfl) rfl) trivial)) ?_
    refine Goes.ret ?_
    obtain rfl := Option.some.inj h
    exact (Goes.retW (xs := [.i r1, .bool (x3.Name == name)]) (by kernel_rfl) (FzW.tuple (FzLW.cons (FzW.still (Still.int 10 _ _)) (FzLW.cons (FzW.still (Still.bool 10 _)) FzLW.nil))))
def record_checkDay (n : Int) : Option Int :=
  (record_within n 0 99999).bind fun r1 =>
  some r1
theorem record_checkDay_ok (n : Int) {res : Int} (h : record_checkDay n = some res) : CallOK Tryz.prog (.fn 94) [.i n] [] (.i res) [] := by
  unfold record_checkDay at h
  refine Goes.fnW Tryz.func94 rfl rfl (m := 5) rfl (rs := [.tmp 2]) rfl (l := [(0, .i n)]) rfl ?_
  refine sq ?_
  refine Goes.rg fol [(0, .i n)] [] ?_
  refine sq ?_
  obtain ⟨r1, e_r1, h⟩ := bnd h
  refine Goes.ro fol [(1, (.call [] [.i n, .i 0, .i 99999] (.i r1)))] [(2, .i r1)] [] [.call 87 [.i n, .i 0, .i 99999] [] [] [.i n, .i 0, .i 99999] (.i r1)] (And.intro (call_val (AllST.cons (Still.int 11 _ _) (AllST.cons (Still.int 11 _ _) (AllST.cons (Still.int 11 _ _) AllST.nil))) (record_within_ok n 0 99999 e_r1) (Still.int 11 _ _)) trivial) ?_
  refine Goes.ret ?_
  obtain rfl := Option.some.inj h
  exact (Goes.retW (xs := [.i r1]) (by kernel_rfl) (FzW.still (Still.int 11 _ _)))
def record_Sling_retired (s_ : SlingT) (day : Int) : Option Bool :=
  (if s_.Gone = true then
  some true
  else
  if day > s_.Last then
  some true
  else
  some (decide (s_.Used = s_.Uses)) : Option Bool).bind fun b3 =>
  some b3
theorem record_Sling_retired_ok (s_ : SlingT) (day : Int) {res : Bool} (h : record_Sling_retired s_ day = some res) : CallOK Tryz.prog (.fn 95) [.agg [.str s_.Name, .str s_.Batch, .i s_.Born, .i s_.Last, .i s_.Uses, .i s_.Used, .i s_.Limit, .i s_.Until, .bool s_.Gone], .i day] [] (.bool res) [] := by
  unfold record_Sling_retired at h
  refine Goes.fnW Tryz.func95 rfl rfl (m := 20) rfl (rs := [.tmp 4]) rfl (l := [(0, .agg [.str s_.Name, .str s_.Batch, .i s_.Born, .i s_.Last, .i s_.Uses, .i s_.Used, .i s_.Limit, .i s_.Until, .bool s_.Gone]), (1, .i day)]) rfl ?_
  refine sq ?_
  refine Goes.rg fol [(1, .i day), (2, .ptr 0 0)] [.cells [.str s_.Name, .str s_.Batch, .i s_.Born, .i s_.Last, .i s_.Uses, .i s_.Used, .i s_.Limit, .i s_.Until, .bool s_.Gone]] ?_
  refine sq ?_
  obtain ⟨b3, g_v4, h⟩ := bnd h
  refine Goes.cut (s' := (ofG 20 [(4, .bool b3)], [.cells [.str s_.Name, .str s_.Batch, .i s_.Born, .i s_.Last, .i s_.Uses, .i s_.Used, .i s_.Limit, .i s_.Until, .bool s_.Gone]])) ?_ ?_
  · rcases Bool.eq_false_or_eq_true (s_.Gone) with c1 | c1
    · rw [if_pos (c1)] at g_v4
      obtain rfl := Option.some.inj g_v4
      exact RegTo.ro fol [(2, (.done (.bool true)))] [(4, .bool true)] [.cells [.str s_.Name, .str s_.Batch, .i s_.Born, .i s_.Last, .i s_.Uses, .i s_.Used, .i s_.Limit, .i s_.Until, .bool s_.Gone]] [.done (.done (.bool s_.Gone)) (.bool true)] (And.intro (congrArg (fun x => Pg.done (.bool x)) c1) trivial)
    · rw [if_neg (by rw [c1]; exact Bool.false_ne_true)] at g_v4
      rcases Bool.eq_false_or_eq_true (decide (day > s_.Last)) with c2 | c2
      · rw [if_pos (ot c2)] at g_v4
        obtain rfl := Option.some.inj g_v4
        exact RegTo.ro fol [(2, (.done (.bool false))), (8, (.done (.bool true)))] [(4, .bool true)] [.cells [.str s_.Name, .str s_.Batch, .i s_.Born, .i s_.Last, .i s_.Uses, .i s_.Used, .i s_.Limit, .i s_.Until, .bool s_.Gone]] [.done (.done (.bool s_.Gone)) (.bool false), .done (.done (.bool (decide (day > s_.Last)))) (.bool true)] (And.intro (congrArg (fun x => Pg.done (.bool x)) c1) (And.intro (congrArg (fun x => Pg.done (.bool x)) c2) trivial))
      · rw [if_neg (of_ c2)] at g_v4
        obtain rfl := Option.some.inj g_v4
        exact RegTo.ro fol [(2, (.done (.bool false))), (8, (.done (.bool false)))] [(4, .bool (decide (s_.Used = s_.Uses)))] [.cells [.str s_.Name, .str s_.Batch, .i s_.Born, .i s_.Last, .i s_.Uses, .i s_.Used, .i s_.Limit, .i s_.Until, .bool s_.Gone]] [.done (.done (.bool s_.Gone)) (.bool false), .done (.done (.bool (decide (day > s_.Last)))) (.bool false)] (And.intro (congrArg (fun x => Pg.done (.bool x)) c1) (And.intro (congrArg (fun x => Pg.done (.bool x)) c2) trivial))
  refine Goes.ret ?_
  obtain rfl := Option.some.inj h
  exact (Goes.retW (xs := [.bool b3]) (by kernel_rfl) (FzW.still (Still.bool 11 _)))
def record_Sling_holds (s_ : SlingT) (day : Int) : Option Bool :=
  (if s_.Limit > 0 then
  some (decide (day ≤ s_.Until))
  else
  some false : Option Bool).bind fun b2 =>
  some b2
theorem record_Sling_holds_ok (s_ : SlingT) (day : Int) {res : Bool} (h : record_Sling_holds s_ day = some res) : CallOK Tryz.prog (.fn 96) [.agg [.str s_.Name, .str s_.Batch, .i s_.Born, .i s_.Last, .i s_.Uses, .i s_.Used, .i s_.Limit, .i s_.Until, .bool s_.Gone], .i day] [] (.bool res) [] := by
  unfold record_Sling_holds at h
  refine Goes.fnW Tryz.func96 rfl rfl (m := 14) rfl (rs := [.tmp 4]) rfl (l := [(0, .agg [.str s_.Name, .str s_.Batch, .i s_.Born, .i s_.Last, .i s_.Uses, .i s_.Used, .i s_.Limit, .i s_.Until, .bool s_.Gone]), (1, .i day)]) rfl ?_
  refine sq ?_
  refine Goes.rg fol [(1, .i day), (2, .ptr 0 0)] [.cells [.str s_.Name, .str s_.Batch, .i s_.Born, .i s_.Last, .i s_.Uses, .i s_.Used, .i s_.Limit, .i s_.Until, .bool s_.Gone]] ?_
  refine sq ?_
  obtain ⟨b2, g_v3, h⟩ := bnd h
  refine Goes.cut (s' := (ofG 14 [(4, .bool b2)], [.cells [.str s_.Name, .str s_.Batch, .i s_.Born, .i s_.Last, .i s_.Uses, .i s_.Used, .i s_.Limit, .i s_.Until, .bool s_.Gone]])) ?_ ?_
  · rcases Bool.eq_false_or_eq_true (decide (s_.Limit > 0)) with c1 | c1
    · rw [if_pos (ot c1)] at g_v3
      obtain rfl := Option.some.inj g_v3
      exact RegTo.ro fol [(3, (.done (.bool true)))] [(4, .bool (decide (day ≤ s_.Until)))] [.cells [.str s_.Name, .str s_.Batch, .i s_.Born, .i s_.Last, .i s_.Uses, .i s_.Used, .i s_.Limit, .i s_.Until, .bool s_.Gone]] [.done (.done (.bool (decide (s_.Limit > 0)))) (.bool true)] (And.intro (congrArg (fun x => Pg.done (.bool x)) c1) trivial)
    · rw [if_neg (of_ c1)] at g_v3
      obtain rfl := Option.some.inj g_v3
      exact RegTo.ro fol [(3, (.done (.bool false)))] [(4, .bool false)] [.cells [.str s_.Name, .str s_.Batch, .i s_.Born, .i s_.Last, .i s_.Uses, .i s_.Used, .i s_.Limit, .i s_.Until, .bool s_.Gone]] [.done (.done (.bool (decide (s_.Limit > 0)))) (.bool false)] (And.intro (congrArg (fun x => Pg.done (.bool x)) c1) trivial)
  refine Goes.ret ?_
  obtain rfl := Option.some.inj h
  exact (Goes.retW (xs := [.bool b2]) (by kernel_rfl) (FzW.still (Still.bool 11 _)))
def record_kinds  : Option Unit :=
  some ()
theorem record_kinds_ok  {res : Unit} (h : record_kinds  = some res) : CallOK Tryz.prog (.fn 85) [] [] (fm1) [] := by
  unfold record_kinds at h
  refine Goes.fnW Tryz.func85 rfl rfl (m := 9) rfl (rs := [.tmp 0]) rfl (l := []) rfl ?_
  refine sq ?_
  refine Goes.rg fol [] [] ?_
  refine sq ?_
  refine Goes.rg fol [(0, .map 0)] [.map [.str [109, 97, 107, 101], .str [116, 101, 115, 116], .str [117, 115, 101], .str [102, 97, 105, 108], .str [114, 101, 99, 97, 108, 108], .str [117, 110, 100, 111]] [.agg [.i 2, .i 3, .func (.func 141) [] []], .agg [.i 1, .i 2, .func (.func 142) [] []], .agg [.i 1, .i 2, .func (.func 143) [] []], .agg [.i 1, .i 1, .func (.func 144) [] []], .agg [.i 1, .i 1, .func (.func 145) [] []], .agg [.i 0, .i 0, .nilfunc]]] ?_
  refine Goes.ret ?_
  obtain rfl := Option.some.inj h
  exact (Goes.retW (xs := [.map 0]) (by kernel_rfl) (FzW.of (by kernel_rfl)))
def number_isLetter (c : Int) : Option Bool :=
  (if c ≥ 97 then
  if c ≤ 122 then
  some true
  else
  if c ≥ 65 then
  some (decide (c ≤ 90))
  else
  some false
  else
  if c ≥ 65 then
  some (decide (c ≤ 90))
  else
  some false : Option Bool).bind fun b5 =>
  some b5
theorem number_isLetter_ok (c : Int) {res : Bool} (h : number_isLetter c = some res) : CallOK Tryz.prog (.fn 183) [.int .i32 c] [] (.bool res) [] := by
  unfold number_isLetter at h
  refine Goes.fnW Tryz.func183 rfl rfl (m := 17) rfl (rs := [.tmp 2]) rfl (l := [(0, .int .i32 c)]) rfl ?_
  refine sq ?_
  refine Goes.rg fol [(0, .int .i32 c)] [] ?_
  refine sq ?_
  obtain ⟨b5, g_v6, h⟩ := bnd h
  refine Goes.cut (s' := (ofG 17 [(2, .bool b5)], [])) ?_ ?_
  · rcases Bool.eq_false_or_eq_true (decide (c ≥ 97)) with c1 | c1
    · rw [if_pos (ot c1)] at g_v6
      rcases Bool.eq_false_or_eq_true (decide (c ≤ 122)) with c2 | c2
      · rw [if_pos (ot c2)] at g_v6
        obtain rfl := Option.some.inj g_v6
        exact RegTo.ro fol [(2, (.done (.bool true))), (6, (.done (.bool true)))] [(2, .bool true)] [] [.done (.done (.bool (decide (c ≥ 97)))) (.bool true), .done (.done (.bool (decide (c ≤ 122)))) (.bool true)] (And.intro (congrArg (fun x => Pg.done (.bool x)) c1) (And.intro (congrArg (fun x => Pg.done (.bool x)) c2) trivial))
      · rw [if_neg (of_ c2)] at g_v6
        rcases Bool.eq_false_or_eq_true (decide (c ≥ 65)) with c3 | c3
        · rw [if_pos (ot c3)] at g_v6
          obtain rfl := Option.some.inj g_v6
          exact RegTo.ro fol [(2, (.done (.bool true))), (6, (.done (.bool false))), (9, (.done (.bool true)))] [(2, .bool (decide (c ≤ 90)))] [] [.done (.done (.bool (decide (c ≥ 97)))) (.bool true), .done (.done (.bool (decide (c ≤ 122)))) (.bool false), .done (.done (.bool (decide (c ≥ 65)))) (.bool true)] (And.intro (congrArg (fun x => Pg.done (.bool x)) c1) (And.intro (congrArg (fun x => Pg.done (.bool x)) c2) (And.intro (congrArg (fun x => Pg.done (.bool x)) c3) trivial)))
        · rw [if_neg (of_ c3)] at g_v6
          obtain rfl := Option.some.inj g_v6
          exact RegTo.ro fol [(2, (.done (.bool true))), (6, (.done (.bool false))), (9, (.done (.bool false)))] [(2, .bool false)] [] [.done (.done (.bool (decide (c ≥ 97)))) (.bool true), .done (.done (.bool (decide (c ≤ 122)))) (.bool false), .done (.done (.bool (decide (c ≥ 65)))) (.bool false)] (And.intro (congrArg (fun x => Pg.done (.bool x)) c1) (And.intro (congrArg (fun x => Pg.done (.bool x)) c2) (And.intro (congrArg (fun x => Pg.done (.bool x)) c3) trivial)))
    · rw [if_neg (of_ c1)] at g_v6
      rcases Bool.eq_false_or_eq_true (decide (c ≥ 65)) with c4 | c4
      · rw [if_pos (ot c4)] at g_v6
        obtain rfl := Option.some.inj g_v6
        exact RegTo.ro fol [(2, (.done (.bool false))), (9, (.done (.bool true)))] [(2, .bool (decide (c ≤ 90)))] [] [.done (.done (.bool (decide (c ≥ 97)))) (.bool false), .done (.done (.bool (decide (c ≥ 65)))) (.bool true)] (And.intro (congrArg (fun x => Pg.done (.bool x)) c1) (And.intro (congrArg (fun x => Pg.done (.bool x)) c4) trivial))
      · rw [if_neg (of_ c4)] at g_v6
        obtain rfl := Option.some.inj g_v6
        exact RegTo.ro fol [(2, (.done (.bool false))), (9, (.done (.bool false)))] [(2, .bool false)] [] [.done (.done (.bool (decide (c ≥ 97)))) (.bool false), .done (.done (.bool (decide (c ≥ 65)))) (.bool false)] (And.intro (congrArg (fun x => Pg.done (.bool x)) c1) (And.intro (congrArg (fun x => Pg.done (.bool x)) c4) trivial))
  refine Goes.ret ?_
  obtain rfl := Option.some.inj h
  exact (Goes.retW (xs := [.bool b5]) (by kernel_rfl) (FzW.still (Still.bool 11 _)))
def number_IsName_L0 (s_ : Str) : Nat → Nat → Option (Unit ⊕ Bool)
  | 0, _ => none
  | K + 1, k1 =>
    if k1 < s_.length then
    ((number_isLetter (runeAt s_ k1)).bind fun r5 =>
    if (!r5) = true then
    if (k1 : Int) = 0 then
    some true
    else
    if (!decide ((runeAt s_ k1) = 95)) = true then
    if (runeAt s_ k1) < 48 then
    some true
    else
    some (decide ((runeAt s_ k1) > 57))
    else
    some false
    else
    some false : Option Bool).bind fun b10 =>
    if b10 = true then
    some (.inr false)
    else
    number_IsName_L0 s_ K (k1 + runeLen s_ k1)
    else
    some (.inl ())
def number_IsName (N : Nat) (s_ : Str) : Option Bool :=
  (number_IsName_L0 s_ N 0).bind (fun
  | (.inl ()) =>
  (if (!(s_ == [])) = true then
  some (decide ((s_.length : Int) ≤ 24))
  else
  some false : Option Bool).bind fun b14 =>
  some b14
  | (.inr q16) =>
  some q16)
theorem number_IsName_ok (N : Nat) (s_ : Str) {res : Bool} (h : number_IsName N s_ = some res) : CallOK Tryz.prog (.fn 146) [.str s_] [] (.bool res) [] := by
  unfold number_IsName at h
  refine Goes.fnW Tryz.func146 rfl rfl (m := 37) rfl (rs := [.tmp 2]) rfl (l := [(0, .str s_)]) rfl ?_
  refine sq ?_
  refine Goes.rg fol [(0, .str s_)] [] ?_
  refine sq ?_
  refine sq ?_
  refine Goes.rg fol [(0, .str s_), (6, .ptr 0 0)] [.iter s_ 0] ?_
  refine Goes.block ?_
  obtain ⟨r2, g2, h⟩ := bnd h
  refine Goes.imp (Q := fun x s' => (x = .exit 0 ∧ (.inl ()) = r2 ∧ Sub s' (ofG 37 [(0, .str s_)], [])) ∨ (x = .ret ∧ ∃ q3, (.inr q3) = r2 ∧ returnsW Tryz.prog [.tmp 2] (.bool q3) .ret s')) ?_ ?_
  · refine Goes.sub (s' := (ofG 37 [(0, .str s_), (6, .ptr 0 0)], [.iter s_ 0])) (Sub.keep [0, 6] rfl rfl) ?_
    refine Goes.loopS (fun M s => ∃ (k1 : Nat), s = (ofG 37 [(0, .str s_), (6, .ptr 0 0)], [.iter s_ k1]) ∧ number_IsName_L0 s_ M k1 = some r2) ?_ (m := N) ⟨_, rfl, g2⟩
    rintro M s ⟨k1, rfl, g2⟩
    cases M with
    | zero => simp only [number_IsName_L0] at g2; cases g2
    | succ M =>
      rw [number_IsName_L0] at g2
      refine sq ?_
      rcases Classical.em (k1 < s_.length) with c4 | c4
      · rw [if_pos c4] at g2
        refine Goes.ro fol [(0, (.run (.tuple [.bool true, .i (k1 : Int), .int .i32 (runeAt s_ k1)]) [.iter s_ (k1 + runeLen s_ k1)] true))] [(0, .str s_), (6, .ptr 0 0), (7, .tuple [.bool true, .i (k1 : Int), .int .i32 (runeAt s_ k1)]), (8, .bool true)] [.iter s_ (k1 + runeLen s_ k1)] [.run [0] (aNext (.ptr 0 0) true) [.iter s_ k1] (.tuple [.bool true, .i (k1 : Int), .int .i32 (runeAt s_ k1)]) [.iter s_ (k1 + runeLen s_ k1)] true] (And.intro (next_some rfl c4 rfl) trivial) ?_
        refine sq ?_
        refine Goes.ifB (b := true) (by kernel_rfl) (fun _ => ?_) (fun c => (by cases c))
        refine Goes.skip ?_
        refine Goes.block ?_
        refine sq ?_
        refine Goes.rg fol [(0, .str s_), (3, .i (k1 : Int)), (4, .int .i32 (runeAt s_ k1)), (6, .ptr 0 0)] [.iter s_ (k1 + runeLen s_ k1)] ?_
        refine sq ?_
        obtain ⟨b10, g_v11, g2⟩ := bnd g2
        refine Goes.cut (s' := (ofG 37 [(0, .str s_), (6, .ptr 0 0), (29, .bool b10)], [.iter s_ (k1 + runeLen s_ k1)])) ?_ ?_
        · obtain ⟨r5, e_r5, g_v11⟩ := bnd g_v11
          rcases Bool.eq_false_or_eq_true (!r5) with c6 | c6
          · rw [if_pos (c6)] at g_v11
            rcases Bool.eq_false_or_eq_true (decide ((k1 : Int) = 0)) with c7 | c7
            · rw [if_pos (ot c7)] at g_v11
              obtain rfl := Option.some.inj g_v11
              exact RegTo.ro fol [(1, (.call [] [.int .i32 (runeAt s_ k1)] (.bool r5))), (3, (.done (.bool true))), (6, (.done (.bool true)))] [(0, .str s_), (6, .ptr 0 0), (29, .bool true)] [.iter s_ (k1 + runeLen s_ k1)] [.call 183 [.int .i32 (runeAt s_ k1)] [.iter s_ (k1 + runeLen s_ k1)] [] [.int .i32 (runeAt s_ k1)] (.bool r5), .done (.done (.bool (!r5))) (.bool true), .done (.done (.bool (decide ((k1 : Int) = 0)))) (.bool true)] (And.intro (call_val (AllST.cons (Still.int 11 _ _) AllST.nil) (number_isLetter_ok (runeAt s_ k1) e_r5) (Still.bool 11 _)) (And.intro (congrArg (fun x => Pg.done (.bool x)) c6) (And.intro (congrArg (fun x => Pg.done (.bool x)) c7) trivial)))
            · rw [if_neg (of_ c7)] at g_v11
              rcases Bool.eq_false_or_eq_true (!decide ((runeAt s_ k1) = 95)) with c8 | c8
              · rw [if_pos (c8)] at g_v11
                rcases Bool.eq_false_or_eq_true (decide ((runeAt s_ k1) < 48)) with c9 | c9
                · rw [if_pos (ot c9)] at g_v11
                  obtain rfl := Option.some.inj g_v11
                  exact RegTo.ro fol [(1, (.call [] [.int .i32 (runeAt s_ k1)] (.bool r5))), (3, (.done (.bool true))), (6, (.done (.bool false))), (9, (.done (.bool true))), (12, (.done (.bool true)))] [(0, .str s_), (6, .ptr 0 0), (29, .bool true)] [.iter s_ (k1 + runeLen s_ k1)] [.call 183 [.int .i32 (runeAt s_ k1)] [.iter s_ (k1 + runeLen s_ k1)] [] [.int .i32 (runeAt s_ k1)] (.bool r5), .done (.done (.bool (!r5))) (.bool true), .done (.done (.bool (decide ((k1 : Int) = 0)))) (.bool false), .done (.done (.bool (!decide ((runeAt s_ k1) = 95)))) (.bool true), .done (.done (.bool (decide ((runeAt s_ k1) < 48)))) (.bool true)] (And.intro (call_val (AllST.cons (Still.int 11 _ _) AllST.nil) (number_isLetter_ok (runeAt s_ k1) e_r5) (Still.bool 11 _)) (And.intro (congrArg (fun x => Pg.done (.bool x)) c6) (And.intro (congrArg (fun x => Pg.done (.bool x)) c7) (And.intro (congrArg (fun x => Pg.done (.bool x)) c8) (And.intro (congrArg (fun x => Pg.done (.bool x)) c9) trivial)))))
                · rw [if_neg (of_ c9)] at g_v11
                  obtain rfl := Option.some.inj g_v11
                  exact RegTo.ro fol [(1, (.call [] [.int .i32 (runeAt s_ k1)] (.bool r5))), (3, (.done (.bool true))), (6, (.done (.bool false))), (9, (.done (.bool true))), (12, (.done (.bool false)))] [(0, .str s_), (6, .ptr 0 0), (29, .bool (decide ((runeAt s_ k1) > 57)))] [.iter s_ (k1 + runeLen s_ k1)] [.call 183 [.int .i32 (runeAt s_ k1)] [.iter s_ (k1 + runeLen s_ k1)] [] [.int .i32 (runeAt s_ k1)] (.bool r5), .done (.done (.bool (!r5))) (.bool true), .done (.done (.bool (decide ((k1 : Int) = 0)))) (.bool false), .done (.done (.bool (!decide ((runeAt s_ k1) = 95)))) (.bool true), .done (.done (.bool (decide ((runeAt s_ k1) < 48)))) (.bool false)] (And.intro (call_val (AllST.cons (Still.int 11 _ _) AllST.nil) (number_isLetter_ok (runeAt s_ k1) e_r5) (Still.bool 11 _)) (And.intro (congrArg (fun x => Pg.done (.bool x)) c6) (And.intro (congrArg (fun x => Pg.done (.bool x)) c7) (And.intro (congrArg (fun x => Pg.done (.bool x)) c8) (And.intro (congrArg (fun x => Pg.done (.bool x)) c9) trivial)))))
              · rw [if_neg (by rw [c8]; exact Bool.false_ne_true)] at g_v11
                obtain rfl := Option.some.inj g_v11
                exact RegTo.ro fol [(1, (.call [] [.int .i32 (runeAt s_ k1)] (.bool r5))), (3, (.done (.bool true))), (6, (.done (.bool false))), (9, (.done (.bool false)))] [(0, .str s_), (6, .ptr 0 0), (29, .bool false)] [.iter s_ (k1 + runeLen s_ k1)] [.call 183 [.int .i32 (runeAt s_ k1)] [.iter s_ (k1 + runeLen s_ k1)] [] [.int .i32 (runeAt s_ k1)] (.bool r5), .done (.done (.bool (!r5))) (.bool true), .done (.done (.bool (decide ((k1 : Int) = 0)))) (.bool false), .done (.done (.bool (!decide ((runeAt s_ k1) = 95)))) (.bool false)] (And.intro (call_val (AllST.cons (Still.int 11 _ _) AllST.nil) (number_isLetter_ok (runeAt s_ k1) e_r5) (Still.bool 11 _)) (And.intro (congrArg (fun x => Pg.done (.bool x)) c6) (And.intro (congrArg (fun x => Pg.done (.bool x)) c7) (And.intro (congrArg (fun x => Pg.done (.bool x)) c8) trivial))))
          · rw [if_neg (by rw [c6]; exact Bool.false_ne_true)] at g_v11
            obtain rfl := Option.some.inj g_v11
            exact RegTo.ro fol [(1, (.call [] [.int .i32 (runeAt s_ k1)] (.bool r5))), (3, (.done (.bool false)))] [(0, .str s_), (6, .ptr 0 0), (29, .bool false)] [.iter s_ (k1 + runeLen s_ k1)] [.call 183 [.int .i32 (runeAt s_ k1)] [.iter s_ (k1 + runeLen s_ k1)] [] [.int .i32 (runeAt s_ k1)] (.bool r5), .done (.done (.bool (!r5))) (.bool false)] (And.intro (call_val (AllST.cons (Still.int 11 _ _) AllST.nil) (number_isLetter_ok (runeAt s_ k1) e_r5) (Still.bool 11 _)) (And.intro (congrArg (fun x => Pg.done (.bool x)) c6) trivial))
        refine Goes.ifB (b := b10) (by kernel_rfl) (fun c12 => ?_) (fun c12 => ?_)
        · rw [if_pos (c12)] at g2
          refine sq ?_
          refine Goes.rg fol [(2, .bool false)] [.iter s_ (k1 + runeLen s_ k1)] ?_
          refine Goes.ret ?_
          obtain rfl := Option.some.inj g2
          exact Or.inr (⟨rfl, _, rfl, (Goes.retW (xs := [.bool false]) (by kernel_rfl) (FzW.still (Still.bool 11 _)))⟩)
        · rw [if_neg (by rw [c12]; exact Bool.false_ne_true)] at g2
          refine Goes.skip ?_
          exact ⟨M, (ofG 37 [(0, .str s_), (6, .ptr 0 0)], [.iter s_ (k1 + runeLen s_ k1)]), Nat.lt_succ_self _, (Sub.keep [0, 6] rfl rfl), _, rfl, g2⟩
      · rw [if_neg c4] at g2
        refine Goes.ro fol [(0, (.run (.tuple [.bool false]) [.iter s_ k1] false))] [(0, .str s_), (6, .ptr 0 0), (7, .tuple [.bool false]), (8, .bool false)] [.iter s_ k1] [.run [0] (aNext (.ptr 0 0) true) [.iter s_ k1] (.tuple [.bool false]) [.iter s_ k1] false] (And.intro (next_none rfl c4) trivial) ?_
        refine sq ?_
        refine Goes.ifB (b := false) (by kernel_rfl) (fun c => (by cases c)) (fun _ => ?_)
        refine Goes.exit ?_
        obtain rfl := Option.some.inj g2
        exact Or.inl (⟨rfl, rfl, (Sub.norm [] [] rfl rfl (.keep (.same (NoRef.str _)) .nil) .nil)⟩)
  rintro x s' (⟨rfl, rfl, hsub⟩ | ⟨rfl, q16, rfl, hret⟩)
  · try dsimp only at h
    refine Goes.sub hsub ?_
    refine sq ?_
    obtain ⟨b14, g_v15, h⟩ := bnd h
    refine Goes.cut (s' := (ofG 37 [(2, .bool b14)], [])) ?_ ?_
    · rcases Bool.eq_false_or_eq_true (!(s_ == [])) with c13 | c13
      · rw [if_pos (c13)] at g_v15
        obtain rfl := Option.some.inj g_v15
        exact RegTo.ro fol [(2, (.done (.bool true)))] [(2, .bool (decide ((s_.length : Int) ≤ 24)))] [] [.done (.done (.bool (!(s_ == [])))) (.bool true)] (And.intro (congrArg (fun x => Pg.done (.bool x)) c13) trivial)
      · rw [if_neg (by rw [c13]; exact Bool.false_ne_true)] at g_v15
        obtain rfl := Option.some.inj g_v15
        exact RegTo.ro fol [(2, (.done (.bool false)))] [(2, .bool false)] [] [.done (.done (.bool (!(s_ == [])))) (.bool false)] (And.intro (congrArg (fun x => Pg.done (.bool x)) c13) trivial)
    refine Goes.ret ?_
    obtain rfl := Option.some.inj h
    exact (Goes.retW (xs := [.bool b14]) (by kernel_rfl) (FzW.still (Still.bool 11 _)))
  · try dsimp only at h
    obtain rfl := Option.some.inj h
    exact hret
def record_named (N : Nat) (s_ : Str) : Option Int :=
  (number_IsName N s_).bind fun r1 =>
  (record_when (!r1) 8).bind fun r2 =>
  some r2
theorem record_named_ok (N : Nat) (s_ : Str) {res : Int} (h : record_named N s_ = some res) : CallOK Tryz.prog (.fn 89) [.str s_] [] (.i res) [] := by
  unfold record_named at h
  refine Goes.fnW Tryz.func89 rfl rfl (m := 7) rfl (rs := [.tmp 2]) rfl (l := [(0, .str s_)]) rfl ?_
  refine sq ?_
  refine Goes.rg fol [(0, .str s_)] [] ?_
  refine sq ?_
  obtain ⟨r1, e_r1, h⟩ := bnd h
  obtain ⟨r2, e_r2, h⟩ := bnd h
  refine Goes.ro fol [(1, (.call [] [.str s_] (.bool r1))), (3, (.call [] [.bool (!r1), .i 8] (.i r2)))] [(2, .i r2)] [] [.call 146 [.str s_] [] [] [.str s_] (.bool r1), .call 88 [.bool (!r1), .i 8] [] [] [.bool (!r1), .i 8] (.i r2)] (And.intro (call_val (AllST.cons (Still.str 11 _) AllST.nil) (number_IsName_ok N s_ e_r1) (Still.bool 11 _)) (And.intro (call_val (AllST.cons (Still.bool 11 _) (AllST.cons (Still.int 11 _ _) AllST.nil)) (record_when_ok (!r1) 8 e_r2) (Still.int 11 _ _)) trivial)) ?_
  refine Goes.ret ?_
  obtain rfl := Option.some.inj h
  exact (Goes.retW (xs := [.i r2]) (by kernel_rfl) (FzW.still (Still.int 11 _ _)))
def record_CheckEvent_L0 (N : Nat) (e : EventT) : Nat → Int → Option (Unit ⊕ Int)
  | 0, _ => none
  | K + 1, n22 =>
    if n22 < (e.Names.length : Int) then
    (idx e.Names n22).bind fun x26 =>
    (record_named N x26).bind fun r27 =>
    if (!decide (r27 = 0)) = true then
    some (.inr r27)
    else
    record_CheckEvent_L0 N e K (w64 (n22 + 1))
    else
    some (.inl ())
def record_CheckEvent_L1 (e : EventT) : Nat → Int → Option (Unit ⊕ Int)
  | 0, _ => none
  | K + 1, n29 =>
    if n29 < (e.Values.length : Int) then
    (idx e.Values n29).bind fun x33 =>
    (record_within x33 0 999999999).bind fun r34 =>
    if (!decide (r34 = 0)) = true then
    some (.inr r34)
    else
    record_CheckEvent_L1 e K (w64 (n29 + 1))
    else
    some (.inl ())
def record_CheckEvent (N : Nat) (e : EventT) : Option Int :=
  ((record_kinds).bind fun r1 =>
  if (e.Kind == [109, 97, 107, 101]) = true then
  some (2, 3, true)
  else
  if (e.Kind == [116, 101, 115, 116]) = true then
  some (1, 2, true)
  else
  if (e.Kind == [117, 115, 101]) = true then
  some (1, 2, true)
  else
  if (e.Kind == [102, 97, 105, 108]) = true then
  some (1, 1, true)
  else
  if (e.Kind == [114, 101, 99, 97, 108, 108]) = true then
  some (1, 1, true)
  else
  if (e.Kind == [117, 110, 100, 111]) = true then
  some (0, 0, true)
  else
  some (0, 0, false) : Option (Int × Int × Bool)).bind fun (n8, n9, is_10) =>
  ((record_within e.Number 1 1000).bind fun r12 =>
  (record_when (!is_10) 13).bind fun r13 =>
  if (!decide ((e.Names.length : Int) = n8)) = true then
  (record_when true 2).bind fun r15 =>
  (record_first N ([r12, r13, r15] : List Int)).bind fun r16 =>
  some r16
  else
  (record_when (!decide ((e.Values.length : Int) = n9)) 2).bind fun r17 =>
  (record_first N ([r12, r13, r17] : List Int)).bind fun r18 =>
  some r18 : Option Int).bind fun bad_19 =>
  if (!decide (bad_19 = 0)) = true then
  some bad_19
  else
  (record_CheckEvent_L0 N e N 0).bind (fun
  | (.inl ()) =>
  (record_CheckEvent_L1 e N 0).bind (fun
  | (.inl ()) =>
  (record_when (!(e.Text == [])) 1).bind fun r36 =>
  some r36
  | (.inr q37) =>
  some q37)
  | (.inr q38) =>
  some q38)
theorem record_CheckEvent_ok (N : Nat) (e : EventT) {res : Int} (h : record_CheckEvent N e = some res) : CallOK Tryz.prog (.fn 18) [.agg [.i e.Number, .str e.Kind, vl encS e.Names, vl encI e.Values, .str e.Text]] [] (.i res) [] := by
  unfold record_CheckEvent at h
  refine Goes.fnW Tryz.func18 rfl rfl (m := 75) rfl (rs := [.tmp 2]) rfl (l := [(0, .agg [.i e.Number, .str e.Kind, vl encS e.Names, vl encI e.Values, .str e.Text])]) rfl ?_
  refine sq ?_
  refine Goes.rg fol [(1, .ptr 0 0)] [.cells [.i e.Number, .str e.Kind, vl encS e.Names, vl encI e.Values, .str e.Text]] ?_
  refine sq ?_
  obtain ⟨⟨n8, n9, is_10⟩, g_v11, h⟩ := bnd h
  refine Goes.cutS (s' := (ofG 75 [(1, .ptr 0 0), (3, .ptr 1 0), (4, .bool is_10)], [.cells [.i e.Number, .str e.Kind, vl encS e.Names, vl encI e.Values, .str e.Text], .cells [.i n8, .i n9, .undef]])) ?_ ?_
  · obtain ⟨r1, e_r1, g_v11⟩ := bnd g_v11
    rcases Bool.eq_false_or_eq_true (e.Kind == [109, 97, 107, 101]) with c2 | c2
    · rw [if_pos (c2)] at g_v11
      simp only [Option.some.injEq, Prod.mk.injEq] at g_v11
      obtain ⟨rfl, rfl, rfl⟩ := g_v11
      exact RegTo.sub (RegTo.ro fol [(0, (.call [] [] fm1)), (3, (.done (.tuple [.agg [.i 2, .i 3, .func (.func 141) [] []], .bool true])))] [(1, .ptr 0 0), (3, .ptr 1 0), (4, .bool true)] [.cells [.i e.Number, .str e.Kind, vl encS e.Names, vl encI e.Values, .str e.Text], .cells [.i 2, .i 3, .func (.func 141) [] []]] [.call 85 [] [.cells [.i e.Number, .str e.Kind, vl encS e.Names, vl encI e.Values, .str e.Text]] [] [] fm1, .done (aLookup Tryz.prog 154 (fm1) (.str e.Kind) true) (.tuple [.agg [.i 2, .i 3, .func (.func 141) [] []], .bool true])] (And.intro (call_val AllST.nil (record_kinds_ok e_r1) (Still.fmap (AllST.cons (Still.str 10 _) (AllST.cons (Still.str 10 _) (AllST.cons (Still.str 10 _) (AllST.cons (Still.str 10 _) (AllST.cons (Still.str 10 _) (AllST.cons (Still.str 10 _) AllST.nil)))))) (AllST.cons (Still.agg (AllST.cons (Still.int 9 _ _) (AllST.cons (Still.int 9 _ _) (AllST.cons (Still.func AllST.nil AllST.nil) AllST.nil)))) (AllST.cons (Still.agg (AllST.cons (Still.int 9 _ _) (AllST.cons (Still.int 9 _ _) (AllST.cons (Still.func AllST.nil AllST.nil) AllST.nil)))) (AllST.cons (Still.agg (AllST.cons (Still.int 9 _ _) (AllST.cons (Still.int 9 _ _) (AllST.cons (Still.func AllST.nil AllST.nil) AllST.nil)))) (AllST.cons (Still.agg (AllST.cons (Still.int 9 _ _) (AllST.cons (Still.int 9 _ _) (AllST.cons (Still.func AllST.nil AllST.nil) AllST.nil)))) (AllST.cons (Still.agg (AllST.cons (Still.int 9 _ _) (AllST.cons (Still.int 9 _ _) (AllST.cons (Still.func AllST.nil AllST.nil) AllST.nil)))) (AllST.cons (Still.agg (AllST.cons (Still.int 9 _ _) (AllST.cons (Still.int 9 _ _) (AllST.cons (Still.nilfunc 9) AllST.nil)))) AllST.nil)))))))) (And.intro (lk_hit mt154 [[109, 97, 107, 101], [116, 101, 115, 116], [117, 115, 101], [102, 97, 105, 108], [114, 101, 99, 97, 108, 108], [117, 110, 100, 111]] (findS_hit c2) rfl) trivial))) (Sub.norm [] [some 0, some 1] rfl rfl (.keep (.ptr rfl) (.keep (.ptr rfl) (.keep (.same (NoRef.bool _)) .nil))) (.keep rfl (.same (AllN.cons (NoRef.int _ _) (AllN.cons (NoRef.str _) (AllN.cons (vl_noRef encS _) (AllN.cons (vl_noRef encI _) (AllN.cons (NoRef.str _) AllN.nil)))))) rfl rfl (.keep rfl (.cells (RenL.cons (.same (NoRef.int _ _)) (RenL.cons (.same (NoRef.int _ _)) (RenL.cons (.undef) RenL.nil)))) rfl rfl .nil)))
    · rw [if_neg (by rw [c2]; exact Bool.false_ne_true)] at g_v11
      rcases Bool.eq_false_or_eq_true (e.Kind == [116, 101, 115, 116]) with c3 | c3
      · rw [if_pos (c3)] at g_v11
        simp only [Option.some.injEq, Prod.mk.injEq] at g_v11
        obtain ⟨rfl, rfl, rfl⟩ := g_v11
        exact RegTo.sub (RegTo.ro fol [(0, (.call [] [] fm1)), (3, (.done (.tuple [.agg [.i 1, .i 2, .func (.func 142) [] []], .bool true])))] [(1, .ptr 0 0), (3, .ptr 1 0), (4, .bool true)] [.cells [.i e.Number, .str e.Kind, vl encS e.Names, vl encI e.Values, .str e.Text], .cells [.i 1, .i 2, .func (.func 142) [] []]] [.call 85 [] [.cells [.i e.Number, .str e.Kind, vl encS e.Names, vl encI e.Values, .str e.Text]] [] [] fm1, .done (aLookup Tryz.prog 154 (fm1) (.str e.Kind) true) (.tuple [.agg [.i 1, .i 2, .func (.func 142) [] []], .bool true])] (And.intro (call_val AllST.nil (record_kinds_ok e_r1) (Still.fmap (AllST.cons (Still.str 10 _) (AllST.cons (Still.str 10 _) (AllST.cons (Still.str 10 _) (AllST.cons (Still.str 10 _) (AllST.cons (Still.str 10 _) (AllST.cons (Still.str 10 _) AllST.nil)))))) (AllST.cons (Still.agg (AllST.cons (Still.int 9 _ _) (AllST.cons (Still.int 9 _ _) (AllST.cons (Still.func AllST.nil AllST.nil) AllST.nil)))) (AllST.cons (Still.agg (AllST.cons (Still.int 9 _ _) (AllST.cons (Still.int 9 _ _) (AllST.cons (Still.func AllST.nil AllST.nil) AllST.nil)))) (AllST.cons (Still.agg (AllST.cons (Still.int 9 _ _) (AllST.cons (Still.int 9 _ _) (AllST.cons (Still.func AllST.nil AllST.nil) AllST.nil)))) (AllST.cons (Still.agg (AllST.cons (Still.int 9 _ _) (AllST.cons (Still.int 9 _ _) (AllST.cons (Still.func AllST.nil AllST.nil) AllST.nil)))) (AllST.cons (Still.agg (AllST.cons (Still.int 9 _ _) (AllST.cons (Still.int 9 _ _) (AllST.cons (Still.func AllST.nil AllST.nil) AllST.nil)))) (AllST.cons (Still.agg (AllST.cons (Still.int 9 _ _) (AllST.cons (Still.int 9 _ _) (AllST.cons (Still.nilfunc 9) AllST.nil)))) AllST.nil)))))))) (And.intro (lk_hit mt154 [[109, 97, 107, 101], [116, 101, 115, 116], [117, 115, 101], [102, 97, 105, 108], [114, 101, 99, 97, 108, 108], [117, 110, 100, 111]] (findS_skip c2 (findS_hit c3)) rfl) trivial))) (Sub.norm [] [some 0, some 1] rfl rfl (.keep (.ptr rfl) (.keep (.ptr rfl) (.keep (.same (NoRef.bool _)) .nil))) (.keep rfl (.same (AllN.cons (NoRef.int _ _) (AllN.cons (NoRef.str _) (AllN.cons (vl_noRef encS _) (AllN.cons (vl_noRef encI _) (AllN.cons (NoRef.str _) AllN.nil)))))) rfl rfl (.keep rfl (.cells (RenL.cons (.same (NoRef.int _ _)) (RenL.cons (.same (NoRef.int _ _)) (RenL.cons (.undef) RenL.nil)))) rfl rfl .nil)))
      · rw [if_neg (by rw [c3]; exact Bool.false_ne_true)] at g_v11
        rcases Bool.eq_false_or_eq_true (e.Kind == [117, 115, 101]) with c4 | c4
        · rw [if_pos (c4)] at g_v11
          simp only [Option.some.injEq, Prod.mk.injEq] at g_v11
          obtain ⟨rfl, rfl, rfl⟩ := g_v11
          exact RegTo.sub (RegTo.ro fol [(0, (.call [] [] fm1)), (3, (.done (.tuple [.agg [.i 1, .i 2, .func (.func 143) [] []], .bool true])))] [(1, .ptr 0 0), (3, .ptr 1 0), (4, .bool true)] [.cells [.i e.Number, .str e.Kind, vl encS e.Names, vl encI e.Values, .str e.Text], .cells [.i 1, .i 2, .func (.func 143) [] []]] [.call 85 [] [.cells [.i e.Number, .str e.Kind, vl encS e.Names, vl encI e.Values, .str e.Text]] [] [] fm1, .done (aLookup Tryz.prog 154 (fm1) (.str e.Kind) true) (.tuple [.agg [.i 1, .i 2, .func (.func 143) [] []], .bool true])] (And.intro (call_val AllST.nil (record_kinds_ok e_r1) (Still.fmap (AllST.cons (Still.str 10 _) (AllST.cons (Still.str 10 _) (AllST.cons (Still.str 10 _) (AllST.cons (Still.str 10 _) (AllST.cons (Still.str 10 _) (AllST.cons (Still.str 10 _) AllST.nil)))))) (AllST.cons (Still.agg (AllST.cons (Still.int 9 _ _) (AllST.cons (Still.int 9 _ _) (AllST.cons (Still.func AllST.nil AllST.nil) AllST.nil)))) (AllST.cons (Still.agg (AllST.cons (Still.int 9 _ _) (AllST.cons (Still.int 9 _ _) (AllST.cons (Still.func AllST.nil AllST.nil) AllST.nil)))) (AllST.cons (Still.agg (AllST.cons (Still.int 9 _ _) (AllST.cons (Still.int 9 _ _) (AllST.cons (Still.func AllST.nil AllST.nil) AllST.nil)))) (AllST.cons (Still.agg (AllST.cons (Still.int 9 _ _) (AllST.cons (Still.int 9 _ _) (AllST.cons (Still.func AllST.nil AllST.nil) AllST.nil)))) (AllST.cons (Still.agg (AllST.cons (Still.int 9 _ _) (AllST.cons (Still.int 9 _ _) (AllST.cons (Still.func AllST.nil AllST.nil) AllST.nil)))) (AllST.cons (Still.agg (AllST.cons (Still.int 9 _ _) (AllST.cons (Still.int 9 _ _) (AllST.cons (Still.nilfunc 9) AllST.nil)))) AllST.nil)))))))) (And.intro (lk_hit mt154 [[109, 97, 107, 101], [116, 101, 115, 116], [117, 115, 101], [102, 97, 105, 108], [114, 101, 99, 97, 108, 108], [117, 110, 100, 111]] (findS_skip c2 (findS_skip c3 (findS_hit c4))) rfl) trivial))) (Sub.norm [] [some 0, some 1] rfl rfl (.keep (.ptr rfl) (.keep (.ptr rfl) (.keep (.same (NoRef.bool _)) .nil))) (.keep rfl (.same (AllN.cons (NoRef.int _ _) (AllN.cons (NoRef.str _) (AllN.cons (vl_noRef encS _) (AllN.cons (vl_noRef encI _) (AllN.cons (NoRef.str _) AllN.nil)))))) rfl rfl (.keep rfl (.cells (RenL.cons (.same (NoRef.int _ _)) (RenL.cons (.same (NoRef.int _ _)) (RenL.cons (.undef) RenL.nil)))) rfl rfl .nil)))
        · rw [if_neg (by rw [c4]; exact Bool.false_ne_true)] at g_v11
          rcases Bool.eq_false_or_eq_true (e.Kind == [102, 97, 105, 108]) with c5 | c5
          · rw [if_pos (c5)] at g_v11
            simp only [Option.some.injEq, Prod.mk.injEq] at g_v11
            obtain ⟨rfl, rfl, rfl⟩ := g_v11
            exact RegTo.sub (RegTo.ro fol [(0, (.call [] [] fm1)), (3, (.done (.tuple [.agg [.i 1, .i 1, .func (.func 144) [] []], .bool true])))] [(1, .ptr 0 0), (3, .ptr 1 0), (4, .bool true)] [.cells [.i e.Number, .str e.Kind, vl encS e.Names, vl encI e.Values, .str e.Text], .cells [.i 1, .i 1, .func (.func 144) [] []]] [.call 85 [] [.cells [.i e.Number, .str e.Kind, vl encS e.Names, vl encI e.Values, .str e.Text]] [] [] fm1, .done (aLookup Tryz.prog 154 (fm1) (.str e.Kind) true) (.tuple [.agg [.i 1, .i 1, .func (.func 144) [] []], .bool true])] (And.intro (call_val AllST.nil (record_kinds_ok e_r1) (Still.fmap (AllST.cons (Still.str 10 _) (AllST.cons (Still.str 10 _) (AllST.cons (Still.str 10 _) (AllST.cons (Still.str 10 _) (AllST.cons (Still.str 10 _) (AllST.cons (Still.str 10 _) AllST.nil)))))) (AllST.cons (Still.agg (AllST.cons (Still.int 9 _ _) (AllST.cons (Still.int 9 _ _) (AllST.cons (Still.func AllST.nil AllST.nil) AllST.nil)))) (AllST.cons (Still.agg (AllST.cons (Still.int 9 _ _) (AllST.cons (Still.int 9 _ _) (AllST.cons (Still.func AllST.nil AllST.nil) AllST.nil)))) (AllST.cons (Still.agg (AllST.cons (Still.int 9 _ _) (AllST.cons (Still.int 9 _ _) (AllST.cons (Still.func AllST.nil AllST.nil) AllST.nil)))) (AllST.cons (Still.agg (AllST.cons (Still.int 9 _ _) (AllST.cons (Still.int 9 _ _) (AllST.cons (Still.func AllST.nil AllST.nil) AllST.nil)))) (AllST.cons (Still.agg (AllST.cons (Still.int 9 _ _) (AllST.cons (Still.int 9 _ _) (AllST.cons (Still.func AllST.nil AllST.nil) AllST.nil)))) (AllST.cons (Still.agg (AllST.cons (Still.int 9 _ _) (AllST.cons (Still.int 9 _ _) (AllST.cons (Still.nilfunc 9) AllST.nil)))) AllST.nil)))))))) (And.intro (lk_hit mt154 [[109, 97, 107, 101], [116, 101, 115, 116], [117, 115, 101], [102, 97, 105, 108], [114, 101, 99, 97, 108, 108], [117, 110, 100, 111]] (findS_skip c2 (findS_skip c3 (findS_skip c4 (findS_hit c5)))) rfl) trivial))) (Sub.norm [] [some 0, some 1] rfl rfl (.keep (.ptr rfl) (.keep (.ptr rfl) (.keep (.same (NoRef.bool _)) .nil))) (.keep rfl (.same (AllN.cons (NoRef.int _ _) (AllN.cons (NoRef.str _) (AllN.cons (vl_noRef encS _) (AllN.cons (vl_noRef encI _) (AllN.cons (NoRef.str _) AllN.nil)))))) rfl rfl (.keep rfl (.cells (RenL.cons (.same (NoRef.int _ _)) (RenL.cons (.same (NoRef.int _ _)) (RenL.cons (.undef) RenL.nil)))) rfl rfl .nil)))
          · rw [if_neg (by rw [c5]; exact Bool.false_ne_true)] at g_v11
            rcases Bool.eq_false_or_eq_true (e.Kind == [114, 101, 99, 97, 108, 108]) with c6 | c6
            · rw [if_pos (c6)] at g_v11
              simp only [Option.some.injEq, Prod.mk.injEq] at g_v11
              obtain ⟨rfl, rfl, rfl⟩ := g_v11
              exact RegTo.sub (RegTo.ro fol [(0, (.call [] [] fm1)), (3, (.done (.tuple [.agg [.i 1, .i 1, .func (.func 145) [] []], .bool true])))] [(1, .ptr 0 0), (3, .ptr 1 0), (4, .bool true)] [.cells [.i e.Number, .str e.Kind, vl encS e.Names, vl encI e.Values, .str e.Text], .cells [.i 1, .i 1, .func (.func 145) [] []]] [.call 85 [] [.cells [.i e.Number, .str e.Kind, vl encS e.Names, vl encI e.Values, .str e.Text]] [] [] fm1, .done (aLookup Tryz.prog 154 (fm1) (.str e.Kind) true) (.tuple [.agg [.i 1, .i 1, .func (.func 145) [] []], .bool true])] (And.intro (call_val AllST.nil (record_kinds_ok e_r1) (Still.fmap (AllST.cons (Still.str 10 _) (AllST.cons (Still.str 10 _) (AllST.cons (Still.str 10 _) (AllST.cons (Still.str 10 _) (AllST.cons (Still.str 10 _) (AllST.cons (Still.str 10 _) AllST.nil)))))) (AllST.cons (Still.agg (AllST.cons (Still.int 9 _ _) (AllST.cons (Still.int 9 _ _) (AllST.cons (Still.func AllST.nil AllST.nil) AllST.nil)))) (AllST.cons (Still.agg (AllST.cons (Still.int 9 _ _) (AllST.cons (Still.int 9 _ _) (AllST.cons (Still.func AllST.nil AllST.nil) AllST.nil)))) (AllST.cons (Still.agg (AllST.cons (Still.int 9 _ _) (AllST.cons (Still.int 9 _ _) (AllST.cons (Still.func AllST.nil AllST.nil) AllST.nil)))) (AllST.cons (Still.agg (AllST.cons (Still.int 9 _ _) (AllST.cons (Still.int 9 _ _) (AllST.cons (Still.func AllST.nil AllST.nil) AllST.nil)))) (AllST.cons (Still.agg (AllST.cons (Still.int 9 _ _) (AllST.cons (Still.int 9 _ _) (AllST.cons (Still.func AllST.nil AllST.nil) AllST.nil)))) (AllST.cons (Still.agg (AllST.cons (Still.int 9 _ _) (AllST.cons (Still.int 9 _ _) (AllST.cons (Still.nilfunc 9) AllST.nil)))) AllST.nil)))))))) (And.intro (lk_hit mt154 [[109, 97, 107, 101], [116, 101, 115, 116], [117, 115, 101], [102, 97, 105, 108], [114, 101, 99, 97, 108, 108], [117, 110, 100, 111]] (findS_skip c2 (findS_skip c3 (findS_skip c4 (findS_skip c5 (findS_hit c6))))) rfl) trivial))) (Sub.norm [] [some 0, some 1] rfl rfl (.keep (.ptr rfl) (.keep (.ptr rfl) (.keep (.same (NoRef.bool _)) .nil))) (.keep rfl (.same (AllN.cons (NoRef.int _ _) (AllN.cons (NoRef.str _) (AllN.cons (vl_noRef encS _) (AllN.cons (vl_noRef encI _) (AllN.cons (NoRef.str _) AllN.nil)))))) rfl rfl (.keep rfl (.cells (RenL.cons (.same (NoRef.int _ _)) (RenL.cons (.same (NoRef.int _ _)) (RenL.cons (.undef) RenL.nil)))) rfl rfl .nil)))
            · rw [if_neg (by rw [c6]; exact Bool.false_ne_true)] at g_v11
              rcases Bool.eq_false_or_eq_true (e.Kind == [117, 110, 100, 111]) with c7 | c7
              · rw [if_pos (c7)] at g_v11
                simp only [Option.some.injEq, Prod.mk.injEq] at g_v11
                obtain ⟨rfl, rfl, rfl⟩ := g_v11
                exact RegTo.sub (RegTo.ro fol [(0, (.call [] [] fm1)), (3, (.done (.tuple [.agg [.i 0, .i 0, .nilfunc], .bool true])))] [(1, .ptr 0 0), (3, .ptr 1 0), (4, .bool true)] [.cells [.i e.Number, .str e.Kind, vl encS e.Names, vl encI e.Values, .str e.Text], .cells [.i 0, .i 0, .nilfunc]] [.call 85 [] [.cells [.i e.Number, .str e.Kind, vl encS e.Names, vl encI e.Values, .str e.Text]] [] [] fm1, .done (aLookup Tryz.prog 154 (fm1) (.str e.Kind) true) (.tuple [.agg [.i 0, .i 0, .nilfunc], .bool true])] (And.intro (call_val AllST.nil (record_kinds_ok e_r1) (Still.fmap (AllST.cons (Still.str 10 _) (AllST.cons (Still.str 10 _) (AllST.cons (Still.str 10 _) (AllST.cons (Still.str 10 _) (AllST.cons (Still.str 10 _) (AllST.cons (Still.str 10 _) AllST.nil)))))) (AllST.cons (Still.agg (AllST.cons (Still.int 9 _ _) (AllST.cons (Still.int 9 _ _) (AllST.cons (Still.func AllST.nil AllST.nil) AllST.nil)))) (AllST.cons (Still.agg (AllST.cons (Still.int 9 _ _) (AllST.cons (Still.int 9 _ _) (AllST.cons (Still.func AllST.nil AllST.nil) AllST.nil)))) (AllST.cons (Still.agg (AllST.cons (Still.int 9 _ _) (AllST.cons (Still.int 9 _ _) (AllST.cons (Still.func AllST.nil AllST.nil) AllST.nil)))) (AllST.cons (Still.agg (AllST.cons (Still.int 9 _ _) (AllST.cons (Still.int 9 _ _) (AllST.cons (Still.func AllST.nil AllST.nil) AllST.nil)))) (AllST.cons (Still.agg (AllST.cons (Still.int 9 _ _) (AllST.cons (Still.int 9 _ _) (AllST.cons (Still.func AllST.nil AllST.nil) AllST.nil)))) (AllST.cons (Still.agg (AllST.cons (Still.int 9 _ _) (AllST.cons (Still.int 9 _ _) (AllST.cons (Still.nilfunc 9) AllST.nil)))) AllST.nil)))))))) (And.intro (lk_hit mt154 [[109, 97, 107, 101], [116, 101, 115, 116], [117, 115, 101], [102, 97, 105, 108], [114, 101, 99, 97, 108, 108], [117, 110, 100, 111]] (findS_skip c2 (findS_skip c3 (findS_skip c4 (findS_skip c5 (findS_skip c6 (findS_hit c7)))))) rfl) trivial))) (Sub.norm [] [some 0, some 1] rfl rfl (.keep (.ptr rfl) (.keep (.ptr rfl) (.keep (.same (NoRef.bool _)) .nil))) (.keep rfl (.same (AllN.cons (NoRef.int _ _) (AllN.cons (NoRef.str _) (AllN.cons (vl_noRef encS _) (AllN.cons (vl_noRef encI _) (AllN.cons (NoRef.str _) AllN.nil)))))) rfl rfl (.keep rfl (.cells (RenL.cons (.same (NoRef.int _ _)) (RenL.cons (.same (NoRef.int _ _)) (RenL.cons (.undef) RenL.nil)))) rfl rfl .nil)))
              · rw [if_neg (by rw [c7]; exact Bool.false_ne_true)] at g_v11
                simp only [Option.some.injEq, Prod.mk.injEq] at g_v11
                obtain ⟨rfl, rfl, rfl⟩ := g_v11
                exact RegTo.sub (RegTo.ro fol [(0, (.call [] [] fm1)), (3, (.done (.tuple [.agg [.i 0, .i 0, .nilfunc], .bool false])))] [(1, .ptr 0 0), (3, .ptr 1 0), (4, .bool false)] [.cells [.i e.Number, .str e.Kind, vl encS e.Names, vl encI e.Values, .str e.Text], .cells [.i 0, .i 0, .nilfunc]] [.call 85 [] [.cells [.i e.Number, .str e.Kind, vl encS e.Names, vl encI e.Values, .str e.Text]] [] [] fm1, .done (aLookup Tryz.prog 154 (fm1) (.str e.Kind) true) (.tuple [.agg [.i 0, .i 0, .nilfunc], .bool false])] (And.intro (call_val AllST.nil (record_kinds_ok e_r1) (Still.fmap (AllST.cons (Still.str 10 _) (AllST.cons (Still.str 10 _) (AllST.cons (Still.str 10 _) (AllST.cons (Still.str 10 _) (AllST.cons (Still.str 10 _) (AllST.cons (Still.str 10 _) AllST.nil)))))) (AllST.cons (Still.agg (AllST.cons (Still.int 9 _ _) (AllST.cons (Still.int 9 _ _) (AllST.cons (Still.func AllST.nil AllST.nil) AllST.nil)))) (AllST.cons (Still.agg (AllST.cons (Still.int 9 _ _) (AllST.cons (Still.int 9 _ _) (AllST.cons (Still.func AllST.nil AllST.nil) AllST.nil)))) (AllST.cons (Still.agg (AllST.cons (Still.int 9 _ _) (AllST.cons (Still.int 9 _ _) (AllST.cons (Still.func AllST.nil AllST.nil) AllST.nil)))) (AllST.cons (Still.agg (AllST.cons (Still.int 9 _ _) (AllST.cons (Still.int 9 _ _) (AllST.cons (Still.func AllST.nil AllST.nil) AllST.nil)))) (AllST.cons (Still.agg (AllST.cons (Still.int 9 _ _) (AllST.cons (Still.int 9 _ _) (AllST.cons (Still.func AllST.nil AllST.nil) AllST.nil)))) (AllST.cons (Still.agg (AllST.cons (Still.int 9 _ _) (AllST.cons (Still.int 9 _ _) (AllST.cons (Still.nilfunc 9) AllST.nil)))) AllST.nil)))))))) (And.intro (lk_none mt154 [[109, 97, 107, 101], [116, 101, 115, 116], [117, 115, 101], [102, 97, 105, 108], [114, 101, 99, 97, 108, 108], [117, 110, 100, 111]] (findS_skip c2 (findS_skip c3 (findS_skip c4 (findS_skip c5 (findS_skip c6 (findS_skip c7 (rfl)))))))) trivial))) (Sub.norm [] [some 0, some 1] rfl rfl (.keep (.ptr rfl) (.keep (.ptr rfl) (.keep (.same (NoRef.bool _)) .nil))) (.keep rfl (.same (AllN.cons (NoRef.int _ _) (AllN.cons (NoRef.str _) (AllN.cons (vl_noRef encS _) (AllN.cons (vl_noRef encI _) (AllN.cons (NoRef.str _) AllN.nil)))))) rfl rfl (.keep rfl (.cells (RenL.cons (.same (NoRef.int _ _)) (RenL.cons (.same (NoRef.int _ _)) (RenL.cons (.undef) RenL.nil)))) rfl rfl .nil)))
  intro _ hsub
  try dsimp only at h
  refine Goes.sub hsub ?_
  refine sq ?_
  refine sq ?_
  obtain ⟨bad_19, g_v20, h⟩ := bnd h
  refine Goes.cutS (s' := (ofG 75 [(1, .ptr 0 0), (5, .i bad_19)], [.cells [.i e.Number, .str e.Kind, vl encS e.Names, vl encI e.Values, .str e.Text]])) ?_ ?_
  · obtain ⟨r12, e_r12, g_v20⟩ := bnd g_v20
    obtain ⟨r13, e_r13, g_v20⟩ := bnd g_v20
    rcases Bool.eq_false_or_eq_true (!decide ((e.Names.length : Int) = n8)) with c14 | c14
    · rw [if_pos (c14)] at g_v20
      obtain ⟨r15, e_r15, g_v20⟩ := bnd g_v20
      obtain ⟨r16, e_r16, g_v20⟩ := bnd g_v20
      obtain rfl := Option.some.inj g_v20
      exact RegTo.sub (RegTo.ro fol [(2, (.call [] [.i e.Number, .i 1, .i 1000] (.i r12))), (5, (.call [] [.bool (!is_10), .i 13] (.i r13))), (12, (.done (.bool true))), (20, (.call [] [.bool true, .i 2] (.i r15))), (22, (.call [2] [vl encI ([r12, r13, r15] : List Int)] (.i r16)))] [(1, .ptr 0 0), (5, .i r16)] [.cells [.i e.Number, .str e.Kind, vl encS e.Names, vl encI e.Values, .str e.Text], .cells [.i n8, .i n9, .undef], .cells [.i r12, .i r13, .i r15]] [.call 87 [.i e.Number, .i 1, .i 1000] [.cells [.i e.Number, .str e.Kind, vl encS e.Names, vl encI e.Values, .str e.Text], .cells [.i n8, .i n9, .undef]] [] [.i e.Number, .i 1, .i 1000] (.i r12), .call 88 [.bool (!is_10), .i 13] [.cells [.i e.Number, .str e.Kind, vl encS e.Names, vl encI e.Values, .str e.Text], .cells [.i n8, .i n9, .undef]] [] [.bool (!is_10), .i 13] (.i r13), .done (.done (.bool (!decide ((e.Names.length : Int) = n8)))) (.bool true), .call 88 [.bool true, .i 2] [.cells [.i e.Number, .str e.Kind, vl encS e.Names, vl encI e.Values, .str e.Text], .cells [.i n8, .i n9, .undef]] [] [.bool true, .i 2] (.i r15), .call 86 [.slice 2 0 3 3 1] [.cells [.i e.Number, .str e.Kind, vl encS e.Names, vl encI e.Values, .str e.Text], .cells [.i n8, .i n9, .undef], .cells [.i r12, .i r13, .i r15]] [2] [vl encI ([r12, r13, r15] : List Int)] (.i r16)] (And.intro (call_val (AllST.cons (Still.int 11 _ _) (AllST.cons (Still.int 11 _ _) (AllST.cons (Still.int 11 _ _) AllST.nil))) (record_within_ok e.Number 1 1000 e_r12) (Still.int 11 _ _)) (And.intro (call_val (AllST.cons (Still.bool 11 _) (AllST.cons (Still.int 11 _ _) AllST.nil)) (record_when_ok (!is_10) 13 e_r13) (Still.int 11 _ _)) (And.intro (congrArg (fun x => Pg.done (.bool x)) c14) (And.intro (call_val (AllST.cons (Still.bool 11 _) (AllST.cons (Still.int 11 _ _) AllST.nil)) (record_when_ok true 2 e_r15) (Still.int 11 _ _)) (And.intro (call_S (FzL.cons (Fz.lit rfl rfl (FzL.still (AllST.cons (Still.int 10 _ _) (AllST.cons (Still.int 10 _ _) (AllST.cons (Still.int 10 _ _) AllST.nil))))) FzL.nil) (record_first_ok N ([r12, r13, r15] : List Int) e_r16) (Still.int 11 _ _) rfl) trivial)))))) (Sub.norm [] [some 0] rfl rfl (.keep (.ptr rfl) (.keep (.same (NoRef.int _ _)) .nil)) (.keep rfl (.same (AllN.cons (NoRef.int _ _) (AllN.cons (NoRef.str _) (AllN.cons (vl_noRef encS _) (AllN.cons (vl_noRef encI _) (AllN.cons (NoRef.str _) AllN.nil)))))) rfl rfl .nil))
    · rw [if_neg (by rw [c14]; exact Bool.false_ne_true)] at g_v20
      obtain ⟨r17, e_r17, g_v20⟩ := bnd g_v20
      obtain ⟨r18, e_r18, g_v20⟩ := bnd g_v20
      obtain rfl := Option.some.inj g_v20
      exact RegTo.sub (RegTo.ro fol [(2, (.call [] [.i e.Number, .i 1, .i 1000] (.i r12))), (5, (.call [] [.bool (!is_10), .i 13] (.i r13))), (12, (.done (.bool false))), (20, (.call [] [.bool (!decide ((e.Values.length : Int) = n9)), .i 2] (.i r17))), (22, (.call [2] [vl encI ([r12, r13, r17] : List Int)] (.i r18)))] [(1, .ptr 0 0), (5, .i r18)] [.cells [.i e.Number, .str e.Kind, vl encS e.Names, vl encI e.Values, .str e.Text], .cells [.i n8, .i n9, .undef], .cells [.i r12, .i r13, .i r17]] [.call 87 [.i e.Number, .i 1, .i 1000] [.cells [.i e.Number, .str e.Kind, vl encS e.Names, vl encI e.Values, .str e.Text], .cells [.i n8, .i n9, .undef]] [] [.i e.Number, .i 1, .i 1000] (.i r12), .call 88 [.bool (!is_10), .i 13] [.cells [.i e.Number, .str e.Kind, vl encS e.Names, vl encI e.Values, .str e.Text], .cells [.i n8, .i n9, .undef]] [] [.bool (!is_10), .i 13] (.i r13), .done (.done (.bool (!decide ((e.Names.length : Int) = n8)))) (.bool false), .call 88 [.bool (!decide ((e.Values.length : Int) = n9)), .i 2] [.cells [.i e.Number, .str e.Kind, vl encS e.Names, vl encI e.Values, .str e.Text], .cells [.i n8, .i n9, .undef]] [] [.bool (!decide ((e.Values.length : Int) = n9)), .i 2] (.i r17), .call 86 [.slice 2 0 3 3 1] [.cells [.i e.Number, .str e.Kind, vl encS e.Names, vl encI e.Values, .str e.Text], .cells [.i n8, .i n9, .undef], .cells [.i r12, .i r13, .i r17]] [2] [vl encI ([r12, r13, r17] : List Int)] (.i r18)] (And.intro (call_val (AllST.cons (Still.int 11 _ _) (AllST.cons (Still.int 11 _ _) (AllST.cons (Still.int 11 _ _) AllST.nil))) (record_within_ok e.Number 1 1000 e_r12) (Still.int 11 _ _)) (And.intro (call_val (AllST.cons (Still.bool 11 _) (AllST.cons (Still.int 11 _ _) AllST.nil)) (record_when_ok (!is_10) 13 e_r13) (Still.int 11 _ _)) (And.intro (congrArg (fun x => Pg.done (.bool x)) c14) (And.intro (call_val (AllST.cons (Still.bool 11 _) (AllST.cons (Still.int 11 _ _) AllST.nil)) (record_when_ok (!decide ((e.Values.length : Int) = n9)) 2 e_r17) (Still.int 11 _ _)) (And.intro (call_S (FzL.cons (Fz.lit rfl rfl (FzL.still (AllST.cons (Still.int 10 _ _) (AllST.cons (Still.int 10 _ _) (AllST.cons (Still.int 10 _ _) AllST.nil))))) FzL.nil) (record_first_ok N ([r12, r13, r17] : List Int) e_r18) (Still.int 11 _ _) rfl) trivial)))))) (Sub.norm [] [some 0] rfl rfl (.keep (.ptr rfl) (.keep (.same (NoRef.int _ _)) .nil)) (.keep rfl (.same (AllN.cons (NoRef.int _ _) (AllN.cons (NoRef.str _) (AllN.cons (vl_noRef encS _) (AllN.cons (vl_noRef encI _) (AllN.cons (NoRef.str _) AllN.nil)))))) rfl rfl .nil))
  intro _ hsub
  refine Goes.sub hsub ?_
  refine sq ?_
  refine Goes.rg fol [(1, .ptr 0 0), (5, .i bad_19), (43, .bool (!decide (bad_19 = 0)))] [.cells [.i e.Number, .str e.Kind, vl encS e.Names, vl encI e.Values, .str e.Text]] ?_
  refine Goes.ifB (b := !decide (bad_19 = 0)) (by kernel_rfl) (fun c21 => ?_) (fun c21 => ?_)
  · rw [if_pos (c21)] at h
    refine sq ?_
    refine Goes.rg fol [(2, .i bad_19)] [.cells [.i e.Number, .str e.Kind, vl encS e.Names, vl encI e.Values, .str e.Text]] ?_
    refine Goes.ret ?_
    obtain rfl := Option.some.inj h
    exact (Goes.retW (xs := [.i bad_19]) (by kernel_rfl) (FzW.still (Still.int 11 _ _)))
  · rw [if_neg (by rw [c21]; exact Bool.false_ne_true)] at h
    refine Goes.skip ?_
    refine sq ?_
    refine sq ?_
    refine Goes.rg fol [(1, .ptr 0 0), (46, vl encS e.Names), (47, .i (e.Names.length : Int)), (48, .i 0)] [.cells [.i e.Number, .str e.Kind, vl encS e.Names, vl encI e.Values, .str e.Text]] ?_
    refine Goes.block ?_
    obtain ⟨r23, g23, h⟩ := bnd h
    refine Goes.imp (Q := fun x s' => (x = .exit 0 ∧ (.inl ()) = r23 ∧ Sub s' (ofG 75 [(1, .ptr 0 0)], [.cells [.i e.Number, .str e.Kind, vl encS e.Names, vl encI e.Values, .str e.Text]])) ∨ (x = .ret ∧ ∃ q24, (.inr q24) = r23 ∧ returnsW Tryz.prog [.tmp 2] (.i q24) .ret s')) ?_ ?_
    · refine Goes.loopS (fun M s => ∃ (n22 : Int), s = (ofG 75 [(1, .ptr 0 0), (46, vl encS e.Names), (47, .i (e.Names.length : Int)), (48, .i n22)], [.cells [.i e.Number, .str e.Kind, vl encS e.Names, vl encI e.Values, .str e.Text]]) ∧ record_CheckEvent_L0 N e M n22 = some r23) ?_ (m := N) ⟨_, rfl, g23⟩
      rintro M s ⟨n22, rfl, g23⟩
      cases M with
      | zero => simp only [record_CheckEvent_L0] at g23; cases g23
      | succ M =>
        rw [record_CheckEvent_L0] at g23
        refine sq ?_
        refine Goes.rg fol [(1, .ptr 0 0), (46, vl encS e.Names), (47, .i (e.Names.length : Int)), (48, .i n22), (49, .bool (decide (n22 < (e.Names.length : Int))))] [.cells [.i e.Number, .str e.Kind, vl encS e.Names, vl encI e.Values, .str e.Text]] ?_
        refine sq ?_
        refine Goes.ifB (b := decide (n22 < (e.Names.length : Int))) (by kernel_rfl) (fun c25 => ?_) (fun c25 => ?_)
        · rw [if_pos (ot c25)] at g23
          refine Goes.skip ?_
          refine sq ?_
          refine Goes.block ?_
          refine sq ?_
          obtain ⟨x26, e_x26, g23⟩ := bnd g23
          refine Goes.ro fol [(0, (.done (.fptr (e.Names.flatMap encS.c) ((n22 : Int).toNat * 1 + 0)))), (1, (.done (.str x26)))] [(1, .ptr 0 0), (7, .str x26), (46, vl encS e.Names), (47, .i (e.Names.length : Int)), (48, .i n22)] [.cells [.i e.Number, .str e.Kind, vl encS e.Names, vl encI e.Values, .str e.Text]] [.done (.opt (aIndexAddr Tryz.prog 23 (vl encS e.Names) (.i n22))) (.fptr (e.Names.flatMap encS.c) ((n22 : Int).toNat * 1 + 0)), .done (aLoad Tryz.prog 9 (.fptr (e.Names.flatMap encS.c) ((n22 : Int).toNat * 1 + 0))) (.str x26)] (And.intro (ix_vl sl23 (E := encS) rfl e_x26) (And.intro (ld_vl ce9 (E := encS) rfl e_x26 (Nat.le_of_ble_eq_true rfl) rfl) trivial)) ?_
          refine sq ?_
          obtain ⟨r27, e_r27, g23⟩ := bnd g23
          refine Goes.ro fol [(1, (.call [] [.str x26] (.i r27)))] [(1, .ptr 0 0), (8, .i r27), (46, vl encS e.Names), (47, .i (e.Names.length : Int)), (48, .i n22)] [.cells [.i e.Number, .str e.Kind, vl encS e.Names, vl encI e.Values, .str e.Text]] [.call 89 [.str x26] [.cells [.i e.Number, .str e.Kind, vl encS e.Names, vl encI e.Values, .str e.Text]] [] [.str x26] (.i r27)] (And.intro (call_val (AllST.cons (Still.str 11 _) AllST.nil) (record_named_ok N x26 e_r27) (Still.int 11 _ _)) trivial) ?_
          refine sq ?_
          refine Goes.rg fol [(1, .ptr 0 0), (8, .i r27), (46, vl encS e.Names), (47, .i (e.Names.length : Int)), (48, .i n22), (55, .bool (!decide (r27 = 0)))] [.cells [.i e.Number, .str e.Kind, vl encS e.Names, vl encI e.Values, .str e.Text]] ?_
          refine Goes.ifB (b := !decide (r27 = 0)) (by kernel_rfl) (fun c28 => ?_) (fun c28 => ?_)
          · rw [if_pos (c28)] at g23
            refine sq ?_
            refine Goes.rg fol [(2, .i r27)] [.cells [.i e.Number, .str e.Kind, vl encS e.Names, vl encI e.Values, .str e.Text]] ?_
            refine Goes.ret ?_
            obtain rfl := Option.some.inj g23
            exact Or.inr (⟨rfl, _, rfl, (Goes.retW (xs := [.i r27]) (by kernel_rfl) (FzW.still (Still.int 11 _ _)))⟩)
          · rw [if_neg (by rw [c28]; exact Bool.false_ne_true)] at g23
            refine Goes.skip ?_
            refine Goes.rg fol [(1, .ptr 0 0), (46, vl encS e.Names), (47, .i (e.Names.length : Int)), (48, .i (w64 (n22 + 1)))] [.cells [.i e.Number, .str e.Kind, vl encS e.Names, vl encI e.Values, .str e.Text]] ?_
            exact ⟨M, (ofG 75 [(1, .ptr 0 0), (46, vl encS e.Names), (47, .i (e.Names.length : Int)), (48, .i (w64 (n22 + 1)))], [.cells [.i e.Number, .str e.Kind, vl encS e.Names, vl encI e.Values, .str e.Text]]), Nat.lt_succ_self _, (Sub.refl _), _, rfl, g23⟩
        · rw [if_neg (of_ c25)] at g23
          refine Goes.exit ?_
          obtain rfl := Option.some.inj g23
          exact Or.inl (⟨rfl, rfl, (Sub.keep [1] rfl rfl)⟩)
    rintro x s' (⟨rfl, rfl, hsub⟩ | ⟨rfl, q38, rfl, hret⟩)
    · try dsimp only at h
      refine Goes.sub hsub ?_
      refine sq ?_
      refine sq ?_
      refine Goes.rg fol [(1, .ptr 0 0), (59, vl encI e.Values), (60, .i (e.Values.length : Int)), (61, .i 0)] [.cells [.i e.Number, .str e.Kind, vl encS e.Names, vl encI e.Values, .str e.Text]] ?_
      refine Goes.block ?_
      obtain ⟨r30, g30, h⟩ := bnd h
      refine Goes.imp (Q := fun x s' => (x = .exit 2 ∧ (.inl ()) = r30 ∧ Sub s' (ofG 75 [(1, .ptr 0 0)], [.cells [.i e.Number, .str e.Kind, vl encS e.Names, vl encI e.Values, .str e.Text]])) ∨ (x = .ret ∧ ∃ q31, (.inr q31) = r30 ∧ returnsW Tryz.prog [.tmp 2] (.i q31) .ret s')) ?_ ?_
      · refine Goes.loopS (fun M s => ∃ (n29 : Int), s = (ofG 75 [(1, .ptr 0 0), (59, vl encI e.Values), (60, .i (e.Values.length : Int)), (61, .i n29)], [.cells [.i e.Number, .str e.Kind, vl encS e.Names, vl encI e.Values, .str e.Text]]) ∧ record_CheckEvent_L1 e M n29 = some r30) ?_ (m := N) ⟨_, rfl, g30⟩
        rintro M s ⟨n29, rfl, g30⟩
        cases M with
        | zero => simp only [record_CheckEvent_L1] at g30; cases g30
        | succ M =>
          rw [record_CheckEvent_L1] at g30
          refine sq ?_
          refine Goes.rg fol [(1, .ptr 0 0), (59, vl encI e.Values), (60, .i (e.Values.length : Int)), (61, .i n29), (62, .bool (decide (n29 < (e.Values.length : Int))))] [.cells [.i e.Number, .str e.Kind, vl encS e.Names, vl encI e.Values, .str e.Text]] ?_
          refine sq ?_
          refine Goes.ifB (b := decide (n29 < (e.Values.length : Int))) (by kernel_rfl) (fun c32 => ?_) (fun c32 => ?_)
          · rw [if_pos (ot c32)] at g30
            refine Goes.skip ?_
            refine sq ?_
            refine Goes.block ?_
            refine sq ?_
            obtain ⟨x33, e_x33, g30⟩ := bnd g30
            refine Goes.ro fol [(0, (.done (.fptr (e.Values.flatMap encI.c) ((n29 : Int).toNat * 1 + 0)))), (1, (.done (.i x33)))] [(1, .ptr 0 0), (10, .i x33), (59, vl encI e.Values), (60, .i (e.Values.length : Int)), (61, .i n29)] [.cells [.i e.Number, .str e.Kind, vl encS e.Names, vl encI e.Values, .str e.Text]] [.done (.opt (aIndexAddr Tryz.prog 24 (vl encI e.Values) (.i n29))) (.fptr (e.Values.flatMap encI.c) ((n29 : Int).toNat * 1 + 0)), .done (aLoad Tryz.prog 3 (.fptr (e.Values.flatMap encI.c) ((n29 : Int).toNat * 1 + 0))) (.i x33)] (And.intro (ix_vl sl24 (E := encI) rfl e_x33) (And.intro (ld_vl ce3 (E := encI) rfl e_x33 (Nat.le_of_ble_eq_true rfl) rfl) trivial)) ?_
            refine sq ?_
            obtain ⟨r34, e_r34, g30⟩ := bnd g30
            refine Goes.ro fol [(1, (.call [] [.i x33, .i 0, .i 999999999] (.i r34)))] [(1, .ptr 0 0), (11, .i r34), (59, vl encI e.Values), (60, .i (e.Values.length : Int)), (61, .i n29)] [.cells [.i e.Number, .str e.Kind, vl encS e.Names, vl encI e.Values, .str e.Text]] [.call 87 [.i x33, .i 0, .i 999999999] [.cells [.i e.Number, .str e.Kind, vl encS e.Names, vl encI e.Values, .str e.Text]] [] [.i x33, .i 0, .i 999999999] (.i r34)] (And.intro (call_val (AllST.cons (Still.int 11 _ _) (AllST.cons (Still.int 11 _ _) (AllST.cons (Still.int 11 _ _) AllST.nil))) (record_within_ok x33 0 999999999 e_r34) (Still.int 11 _ _)) trivial) ?_
            refine sq ?_
            refine Goes.rg fol [(1, .ptr 0 0), (11, .i r34), (59, vl encI e.Values), (60, .i (e.Values.length : Int)), (61, .i n29), (68, .bool (!decide (r34 = 0)))] [.cells [.i e.Number, .str e.Kind, vl encS e.Names, vl encI e.Values, .str e.Text]] ?_
            refine Goes.ifB (b := !decide (r34 = 0)) (by kernel_rfl) (fun c35 => ?_) (fun c35 => ?_)
            · rw [if_pos (c35)] at g30
              refine sq ?_
              refine Goes.rg fol [(2, .i r34)] [.cells [.i e.Number, .str e.Kind, vl encS e.Names, vl encI e.Values, .str e.Text]] ?_
              refine Goes.ret ?_
              obtain rfl := Option.some.inj g30
              exact Or.inr (⟨rfl, _, rfl, (Goes.retW (xs := [.i r34]) (by kernel_rfl) (FzW.still (Still.int 11 _ _)))⟩)
            · rw [if_neg (by rw [c35]; exact Bool.false_ne_true)] at g30
              refine Goes.skip ?_
              refine Goes.rg fol [(1, .ptr 0 0), (59, vl encI e.Values), (60, .i (e.Values.length : Int)), (61, .i (w64 (n29 + 1)))] [.cells [.i e.Number, .str e.Kind, vl encS e.Names, vl encI e.Values, .str e.Text]] ?_
              exact ⟨M, (ofG 75 [(1, .ptr 0 0), (59, vl encI e.Values), (60, .i (e.Values.length : Int)), (61, .i (w64 (n29 + 1)))], [.cells [.i e.Number, .str e.Kind, vl encS e.Names, vl encI e.Values, .str e.Text]]), Nat.lt_succ_self _, (Sub.refl _), _, rfl, g30⟩
          · rw [if_neg (of_ c32)] at g30
            refine Goes.exit ?_
            obtain rfl := Option.some.inj g30
            exact Or.inl (⟨rfl, rfl, (Sub.keep [1] rfl rfl)⟩)
      rintro x s' (⟨rfl, rfl, hsub⟩ | ⟨rfl, q37, rfl, hret⟩)
      · try dsimp only at h
        refine Goes.sub hsub ?_
        refine sq ?_
        obtain ⟨r36, e_r36, h⟩ := bnd h
        refine Goes.ro fol [(3, (.call [] [.bool (!(e.Text == [])), .i 1] (.i r36)))] [(2, .i r36)] [.cells [.i e.Number, .str e.Kind, vl encS e.Names, vl encI e.Values, .str e.Text]] [.call 88 [.bool (!(e.Text == [])), .i 1] [.cells [.i e.Number, .str e.Kind, vl encS e.Names, vl encI e.Values, .str e.Text]] [] [.bool (!(e.Text == [])), .i 1] (.i r36)] (And.intro (call_val (AllST.cons (Still.bool 11 _) (AllST.cons (Still.int 11 _ _) AllST.nil)) (record_when_ok (!(e.Text == [])) 1 e_r36) (Still.int 11 _ _)) trivial) ?_
        refine Goes.ret ?_
        obtain rfl := Option.some.inj h
        exact (Goes.retW (xs := [.i r36]) (by kernel_rfl) (FzW.still (Still.int 11 _ _)))
      · try dsimp only at h
        obtain rfl := Option.some.inj h
        exact hret
    · try dsimp only at h
      obtain rfl := Option.some.inj h
      exact hret
def slices_Clone_string_n  : Option (List Str) :=
  bothO (some []) ((app 16 ([] : List Str) ([] : List Str)).bind fun l1 =>
  some l1)
theorem slices_Clone_string_n_ok  {res : List Str} (h : slices_Clone_string_n  = some res) : CallOK Tryz.prog (.fn 165) [vl encS ([] : List Str)] [] (vl encS res) [] := by
  unfold slices_Clone_string_n at h
  refine Goes.fnW Tryz.func165 rfl rfl (m := 8) rfl (rs := [.tmp 2]) rfl (l := [(0, vl encS ([] : List Str))]) rfl ?_
  refine sq ?_
  refine Goes.rg fol [(0, vl encS ([] : List Str))] [] ?_
  refine sq ?_
  refine sq ?_
  refine Goes.rg fol [(0, vl encS ([] : List Str)), (4, .anyb)] [] ?_
  refine Goes.condAny (by kernel_rfl) ?_ ?_
  · replace h := (bothO_some h).1
    refine sq ?_
    refine Goes.rg fol [(2, .nilslice)] [] ?_
    refine Goes.ret ?_
    obtain rfl := Option.some.inj h
    exact (Goes.retW (xs := [.nilslice]) (by kernel_rfl) (FzW.nilv (E := encS)))
  · replace h := (bothO_some h).2
    refine Goes.skip ?_
    refine sq ?_
    obtain ⟨l1, e_l1, h⟩ := bnd h
    refine Goes.ro fol [(2, (.run (.oslice 1 l1.length 1) [.dead, .cells (l1.flatMap encS.c)] true))] [(2, .oslice 1 l1.length 1)] [.dead, .cells (l1.flatMap encS.c)] [.run [0] (aAppend Tryz.prog [23, 23] (.slice 0 0 0 0 1) (vl encS ([] : List Str))) [.cells []] (.oslice 1 l1.length 1) [.dead, .cells (l1.flatMap encS.c)] true] (And.intro (app_run sl23 (E := encS) rfl (src_v (E := encS) rfl _) (dst_z (E := encS) rfl rfl rfl e_l1 rfl)) trivial) ?_
    refine Goes.ret ?_
    obtain rfl := Option.some.inj h
    exact (Goes.retW (xs := [.oslice 1 l1.length 1]) (by kernel_rfl) (FzW.fz (Fz.os (E := encS) rfl rfl (Nat.le_of_ble_eq_true rfl))))
def slices_Clone_string_c (x : Str) (xs : List Str) : Option (List Str) :=
  (app 16 ([] : List Str) (x :: xs)).bind fun l1 =>
  some l1
theorem slices_Clone_string_c_ok (x : Str) (xs : List Str) {res : List Str} (h : slices_Clone_string_c x xs = some res) : CallOK Tryz.prog (.fn 165) [vl encS (x :: xs)] [] (vl encS res) [] := by
  unfold slices_Clone_string_c at h
  refine Goes.fnW Tryz.func165 rfl rfl (m := 8) rfl (rs := [.tmp 2]) rfl (l := [(0, vl encS (x :: xs))]) rfl ?_
  refine sq ?_
  refine Goes.rg fol [(0, vl encS (x :: xs))] [] ?_
  refine sq ?_
  refine sq ?_
  refine Goes.rg fol [(0, vl encS (x :: xs)), (4, .bool false)] [] ?_
  refine Goes.ifB (b := false) (by kernel_rfl) (fun c => (by cases c)) (fun _ => ?_)
  refine Goes.skip ?_
  refine sq ?_
  obtain ⟨l1, e_l1, h⟩ := bnd h
  refine Goes.ro fol [(2, (.run (.oslice 1 l1.length 1) [.dead, .cells (l1.flatMap encS.c)] true))] [(2, .oslice 1 l1.length 1)] [.dead, .cells (l1.flatMap encS.c)] [.run [0] (aAppend Tryz.prog [23, 23] (.slice 0 0 0 0 1) (vl encS (x :: xs))) [.cells []] (.oslice 1 l1.length 1) [.dead, .cells (l1.flatMap encS.c)] true] (And.intro (app_run sl23 (E := encS) rfl (src_v (E := encS) rfl _) (dst_z (E := encS) rfl rfl rfl e_l1 rfl)) trivial) ?_
  refine Goes.ret ?_
  obtain rfl := Option.some.inj h
  exact (Goes.retW (xs := [.oslice 1 l1.length 1]) (by kernel_rfl) (FzW.fz (Fz.os (E := encS) rfl rfl (Nat.le_of_ble_eq_true rfl))))
def slices_Clone_string : List Str → Option (List Str)
  | [] => slices_Clone_string_n
  | x :: xs => slices_Clone_string_c x xs
theorem slices_Clone_string_ok (l : List Str) {res : List Str} (h : slices_Clone_string l = some res) : CallOK Tryz.prog (.fn 165) [vl encS l] [] (vl encS res) [] := by
  cases l with
  | nil => exact slices_Clone_string_n_ok h
  | cons x xs => exact slices_Clone_string_c_ok x xs h
def slices_Clone_int_n  : Option (List Int) :=
  bothO (some []) ((app 8 ([] : List Int) ([] : List Int)).bind fun l1 =>
  some l1)
theorem slices_Clone_int_n_ok  {res : List Int} (h : slices_Clone_int_n  = some res) : CallOK Tryz.prog (.fn 166) [vl encI ([] : List Int)] [] (vl encI res) [] := by
  unfold slices_Clone_int_n at h
  refine Goes.fnW Tryz.func166 rfl rfl (m := 8) rfl (rs := [.tmp 2]) rfl (l := [(0, vl encI ([] : List Int))]) rfl ?_
  refine sq ?_
  refine Goes.rg fol [(0, vl encI ([] : List Int))] [] ?_
  refine sq ?_
  refine sq ?_
  refine Goes.rg fol [(0, vl encI ([] : List Int)), (4, .anyb)] [] ?_
  refine Goes.condAny (by kernel_rfl) ?_ ?_
  · replace h := (bothO_some h).1
    refine sq ?_
    refine Goes.rg fol [(2, .nilslice)] [] ?_
    refine Goes.ret ?_
    obtain rfl := Option.some.inj h
    exact (Goes.retW (xs := [.nilslice]) (by kernel_rfl) (FzW.nilv (E := encI)))
  · replace h := (bothO_some h).2
    refine Goes.skip ?_
    refine sq ?_
    obtain ⟨l1, e_l1, h⟩ := bnd h
    refine Goes.ro fol [(2, (.run (.oslice 1 l1.length 1) [.dead, .cells (l1.flatMap encI.c)] true))] [(2, .oslice 1 l1.length 1)] [.dead, .cells (l1.flatMap encI.c)] [.run [0] (aAppend Tryz.prog [24, 24] (.slice 0 0 0 0 1) (vl encI ([] : List Int))) [.cells []] (.oslice 1 l1.length 1) [.dead, .cells (l1.flatMap encI.c)] true] (And.intro (app_run sl24 (E := encI) rfl (src_v (E := encI) rfl _) (dst_z (E := encI) rfl rfl rfl e_l1 rfl)) trivial) ?_
    refine Goes.ret ?_
    obtain rfl := Option.some.inj h
    exact (Goes.retW (xs := [.oslice 1 l1.length 1]) (by kernel_rfl) (FzW.fz (Fz.os (E := encI) rfl rfl (Nat.le_of_ble_eq_true rfl))))
def slices_Clone_int_c (x : Int) (xs : List Int) : Option (List Int) :=
  (app 8 ([] : List Int) (x :: xs)).bind fun l1 =>
  some l1
theorem slices_Clone_int_c_ok (x : Int) (xs : List Int) {res : List Int} (h : slices_Clone_int_c x xs = some res) : CallOK Tryz.prog (.fn 166) [vl encI (x :: xs)] [] (vl encI res) [] := by
  unfold slices_Clone_int_c at h
  refine Goes.fnW Tryz.func166 rfl rfl (m := 8) rfl (rs := [.tmp 2]) rfl (l := [(0, vl encI (x :: xs))]) rfl ?_
  refine sq ?_
  refine Goes.rg fol [(0, vl encI (x :: xs))] [] ?_
  refine sq ?_
  refine sq ?_
  refine Goes.rg fol [(0, vl encI (x :: xs)), (4, .bool false)] [] ?_
  refine Goes.ifB (b := false) (by kernel_rfl) (fun c => (by cases c)) (fun _ => ?_)
  refine Goes.skip ?_
  refine sq ?_
  obtain ⟨l1, e_l1, h⟩ := bnd h
  refine Goes.ro fol [(2, (.run (.oslice 1 l1.length 1) [.dead, .cells (l1.flatMap encI.c)] true))] [(2, .oslice 1 l1.length 1)] [.dead, .cells (l1.flatMap encI.c)] [.run [0] (aAppend Tryz.prog [24, 24] (.slice 0 0 0 0 1) (vl encI (x :: xs))) [.cells []] (.oslice 1 l1.length 1) [.dead, .cells (l1.flatMap encI.c)] true] (And.intro (app_run sl24 (E := encI) rfl (src_v (E := encI) rfl _) (dst_z (E := encI) rfl rfl rfl e_l1 rfl)) trivial) ?_
  refine Goes.ret ?_
  obtain rfl := Option.some.inj h
  exact (Goes.retW (xs := [.oslice 1 l1.length 1]) (by kernel_rfl) (FzW.fz (Fz.os (E := encI) rfl rfl (Nat.le_of_ble_eq_true rfl))))
def slices_Clone_int : List Int → Option (List Int)
  | [] => slices_Clone_int_n
  | x :: xs => slices_Clone_int_c x xs
theorem slices_Clone_int_ok (l : List Int) {res : List Int} (h : slices_Clone_int l = some res) : CallOK Tryz.prog (.fn 166) [vl encI l] [] (vl encI res) [] := by
  cases l with
  | nil => exact slices_Clone_int_n_ok h
  | cons x xs => exact slices_Clone_int_c_ok x xs h
def record_copiedEvent (e : EventT) : Option EventT :=
  (slices_Clone_string e.Names).bind fun r1 =>
  (slices_Clone_int e.Values).bind fun r2 =>
  some (⟨e.Number, e.Kind, r1, r2, e.Text⟩ : EventT)
theorem record_copiedEvent_ok (e : EventT) {res : EventT} (h : record_copiedEvent e = some res) : CallOK Tryz.prog (.fn 115) [.agg [.i e.Number, .str e.Kind, vl encS e.Names, vl encI e.Values, .str e.Text]] [] (.agg [.i res.Number, .str res.Kind, vl encS res.Names, vl encI res.Values, .str res.Text]) [] := by
  unfold record_copiedEvent at h
  refine Goes.fnW Tryz.func115 rfl rfl (m := 12) rfl (rs := [.cell 2 26]) rfl (l := [(0, .agg [.i e.Number, .str e.Kind, vl encS e.Names, vl encI e.Values, .str e.Text])]) rfl ?_
  refine sq ?_
  refine Goes.rg fol [(1, .ptr 0 0), (2, .ptr 1 0)] [.cells [.i e.Number, .str e.Kind, vl encS e.Names, vl encI e.Values, .str e.Text], .cells [.i 0, .str [], .nilslice, .nilslice, .str []]] ?_
  refine sq ?_
  obtain ⟨r1, e_r1, h⟩ := bnd h
  obtain ⟨r2, e_r2, h⟩ := bnd h
  refine Goes.ro fol [(2, (.call [] [vl encS e.Names] (vl encS r1))), (5, (.call [] [vl encI e.Values] (vl encI r2)))] [(1, .ptr 0 0), (2, .ptr 1 0)] [.cells [.i e.Number, .str e.Kind, vl encS r1, vl encI r2, .str e.Text], .cells [.i 0, .str [], .nilslice, .nilslice, .str []]] [.call 165 [vl encS e.Names] [.cells [.i e.Number, .str e.Kind, vl encS e.Names, vl encI e.Values, .str e.Text], .cells [.i 0, .str [], .nilslice, .nilslice, .str []]] [] [vl encS e.Names] (vl encS r1), .call 166 [vl encI e.Values] [.cells [.i e.Number, .str e.Kind, vl encS e.Names, vl encI e.Values, .str e.Text], .cells [.i 0, .str [], .nilslice, .nilslice, .str []]] [] [vl encI e.Values] (vl encI r2)] (And.intro (call_val (AllST.cons (vl_still encS _ (Nat.le_of_ble_eq_true rfl)) AllST.nil) (slices_Clone_string_ok e.Names e_r1) (vl_still encS _ (Nat.le_of_ble_eq_true rfl))) (And.intro (call_val (AllST.cons (vl_still encI _ (Nat.le_of_ble_eq_true rfl)) AllST.nil) (slices_Clone_int_ok e.Values e_r2) (vl_still encI _ (Nat.le_of_ble_eq_true rfl))) trivial)) ?_
  refine sq ?_
  refine Goes.rg fol [(2, .ptr 1 0)] [.cells [.i e.Number, .str e.Kind, vl encS r1, vl encI r2, .str e.Text], .cells [.i e.Number, .str e.Kind, vl encS r1, vl encI r2, .str e.Text]] ?_
  refine Goes.ret ?_
  obtain rfl := Option.some.inj h
  exact (Goes.retW (xs := [.agg [.i e.Number, .str e.Kind, vl encS r1, vl encI r2, .str e.Text]]) (by kernel_rfl) (FzW.agg (FzLW.cons (FzW.still (Still.int 10 _ _)) (FzLW.cons (FzW.still (Still.str 10 _)) (FzLW.cons (FzW.still (vl_still encS _ (Nat.le_of_ble_eq_true rfl))) (FzLW.cons (FzW.still (vl_still encI _ (Nat.le_of_ble_eq_true rfl))) (FzLW.cons (FzW.still (Still.str 10 _)) FzLW.nil)))))))
end Go.Av
