/-
  Walks of functions: what each computes, as a plain function.
-/
import Derived.Test.YtjflombnfhlkaaaGreatDoorAvOpt
import Derived.Test.YtjflombnfhlkaaaGreatDoorChecked
noncomputable section
namespace Go.Av
open Go.Proofs Go.RowKit
set_option linter.unusedSectionVars false
set_option linter.unusedVariables false
set_option linter.unusedSimpArgs false
set_option maxRecDepth 100000
variable [Glob]
theorem fol : Tryz.prog.follows .mixedOrders = true := by kernel_rfl
structure qm where
  Number : Int
  Kind : Str
  Names : List Str
  Values : List Int
  Text : Str
def qb : Enc qm := (encI.prod (encS.prod ((qga encS).prod ((qga encI).prod encS)))).comap fun x => (x.Number, x.Kind, x.Names, x.Values, x.Text)
structure qh where
  Name : Str
  Batch : Str
  Born : Int
  Last : Int
  Uses : Int
  Used : Int
  Limit : Int
  Until : Int
  Gone : Bool
def qa : Enc qh := (encS.prod (encS.prod (encI.prod (encI.prod (encI.prod (encI.prod (encI.prod (encI.prod encB)))))))).comap fun x => (x.Name, x.Batch, x.Born, x.Last, x.Uses, x.Used, x.Limit, x.Until, x.Gone)
structure zA where
  Day : Int
  Slings : List qh
def qeE : Enc zA := (encI.prod (qga qa)).comap fun x => (x.Day, x.Slings)
structure qC where
  Day : Int
  Slings : List qh
def qiq : Enc qC := (encI.prod (qga qa)).comap fun x => (x.Day, x.Slings)
structure StateT where
  number : Int
  register : zA
def qd : Enc StateT := (encI.prod qeE).comap fun x => (x.number, x.register)
theorem yL : SlT Tryz.prog 22 26 5 88 := ⟨by kernel_rfl, by kernel_rfl, by kernel_rfl, by kernel_rfl⟩
theorem ce9 : CeT Tryz.prog 9 := ⟨by kernel_rfl, by kernel_rfl⟩
theorem qhx : CeT Tryz.prog 23 := ⟨by kernel_rfl, by kernel_rfl⟩
theorem ce24 : CeT Tryz.prog 24 := ⟨by kernel_rfl, by kernel_rfl⟩
theorem xe : SlT Tryz.prog 23 9 1 16 := ⟨by kernel_rfl, by kernel_rfl, by kernel_rfl, by kernel_rfl⟩
theorem st9 : Tryz.prog.underlying 9 = some .string := by kernel_rfl
theorem vN : SlT Tryz.prog 24 3 1 8 := ⟨by kernel_rfl, by kernel_rfl, by kernel_rfl, by kernel_rfl⟩
theorem ce3 : CeT Tryz.prog 3 := ⟨by kernel_rfl, by kernel_rfl⟩
theorem xW : SlT Tryz.prog 35 60 9 88 := ⟨by kernel_rfl, by kernel_rfl, by kernel_rfl, by kernel_rfl⟩
theorem qf5 : AgT Tryz.prog 26 5 := ⟨by kernel_rfl, by kernel_rfl⟩
theorem ag60 : AgT Tryz.prog 60 9 := ⟨by kernel_rfl, by kernel_rfl⟩
theorem sl218 : SlT Tryz.prog 218 32 1 8 := ⟨by kernel_rfl, by kernel_rfl, by kernel_rfl, by kernel_rfl⟩
theorem ce32 : CeT Tryz.prog 32 := ⟨by kernel_rfl, by kernel_rfl⟩
theorem xN : SlT Tryz.prog 29 68 9 88 := ⟨by kernel_rfl, by kernel_rfl, by kernel_rfl, by kernel_rfl⟩
theorem qii : AgT Tryz.prog 68 9 := ⟨by kernel_rfl, by kernel_rfl⟩
theorem qaw : MapT Tryz.prog 154 9 152 (.agg [.i 0, .i 0, .nilfunc]) := ⟨by kernel_rfl, by kernel_rfl, by kernel_rfl⟩
theorem qeP : SlT Tryz.prog 163 167 3 40 := ⟨by kernel_rfl, by kernel_rfl, by kernel_rfl, by kernel_rfl⟩
theorem ag31 : AgT Tryz.prog 31 2 := ⟨by kernel_rfl, by kernel_rfl⟩
theorem it3 : Tryz.prog.underlying 3 = some (.int .i64) := by kernel_rfl
theorem ag167 : AgT Tryz.prog 167 3 := ⟨by kernel_rfl, by kernel_rfl⟩
abbrev fm1 : AV := .fmap [.str [109, 97, 107, 101], .str [116, 101, 115, 116], .str [117, 115, 101], .str [102, 97, 105, 108], .str [114, 101, 99, 97, 108, 108], .str [117, 110, 100, 111]] [.agg [.i 2, .i 3, .func (.func 141) [] []], .agg [.i 1, .i 2, .func (.func 142) [] []], .agg [.i 1, .i 2, .func (.func 143) [] []], .agg [.i 1, .i 1, .func (.func 144) [] []], .agg [.i 1, .i 1, .func (.func 145) [] []], .agg [.i 0, .i 0, .nilfunc]]
def ko (l : List qm) (i_2 : Int) : Nat → Int → Option (Unit ⊕ Bool)
  | 0, _ => none
  | K + 1, k_13 =>
    (idx l i_2).bind fun x16 =>
    if k_13 < (x16.Names.length : Int) then
    (idx x16.Names k_13).bind fun x18 =>
    if (x18.length : Int) > 60 then
    some (.inr false)
    else
    ko l i_2 K (w64 (k_13 + 1))
    else
    some (.inl ())
def qY (N : Nat) (l : List qm) : Nat → Int → Option (Unit ⊕ Bool)
  | 0, _ => none
  | K + 1, i_2 =>
    if i_2 < (l.length : Int) then
    ((idx l i_2).bind fun x6 =>
    if (x6.Kind.length : Int) > 60 then
    some true
    else
    if (x6.Names.length : Int) > 5 then
    some true
    else
    if (x6.Values.length : Int) > 5 then
    some true
    else
    some (decide ((x6.Text.length : Int) > 60)) : Option Bool).bind fun b10 =>
    if b10 = true then
    some (.inr false)
    else
    (ko l i_2 N 0).bind (fun
    | (.inl ()) =>
    qY N l K (w64 (i_2 + 1))
    | (.inr q20) =>
    some (.inr q20))
    else
    some (.inl ())
def z8 (N : Nat) (l : List qm) (n : Int) : Option Bool :=
  if (l.length : Int) > n then
  some false
  else
  (qY N l N 0).bind (fun
  | (.inl ()) =>
  some true
  | (.inr q21) =>
  some q21)
theorem yS (N : Nat) (l : List qm) (n : Int) {res : Bool} (h : z8 N l n = some res) : qw Tryz.prog (.fn 14) [vl qb l, .i n] [] (.bool res) [] := by
  unfold z8 at h
  refine Goes.fnW Tryz.func14 rfl rfl (m := 71) rfl (rs := [.tmp 4]) rfl (l := [(0, vl qb l), (1, .i n)]) rfl ?_
  refine sq ?_
  refine Goes.rg fol [(0, vl qb l), (1, .i n)] [] ?_
  refine sq ?_
  refine sq ?_
  refine Goes.rg fol [(0, vl qb l), (10, .bool (decide ((l.length : Int) > n)))] [] ?_
  refine Goes.ifB (b := decide ((l.length : Int) > n)) (by kernel_rfl) (fun c1 => ?_) (fun c1 => ?_)
  · rw [if_pos (ot c1)] at h
    refine sq ?_
    refine Goes.rg fol [(4, .bool false)] [] ?_
    refine Goes.ret ?_
    obtain rfl := Option.some.inj h
    exact (Goes.retW (xs := [.bool false]) (by kernel_rfl) (FzW.still (Still.bool 11 _)))
  · rw [if_neg (of_ c1)] at h
    refine Goes.skip ?_
    refine sq ?_
    refine sq ?_
    refine Goes.rg fol [(0, vl qb l), (5, .i 0)] [] ?_
    refine Goes.block ?_
    obtain ⟨r3, g3, h⟩ := bnd h
    refine Goes.imp (Q := fun x s' => (x = .exit 0 ∧ (.inl ()) = r3 ∧ Sub s' (ofG 71 [], [])) ∨ (x = .ret ∧ ∃ q4, (.inr q4) = r3 ∧ zG Tryz.prog [.tmp 4] (.bool q4) .ret s')) ?_ ?_
    · refine Goes.loopS (fun M s => ∃ (i_2 : Int), s = (ofG 71 [(0, vl qb l), (5, .i i_2)], []) ∧ qY N l M i_2 = some r3) ?_ (m := N) ⟨_, rfl, g3⟩
      rintro M s ⟨i_2, rfl, g3⟩
      cases M with
      | zero => simp only [qY] at g3; cases g3
      | succ M =>
        rw [qY] at g3
        refine sq ?_
        refine sq ?_
        refine Goes.rg fol [(0, vl qb l), (5, .i i_2), (14, .bool (decide (i_2 < (l.length : Int))))] [] ?_
        refine Goes.ifB (b := decide (i_2 < (l.length : Int))) (by kernel_rfl) (fun c5 => ?_) (fun c5 => ?_)
        · rw [if_pos (ot c5)] at g3
          refine Goes.skip ?_
          refine sq ?_
          refine Goes.block ?_
          refine sq ?_
          refine sq ?_
          obtain ⟨b10, g_v11, g3⟩ := bnd g3
          refine Goes.cut (s' := (ofG 71 [(0, vl qb l), (5, .i i_2), (50, .bool b10)], [])) ?_ ?_
          · obtain ⟨x6, e_x6, g_v11⟩ := bnd g_v11
            rcases Bool.eq_false_or_eq_true (decide ((x6.Kind.length : Int) > 60)) with c7 | c7
            · rw [if_pos (ot c7)] at g_v11
              obtain rfl := Option.some.inj g_v11
              exact qp.ro fol [(2, (.done (.fptr (l.flatMap qb.c) ((i_2 : Int).toNat * 5 + 0)))), (4, (.done (.str x6.Kind))), (7, (.done (.bool true)))] [(0, vl qb l), (5, .i i_2), (50, .bool true)] [] [.done (.opt (qj Tryz.prog 22 (vl qb l) (.i i_2))) (.fptr (l.flatMap qb.c) ((i_2 : Int).toNat * 5 + 0)), .done (qz Tryz.prog 9 (.fptr (l.flatMap qb.c) ((i_2 : Int).toNat * 5 + 1))) (.str x6.Kind), .done (.done (.bool (decide ((x6.Kind.length : Int) > 60)))) (.bool true)] (And.intro (qF yL (E := qb) rfl e_x6) (And.intro (qJ ce9 (E := qb) rfl e_x6 (Nat.le_of_ble_eq_true rfl) rfl) (And.intro (congrArg (fun x => Pg.done (.bool x)) c7) trivial)))
            · rw [if_neg (of_ c7)] at g_v11
              rcases Bool.eq_false_or_eq_true (decide ((x6.Names.length : Int) > 5)) with c8 | c8
              · rw [if_pos (ot c8)] at g_v11
                obtain rfl := Option.some.inj g_v11
                exact qp.ro fol [(2, (.done (.fptr (l.flatMap qb.c) ((i_2 : Int).toNat * 5 + 0)))), (4, (.done (.str x6.Kind))), (7, (.done (.bool false))), (10, (.done (.fptr (l.flatMap qb.c) ((i_2 : Int).toNat * 5 + 0)))), (12, (.done (vl encS x6.Names))), (16, (.done (.bool true)))] [(0, vl qb l), (5, .i i_2), (50, .bool true)] [] [.done (.opt (qj Tryz.prog 22 (vl qb l) (.i i_2))) (.fptr (l.flatMap qb.c) ((i_2 : Int).toNat * 5 + 0)), .done (qz Tryz.prog 9 (.fptr (l.flatMap qb.c) ((i_2 : Int).toNat * 5 + 1))) (.str x6.Kind), .done (.done (.bool (decide ((x6.Kind.length : Int) > 60)))) (.bool false), .done (.opt (qj Tryz.prog 22 (vl qb l) (.i i_2))) (.fptr (l.flatMap qb.c) ((i_2 : Int).toNat * 5 + 0)), .done (qz Tryz.prog 23 (.fptr (l.flatMap qb.c) ((i_2 : Int).toNat * 5 + 2))) (vl encS x6.Names), .done (.done (.bool (decide ((x6.Names.length : Int) > 5)))) (.bool true)] (And.intro (qF yL (E := qb) rfl e_x6) (And.intro (qJ ce9 (E := qb) rfl e_x6 (Nat.le_of_ble_eq_true rfl) rfl) (And.intro (congrArg (fun x => Pg.done (.bool x)) c7) (And.intro (qF yL (E := qb) rfl e_x6) (And.intro (qJ qhx (E := qb) rfl e_x6 (Nat.le_of_ble_eq_true rfl) rfl) (And.intro (congrArg (fun x => Pg.done (.bool x)) c8) trivial))))))
              · rw [if_neg (of_ c8)] at g_v11
                rcases Bool.eq_false_or_eq_true (decide ((x6.Values.length : Int) > 5)) with c9 | c9
                · rw [if_pos (ot c9)] at g_v11
                  obtain rfl := Option.some.inj g_v11
                  exact qp.ro fol [(2, (.done (.fptr (l.flatMap qb.c) ((i_2 : Int).toNat * 5 + 0)))), (4, (.done (.str x6.Kind))), (7, (.done (.bool false))), (10, (.done (.fptr (l.flatMap qb.c) ((i_2 : Int).toNat * 5 + 0)))), (12, (.done (vl encS x6.Names))), (16, (.done (.bool false))), (19, (.done (.fptr (l.flatMap qb.c) ((i_2 : Int).toNat * 5 + 0)))), (21, (.done (vl encI x6.Values))), (25, (.done (.bool true)))] [(0, vl qb l), (5, .i i_2), (50, .bool true)] [] [.done (.opt (qj Tryz.prog 22 (vl qb l) (.i i_2))) (.fptr (l.flatMap qb.c) ((i_2 : Int).toNat * 5 + 0)), .done (qz Tryz.prog 9 (.fptr (l.flatMap qb.c) ((i_2 : Int).toNat * 5 + 1))) (.str x6.Kind), .done (.done (.bool (decide ((x6.Kind.length : Int) > 60)))) (.bool false), .done (.opt (qj Tryz.prog 22 (vl qb l) (.i i_2))) (.fptr (l.flatMap qb.c) ((i_2 : Int).toNat * 5 + 0)), .done (qz Tryz.prog 23 (.fptr (l.flatMap qb.c) ((i_2 : Int).toNat * 5 + 2))) (vl encS x6.Names), .done (.done (.bool (decide ((x6.Names.length : Int) > 5)))) (.bool false), .done (.opt (qj Tryz.prog 22 (vl qb l) (.i i_2))) (.fptr (l.flatMap qb.c) ((i_2 : Int).toNat * 5 + 0)), .done (qz Tryz.prog 24 (.fptr (l.flatMap qb.c) ((i_2 : Int).toNat * 5 + 3))) (vl encI x6.Values), .done (.done (.bool (decide ((x6.Values.length : Int) > 5)))) (.bool true)] (And.intro (qF yL (E := qb) rfl e_x6) (And.intro (qJ ce9 (E := qb) rfl e_x6 (Nat.le_of_ble_eq_true rfl) rfl) (And.intro (congrArg (fun x => Pg.done (.bool x)) c7) (And.intro (qF yL (E := qb) rfl e_x6) (And.intro (qJ qhx (E := qb) rfl e_x6 (Nat.le_of_ble_eq_true rfl) rfl) (And.intro (congrArg (fun x => Pg.done (.bool x)) c8) (And.intro (qF yL (E := qb) rfl e_x6) (And.intro (qJ ce24 (E := qb) rfl e_x6 (Nat.le_of_ble_eq_true rfl) rfl) (And.intro (congrArg (fun x => Pg.done (.bool x)) c9) trivial)))))))))
                · rw [if_neg (of_ c9)] at g_v11
                  obtain rfl := Option.some.inj g_v11
                  exact qp.ro fol [(2, (.done (.fptr (l.flatMap qb.c) ((i_2 : Int).toNat * 5 + 0)))), (4, (.done (.str x6.Kind))), (7, (.done (.bool false))), (10, (.done (.fptr (l.flatMap qb.c) ((i_2 : Int).toNat * 5 + 0)))), (12, (.done (vl encS x6.Names))), (16, (.done (.bool false))), (19, (.done (.fptr (l.flatMap qb.c) ((i_2 : Int).toNat * 5 + 0)))), (21, (.done (vl encI x6.Values))), (25, (.done (.bool false))), (28, (.done (.fptr (l.flatMap qb.c) ((i_2 : Int).toNat * 5 + 0)))), (30, (.done (.str x6.Text)))] [(0, vl qb l), (5, .i i_2), (50, .bool (decide ((x6.Text.length : Int) > 60)))] [] [.done (.opt (qj Tryz.prog 22 (vl qb l) (.i i_2))) (.fptr (l.flatMap qb.c) ((i_2 : Int).toNat * 5 + 0)), .done (qz Tryz.prog 9 (.fptr (l.flatMap qb.c) ((i_2 : Int).toNat * 5 + 1))) (.str x6.Kind), .done (.done (.bool (decide ((x6.Kind.length : Int) > 60)))) (.bool false), .done (.opt (qj Tryz.prog 22 (vl qb l) (.i i_2))) (.fptr (l.flatMap qb.c) ((i_2 : Int).toNat * 5 + 0)), .done (qz Tryz.prog 23 (.fptr (l.flatMap qb.c) ((i_2 : Int).toNat * 5 + 2))) (vl encS x6.Names), .done (.done (.bool (decide ((x6.Names.length : Int) > 5)))) (.bool false), .done (.opt (qj Tryz.prog 22 (vl qb l) (.i i_2))) (.fptr (l.flatMap qb.c) ((i_2 : Int).toNat * 5 + 0)), .done (qz Tryz.prog 24 (.fptr (l.flatMap qb.c) ((i_2 : Int).toNat * 5 + 3))) (vl encI x6.Values), .done (.done (.bool (decide ((x6.Values.length : Int) > 5)))) (.bool false), .done (.opt (qj Tryz.prog 22 (vl qb l) (.i i_2))) (.fptr (l.flatMap qb.c) ((i_2 : Int).toNat * 5 + 0)), .done (qz Tryz.prog 9 (.fptr (l.flatMap qb.c) ((i_2 : Int).toNat * 5 + 4))) (.str x6.Text)] (And.intro (qF yL (E := qb) rfl e_x6) (And.intro (qJ ce9 (E := qb) rfl e_x6 (Nat.le_of_ble_eq_true rfl) rfl) (And.intro (congrArg (fun x => Pg.done (.bool x)) c7) (And.intro (qF yL (E := qb) rfl e_x6) (And.intro (qJ qhx (E := qb) rfl e_x6 (Nat.le_of_ble_eq_true rfl) rfl) (And.intro (congrArg (fun x => Pg.done (.bool x)) c8) (And.intro (qF yL (E := qb) rfl e_x6) (And.intro (qJ ce24 (E := qb) rfl e_x6 (Nat.le_of_ble_eq_true rfl) rfl) (And.intro (congrArg (fun x => Pg.done (.bool x)) c9) (And.intro (qF yL (E := qb) rfl e_x6) (And.intro (qJ ce9 (E := qb) rfl e_x6 (Nat.le_of_ble_eq_true rfl) rfl) trivial)))))))))))
          refine Goes.ifB (b := b10) (by kernel_rfl) (fun c12 => ?_) (fun c12 => ?_)
          · rw [if_pos (c12)] at g3
            refine sq ?_
            refine Goes.rg fol [(4, .bool false)] [] ?_
            refine Goes.ret ?_
            obtain rfl := Option.some.inj g3
            exact Or.inr (⟨rfl, _, rfl, (Goes.retW (xs := [.bool false]) (by kernel_rfl) (FzW.still (Still.bool 11 _)))⟩)
          · rw [if_neg (by rw [c12]; exact Bool.false_ne_true)] at g3
            refine Goes.skip ?_
            refine sq ?_
            refine Goes.rg fol [(0, vl qb l), (5, .i i_2), (6, .i 0)] [] ?_
            refine Goes.block ?_
            obtain ⟨r14, g14, g3⟩ := bnd g3
            refine Goes.imp (Q := fun x s' => (x = .exit 2 ∧ (.inl ()) = r14 ∧ Sub s' (ofG 71 [(0, vl qb l), (5, .i i_2)], [])) ∨ (x = .ret ∧ ∃ q15, (.inr q15) = r14 ∧ zG Tryz.prog [.tmp 4] (.bool q15) .ret s')) ?_ ?_
            · refine Goes.loopS (fun M s => ∃ (k_13 : Int), s = (ofG 71 [(0, vl qb l), (5, .i i_2), (6, .i k_13)], []) ∧ ko l i_2 M k_13 = some r14) ?_ (m := N) ⟨_, rfl, g14⟩
              rintro M s ⟨k_13, rfl, g14⟩
              cases M with
              | zero => simp only [ko] at g14; cases g14
              | succ M =>
                rw [ko] at g14
                refine sq ?_
                refine sq ?_
                obtain ⟨x16, e_x16, g14⟩ := bnd g14
                refine Goes.ro fol [(3, (.done (.fptr (l.flatMap qb.c) ((i_2 : Int).toNat * 5 + 0)))), (5, (.done (vl encS x16.Names)))] [(0, vl qb l), (5, .i i_2), (6, .i k_13), (58, .bool (decide (k_13 < (x16.Names.length : Int))))] [] [.done (.opt (qj Tryz.prog 22 (vl qb l) (.i i_2))) (.fptr (l.flatMap qb.c) ((i_2 : Int).toNat * 5 + 0)), .done (qz Tryz.prog 23 (.fptr (l.flatMap qb.c) ((i_2 : Int).toNat * 5 + 2))) (vl encS x16.Names)] (And.intro (qF yL (E := qb) rfl e_x16) (And.intro (qJ qhx (E := qb) rfl e_x16 (Nat.le_of_ble_eq_true rfl) rfl) trivial)) ?_
                refine Goes.ifB (b := decide (k_13 < (x16.Names.length : Int))) (by kernel_rfl) (fun c17 => ?_) (fun c17 => ?_)
                · rw [if_pos (ot c17)] at g14
                  refine Goes.skip ?_
                  refine sq ?_
                  refine Goes.block ?_
                  refine sq ?_
                  obtain ⟨x18, e_x18, g14⟩ := bnd g14
                  refine Goes.ro fol [(2, (.done (.fptr (l.flatMap qb.c) ((i_2 : Int).toNat * 5 + 0)))), (4, (.done (vl encS x16.Names))), (6, (.done (.fptr (x16.Names.flatMap encS.c) ((k_13 : Int).toNat * 1 + 0)))), (7, (.done (.str x18)))] [(0, vl qb l), (5, .i i_2), (6, .i k_13), (70, .bool (decide ((x18.length : Int) > 60)))] [] [.done (.opt (qj Tryz.prog 22 (vl qb l) (.i i_2))) (.fptr (l.flatMap qb.c) ((i_2 : Int).toNat * 5 + 0)), .done (qz Tryz.prog 23 (.fptr (l.flatMap qb.c) ((i_2 : Int).toNat * 5 + 2))) (vl encS x16.Names), .done (.opt (qj Tryz.prog 23 (vl encS x16.Names) (.i k_13))) (.fptr (x16.Names.flatMap encS.c) ((k_13 : Int).toNat * 1 + 0)), .done (qz Tryz.prog 9 (.fptr (x16.Names.flatMap encS.c) ((k_13 : Int).toNat * 1 + 0))) (.str x18)] (And.intro (qF yL (E := qb) rfl e_x16) (And.intro (qJ qhx (E := qb) rfl e_x16 (Nat.le_of_ble_eq_true rfl) rfl) (And.intro (qF xe (E := encS) rfl e_x18) (And.intro (qJ ce9 (E := encS) rfl e_x18 (Nat.le_of_ble_eq_true rfl) rfl) trivial)))) ?_
                  refine Goes.ifB (b := decide ((x18.length : Int) > 60)) (by kernel_rfl) (fun c19 => ?_) (fun c19 => ?_)
                  · rw [if_pos (ot c19)] at g14
                    refine sq ?_
                    refine Goes.rg fol [(4, .bool false)] [] ?_
                    refine Goes.ret ?_
                    obtain rfl := Option.some.inj g14
                    exact Or.inr (⟨rfl, _, rfl, (Goes.retW (xs := [.bool false]) (by kernel_rfl) (FzW.still (Still.bool 11 _)))⟩)
                  · rw [if_neg (of_ c19)] at g14
                    refine Goes.skip ?_
                    refine Goes.rg fol [(0, vl qb l), (5, .i i_2), (6, .i (w64 (k_13 + 1)))] [] ?_
                    exact ⟨M, (ofG 71 [(0, vl qb l), (5, .i i_2), (6, .i (w64 (k_13 + 1)))], []), Nat.lt_succ_self _, (Sub.refl _), _, rfl, g14⟩
                · rw [if_neg (of_ c17)] at g14
                  refine Goes.exit ?_
                  obtain rfl := Option.some.inj g14
                  exact Or.inl (⟨rfl, rfl, (Sub.keep [0, 5] rfl rfl)⟩)
            rintro x s' (⟨rfl, rfl, hsub⟩ | ⟨rfl, q20, rfl, hret⟩)
            · try dsimp only at g3
              refine Goes.sub hsub ?_
              refine Goes.rg fol [(0, vl qb l), (5, .i (w64 (i_2 + 1)))] [] ?_
              exact ⟨M, (ofG 71 [(0, vl qb l), (5, .i (w64 (i_2 + 1)))], []), Nat.lt_succ_self _, (Sub.refl _), _, rfl, g3⟩
            · try dsimp only at g3
              obtain rfl := Option.some.inj g3
              exact Or.inr (⟨rfl, _, rfl, hret⟩)
        · rw [if_neg (of_ c5)] at g3
          refine Goes.exit ?_
          obtain rfl := Option.some.inj g3
          exact Or.inl (⟨rfl, rfl, (Sub.keep [] rfl rfl)⟩)
    rintro x s' (⟨rfl, rfl, hsub⟩ | ⟨rfl, q21, rfl, hret⟩)
    · try dsimp only at h
      refine Goes.sub hsub ?_
      refine sq ?_
      refine Goes.rg fol [(4, .bool true)] [] ?_
      refine Goes.ret ?_
      obtain rfl := Option.some.inj h
      exact (Goes.retW (xs := [.bool true]) (by kernel_rfl) (FzW.still (Still.bool 11 _)))
    · try dsimp only at h
      obtain rfl := Option.some.inj h
      exact hret
def zf (n : Int) (low : Int) (high : Int) : Option Bool :=
  (if n < low then
  some true
  else
  some (decide (n > high)) : Option Bool).bind fun b2 =>
  some b2
theorem kU (n : Int) (low : Int) (high : Int) {res : Bool} (h : zf n low high = some res) : qw Tryz.prog (.fn 36) [.i n, .i low, .i high] [] (.bool res) [] := by
  unfold zf at h
  refine Goes.fnW Tryz.func36 rfl rfl (m := 15) rfl (rs := [.tmp 6]) rfl (l := [(0, .i n), (1, .i low), (2, .i high)]) rfl ?_
  refine sq ?_
  refine Goes.rg fol [(0, .i n), (1, .i low), (2, .i high)] [] ?_
  refine sq ?_
  obtain ⟨b2, g_v3, h⟩ := bnd h
  refine Goes.cut (s' := (ofG 15 [(6, .bool b2)], [])) ?_ ?_
  · rcases Bool.eq_false_or_eq_true (decide (n < low)) with c1 | c1
    · rw [if_pos (ot c1)] at g_v3
      obtain rfl := Option.some.inj g_v3
      exact qp.ro fol [(3, (.done (.bool true)))] [(6, .bool true)] [] [.done (.done (.bool (decide (n < low)))) (.bool true)] (And.intro (congrArg (fun x => Pg.done (.bool x)) c1) trivial)
    · rw [if_neg (of_ c1)] at g_v3
      obtain rfl := Option.some.inj g_v3
      exact qp.ro fol [(3, (.done (.bool false)))] [(6, .bool (decide (n > high)))] [] [.done (.done (.bool (decide (n < low)))) (.bool false)] (And.intro (congrArg (fun x => Pg.done (.bool x)) c1) trivial)
  refine Goes.ret ?_
  obtain rfl := Option.some.inj h
  exact (Goes.retW (xs := [.bool b2]) (by kernel_rfl) (FzW.still (Still.bool 11 _)))
def jc (s_ : Str) : Nat → Int → Option (Unit ⊕ Bool)
  | 0, _ => none
  | K + 1, i_5 =>
    if i_5 < (s_.length : Int) then
    (idx s_ i_5).bind fun c9 =>
    (if (c9.toNat : Int) ≥ 97 then
    if (c9.toNat : Int) ≤ 122 then
    some true
    else
    if (c9.toNat : Int) ≥ 65 then
    some (decide ((c9.toNat : Int) ≤ 90))
    else
    some false
    else
    if (c9.toNat : Int) ≥ 65 then
    some (decide ((c9.toNat : Int) ≤ 90))
    else
    some false : Option Bool).bind fun letter_14 =>
    (if (!letter_14) = true then
    if i_5 = 0 then
    some true
    else
    if (c9.toNat : Int) ≥ 48 then
    if (c9.toNat : Int) ≤ 57 then
    some false
    else
    some (!(decide ((c9.toNat : Int) = 95)))
    else
    some (!(decide ((c9.toNat : Int) = 95)))
    else
    some false : Option Bool).bind fun b20 =>
    if b20 = true then
    some (.inr false)
    else
    jc s_ K (w64 (i_5 + 1))
    else
    some (.inl ())
def vJ (N : Nat) (s_ : Str) : Option Bool :=
  (if (s_.length : Int) < 1 then
  some true
  else
  some (decide ((s_.length : Int) > 24)) : Option Bool).bind fun b2 =>
  if b2 = true then
  some false
  else
  (jc s_ N 0).bind (fun
  | (.inl ()) =>
  some true
  | (.inr q23) =>
  some q23)
theorem qau (N : Nat) (s_ : Str) {res : Bool} (h : vJ N s_ = some res) : qw Tryz.prog (.fn 47) [.str s_] [] (.bool res) [] := by
  unfold vJ at h
  refine Goes.fnW Tryz.func47 rfl rfl (m := 56) rfl (rs := [.tmp 2]) rfl (l := [(0, .str s_)]) rfl ?_
  refine sq ?_
  refine Goes.rg fol [(0, .str s_)] [] ?_
  refine sq ?_
  refine sq ?_
  obtain ⟨b2, g_v3, h⟩ := bnd h
  refine Goes.cut (s' := (ofG 56 [(0, .str s_), (13, .bool b2)], [])) ?_ ?_
  · rcases Bool.eq_false_or_eq_true (decide ((s_.length : Int) < 1)) with c1 | c1
    · rw [if_pos (ot c1)] at g_v3
      obtain rfl := Option.some.inj g_v3
      exact qp.ro fol [(3, (.done (.bool true)))] [(0, .str s_), (13, .bool true)] [] [.done (.done (.bool (decide ((s_.length : Int) < 1)))) (.bool true)] (And.intro (congrArg (fun x => Pg.done (.bool x)) c1) trivial)
    · rw [if_neg (of_ c1)] at g_v3
      obtain rfl := Option.some.inj g_v3
      exact qp.ro fol [(3, (.done (.bool false)))] [(0, .str s_), (13, .bool (decide ((s_.length : Int) > 24)))] [] [.done (.done (.bool (decide ((s_.length : Int) < 1)))) (.bool false)] (And.intro (congrArg (fun x => Pg.done (.bool x)) c1) trivial)
  refine Goes.ifB (b := b2) (by kernel_rfl) (fun c4 => ?_) (fun c4 => ?_)
  · rw [if_pos (c4)] at h
    refine sq ?_
    refine Goes.rg fol [(2, .bool false)] [] ?_
    refine Goes.ret ?_
    obtain rfl := Option.some.inj h
    exact (Goes.retW (xs := [.bool false]) (by kernel_rfl) (FzW.still (Still.bool 11 _)))
  · rw [if_neg (by rw [c4]; exact Bool.false_ne_true)] at h
    refine Goes.skip ?_
    refine sq ?_
    refine sq ?_
    refine Goes.rg fol [(0, .str s_), (3, .i 0)] [] ?_
    refine Goes.block ?_
    obtain ⟨r6, g6, h⟩ := bnd h
    refine Goes.imp (Q := fun x s' => (x = .exit 0 ∧ (.inl ()) = r6 ∧ Sub s' (ofG 56 [], [])) ∨ (x = .ret ∧ ∃ q7, (.inr q7) = r6 ∧ zG Tryz.prog [.tmp 2] (.bool q7) .ret s')) ?_ ?_
    · refine Goes.loopS (fun M s => ∃ (i_5 : Int), s = (ofG 56 [(0, .str s_), (3, .i i_5)], []) ∧ jc s_ M i_5 = some r6) ?_ (m := N) ⟨_, rfl, g6⟩
      rintro M s ⟨i_5, rfl, g6⟩
      cases M with
      | zero => simp only [jc] at g6; cases g6
      | succ M =>
        rw [jc] at g6
        refine sq ?_
        refine sq ?_
        refine Goes.rg fol [(0, .str s_), (3, .i i_5), (17, .bool (decide (i_5 < (s_.length : Int))))] [] ?_
        refine Goes.ifB (b := decide (i_5 < (s_.length : Int))) (by kernel_rfl) (fun c8 => ?_) (fun c8 => ?_)
        · rw [if_pos (ot c8)] at g6
          refine Goes.skip ?_
          refine sq ?_
          refine Goes.block ?_
          refine sq ?_
          obtain ⟨c9, e_c9, g6⟩ := bnd g6
          refine Goes.ro fol [(2, (.done (.int .u8 (c9.toNat : Int))))] [(0, .str s_), (3, .i i_5), (4, .int .u8 (c9.toNat : Int))] [] [.done (.opt (qbG Tryz.prog 9 (.str s_) (.i i_5))) (.int .u8 (c9.toNat : Int))] (And.intro (qjn st9 e_c9) trivial) ?_
          refine sq ?_
          obtain ⟨letter_14, g_v15, g6⟩ := bnd g6
          refine Goes.cut (s' := (ofG 56 [(0, .str s_), (3, .i i_5), (4, .int .u8 (c9.toNat : Int)), (5, .bool letter_14)], [])) ?_ ?_
          · rcases Bool.eq_false_or_eq_true (decide ((c9.toNat : Int) ≥ 97)) with c10 | c10
            · rw [if_pos (ot c10)] at g_v15
              rcases Bool.eq_false_or_eq_true (decide ((c9.toNat : Int) ≤ 122)) with c11 | c11
              · rw [if_pos (ot c11)] at g_v15
                obtain rfl := Option.some.inj g_v15
                exact qp.ro fol [(2, (.done (.bool true))), (6, (.done (.bool true)))] [(0, .str s_), (3, .i i_5), (4, .int .u8 (c9.toNat : Int)), (5, .bool true)] [] [.done (.done (.bool (decide ((c9.toNat : Int) ≥ 97)))) (.bool true), .done (.done (.bool (decide ((c9.toNat : Int) ≤ 122)))) (.bool true)] (And.intro (congrArg (fun x => Pg.done (.bool x)) c10) (And.intro (congrArg (fun x => Pg.done (.bool x)) c11) trivial))
              · rw [if_neg (of_ c11)] at g_v15
                rcases Bool.eq_false_or_eq_true (decide ((c9.toNat : Int) ≥ 65)) with c12 | c12
                · rw [if_pos (ot c12)] at g_v15
                  obtain rfl := Option.some.inj g_v15
                  exact qp.ro fol [(2, (.done (.bool true))), (6, (.done (.bool false))), (9, (.done (.bool true)))] [(0, .str s_), (3, .i i_5), (4, .int .u8 (c9.toNat : Int)), (5, .bool (decide ((c9.toNat : Int) ≤ 90)))] [] [.done (.done (.bool (decide ((c9.toNat : Int) ≥ 97)))) (.bool true), .done (.done (.bool (decide ((c9.toNat : Int) ≤ 122)))) (.bool false), .done (.done (.bool (decide ((c9.toNat : Int) ≥ 65)))) (.bool true)] (And.intro (congrArg (fun x => Pg.done (.bool x)) c10) (And.intro (congrArg (fun x => Pg.done (.bool x)) c11) (And.intro (congrArg (fun x => Pg.done (.bool x)) c12) trivial)))
                · rw [if_neg (of_ c12)] at g_v15
                  obtain rfl := Option.some.inj g_v15
                  exact qp.ro fol [(2, (.done (.bool true))), (6, (.done (.bool false))), (9, (.done (.bool false)))] [(0, .str s_), (3, .i i_5), (4, .int .u8 (c9.toNat : Int)), (5, .bool false)] [] [.done (.done (.bool (decide ((c9.toNat : Int) ≥ 97)))) (.bool true), .done (.done (.bool (decide ((c9.toNat : Int) ≤ 122)))) (.bool false), .done (.done (.bool (decide ((c9.toNat : Int) ≥ 65)))) (.bool false)] (And.intro (congrArg (fun x => Pg.done (.bool x)) c10) (And.intro (congrArg (fun x => Pg.done (.bool x)) c11) (And.intro (congrArg (fun x => Pg.done (.bool x)) c12) trivial)))
            · rw [if_neg (of_ c10)] at g_v15
              rcases Bool.eq_false_or_eq_true (decide ((c9.toNat : Int) ≥ 65)) with c13 | c13
              · rw [if_pos (ot c13)] at g_v15
                obtain rfl := Option.some.inj g_v15
                exact qp.ro fol [(2, (.done (.bool false))), (9, (.done (.bool true)))] [(0, .str s_), (3, .i i_5), (4, .int .u8 (c9.toNat : Int)), (5, .bool (decide ((c9.toNat : Int) ≤ 90)))] [] [.done (.done (.bool (decide ((c9.toNat : Int) ≥ 97)))) (.bool false), .done (.done (.bool (decide ((c9.toNat : Int) ≥ 65)))) (.bool true)] (And.intro (congrArg (fun x => Pg.done (.bool x)) c10) (And.intro (congrArg (fun x => Pg.done (.bool x)) c13) trivial))
              · rw [if_neg (of_ c13)] at g_v15
                obtain rfl := Option.some.inj g_v15
                exact qp.ro fol [(2, (.done (.bool false))), (9, (.done (.bool false)))] [(0, .str s_), (3, .i i_5), (4, .int .u8 (c9.toNat : Int)), (5, .bool false)] [] [.done (.done (.bool (decide ((c9.toNat : Int) ≥ 97)))) (.bool false), .done (.done (.bool (decide ((c9.toNat : Int) ≥ 65)))) (.bool false)] (And.intro (congrArg (fun x => Pg.done (.bool x)) c10) (And.intro (congrArg (fun x => Pg.done (.bool x)) c13) trivial))
          refine sq ?_
          obtain ⟨b20, g_v21, g6⟩ := bnd g6
          refine Goes.cut (s' := (ofG 56 [(0, .str s_), (3, .i i_5), (55, .bool b20)], [])) ?_ ?_
          · rcases Bool.eq_false_or_eq_true (!letter_14) with c16 | c16
            · rw [if_pos (c16)] at g_v21
              rcases Bool.eq_false_or_eq_true (decide (i_5 = 0)) with c17 | c17
              · rw [if_pos (ot c17)] at g_v21
                obtain rfl := Option.some.inj g_v21
                exact qp.ro fol [(2, (.done (.bool true))), (5, (.done (.bool true)))] [(0, .str s_), (3, .i i_5), (55, .bool true)] [] [.done (.done (.bool (!letter_14))) (.bool true), .done (.done (.bool (decide (i_5 = 0)))) (.bool true)] (And.intro (congrArg (fun x => Pg.done (.bool x)) c16) (And.intro (congrArg (fun x => Pg.done (.bool x)) c17) trivial))
              · rw [if_neg (of_ c17)] at g_v21
                rcases Bool.eq_false_or_eq_true (decide ((c9.toNat : Int) ≥ 48)) with c18 | c18
                · rw [if_pos (ot c18)] at g_v21
                  rcases Bool.eq_false_or_eq_true (decide ((c9.toNat : Int) ≤ 57)) with c19 | c19
                  · rw [if_pos (ot c19)] at g_v21
                    obtain rfl := Option.some.inj g_v21
                    exact qp.ro fol [(2, (.done (.bool true))), (5, (.done (.bool false))), (8, (.done (.bool true))), (12, (.done (.bool true)))] [(0, .str s_), (3, .i i_5), (55, .bool false)] [] [.done (.done (.bool (!letter_14))) (.bool true), .done (.done (.bool (decide (i_5 = 0)))) (.bool false), .done (.done (.bool (decide ((c9.toNat : Int) ≥ 48)))) (.bool true), .done (.done (.bool (decide ((c9.toNat : Int) ≤ 57)))) (.bool true)] (And.intro (congrArg (fun x => Pg.done (.bool x)) c16) (And.intro (congrArg (fun x => Pg.done (.bool x)) c17) (And.intro (congrArg (fun x => Pg.done (.bool x)) c18) (And.intro (congrArg (fun x => Pg.done (.bool x)) c19) trivial))))
                  · rw [if_neg (of_ c19)] at g_v21
                    obtain rfl := Option.some.inj g_v21
                    exact qp.ro fol [(2, (.done (.bool true))), (5, (.done (.bool false))), (8, (.done (.bool true))), (12, (.done (.bool false)))] [(0, .str s_), (3, .i i_5), (55, .bool (!(decide ((c9.toNat : Int) = 95))))] [] [.done (.done (.bool (!letter_14))) (.bool true), .done (.done (.bool (decide (i_5 = 0)))) (.bool false), .done (.done (.bool (decide ((c9.toNat : Int) ≥ 48)))) (.bool true), .done (.done (.bool (decide ((c9.toNat : Int) ≤ 57)))) (.bool false)] (And.intro (congrArg (fun x => Pg.done (.bool x)) c16) (And.intro (congrArg (fun x => Pg.done (.bool x)) c17) (And.intro (congrArg (fun x => Pg.done (.bool x)) c18) (And.intro (congrArg (fun x => Pg.done (.bool x)) c19) trivial))))
                · rw [if_neg (of_ c18)] at g_v21
                  obtain rfl := Option.some.inj g_v21
                  exact qp.ro fol [(2, (.done (.bool true))), (5, (.done (.bool false))), (8, (.done (.bool false)))] [(0, .str s_), (3, .i i_5), (55, .bool (!(decide ((c9.toNat : Int) = 95))))] [] [.done (.done (.bool (!letter_14))) (.bool true), .done (.done (.bool (decide (i_5 = 0)))) (.bool false), .done (.done (.bool (decide ((c9.toNat : Int) ≥ 48)))) (.bool false)] (And.intro (congrArg (fun x => Pg.done (.bool x)) c16) (And.intro (congrArg (fun x => Pg.done (.bool x)) c17) (And.intro (congrArg (fun x => Pg.done (.bool x)) c18) trivial)))
            · rw [if_neg (by rw [c16]; exact Bool.false_ne_true)] at g_v21
              obtain rfl := Option.some.inj g_v21
              exact qp.ro fol [(2, (.done (.bool false)))] [(0, .str s_), (3, .i i_5), (55, .bool false)] [] [.done (.done (.bool (!letter_14))) (.bool false)] (And.intro (congrArg (fun x => Pg.done (.bool x)) c16) trivial)
          refine Goes.ifB (b := b20) (by kernel_rfl) (fun c22 => ?_) (fun c22 => ?_)
          · rw [if_pos (c22)] at g6
            refine sq ?_
            refine Goes.rg fol [(2, .bool false)] [] ?_
            refine Goes.ret ?_
            obtain rfl := Option.some.inj g6
            exact Or.inr (⟨rfl, _, rfl, (Goes.retW (xs := [.bool false]) (by kernel_rfl) (FzW.still (Still.bool 11 _)))⟩)
          · rw [if_neg (by rw [c22]; exact Bool.false_ne_true)] at g6
            refine Goes.skip ?_
            refine Goes.rg fol [(0, .str s_), (3, .i (w64 (i_5 + 1)))] [] ?_
            exact ⟨M, (ofG 56 [(0, .str s_), (3, .i (w64 (i_5 + 1)))], []), Nat.lt_succ_self _, (Sub.refl _), _, rfl, g6⟩
        · rw [if_neg (of_ c8)] at g6
          refine Goes.exit ?_
          obtain rfl := Option.some.inj g6
          exact Or.inl (⟨rfl, rfl, (Sub.keep [] rfl rfl)⟩)
    rintro x s' (⟨rfl, rfl, hsub⟩ | ⟨rfl, q23, rfl, hret⟩)
    · try dsimp only at h
      refine Goes.sub hsub ?_
      refine sq ?_
      refine Goes.rg fol [(2, .bool true)] [] ?_
      refine Goes.ret ?_
      obtain rfl := Option.some.inj h
      exact (Goes.retW (xs := [.bool true]) (by kernel_rfl) (FzW.still (Still.bool 11 _)))
    · try dsimp only at h
      obtain rfl := Option.some.inj h
      exact hret
def xq (kind : Str) : Option (Int × Int × Bool) :=
  if (kind == [109, 97, 107, 101]) = true then
  some (2, 3, true)
  else
  ((if (kind == [116, 101, 115, 116]) = true then
  some (kind == [116, 101, 115, 116])
  else
  some (kind == [117, 115, 101]) : Option Bool)).bind fun b2 =>
  if b2 = true then
  some (1, 2, true)
  else
  ((if (kind == [102, 97, 105, 108]) = true then
  some (kind == [102, 97, 105, 108])
  else
  some (kind == [114, 101, 99, 97, 108, 108]) : Option Bool)).bind fun b6 =>
  if b6 = true then
  some (1, 1, true)
  else
  if (kind == [117, 110, 100, 111]) = true then
  some (0, 0, true)
  else
  some (0, 0, false)
theorem qdV (kind : Str) {res : Int × Int × Bool} (h : xq kind = some res) : qw Tryz.prog (.fn 90) [.str kind] [] (.tuple [.i res.1, .i res.2.1, .bool res.2.2]) [] := by
  unfold xq at h
  refine Goes.fnW Tryz.func90 rfl rfl (m := 16) rfl (rs := [.tmp 2, .tmp 3, .tmp 4]) rfl (l := [(0, .str kind)]) rfl ?_
  refine sq ?_
  refine Goes.rg fol [(0, .str kind)] [] ?_
  refine sq ?_
  refine sq ?_
  refine Goes.rg fol [(5, .str kind)] [] ?_
  refine Goes.block ?_
  refine sq ?_
  refine Goes.rg fol [(5, .str kind), (6, .bool (kind == [109, 97, 107, 101]))] [] ?_
  refine Goes.ifB (b := kind == [109, 97, 107, 101]) (by kernel_rfl) (fun c1 => ?_) (fun c1 => ?_)
  · rw [if_pos (c1)] at h
    refine sq ?_
    refine Goes.rg fol [(2, .i 2), (3, .i 3), (4, .bool true)] [] ?_
    refine Goes.ret ?_
    obtain rfl := Option.some.inj h
    exact (Goes.retW (xs := [.i 2, .i 3, .bool true]) (by kernel_rfl) (FzW.tuple (qN.cons (FzW.still (Still.int 10 _ _)) (qN.cons (FzW.still (Still.int 10 _ _)) (qN.cons (FzW.still (Still.bool 10 _)) qN.nil)))))
  · rw [if_neg (by rw [c1]; exact Bool.false_ne_true)] at h
    refine sq ?_
    refine sq ?_
    refine Goes.rg fol [(5, .str kind), (8, .bool (kind == [116, 101, 115, 116]))] [] ?_
    obtain ⟨r3, g3, h⟩ := bnd h
    refine Goes.imp (Q := fun x s' => (x = .normal ∧ ∃ b2, b2 = r3 ∧ Sub s' (ofG 16 [(5, .str kind), (8, .bool b2)], []))) ?_ ?_
    · refine Goes.ifB (b := kind == [116, 101, 115, 116]) (by kernel_rfl) (fun c4 => ?_) (fun c4 => ?_)
      · rw [if_pos (c4)] at g3
        refine Goes.skip ?_
        obtain rfl := Option.some.inj g3
        exact ⟨rfl, _, rfl, (Sub.refl _)⟩
      · rw [if_neg (by rw [c4]; exact Bool.false_ne_true)] at g3
        refine Goes.rg fol [(5, .str kind), (8, .bool (kind == [117, 115, 101]))] [] ?_
        obtain rfl := Option.some.inj g3
        exact ⟨rfl, _, rfl, (Sub.refl _)⟩
    rintro x s' ⟨rfl, b2, rfl, hsub⟩
    refine Goes.sub hsub ?_
    refine Goes.ifB (b := b2) (by kernel_rfl) (fun c5 => ?_) (fun c5 => ?_)
    · rw [if_pos (c5)] at h
      refine sq ?_
      refine Goes.rg fol [(2, .i 1), (3, .i 2), (4, .bool true)] [] ?_
      refine Goes.ret ?_
      obtain rfl := Option.some.inj h
      exact (Goes.retW (xs := [.i 1, .i 2, .bool true]) (by kernel_rfl) (FzW.tuple (qN.cons (FzW.still (Still.int 10 _ _)) (qN.cons (FzW.still (Still.int 10 _ _)) (qN.cons (FzW.still (Still.bool 10 _)) qN.nil)))))
    · rw [if_neg (by rw [c5]; exact Bool.false_ne_true)] at h
      refine sq ?_
      refine sq ?_
      refine Goes.rg fol [(5, .str kind), (11, .bool (kind == [102, 97, 105, 108]))] [] ?_
      obtain ⟨r7, g7, h⟩ := bnd h
      refine Goes.imp (Q := fun x s' => (x = .normal ∧ ∃ b6, b6 = r7 ∧ Sub s' (ofG 16 [(5, .str kind), (11, .bool b6)], []))) ?_ ?_
      · refine Goes.ifB (b := kind == [102, 97, 105, 108]) (by kernel_rfl) (fun c8 => ?_) (fun c8 => ?_)
        · rw [if_pos (c8)] at g7
          refine Goes.skip ?_
          obtain rfl := Option.some.inj g7
          exact ⟨rfl, _, rfl, (Sub.refl _)⟩
        · rw [if_neg (by rw [c8]; exact Bool.false_ne_true)] at g7
          refine Goes.rg fol [(5, .str kind), (11, .bool (kind == [114, 101, 99, 97, 108, 108]))] [] ?_
          obtain rfl := Option.some.inj g7
          exact ⟨rfl, _, rfl, (Sub.refl _)⟩
      rintro x s' ⟨rfl, b6, rfl, hsub⟩
      refine Goes.sub hsub ?_
      refine Goes.ifB (b := b6) (by kernel_rfl) (fun c9 => ?_) (fun c9 => ?_)
      · rw [if_pos (c9)] at h
        refine sq ?_
        refine Goes.rg fol [(2, .i 1), (3, .i 1), (4, .bool true)] [] ?_
        refine Goes.ret ?_
        obtain rfl := Option.some.inj h
        exact (Goes.retW (xs := [.i 1, .i 1, .bool true]) (by kernel_rfl) (FzW.tuple (qN.cons (FzW.still (Still.int 10 _ _)) (qN.cons (FzW.still (Still.int 10 _ _)) (qN.cons (FzW.still (Still.bool 10 _)) qN.nil)))))
      · rw [if_neg (by rw [c9]; exact Bool.false_ne_true)] at h
        refine sq ?_
        refine Goes.rg fol [(14, .bool (kind == [117, 110, 100, 111]))] [] ?_
        refine Goes.ifB (b := kind == [117, 110, 100, 111]) (by kernel_rfl) (fun c10 => ?_) (fun c10 => ?_)
        · rw [if_pos (c10)] at h
          refine sq ?_
          refine Goes.rg fol [(2, .i 0), (3, .i 0), (4, .bool true)] [] ?_
          refine Goes.ret ?_
          obtain rfl := Option.some.inj h
          exact (Goes.retW (xs := [.i 0, .i 0, .bool true]) (by kernel_rfl) (FzW.tuple (qN.cons (FzW.still (Still.int 10 _ _)) (qN.cons (FzW.still (Still.int 10 _ _)) (qN.cons (FzW.still (Still.bool 10 _)) qN.nil)))))
        · rw [if_neg (by rw [c10]; exact Bool.false_ne_true)] at h
          refine Goes.skip ?_
          refine sq ?_
          refine Goes.rg fol [(2, .i 0), (3, .i 0), (4, .bool false)] [] ?_
          refine Goes.ret ?_
          obtain rfl := Option.some.inj h
          exact (Goes.retW (xs := [.i 0, .i 0, .bool false]) (by kernel_rfl) (FzW.tuple (qN.cons (FzW.still (Still.int 10 _ _)) (qN.cons (FzW.still (Still.int 10 _ _)) (qN.cons (FzW.still (Still.bool 10 _)) qN.nil)))))
def za (N : Nat) (e : qm) (r3 : Int × Int × Bool) : Nat → Int → Option (Unit ⊕ Int)
  | 0, _ => none
  | K + 1, i_9 =>
    if i_9 < r3.1 then
    (idx e.Names i_9).bind fun x13 =>
    (vJ N x13).bind fun r14 =>
    if (!r14) = true then
    some (.inr 8)
    else
    za N e r3 K (w64 (i_9 + 1))
    else
    some (.inl ())
def zb (e : qm) (r3 : Int × Int × Bool) : Nat → Int → Option (Unit ⊕ Int)
  | 0, _ => none
  | K + 1, i_16 =>
    if i_16 < r3.2.1 then
    (idx e.Values i_16).bind fun x20 =>
    (zf x20 0 999999999).bind fun r21 =>
    if r21 = true then
    some (.inr 3)
    else
    zb e r3 K (w64 (i_16 + 1))
    else
    some (.inl ())
def jN (N : Nat) (e : qm) : Option Int :=
  (zf e.Number 1 1000).bind fun r1 =>
  if r1 = true then
  some 3
  else
  (xq e.Kind).bind fun r3 =>
  if (!r3.2.2) = true then
  some 13
  else
  (if (!decide ((e.Names.length : Int) = r3.1)) = true then
  some true
  else
  some (!decide ((e.Values.length : Int) = r3.2.1)) : Option Bool).bind fun b6 =>
  if b6 = true then
  some 2
  else
  (za N e r3 N 0).bind (fun
  | (.inl ()) =>
  (zb e r3 N 0).bind (fun
  | (.inl ()) =>
  if (!(e.Text == [])) = true then
  some 1
  else
  some 0
  | (.inr q24) =>
  some q24)
  | (.inr q25) =>
  some q25)
theorem qbg (N : Nat) (e : qm) {res : Int} (h : jN N e = some res) : qw Tryz.prog (.fn 19) [.agg [.i e.Number, .str e.Kind, vl encS e.Names, vl encI e.Values, .str e.Text]] [] (.i res) [] := by
  unfold jN at h
  refine Goes.fnW Tryz.func19 rfl rfl (m := 58) rfl (rs := [.tmp 2]) rfl (l := [(0, .agg [.i e.Number, .str e.Kind, vl encS e.Names, vl encI e.Values, .str e.Text])]) rfl ?_
  refine sq ?_
  refine Goes.rg fol [(1, .ptr 0 0)] [.cells [.i e.Number, .str e.Kind, vl encS e.Names, vl encI e.Values, .str e.Text]] ?_
  refine sq ?_
  refine sq ?_
  obtain ⟨r1, e_r1, h⟩ := bnd h
  refine Goes.ro fol [(2, (.call [] [.i e.Number, .i 1, .i 1000] (.bool r1)))] [(1, .ptr 0 0), (10, .bool r1)] [.cells [.i e.Number, .str e.Kind, vl encS e.Names, vl encI e.Values, .str e.Text]] [.call 36 [.i e.Number, .i 1, .i 1000] [.cells [.i e.Number, .str e.Kind, vl encS e.Names, vl encI e.Values, .str e.Text]] [] [.i e.Number, .i 1, .i 1000] (.bool r1)] (And.intro (qo (AllST.cons (Still.int 11 _ _) (AllST.cons (Still.int 11 _ _) (AllST.cons (Still.int 11 _ _) AllST.nil))) (kU e.Number 1 1000 e_r1) (Still.bool 11 _)) trivial) ?_
  refine Goes.ifB (b := r1) (by kernel_rfl) (fun c2 => ?_) (fun c2 => ?_)
  · rw [if_pos (c2)] at h
    refine sq ?_
    refine Goes.rg fol [(2, .i 3)] [.cells [.i e.Number, .str e.Kind, vl encS e.Names, vl encI e.Values, .str e.Text]] ?_
    refine Goes.ret ?_
    obtain rfl := Option.some.inj h
    exact (Goes.retW (xs := [.i 3]) (by kernel_rfl) (FzW.still (Still.int 11 _ _)))
  · rw [if_neg (by rw [c2]; exact Bool.false_ne_true)] at h
    refine Goes.skip ?_
    refine sq ?_
    obtain ⟨r3, e_r3, h⟩ := bnd h
    refine Goes.ro fol [(2, (.call [] [.str e.Kind] (.tuple [.i r3.1, .i r3.2.1, .bool r3.2.2])))] [(1, .ptr 0 0), (3, .i r3.1), (4, .i r3.2.1), (5, .bool r3.2.2)] [.cells [.i e.Number, .str e.Kind, vl encS e.Names, vl encI e.Values, .str e.Text]] [.call 90 [.str e.Kind] [.cells [.i e.Number, .str e.Kind, vl encS e.Names, vl encI e.Values, .str e.Text]] [] [.str e.Kind] (.tuple [.i r3.1, .i r3.2.1, .bool r3.2.2])] (And.intro (qo (AllST.cons (Still.str 11 _) AllST.nil) (qdV e.Kind e_r3) (Still.tuple (AllST.cons (Still.int 10 _ _) (AllST.cons (Still.int 10 _ _) (AllST.cons (Still.bool 10 _) AllST.nil))))) trivial) ?_
    refine sq ?_
    refine sq ?_
    refine Goes.rg fol [(1, .ptr 0 0), (3, .i r3.1), (4, .i r3.2.1), (19, .bool (!r3.2.2))] [.cells [.i e.Number, .str e.Kind, vl encS e.Names, vl encI e.Values, .str e.Text]] ?_
    refine Goes.ifB (b := !r3.2.2) (by kernel_rfl) (fun c4 => ?_) (fun c4 => ?_)
    · rw [if_pos (c4)] at h
      refine sq ?_
      refine Goes.rg fol [(2, .i 13)] [.cells [.i e.Number, .str e.Kind, vl encS e.Names, vl encI e.Values, .str e.Text]] ?_
      refine Goes.ret ?_
      obtain rfl := Option.some.inj h
      exact (Goes.retW (xs := [.i 13]) (by kernel_rfl) (FzW.still (Still.int 11 _ _)))
    · rw [if_neg (by rw [c4]; exact Bool.false_ne_true)] at h
      refine Goes.skip ?_
      refine sq ?_
      refine sq ?_
      obtain ⟨b6, g_v7, h⟩ := bnd h
      refine Goes.cut (s' := (ofG 58 [(1, .ptr 0 0), (3, .i r3.1), (4, .i r3.2.1), (31, .bool b6)], [.cells [.i e.Number, .str e.Kind, vl encS e.Names, vl encI e.Values, .str e.Text]])) ?_ ?_
      · rcases Bool.eq_false_or_eq_true (!decide ((e.Names.length : Int) = r3.1)) with c5 | c5
        · rw [if_pos (c5)] at g_v7
          obtain rfl := Option.some.inj g_v7
          exact qp.ro fol [(5, (.done (.bool true)))] [(1, .ptr 0 0), (3, .i r3.1), (4, .i r3.2.1), (31, .bool true)] [.cells [.i e.Number, .str e.Kind, vl encS e.Names, vl encI e.Values, .str e.Text]] [.done (.done (.bool (!decide ((e.Names.length : Int) = r3.1)))) (.bool true)] (And.intro (congrArg (fun x => Pg.done (.bool x)) c5) trivial)
        · rw [if_neg (by rw [c5]; exact Bool.false_ne_true)] at g_v7
          obtain rfl := Option.some.inj g_v7
          exact qp.ro fol [(5, (.done (.bool false)))] [(1, .ptr 0 0), (3, .i r3.1), (4, .i r3.2.1), (31, .bool (!decide ((e.Values.length : Int) = r3.2.1)))] [.cells [.i e.Number, .str e.Kind, vl encS e.Names, vl encI e.Values, .str e.Text]] [.done (.done (.bool (!decide ((e.Names.length : Int) = r3.1)))) (.bool false)] (And.intro (congrArg (fun x => Pg.done (.bool x)) c5) trivial)
      refine Goes.ifB (b := b6) (by kernel_rfl) (fun c8 => ?_) (fun c8 => ?_)
      · rw [if_pos (c8)] at h
        refine sq ?_
        refine Goes.rg fol [(2, .i 2)] [.cells [.i e.Number, .str e.Kind, vl encS e.Names, vl encI e.Values, .str e.Text]] ?_
        refine Goes.ret ?_
        obtain rfl := Option.some.inj h
        exact (Goes.retW (xs := [.i 2]) (by kernel_rfl) (FzW.still (Still.int 11 _ _)))
      · rw [if_neg (by rw [c8]; exact Bool.false_ne_true)] at h
        refine Goes.skip ?_
        refine sq ?_
        refine sq ?_
        refine Goes.rg fol [(1, .ptr 0 0), (3, .i r3.1), (4, .i r3.2.1), (6, .i 0)] [.cells [.i e.Number, .str e.Kind, vl encS e.Names, vl encI e.Values, .str e.Text]] ?_
        refine Goes.block ?_
        obtain ⟨r10, g10, h⟩ := bnd h
        refine Goes.imp (Q := fun x s' => (x = .exit 0 ∧ (.inl ()) = r10 ∧ Sub s' (ofG 58 [(1, .ptr 0 0), (4, .i r3.2.1)], [.cells [.i e.Number, .str e.Kind, vl encS e.Names, vl encI e.Values, .str e.Text]])) ∨ (x = .ret ∧ ∃ q11, (.inr q11) = r10 ∧ zG Tryz.prog [.tmp 2] (.i q11) .ret s')) ?_ ?_
        · refine Goes.loopS (fun M s => ∃ (i_9 : Int), s = (ofG 58 [(1, .ptr 0 0), (3, .i r3.1), (4, .i r3.2.1), (6, .i i_9)], [.cells [.i e.Number, .str e.Kind, vl encS e.Names, vl encI e.Values, .str e.Text]]) ∧ za N e r3 M i_9 = some r10) ?_ (m := N) ⟨_, rfl, g10⟩
          rintro M s ⟨i_9, rfl, g10⟩
          cases M with
          | zero => simp only [za] at g10; cases g10
          | succ M =>
            rw [za] at g10
            refine sq ?_
            refine sq ?_
            refine Goes.rg fol [(1, .ptr 0 0), (3, .i r3.1), (4, .i r3.2.1), (6, .i i_9), (34, .bool (decide (i_9 < r3.1)))] [.cells [.i e.Number, .str e.Kind, vl encS e.Names, vl encI e.Values, .str e.Text]] ?_
            refine Goes.ifB (b := decide (i_9 < r3.1)) (by kernel_rfl) (fun c12 => ?_) (fun c12 => ?_)
            · rw [if_pos (ot c12)] at g10
              refine Goes.skip ?_
              refine sq ?_
              refine Goes.block ?_
              refine sq ?_
              obtain ⟨x13, e_x13, g10⟩ := bnd g10
              obtain ⟨r14, e_r14, g10⟩ := bnd g10
              refine Goes.ro fol [(3, (.done (.fptr (e.Names.flatMap encS.c) ((i_9 : Int).toNat * 1 + 0)))), (4, (.done (.str x13))), (5, (.call [] [.str x13] (.bool r14)))] [(1, .ptr 0 0), (3, .i r3.1), (4, .i r3.2.1), (6, .i i_9), (43, .bool (!r14))] [.cells [.i e.Number, .str e.Kind, vl encS e.Names, vl encI e.Values, .str e.Text]] [.done (.opt (qj Tryz.prog 23 (vl encS e.Names) (.i i_9))) (.fptr (e.Names.flatMap encS.c) ((i_9 : Int).toNat * 1 + 0)), .done (qz Tryz.prog 9 (.fptr (e.Names.flatMap encS.c) ((i_9 : Int).toNat * 1 + 0))) (.str x13), .call 47 [.str x13] [.cells [.i e.Number, .str e.Kind, vl encS e.Names, vl encI e.Values, .str e.Text]] [] [.str x13] (.bool r14)] (And.intro (qF xe (E := encS) rfl e_x13) (And.intro (qJ ce9 (E := encS) rfl e_x13 (Nat.le_of_ble_eq_true rfl) rfl) (And.intro (qo (AllST.cons (Still.str 11 _) AllST.nil) (qau N x13 e_r14) (Still.bool 11 _)) trivial))) ?_
              refine Goes.ifB (b := !r14) (by kernel_rfl) (fun c15 => ?_) (fun c15 => ?_)
              · rw [if_pos (c15)] at g10
                refine sq ?_
                refine Goes.rg fol [(2, .i 8)] [.cells [.i e.Number, .str e.Kind, vl encS e.Names, vl encI e.Values, .str e.Text]] ?_
                refine Goes.ret ?_
                obtain rfl := Option.some.inj g10
                exact Or.inr (⟨rfl, _, rfl, (Goes.retW (xs := [.i 8]) (by kernel_rfl) (FzW.still (Still.int 11 _ _)))⟩)
              · rw [if_neg (by rw [c15]; exact Bool.false_ne_true)] at g10
                refine Goes.skip ?_
                refine Goes.rg fol [(1, .ptr 0 0), (3, .i r3.1), (4, .i r3.2.1), (6, .i (w64 (i_9 + 1)))] [.cells [.i e.Number, .str e.Kind, vl encS e.Names, vl encI e.Values, .str e.Text]] ?_
                exact ⟨M, (ofG 58 [(1, .ptr 0 0), (3, .i r3.1), (4, .i r3.2.1), (6, .i (w64 (i_9 + 1)))], [.cells [.i e.Number, .str e.Kind, vl encS e.Names, vl encI e.Values, .str e.Text]]), Nat.lt_succ_self _, (Sub.refl _), _, rfl, g10⟩
            · rw [if_neg (of_ c12)] at g10
              refine Goes.exit ?_
              obtain rfl := Option.some.inj g10
              exact Or.inl (⟨rfl, rfl, (Sub.keep [1, 4] rfl rfl)⟩)
        rintro x s' (⟨rfl, rfl, hsub⟩ | ⟨rfl, q25, rfl, hret⟩)
        · try dsimp only at h
          refine Goes.sub hsub ?_
          refine sq ?_
          refine sq ?_
          refine Goes.rg fol [(1, .ptr 0 0), (4, .i r3.2.1), (7, .i 0)] [.cells [.i e.Number, .str e.Kind, vl encS e.Names, vl encI e.Values, .str e.Text]] ?_
          refine Goes.block ?_
          obtain ⟨r17, g17, h⟩ := bnd h
          refine Goes.imp (Q := fun x s' => (x = .exit 2 ∧ (.inl ()) = r17 ∧ Sub s' (ofG 58 [(1, .ptr 0 0)], [.cells [.i e.Number, .str e.Kind, vl encS e.Names, vl encI e.Values, .str e.Text]])) ∨ (x = .ret ∧ ∃ q18, (.inr q18) = r17 ∧ zG Tryz.prog [.tmp 2] (.i q18) .ret s')) ?_ ?_
          · refine Goes.loopS (fun M s => ∃ (i_16 : Int), s = (ofG 58 [(1, .ptr 0 0), (4, .i r3.2.1), (7, .i i_16)], [.cells [.i e.Number, .str e.Kind, vl encS e.Names, vl encI e.Values, .str e.Text]]) ∧ zb e r3 M i_16 = some r17) ?_ (m := N) ⟨_, rfl, g17⟩
            rintro M s ⟨i_16, rfl, g17⟩
            cases M with
            | zero => simp only [zb] at g17; cases g17
            | succ M =>
              rw [zb] at g17
              refine sq ?_
              refine sq ?_
              refine Goes.rg fol [(1, .ptr 0 0), (4, .i r3.2.1), (7, .i i_16), (46, .bool (decide (i_16 < r3.2.1)))] [.cells [.i e.Number, .str e.Kind, vl encS e.Names, vl encI e.Values, .str e.Text]] ?_
              refine Goes.ifB (b := decide (i_16 < r3.2.1)) (by kernel_rfl) (fun c19 => ?_) (fun c19 => ?_)
              · rw [if_pos (ot c19)] at g17
                refine Goes.skip ?_
                refine sq ?_
                refine Goes.block ?_
                refine sq ?_
                obtain ⟨x20, e_x20, g17⟩ := bnd g17
                obtain ⟨r21, e_r21, g17⟩ := bnd g17
                refine Goes.ro fol [(3, (.done (.fptr (e.Values.flatMap encI.c) ((i_16 : Int).toNat * 1 + 0)))), (4, (.done (.i x20))), (5, (.call [] [.i x20, .i 0, .i 999999999] (.bool r21)))] [(1, .ptr 0 0), (4, .i r3.2.1), (7, .i i_16), (54, .bool r21)] [.cells [.i e.Number, .str e.Kind, vl encS e.Names, vl encI e.Values, .str e.Text]] [.done (.opt (qj Tryz.prog 24 (vl encI e.Values) (.i i_16))) (.fptr (e.Values.flatMap encI.c) ((i_16 : Int).toNat * 1 + 0)), .done (qz Tryz.prog 3 (.fptr (e.Values.flatMap encI.c) ((i_16 : Int).toNat * 1 + 0))) (.i x20), .call 36 [.i x20, .i 0, .i 999999999] [.cells [.i e.Number, .str e.Kind, vl encS e.Names, vl encI e.Values, .str e.Text]] [] [.i x20, .i 0, .i 999999999] (.bool r21)] (And.intro (qF vN (E := encI) rfl e_x20) (And.intro (qJ ce3 (E := encI) rfl e_x20 (Nat.le_of_ble_eq_true rfl) rfl) (And.intro (qo (AllST.cons (Still.int 11 _ _) (AllST.cons (Still.int 11 _ _) (AllST.cons (Still.int 11 _ _) AllST.nil))) (kU x20 0 999999999 e_r21) (Still.bool 11 _)) trivial))) ?_
                refine Goes.ifB (b := r21) (by kernel_rfl) (fun c22 => ?_) (fun c22 => ?_)
                · rw [if_pos (c22)] at g17
                  refine sq ?_
                  refine Goes.rg fol [(2, .i 3)] [.cells [.i e.Number, .str e.Kind, vl encS e.Names, vl encI e.Values, .str e.Text]] ?_
                  refine Goes.ret ?_
                  obtain rfl := Option.some.inj g17
                  exact Or.inr (⟨rfl, _, rfl, (Goes.retW (xs := [.i 3]) (by kernel_rfl) (FzW.still (Still.int 11 _ _)))⟩)
                · rw [if_neg (by rw [c22]; exact Bool.false_ne_true)] at g17
                  refine Goes.skip ?_
                  refine Goes.rg fol [(1, .ptr 0 0), (4, .i r3.2.1), (7, .i (w64 (i_16 + 1)))] [.cells [.i e.Number, .str e.Kind, vl encS e.Names, vl encI e.Values, .str e.Text]] ?_
                  exact ⟨M, (ofG 58 [(1, .ptr 0 0), (4, .i r3.2.1), (7, .i (w64 (i_16 + 1)))], [.cells [.i e.Number, .str e.Kind, vl encS e.Names, vl encI e.Values, .str e.Text]]), Nat.lt_succ_self _, (Sub.refl _), _, rfl, g17⟩
              · rw [if_neg (of_ c19)] at g17
                refine Goes.exit ?_
                obtain rfl := Option.some.inj g17
                exact Or.inl (⟨rfl, rfl, (Sub.keep [1] rfl rfl)⟩)
          rintro x s' (⟨rfl, rfl, hsub⟩ | ⟨rfl, q24, rfl, hret⟩)
          · try dsimp only at h
            refine Goes.sub hsub ?_
            refine sq ?_
            refine sq ?_
            refine Goes.rg fol [(57, .bool (!(e.Text == [])))] [.cells [.i e.Number, .str e.Kind, vl encS e.Names, vl encI e.Values, .str e.Text]] ?_
            refine Goes.ifB (b := !(e.Text == [])) (by kernel_rfl) (fun c23 => ?_) (fun c23 => ?_)
            · rw [if_pos (c23)] at h
              refine sq ?_
              refine Goes.rg fol [(2, .i 1)] [.cells [.i e.Number, .str e.Kind, vl encS e.Names, vl encI e.Values, .str e.Text]] ?_
              refine Goes.ret ?_
              obtain rfl := Option.some.inj h
              exact (Goes.retW (xs := [.i 1]) (by kernel_rfl) (FzW.still (Still.int 11 _ _)))
            · rw [if_neg (by rw [c23]; exact Bool.false_ne_true)] at h
              refine Goes.skip ?_
              refine sq ?_
              refine Goes.rg fol [(2, .i 0)] [.cells [.i e.Number, .str e.Kind, vl encS e.Names, vl encI e.Values, .str e.Text]] ?_
              refine Goes.ret ?_
              obtain rfl := Option.some.inj h
              exact (Goes.retW (xs := [.i 0]) (by kernel_rfl) (FzW.still (Still.int 11 _ _)))
          · try dsimp only at h
            obtain rfl := Option.some.inj h
            exact hret
        · try dsimp only at h
          obtain rfl := Option.some.inj h
          exact hret
def zx (l2 : List qh) (x4 : Str) : Nat → Int → Int → Option (Int × Int)
  | 0, _, _ => none
  | K + 1, n8, at__9 =>
    (if at__9 < (l2.length : Int) then
    (idx l2 at__9).bind fun x14 =>
    some (ltL x14.Name x4)
    else
    some false : Option Bool).bind fun b15 =>
    if b15 = true then
    zx l2 x4 K n8 (w64 (at__9 + 1))
    else
    some (n8, at__9)
def zh (e : qm) (x1 : Int) : Nat → (List qh) → Int → Option (List qh)
  | 0, _, _ => none
  | K + 1, l23, i_24 =>
    if i_24 < (l23.length : Int) then
    (((idx l23 i_24).bind fun x30 =>
    (idx e.Names 0).bind fun x31 =>
    (if (e.Kind == [116, 101, 115, 116]) = true then
    some (x30.Name == x31)
    else
    some false : Option Bool).bind fun b33 =>
    if b33 = true then
    (idx e.Values 1).bind fun x36 =>
    (put l23 i_24 (⟨x30.Name, x30.Batch, x30.Born, x30.Last, x30.Uses, x30.Used, w64 (x36.tdiv 2), x30.Until, x30.Gone⟩ : qh)).bind fun l37 =>
    (idx l37 i_24).bind fun x38 =>
    (put l37 i_24 (⟨x38.Name, x38.Batch, x38.Born, x38.Last, x38.Uses, x38.Used, x38.Limit, (if x38.Last < (w64 (x1 + 365)) then x38.Last else (w64 (x1 + 365))), x38.Gone⟩ : qh)).bind fun l39 =>
    some l39
    else
    (if (e.Kind == [117, 115, 101]) = true then
    some (x30.Name == x31)
    else
    some false : Option Bool).bind fun b41 =>
    if b41 = true then
    (put l23 i_24 (⟨x30.Name, x30.Batch, x30.Born, x30.Last, x30.Uses, w64 (x30.Used + 1), x30.Limit, x30.Until, x30.Gone⟩ : qh)).bind fun l44 =>
    some l44
    else
    (if (e.Kind == [102, 97, 105, 108]) = true then
    some (x30.Name == x31)
    else
    some false : Option Bool).bind fun b46 =>
    ((if b46 = true then
    some b46
    else
    (if (e.Kind == [114, 101, 99, 97, 108, 108]) = true then
    some (x30.Batch == x31)
    else
    some false : Option Bool).bind fun b52 =>
    some b52 : Option Bool)).bind fun b48 =>
    if b48 = true then
    (put l23 i_24 (⟨x30.Name, x30.Batch, x30.Born, x30.Last, x30.Uses, x30.Used, x30.Limit, x30.Until, true⟩ : qh)).bind fun l55 =>
    some l55
    else
    some l23 : Option (List qh))).bind fun l28 =>
    zh e x1 K l28 (w64 (i_24 + 1))
    else
    some l23
def ze (N : Nat) (r : qC) (e : qm) : Option qC :=
  (idx e.Values 0).bind fun x1 =>
  (app 88 ([] : List qh) r.Slings).bind fun l2 =>
  if (e.Kind == [109, 97, 107, 101]) = true then
  (idx e.Names 0).bind fun x4 =>
  (idx e.Names 1).bind fun x5 =>
  (idx e.Values 1).bind fun x6 =>
  (idx e.Values 2).bind fun x7 =>
  (zx l2 x4 N (w64 (x1 + x6)) 0).bind fun (n10, at__11) =>
  (cut l2 0 at__11).bind fun s18 =>
  (app 88 ([] : List qh) s18).bind fun l19 =>
  (app 88 l19 [(⟨x4, x5, x1, n10, x7, 0, 0, 0, false⟩ : qh)]).bind fun l20 =>
  (cut l2 at__11 (l2.length : Int)).bind fun s21 =>
  (app 88 l20 s21).bind fun l22 =>
  some (⟨x1, l22⟩ : qC)
  else
  (zh e x1 N l2 0).bind fun l25 =>
  some (⟨x1, l25⟩ : qC)
theorem qdh (N : Nat) (r : qC) (e : qm) {res : qC} (h : ze N r e = some res) : qw Tryz.prog (.fn 140) [.agg [.i r.Day, vl qa r.Slings], .agg [.i e.Number, .str e.Kind, vl encS e.Names, vl encI e.Values, .str e.Text]] [] (.agg [.i res.Day, vl qa res.Slings]) [] := by
  unfold ze at h
  refine Goes.fnW Tryz.func140 rfl rfl (m := 162) rfl (rs := [.cell 4 37]) rfl (l := [(0, .agg [.i r.Day, vl qa r.Slings]), (1, .agg [.i e.Number, .str e.Kind, vl encS e.Names, vl encI e.Values, .str e.Text])]) rfl ?_
  refine sq ?_
  refine Goes.rg fol [(2, .ptr 0 0), (3, .ptr 1 0), (4, .ptr 2 0)] [.cells [.i r.Day, vl qa r.Slings], .cells [.i e.Number, .str e.Kind, vl encS e.Names, vl encI e.Values, .str e.Text], .cells [.i 0, .nilslice]] ?_
  refine sq ?_
  obtain ⟨x1, e_x1, h⟩ := bnd h
  refine Goes.ro fol [(2, (.done (.fptr (e.Values.flatMap encI.c) ((0 : Int).toNat * 1 + 0)))), (3, (.done (.i x1)))] [(2, .ptr 0 0), (3, .ptr 1 0), (4, .ptr 2 0), (5, .i x1)] [.cells [.i r.Day, vl qa r.Slings], .cells [.i e.Number, .str e.Kind, vl encS e.Names, vl encI e.Values, .str e.Text], .cells [.i 0, .nilslice]] [.done (.opt (qj Tryz.prog 24 (vl encI e.Values) (.i 0))) (.fptr (e.Values.flatMap encI.c) ((0 : Int).toNat * 1 + 0)), .done (qz Tryz.prog 3 (.fptr (e.Values.flatMap encI.c) ((0 : Int).toNat * 1 + 0))) (.i x1)] (And.intro (qF vN (E := encI) rfl e_x1) (And.intro (qJ ce3 (E := encI) rfl e_x1 (Nat.le_of_ble_eq_true rfl) rfl) trivial)) ?_
  refine sq ?_
  refine Goes.rg fol [(2, .ptr 0 0), (3, .ptr 1 0), (4, .ptr 2 0), (5, .i x1)] [.cells [.i x1, vl qa r.Slings], .cells [.i e.Number, .str e.Kind, vl encS e.Names, vl encI e.Values, .str e.Text], .cells [.i 0, .nilslice]] ?_
  refine sq ?_
  obtain ⟨l2, e_l2, h⟩ := bnd h
  refine Goes.ro fol [(3, (.run (.oslice 4 l2.length 9) [.cells [.i x1, vl qa r.Slings], .cells [.i e.Number, .str e.Kind, vl encS e.Names, vl encI e.Values, .str e.Text], .cells [.i 0, .nilslice], .dead, .cells (l2.flatMap qa.c)] true))] [(2, .ptr 0 0), (3, .ptr 1 0), (4, .ptr 2 0), (5, .i x1), (6, .oslice 4 l2.length 9)] [.cells [.i x1, vl qa r.Slings], .cells [.i e.Number, .str e.Kind, vl encS e.Names, vl encI e.Values, .str e.Text], .cells [.i 0, .nilslice], .dead, .cells (l2.flatMap qa.c)] [.run [3] (kV Tryz.prog [35, 35] (.slice 3 0 0 0 9) (vl qa r.Slings)) [.cells [.i x1, vl qa r.Slings], .cells [.i e.Number, .str e.Kind, vl encS e.Names, vl encI e.Values, .str e.Text], .cells [.i 0, .nilslice], .cells []] (.oslice 4 l2.length 9) [.cells [.i x1, vl qa r.Slings], .cells [.i e.Number, .str e.Kind, vl encS e.Names, vl encI e.Values, .str e.Text], .cells [.i 0, .nilslice], .dead, .cells (l2.flatMap qa.c)] true] (And.intro (jI xW (E := qa) rfl (qcb (E := qa) rfl _) (qdf (E := qa) rfl rfl rfl e_l2 rfl)) trivial) ?_
  refine sq ?_
  refine sq ?_
  refine Goes.rg fol [(2, .ptr 0 0), (3, .ptr 1 0), (4, .ptr 2 0), (5, .i x1), (6, .oslice 4 l2.length 9), (23, .bool (e.Kind == [109, 97, 107, 101]))] [.cells [.i x1, vl qa r.Slings], .cells [.i e.Number, .str e.Kind, vl encS e.Names, vl encI e.Values, .str e.Text], .cells [.i 0, .nilslice], .dead, .cells (l2.flatMap qa.c)] ?_
  refine Goes.ifB (b := e.Kind == [109, 97, 107, 101]) (by kernel_rfl) (fun c3 => ?_) (fun c3 => ?_)
  · rw [if_pos (c3)] at h
    refine sq ?_
    obtain ⟨x4, e_x4, h⟩ := bnd h
    obtain ⟨x5, e_x5, h⟩ := bnd h
    obtain ⟨x6, e_x6, h⟩ := bnd h
    obtain ⟨x7, e_x7, h⟩ := bnd h
    refine Goes.ro fol [(2, (.done (.fptr (e.Names.flatMap encS.c) ((0 : Int).toNat * 1 + 0)))), (3, (.done (.str x4))), (6, (.done (.fptr (e.Names.flatMap encS.c) ((1 : Int).toNat * 1 + 0)))), (7, (.done (.str x5))), (12, (.done (.fptr (e.Values.flatMap encI.c) ((1 : Int).toNat * 1 + 0)))), (13, (.done (.i x6))), (17, (.done (.fptr (e.Values.flatMap encI.c) ((2 : Int).toNat * 1 + 0)))), (18, (.done (.i x7)))] [(2, .ptr 0 0), (4, .ptr 2 0), (6, .oslice 4 l2.length 9), (7, .ptr 5 0)] [.cells [.i x1, vl qa r.Slings], .cells [.i e.Number, .str e.Kind, vl encS e.Names, vl encI e.Values, .str e.Text], .cells [.i 0, .nilslice], .dead, .cells (l2.flatMap qa.c), .cells [.str x4, .str x5, .i x1, .i (w64 (x1 + x6)), .i x7, .i 0, .i 0, .i 0, .bool false]] [.done (.opt (qj Tryz.prog 23 (vl encS e.Names) (.i 0))) (.fptr (e.Names.flatMap encS.c) ((0 : Int).toNat * 1 + 0)), .done (qz Tryz.prog 9 (.fptr (e.Names.flatMap encS.c) ((0 : Int).toNat * 1 + 0))) (.str x4), .done (.opt (qj Tryz.prog 23 (vl encS e.Names) (.i 1))) (.fptr (e.Names.flatMap encS.c) ((1 : Int).toNat * 1 + 0)), .done (qz Tryz.prog 9 (.fptr (e.Names.flatMap encS.c) ((1 : Int).toNat * 1 + 0))) (.str x5), .done (.opt (qj Tryz.prog 24 (vl encI e.Values) (.i 1))) (.fptr (e.Values.flatMap encI.c) ((1 : Int).toNat * 1 + 0)), .done (qz Tryz.prog 3 (.fptr (e.Values.flatMap encI.c) ((1 : Int).toNat * 1 + 0))) (.i x6), .done (.opt (qj Tryz.prog 24 (vl encI e.Values) (.i 2))) (.fptr (e.Values.flatMap encI.c) ((2 : Int).toNat * 1 + 0)), .done (qz Tryz.prog 3 (.fptr (e.Values.flatMap encI.c) ((2 : Int).toNat * 1 + 0))) (.i x7)] (And.intro (qF xe (E := encS) rfl e_x4) (And.intro (qJ ce9 (E := encS) rfl e_x4 (Nat.le_of_ble_eq_true rfl) rfl) (And.intro (qF xe (E := encS) rfl e_x5) (And.intro (qJ ce9 (E := encS) rfl e_x5 (Nat.le_of_ble_eq_true rfl) rfl) (And.intro (qF vN (E := encI) rfl e_x6) (And.intro (qJ ce3 (E := encI) rfl e_x6 (Nat.le_of_ble_eq_true rfl) rfl) (And.intro (qF vN (E := encI) rfl e_x7) (And.intro (qJ ce3 (E := encI) rfl e_x7 (Nat.le_of_ble_eq_true rfl) rfl) trivial)))))))) ?_
    refine sq ?_
    refine Goes.rg fol [(2, .ptr 0 0), (4, .ptr 2 0), (6, .oslice 4 l2.length 9), (7, .ptr 5 0), (8, .i 0)] [.cells [.i x1, vl qa r.Slings], .cells [.i e.Number, .str e.Kind, vl encS e.Names, vl encI e.Values, .str e.Text], .cells [.i 0, .nilslice], .dead, .cells (l2.flatMap qa.c), .cells [.str x4, .str x5, .i x1, .i (w64 (x1 + x6)), .i x7, .i 0, .i 0, .i 0, .bool false]] ?_
    refine sq ?_
    refine Goes.block ?_
    obtain ⟨r12, g12, h⟩ := bnd h
    refine Goes.imp (Q := fun x s' => (x = .exit 0 ∧ ∃ n10 at__11, (n10, at__11) = r12 ∧ Sub s' (ofG 162 [(2, .ptr 0 0), (4, .ptr 1 0), (6, .oslice 2 l2.length 9), (7, .ptr 3 0), (8, .i at__11)], [.cells [.i x1, vl qa r.Slings], .cells [.i 0, .nilslice], .cells (l2.flatMap qa.c), .cells [.str x4, .str x5, .i x1, .i n10, .i x7, .i 0, .i 0, .i 0, .bool false]]))) ?_ ?_
    · refine Goes.sub (s' := (ofG 162 [(2, .ptr 0 0), (4, .ptr 1 0), (6, .oslice 2 l2.length 9), (7, .ptr 3 0), (8, .i 0)], [.cells [.i x1, vl qa r.Slings], .cells [.i 0, .nilslice], .cells (l2.flatMap qa.c), .cells [.str x4, .str x5, .i x1, .i (w64 (x1 + x6)), .i x7, .i 0, .i 0, .i 0, .bool false]])) (Sub.norm [] [some 0, some 2, some 4, some 5] rfl rfl (.keep (.ptr rfl) (.keep (.ptr rfl) (.keep (.oslice rfl) (.keep (.ptr rfl) (.keep (.same (qc.int _ _)) .nil))))) (.keep rfl (.same (qf.cons (qc.int _ _) (qf.cons (ql qa _) qf.nil))) rfl rfl (.keep rfl (.same (qf.cons (qc.int _ _) (qf.cons (qc.nilslice) qf.nil))) rfl rfl (.keep rfl (.same fa) rfl rfl (.keep rfl (.same (qf.cons (qc.str _) (qf.cons (qc.str _) (qf.cons (qc.int _ _) (qf.cons (qc.int _ _) (qf.cons (qc.int _ _) (qf.cons (qc.int _ _) (qf.cons (qc.int _ _) (qf.cons (qc.int _ _) (qf.cons (qc.bool _) qf.nil)))))))))) rfl rfl .nil))))) ?_
      refine Goes.loopS (fun M s => ∃ (n8 : Int) (at__9 : Int), s = (ofG 162 [(2, .ptr 0 0), (4, .ptr 1 0), (6, .oslice 2 l2.length 9), (7, .ptr 3 0), (8, .i at__9)], [.cells [.i x1, vl qa r.Slings], .cells [.i 0, .nilslice], .cells (l2.flatMap qa.c), .cells [.str x4, .str x5, .i x1, .i n8, .i x7, .i 0, .i 0, .i 0, .bool false]]) ∧ zx l2 x4 M n8 at__9 = some r12) ?_ (m := N) ⟨_, _, rfl, g12⟩
      rintro M s ⟨n8, at__9, rfl, g12⟩
      cases M with
      | zero => simp only [zx] at g12; cases g12
      | succ M =>
        rw [zx] at g12
        refine sq ?_
        refine sq ?_
        obtain ⟨b15, g_v16, g12⟩ := bnd g12
        refine Goes.cut (s' := (ofG 162 [(2, .ptr 0 0), (4, .ptr 1 0), (6, .oslice 2 l2.length 9), (7, .ptr 3 0), (8, .i at__9), (57, .bool b15)], [.cells [.i x1, vl qa r.Slings], .cells [.i 0, .nilslice], .cells (l2.flatMap qa.c), .cells [.str x4, .str x5, .i x1, .i n8, .i x7, .i 0, .i 0, .i 0, .bool false]])) ?_ ?_
        · rcases Bool.eq_false_or_eq_true (decide (at__9 < (l2.length : Int))) with c13 | c13
          · rw [if_pos (ot c13)] at g_v16
            obtain ⟨x14, e_x14, g_v16⟩ := bnd g_v16
            obtain rfl := Option.some.inj g_v16
            exact qp.ro fol [(4, (.done (.bool true))), (7, (.done (.ptr 2 ((at__9 : Int).toNat * 9 + 0)))), (9, (.run (.str x14.Name) [.cells [.i x1, vl qa r.Slings], .cells [.i 0, .nilslice], .cells (l2.flatMap qa.c), .cells [.str x4, .str x5, .i x1, .i n8, .i x7, .i 0, .i 0, .i 0, .bool false]] false))] [(2, .ptr 0 0), (4, .ptr 1 0), (6, .oslice 2 l2.length 9), (7, .ptr 3 0), (8, .i at__9), (57, .bool (ltL x14.Name x4))] [.cells [.i x1, vl qa r.Slings], .cells [.i 0, .nilslice], .cells (l2.flatMap qa.c), .cells [.str x4, .str x5, .i x1, .i n8, .i x7, .i 0, .i 0, .i 0, .bool false]] [.done (.done (.bool (decide (at__9 < (l2.length : Int))))) (.bool true), .done (.opt (qj Tryz.prog 35 (.oslice 2 l2.length 9) (.i at__9))) (.ptr 2 ((at__9 : Int).toNat * 9 + 0)), .run [2] (qz Tryz.prog 9 (.ptr 2 ((at__9 : Int).toNat * 9 + 0))) [.cells [.i x1, vl qa r.Slings], .cells [.i 0, .nilslice], .cells (l2.flatMap qa.c), .cells [.str x4, .str x5, .i x1, .i n8, .i x7, .i 0, .i 0, .i 0, .bool false]] (.str x14.Name) [.cells [.i x1, vl qa r.Slings], .cells [.i 0, .nilslice], .cells (l2.flatMap qa.c), .cells [.str x4, .str x5, .i x1, .i n8, .i x7, .i 0, .i 0, .i 0, .bool false]] false] (And.intro (congrArg (fun x => Pg.done (.bool x)) c13) (And.intro (qbn xW e_x14) (And.intro (qeF ce9 (E := qa) (l := l2) rfl rfl e_x14 (Nat.le_of_ble_eq_true rfl) rfl) trivial)))
          · rw [if_neg (of_ c13)] at g_v16
            obtain rfl := Option.some.inj g_v16
            exact qp.ro fol [(4, (.done (.bool false)))] [(2, .ptr 0 0), (4, .ptr 1 0), (6, .oslice 2 l2.length 9), (7, .ptr 3 0), (8, .i at__9), (57, .bool false)] [.cells [.i x1, vl qa r.Slings], .cells [.i 0, .nilslice], .cells (l2.flatMap qa.c), .cells [.str x4, .str x5, .i x1, .i n8, .i x7, .i 0, .i 0, .i 0, .bool false]] [.done (.done (.bool (decide (at__9 < (l2.length : Int))))) (.bool false)] (And.intro (congrArg (fun x => Pg.done (.bool x)) c13) trivial)
        refine Goes.ifB (b := b15) (by kernel_rfl) (fun c17 => ?_) (fun c17 => ?_)
        · rw [if_pos (c17)] at g12
          refine Goes.skip ?_
          refine Goes.block ?_
          refine Goes.rg fol [(2, .ptr 0 0), (4, .ptr 1 0), (6, .oslice 2 l2.length 9), (7, .ptr 3 0), (8, .i (w64 (at__9 + 1)))] [.cells [.i x1, vl qa r.Slings], .cells [.i 0, .nilslice], .cells (l2.flatMap qa.c), .cells [.str x4, .str x5, .i x1, .i n8, .i x7, .i 0, .i 0, .i 0, .bool false]] ?_
          exact ⟨M, (ofG 162 [(2, .ptr 0 0), (4, .ptr 1 0), (6, .oslice 2 l2.length 9), (7, .ptr 3 0), (8, .i (w64 (at__9 + 1)))], [.cells [.i x1, vl qa r.Slings], .cells [.i 0, .nilslice], .cells (l2.flatMap qa.c), .cells [.str x4, .str x5, .i x1, .i n8, .i x7, .i 0, .i 0, .i 0, .bool false]]), Nat.lt_succ_self _, (Sub.refl _), _, _, rfl, g12⟩
        · rw [if_neg (by rw [c17]; exact Bool.false_ne_true)] at g12
          refine Goes.exit ?_
          obtain rfl := Option.some.inj g12
          exact ⟨rfl, _, _, rfl, (Sub.keep [2, 4, 6, 7, 8] rfl rfl)⟩
    rintro x s' ⟨rfl, n10, at__11, rfl, hsub⟩
    try dsimp only at h
    refine Goes.sub hsub ?_
    refine sq ?_
    refine Goes.sub (s' := (ofG 162 [(2, .ptr 0 0), (4, .ptr 1 0), (6, vl qa l2), (7, .ptr 2 0), (8, .i at__11)], [.cells [.i x1, vl qa r.Slings], .cells [.i 0, .nilslice], .cells [.str x4, .str x5, .i x1, .i n10, .i x7, .i 0, .i 0, .i 0, .bool false]])) (Sub.norm [2] [some 0, some 1, some 3] rfl rfl (.keep (.ptr rfl) (.keep (.ptr rfl) (.keep (.frz (Fz.os (E := qa) rfl rfl (Nat.le_of_ble_eq_true rfl)) (ql qa _)) (.keep (.ptr rfl) (.keep (.same (qc.int _ _)) .nil))))) (.keep rfl (.same (qf.cons (qc.int _ _) (qf.cons (ql qa _) qf.nil))) rfl rfl (.keep rfl (.same (qf.cons (qc.int _ _) (qf.cons (qc.nilslice) qf.nil))) rfl rfl (.keep rfl (.same (qf.cons (qc.str _) (qf.cons (qc.str _) (qf.cons (qc.int _ _) (qf.cons (qc.int _ _) (qf.cons (qc.int _ _) (qf.cons (qc.int _ _) (qf.cons (qc.int _ _) (qf.cons (qc.int _ _) (qf.cons (qc.bool _) qf.nil)))))))))) rfl rfl .nil)))) ?_
    obtain ⟨s18, e_s18, h⟩ := bnd h
    obtain ⟨l19, e_l19, h⟩ := bnd h
    obtain ⟨l20, e_l20, h⟩ := bnd h
    obtain ⟨s21, e_s21, h⟩ := bnd h
    obtain ⟨l22, e_l22, h⟩ := bnd h
    refine Goes.ro fol [(3, (.done (vl qa s18))), (4, (.run (.oslice 4 l19.length 9) [.cells [.i x1, vl qa r.Slings], .cells [.i 0, .nilslice], .cells [.str x4, .str x5, .i x1, .i n10, .i x7, .i 0, .i 0, .i 0, .bool false], .dead, .cells (l19.flatMap qa.c)] true)), (7, (.run (.oslice 6 l20.length 9) [.cells [.i x1, vl qa r.Slings], .cells [.i 0, .nilslice], .cells [.str x4, .str x5, .i x1, .i n10, .i x7, .i 0, .i 0, .i 0, .bool false], .dead, .dead, .cells [.str x4, .str x5, .i x1, .i n10, .i x7, .i 0, .i 0, .i 0, .bool false], .cells (l20.flatMap qa.c)] true)), (10, (.done (vl qa s21))), (11, (.run (.oslice 7 l22.length 9) [.cells [.i x1, vl qa r.Slings], .cells [.i 0, .nilslice], .cells [.str x4, .str x5, .i x1, .i n10, .i x7, .i 0, .i 0, .i 0, .bool false], .dead, .dead, .cells [.str x4, .str x5, .i x1, .i n10, .i x7, .i 0, .i 0, .i 0, .bool false], .dead, .cells (l22.flatMap qa.c)] true))] [(2, .ptr 0 0), (4, .ptr 1 0)] [.cells [.i x1, .oslice 7 l22.length 9], .cells [.i 0, .nilslice], .cells [.str x4, .str x5, .i x1, .i n10, .i x7, .i 0, .i 0, .i 0, .bool false], .dead, .dead, .cells [.str x4, .str x5, .i x1, .i n10, .i x7, .i 0, .i 0, .i 0, .bool false], .dead, .cells (l22.flatMap qa.c)] [.done (.opt (zo Tryz.prog 35 (vl qa l2) none (some (.i at__11)) none)) (vl qa s18), .run [3] (kV Tryz.prog [35, 35] (.slice 3 0 0 0 9) (vl qa s18)) [.cells [.i x1, vl qa r.Slings], .cells [.i 0, .nilslice], .cells [.str x4, .str x5, .i x1, .i n10, .i x7, .i 0, .i 0, .i 0, .bool false], .cells []] (.oslice 4 l19.length 9) [.cells [.i x1, vl qa r.Slings], .cells [.i 0, .nilslice], .cells [.str x4, .str x5, .i x1, .i n10, .i x7, .i 0, .i 0, .i 0, .bool false], .dead, .cells (l19.flatMap qa.c)] true, .run [4, 5] (kV Tryz.prog [35, 35] (.oslice 4 l19.length 9) (.slice 5 0 1 1 9)) [.cells [.i x1, vl qa r.Slings], .cells [.i 0, .nilslice], .cells [.str x4, .str x5, .i x1, .i n10, .i x7, .i 0, .i 0, .i 0, .bool false], .dead, .cells (l19.flatMap qa.c), .cells [.str x4, .str x5, .i x1, .i n10, .i x7, .i 0, .i 0, .i 0, .bool false]] (.oslice 6 l20.length 9) [.cells [.i x1, vl qa r.Slings], .cells [.i 0, .nilslice], .cells [.str x4, .str x5, .i x1, .i n10, .i x7, .i 0, .i 0, .i 0, .bool false], .dead, .dead, .cells [.str x4, .str x5, .i x1, .i n10, .i x7, .i 0, .i 0, .i 0, .bool false], .cells (l20.flatMap qa.c)] true, .done (.opt (zo Tryz.prog 35 (vl qa l2) (some (.i at__11)) none none)) (vl qa s21), .run [6] (kV Tryz.prog [35, 35] (.oslice 6 l20.length 9) (vl qa s21)) [.cells [.i x1, vl qa r.Slings], .cells [.i 0, .nilslice], .cells [.str x4, .str x5, .i x1, .i n10, .i x7, .i 0, .i 0, .i 0, .bool false], .dead, .dead, .cells [.str x4, .str x5, .i x1, .i n10, .i x7, .i 0, .i 0, .i 0, .bool false], .cells (l20.flatMap qa.c)] (.oslice 7 l22.length 9) [.cells [.i x1, vl qa r.Slings], .cells [.i 0, .nilslice], .cells [.str x4, .str x5, .i x1, .i n10, .i x7, .i 0, .i 0, .i 0, .bool false], .dead, .dead, .cells [.str x4, .str x5, .i x1, .i n10, .i x7, .i 0, .i 0, .i 0, .bool false], .dead, .cells (l22.flatMap qa.c)] true] (And.intro (qic xW (E := qa) rfl none (some at__11) e_s18) (And.intro (jI xW (E := qa) rfl (qcb (E := qa) rfl _) (qdf (E := qa) rfl rfl rfl e_l19 rfl)) (And.intro (jI xW (E := qa) rfl (qbp (E := qa) (ys := [(⟨x4, x5, x1, n10, x7, 0, 0, 0, false⟩ : qh)]) rfl rfl rfl rfl) (qgq (E := qa) (l := l19) rfl rfl rfl e_l20 rfl)) (And.intro (qic xW (E := qa) rfl (some at__11) none e_s21) (And.intro (jI xW (E := qa) rfl (qcb (E := qa) rfl _) (qgq (E := qa) (l := l20) rfl rfl rfl e_l22 rfl)) trivial))))) ?_
    refine sq ?_
    refine Goes.rg fol [(4, .ptr 1 0)] [.cells [.i x1, .oslice 7 l22.length 9], .cells [.i x1, .oslice 7 l22.length 9], .cells [.str x4, .str x5, .i x1, .i n10, .i x7, .i 0, .i 0, .i 0, .bool false], .dead, .dead, .cells [.str x4, .str x5, .i x1, .i n10, .i x7, .i 0, .i 0, .i 0, .bool false], .dead, .cells (l22.flatMap qa.c)] ?_
    refine Goes.ret ?_
    obtain rfl := Option.some.inj h
    exact (Goes.retW (xs := [.agg [.i x1, .oslice 7 l22.length 9]]) (by kernel_rfl) (FzW.agg (qN.cons (FzW.still (Still.int 10 _ _)) (qN.cons (FzW.fz (Fz.os (E := qa) rfl rfl (Nat.le_of_ble_eq_true rfl))) qN.nil))))
  · rw [if_neg (by rw [c3]; exact Bool.false_ne_true)] at h
    refine Goes.skip ?_
    refine sq ?_
    refine sq ?_
    refine Goes.rg fol [(2, .ptr 0 0), (3, .ptr 1 0), (4, .ptr 2 0), (5, .i x1), (6, .oslice 4 l2.length 9), (9, .i 0)] [.cells [.i x1, vl qa r.Slings], .cells [.i e.Number, .str e.Kind, vl encS e.Names, vl encI e.Values, .str e.Text], .cells [.i 0, .nilslice], .dead, .cells (l2.flatMap qa.c)] ?_
    refine Goes.block ?_
    obtain ⟨r26, g26, h⟩ := bnd h
    refine Goes.imp (Q := fun x s' => (x = .exit 2 ∧ ∃ l25, l25 = r26 ∧ Sub s' (ofG 162 [(2, .ptr 0 0), (4, .ptr 1 0), (6, .oslice 2 l25.length 9)], [.cells [.i x1, vl qa r.Slings], .cells [.i 0, .nilslice], .cells (l25.flatMap qa.c)]))) ?_ ?_
    · refine Goes.sub (s' := (ofG 162 [(2, .ptr 0 0), (3, .ptr 1 0), (4, .ptr 2 0), (5, .i x1), (6, .oslice 3 l2.length 9), (9, .i 0)], [.cells [.i x1, vl qa r.Slings], .cells [.i e.Number, .str e.Kind, vl encS e.Names, vl encI e.Values, .str e.Text], .cells [.i 0, .nilslice], .cells (l2.flatMap qa.c)])) (Sub.norm [] [some 0, some 1, some 2, some 4] rfl rfl (.keep (.ptr rfl) (.keep (.ptr rfl) (.keep (.ptr rfl) (.keep (.same (qc.int _ _)) (.keep (.oslice rfl) (.keep (.same (qc.int _ _)) .nil)))))) (.keep rfl (.same (qf.cons (qc.int _ _) (qf.cons (ql qa _) qf.nil))) rfl rfl (.keep rfl (.same (qf.cons (qc.int _ _) (qf.cons (qc.str _) (qf.cons (ql encS _) (qf.cons (ql encI _) (qf.cons (qc.str _) qf.nil)))))) rfl rfl (.keep rfl (.same (qf.cons (qc.int _ _) (qf.cons (qc.nilslice) qf.nil))) rfl rfl (.keep rfl (.same fa) rfl rfl .nil))))) ?_
      refine Goes.loopS (fun M s => ∃ (l23 : List qh) (i_24 : Int), s = (ofG 162 [(2, .ptr 0 0), (3, .ptr 1 0), (4, .ptr 2 0), (5, .i x1), (6, .oslice 3 l23.length 9), (9, .i i_24)], [.cells [.i x1, vl qa r.Slings], .cells [.i e.Number, .str e.Kind, vl encS e.Names, vl encI e.Values, .str e.Text], .cells [.i 0, .nilslice], .cells (l23.flatMap qa.c)]) ∧ zh e x1 M l23 i_24 = some r26) ?_ (m := N) ⟨_, _, rfl, g26⟩
      rintro M s ⟨l23, i_24, rfl, g26⟩
      cases M with
      | zero => simp only [zh] at g26; cases g26
      | succ M =>
        rw [zh] at g26
        refine sq ?_
        refine sq ?_
        refine Goes.rg fol [(2, .ptr 0 0), (3, .ptr 1 0), (4, .ptr 2 0), (5, .i x1), (6, .oslice 3 l23.length 9), (9, .i i_24), (77, .bool (decide (i_24 < (l23.length : Int))))] [.cells [.i x1, vl qa r.Slings], .cells [.i e.Number, .str e.Kind, vl encS e.Names, vl encI e.Values, .str e.Text], .cells [.i 0, .nilslice], .cells (l23.flatMap qa.c)] ?_
        refine Goes.ifB (b := decide (i_24 < (l23.length : Int))) (by kernel_rfl) (fun c27 => ?_) (fun c27 => ?_)
        · rw [if_pos (ot c27)] at g26
          refine Goes.skip ?_
          refine sq ?_
          obtain ⟨r29, g29, g26⟩ := bnd g26
          refine Goes.imp (Q := fun x s' => (x = .normal ∧ ∃ l28, l28 = r29 ∧ Sub s' (ofG 162 [(2, .ptr 0 0), (3, .ptr 1 0), (4, .ptr 2 0), (5, .i x1), (6, .oslice 3 l28.length 9), (9, .i i_24)], [.cells [.i x1, vl qa r.Slings], .cells [.i e.Number, .str e.Kind, vl encS e.Names, vl encI e.Values, .str e.Text], .cells [.i 0, .nilslice], .cells (l28.flatMap qa.c)]))) ?_ ?_
          · refine Goes.block ?_
            refine sq ?_
            obtain ⟨x30, e_x30, g29⟩ := bnd g29
            obtain ⟨x31, e_x31, g29⟩ := bnd g29
            refine Goes.ro fol [(2, (.done (.ptr 3 ((i_24 : Int).toNat * 9 + 0)))), (4, (.run (.str x30.Name) [.cells [.i x1, vl qa r.Slings], .cells [.i e.Number, .str e.Kind, vl encS e.Names, vl encI e.Values, .str e.Text], .cells [.i 0, .nilslice], .cells (l23.flatMap qa.c)] false)), (7, (.done (.fptr (e.Names.flatMap encS.c) ((0 : Int).toNat * 1 + 0)))), (8, (.done (.str x31)))] [(2, .ptr 0 0), (3, .ptr 1 0), (4, .ptr 2 0), (5, .i x1), (6, .oslice 3 l23.length 9), (9, .i i_24), (10, .bool (x30.Name == x31))] [.cells [.i x1, vl qa r.Slings], .cells [.i e.Number, .str e.Kind, vl encS e.Names, vl encI e.Values, .str e.Text], .cells [.i 0, .nilslice], .cells (l23.flatMap qa.c)] [.done (.opt (qj Tryz.prog 35 (.oslice 3 l23.length 9) (.i i_24))) (.ptr 3 ((i_24 : Int).toNat * 9 + 0)), .run [3] (qz Tryz.prog 9 (.ptr 3 ((i_24 : Int).toNat * 9 + 0))) [.cells [.i x1, vl qa r.Slings], .cells [.i e.Number, .str e.Kind, vl encS e.Names, vl encI e.Values, .str e.Text], .cells [.i 0, .nilslice], .cells (l23.flatMap qa.c)] (.str x30.Name) [.cells [.i x1, vl qa r.Slings], .cells [.i e.Number, .str e.Kind, vl encS e.Names, vl encI e.Values, .str e.Text], .cells [.i 0, .nilslice], .cells (l23.flatMap qa.c)] false, .done (.opt (qj Tryz.prog 23 (vl encS e.Names) (.i 0))) (.fptr (e.Names.flatMap encS.c) ((0 : Int).toNat * 1 + 0)), .done (qz Tryz.prog 9 (.fptr (e.Names.flatMap encS.c) ((0 : Int).toNat * 1 + 0))) (.str x31)] (And.intro (qbn xW e_x30) (And.intro (qeF ce9 (E := qa) (l := l23) rfl rfl e_x30 (Nat.le_of_ble_eq_true rfl) rfl) (And.intro (qF xe (E := encS) rfl e_x31) (And.intro (qJ ce9 (E := encS) rfl e_x31 (Nat.le_of_ble_eq_true rfl) rfl) trivial)))) ?_
            refine Goes.block ?_
            refine sq ?_
            obtain ⟨b33, g_v34, g29⟩ := bnd g29
            refine Goes.cut (s' := (ofG 162 [(2, .ptr 0 0), (3, .ptr 1 0), (4, .ptr 2 0), (5, .i x1), (6, .oslice 3 l23.length 9), (9, .i i_24), (10, .bool (x30.Name == x31)), (90, .bool b33)], [.cells [.i x1, vl qa r.Slings], .cells [.i e.Number, .str e.Kind, vl encS e.Names, vl encI e.Values, .str e.Text], .cells [.i 0, .nilslice], .cells (l23.flatMap qa.c)])) ?_ ?_
            · rcases Bool.eq_false_or_eq_true (e.Kind == [116, 101, 115, 116]) with c32 | c32
              · rw [if_pos (c32)] at g_v34
                obtain rfl := Option.some.inj g_v34
                exact qp.ro fol [(3, (.done (.bool true)))] [(2, .ptr 0 0), (3, .ptr 1 0), (4, .ptr 2 0), (5, .i x1), (6, .oslice 3 l23.length 9), (9, .i i_24), (10, .bool (x30.Name == x31)), (90, .bool (x30.Name == x31))] [.cells [.i x1, vl qa r.Slings], .cells [.i e.Number, .str e.Kind, vl encS e.Names, vl encI e.Values, .str e.Text], .cells [.i 0, .nilslice], .cells (l23.flatMap qa.c)] [.done (.done (.bool (e.Kind == [116, 101, 115, 116]))) (.bool true)] (And.intro (congrArg (fun x => Pg.done (.bool x)) c32) trivial)
              · rw [if_neg (by rw [c32]; exact Bool.false_ne_true)] at g_v34
                obtain rfl := Option.some.inj g_v34
                exact qp.ro fol [(3, (.done (.bool false)))] [(2, .ptr 0 0), (3, .ptr 1 0), (4, .ptr 2 0), (5, .i x1), (6, .oslice 3 l23.length 9), (9, .i i_24), (10, .bool (x30.Name == x31)), (90, .bool false)] [.cells [.i x1, vl qa r.Slings], .cells [.i e.Number, .str e.Kind, vl encS e.Names, vl encI e.Values, .str e.Text], .cells [.i 0, .nilslice], .cells (l23.flatMap qa.c)] [.done (.done (.bool (e.Kind == [116, 101, 115, 116]))) (.bool false)] (And.intro (congrArg (fun x => Pg.done (.bool x)) c32) trivial)
            refine Goes.ifB (b := b33) (by kernel_rfl) (fun c35 => ?_) (fun c35 => ?_)
            · rw [if_pos (c35)] at g29
              refine sq ?_
              obtain ⟨x36, e_x36, g29⟩ := bnd g29
              obtain ⟨l37, e_l37, g29⟩ := bnd g29
              refine Goes.ro fol [(4, (.done (.fptr (e.Values.flatMap encI.c) ((1 : Int).toNat * 1 + 0)))), (5, (.done (.i x36))), (7, (.done (.ptr 3 ((i_24 : Int).toNat * 9 + 0)))), (9, (.run .undef [.cells [.i x1, vl qa r.Slings], .cells [.i e.Number, .str e.Kind, vl encS e.Names, vl encI e.Values, .str e.Text], .cells [.i 0, .nilslice], .cells (l37.flatMap qa.c)] true))] [(2, .ptr 0 0), (3, .ptr 1 0), (4, .ptr 2 0), (5, .i x1), (6, .oslice 3 l23.length 9), (9, .i i_24)] [.cells [.i x1, vl qa r.Slings], .cells [.i e.Number, .str e.Kind, vl encS e.Names, vl encI e.Values, .str e.Text], .cells [.i 0, .nilslice], .cells (l37.flatMap qa.c)] [.done (.opt (qj Tryz.prog 24 (vl encI e.Values) (.i 1))) (.fptr (e.Values.flatMap encI.c) ((1 : Int).toNat * 1 + 0)), .done (qz Tryz.prog 3 (.fptr (e.Values.flatMap encI.c) ((1 : Int).toNat * 1 + 0))) (.i x36), .done (.opt (qj Tryz.prog 35 (.oslice 3 l23.length 9) (.i i_24))) (.ptr 3 ((i_24 : Int).toNat * 9 + 0)), .run [3] (yh Tryz.prog 3 (.ptr 3 ((i_24 : Int).toNat * 9 + 6)) (.i (w64 (x36.tdiv 2)))) [.cells [.i x1, vl qa r.Slings], .cells [.i e.Number, .str e.Kind, vl encS e.Names, vl encI e.Values, .str e.Text], .cells [.i 0, .nilslice], .cells (l23.flatMap qa.c)] .undef [.cells [.i x1, vl qa r.Slings], .cells [.i e.Number, .str e.Kind, vl encS e.Names, vl encI e.Values, .str e.Text], .cells [.i 0, .nilslice], .cells (l37.flatMap qa.c)] true] (And.intro (qF vN (E := encI) rfl e_x36) (And.intro (qJ ce3 (E := encI) rfl e_x36 (Nat.le_of_ble_eq_true rfl) rfl) (And.intro (qbn xW e_x30) (And.intro (qbN (E := qa) (l := l23) (y := (⟨x30.Name, x30.Batch, x30.Born, x30.Last, x30.Uses, x30.Used, w64 (x36.tdiv 2), x30.Until, x30.Gone⟩ : qh)) rfl (show _ = some 1 by kernel_rfl) rfl e_x30 rfl rfl rfl rfl rfl e_l37 rfl) trivial)))) ?_
              refine Goes.sub (show Sub (ofG 162 [(2, .ptr 0 0), (3, .ptr 1 0), (4, .ptr 2 0), (5, .i x1), (6, .oslice 3 l23.length 9), (9, .i i_24)], [.cells [.i x1, vl qa r.Slings], .cells [.i e.Number, .str e.Kind, vl encS e.Names, vl encI e.Values, .str e.Text], .cells [.i 0, .nilslice], .cells (l37.flatMap qa.c)]) (ofG 162 [(2, .ptr 0 0), (3, .ptr 1 0), (4, .ptr 2 0), (5, .i x1), (6, .oslice 3 l37.length 9), (9, .i i_24)], [.cells [.i x1, vl qa r.Slings], .cells [.i e.Number, .str e.Kind, vl encS e.Names, vl encI e.Values, .str e.Text], .cells [.i 0, .nilslice], .cells (l37.flatMap qa.c)]) from (Sub.norm [] [some 0, some 1, some 2, some 3] rfl rfl (.keep (.ptr rfl) (.keep (.ptr rfl) (.keep (.ptr rfl) (.keep (.same (qc.int _ _)) (.keep (.osliceE rfl (yY e_l37)) (.keep (.same (qc.int _ _)) .nil)))))) (.keep rfl (.same (qf.cons (qc.int _ _) (qf.cons (ql qa _) qf.nil))) rfl rfl (.keep rfl (.same (qf.cons (qc.int _ _) (qf.cons (qc.str _) (qf.cons (ql encS _) (qf.cons (ql encI _) (qf.cons (qc.str _) qf.nil)))))) rfl rfl (.keep rfl (.same (qf.cons (qc.int _ _) (qf.cons (qc.nilslice) qf.nil))) rfl rfl (.keep rfl (.same fa) rfl rfl .nil)))))) ?_
              obtain ⟨x38, e_x38, g29⟩ := bnd g29
              obtain ⟨l39, e_l39, g29⟩ := bnd g29
              refine Goes.ro fol [(6, (.done (.ptr 3 ((i_24 : Int).toNat * 9 + 0)))), (8, (.run (.i x38.Last) [.cells [.i x1, vl qa r.Slings], .cells [.i e.Number, .str e.Kind, vl encS e.Names, vl encI e.Values, .str e.Text], .cells [.i 0, .nilslice], .cells (l37.flatMap qa.c)] false)), (10, (.done (.ptr 3 ((i_24 : Int).toNat * 9 + 0)))), (12, (.run .undef [.cells [.i x1, vl qa r.Slings], .cells [.i e.Number, .str e.Kind, vl encS e.Names, vl encI e.Values, .str e.Text], .cells [.i 0, .nilslice], .cells (l39.flatMap qa.c)] true))] [(2, .ptr 0 0), (3, .ptr 1 0), (4, .ptr 2 0), (5, .i x1), (6, .oslice 3 l37.length 9), (9, .i i_24)] [.cells [.i x1, vl qa r.Slings], .cells [.i e.Number, .str e.Kind, vl encS e.Names, vl encI e.Values, .str e.Text], .cells [.i 0, .nilslice], .cells (l39.flatMap qa.c)] [.done (.opt (qj Tryz.prog 35 (.oslice 3 l37.length 9) (.i i_24))) (.ptr 3 ((i_24 : Int).toNat * 9 + 0)), .run [3] (qz Tryz.prog 3 (.ptr 3 ((i_24 : Int).toNat * 9 + 3))) [.cells [.i x1, vl qa r.Slings], .cells [.i e.Number, .str e.Kind, vl encS e.Names, vl encI e.Values, .str e.Text], .cells [.i 0, .nilslice], .cells (l37.flatMap qa.c)] (.i x38.Last) [.cells [.i x1, vl qa r.Slings], .cells [.i e.Number, .str e.Kind, vl encS e.Names, vl encI e.Values, .str e.Text], .cells [.i 0, .nilslice], .cells (l37.flatMap qa.c)] false, .done (.opt (qj Tryz.prog 35 (.oslice 3 l37.length 9) (.i i_24))) (.ptr 3 ((i_24 : Int).toNat * 9 + 0)), .run [3] (yh Tryz.prog 3 (.ptr 3 ((i_24 : Int).toNat * 9 + 7)) (.i (if x38.Last < (w64 (x1 + 365)) then x38.Last else (w64 (x1 + 365))))) [.cells [.i x1, vl qa r.Slings], .cells [.i e.Number, .str e.Kind, vl encS e.Names, vl encI e.Values, .str e.Text], .cells [.i 0, .nilslice], .cells (l37.flatMap qa.c)] .undef [.cells [.i x1, vl qa r.Slings], .cells [.i e.Number, .str e.Kind, vl encS e.Names, vl encI e.Values, .str e.Text], .cells [.i 0, .nilslice], .cells (l39.flatMap qa.c)] true] (And.intro (qbn xW e_x38) (And.intro (qeF ce3 (E := qa) (l := l37) rfl rfl e_x38 (Nat.le_of_ble_eq_true rfl) rfl) (And.intro (qbn xW e_x38) (And.intro (qbN (E := qa) (l := l37) (y := (⟨x38.Name, x38.Batch, x38.Born, x38.Last, x38.Uses, x38.Used, x38.Limit, (if x38.Last < (w64 (x1 + 365)) then x38.Last else (w64 (x1 + 365))), x38.Gone⟩ : qh)) rfl (show _ = some 1 by kernel_rfl) rfl e_x38 rfl rfl rfl rfl rfl e_l39 rfl) trivial)))) ?_
              obtain rfl := Option.some.inj g29
              exact ⟨rfl, _, rfl, ((show Sub (ofG 162 [(2, .ptr 0 0), (3, .ptr 1 0), (4, .ptr 2 0), (5, .i x1), (6, .oslice 3 l37.length 9), (9, .i i_24)], [.cells [.i x1, vl qa r.Slings], .cells [.i e.Number, .str e.Kind, vl encS e.Names, vl encI e.Values, .str e.Text], .cells [.i 0, .nilslice], .cells (l39.flatMap qa.c)]) (ofG 162 [(2, .ptr 0 0), (3, .ptr 1 0), (4, .ptr 2 0), (5, .i x1), (6, .oslice 3 l39.length 9), (9, .i i_24)], [.cells [.i x1, vl qa r.Slings], .cells [.i e.Number, .str e.Kind, vl encS e.Names, vl encI e.Values, .str e.Text], .cells [.i 0, .nilslice], .cells (l39.flatMap qa.c)]) from (Sub.norm [] [some 0, some 1, some 2, some 3] rfl rfl (.keep (.ptr rfl) (.keep (.ptr rfl) (.keep (.ptr rfl) (.keep (.same (qc.int _ _)) (.keep (.osliceE rfl (yY e_l39)) (.keep (.same (qc.int _ _)) .nil)))))) (.keep rfl (.same (qf.cons (qc.int _ _) (qf.cons (ql qa _) qf.nil))) rfl rfl (.keep rfl (.same (qf.cons (qc.int _ _) (qf.cons (qc.str _) (qf.cons (ql encS _) (qf.cons (ql encI _) (qf.cons (qc.str _) qf.nil)))))) rfl rfl (.keep rfl (.same (qf.cons (qc.int _ _) (qf.cons (qc.nilslice) qf.nil))) rfl rfl (.keep rfl (.same fa) rfl rfl .nil)))))).trans (Sub.refl _))⟩
            · rw [if_neg (by rw [c35]; exact Bool.false_ne_true)] at g29
              refine sq ?_
              obtain ⟨b41, g_v42, g29⟩ := bnd g29
              refine Goes.cut (s' := (ofG 162 [(2, .ptr 0 0), (3, .ptr 1 0), (4, .ptr 2 0), (5, .i x1), (6, .oslice 3 l23.length 9), (9, .i i_24), (10, .bool (x30.Name == x31)), (118, .bool b41)], [.cells [.i x1, vl qa r.Slings], .cells [.i e.Number, .str e.Kind, vl encS e.Names, vl encI e.Values, .str e.Text], .cells [.i 0, .nilslice], .cells (l23.flatMap qa.c)])) ?_ ?_
              · rcases Bool.eq_false_or_eq_true (e.Kind == [117, 115, 101]) with c40 | c40
                · rw [if_pos (c40)] at g_v42
                  obtain rfl := Option.some.inj g_v42
                  exact qp.ro fol [(3, (.done (.bool true)))] [(2, .ptr 0 0), (3, .ptr 1 0), (4, .ptr 2 0), (5, .i x1), (6, .oslice 3 l23.length 9), (9, .i i_24), (10, .bool (x30.Name == x31)), (118, .bool (x30.Name == x31))] [.cells [.i x1, vl qa r.Slings], .cells [.i e.Number, .str e.Kind, vl encS e.Names, vl encI e.Values, .str e.Text], .cells [.i 0, .nilslice], .cells (l23.flatMap qa.c)] [.done (.done (.bool (e.Kind == [117, 115, 101]))) (.bool true)] (And.intro (congrArg (fun x => Pg.done (.bool x)) c40) trivial)
                · rw [if_neg (by rw [c40]; exact Bool.false_ne_true)] at g_v42
                  obtain rfl := Option.some.inj g_v42
                  exact qp.ro fol [(3, (.done (.bool false)))] [(2, .ptr 0 0), (3, .ptr 1 0), (4, .ptr 2 0), (5, .i x1), (6, .oslice 3 l23.length 9), (9, .i i_24), (10, .bool (x30.Name == x31)), (118, .bool false)] [.cells [.i x1, vl qa r.Slings], .cells [.i e.Number, .str e.Kind, vl encS e.Names, vl encI e.Values, .str e.Text], .cells [.i 0, .nilslice], .cells (l23.flatMap qa.c)] [.done (.done (.bool (e.Kind == [117, 115, 101]))) (.bool false)] (And.intro (congrArg (fun x => Pg.done (.bool x)) c40) trivial)
              refine Goes.ifB (b := b41) (by kernel_rfl) (fun c43 => ?_) (fun c43 => ?_)
              · rw [if_pos (c43)] at g29
                obtain ⟨l44, e_l44, g29⟩ := bnd g29
                refine Goes.ro fol [(2, (.done (.ptr 3 ((i_24 : Int).toNat * 9 + 0)))), (4, (.run (.i x30.Used) [.cells [.i x1, vl qa r.Slings], .cells [.i e.Number, .str e.Kind, vl encS e.Names, vl encI e.Values, .str e.Text], .cells [.i 0, .nilslice], .cells (l23.flatMap qa.c)] false)), (6, (.done (.ptr 3 ((i_24 : Int).toNat * 9 + 0)))), (8, (.run .undef [.cells [.i x1, vl qa r.Slings], .cells [.i e.Number, .str e.Kind, vl encS e.Names, vl encI e.Values, .str e.Text], .cells [.i 0, .nilslice], .cells (l44.flatMap qa.c)] true))] [(2, .ptr 0 0), (3, .ptr 1 0), (4, .ptr 2 0), (5, .i x1), (6, .oslice 3 l23.length 9), (9, .i i_24)] [.cells [.i x1, vl qa r.Slings], .cells [.i e.Number, .str e.Kind, vl encS e.Names, vl encI e.Values, .str e.Text], .cells [.i 0, .nilslice], .cells (l44.flatMap qa.c)] [.done (.opt (qj Tryz.prog 35 (.oslice 3 l23.length 9) (.i i_24))) (.ptr 3 ((i_24 : Int).toNat * 9 + 0)), .run [3] (qz Tryz.prog 3 (.ptr 3 ((i_24 : Int).toNat * 9 + 5))) [.cells [.i x1, vl qa r.Slings], .cells [.i e.Number, .str e.Kind, vl encS e.Names, vl encI e.Values, .str e.Text], .cells [.i 0, .nilslice], .cells (l23.flatMap qa.c)] (.i x30.Used) [.cells [.i x1, vl qa r.Slings], .cells [.i e.Number, .str e.Kind, vl encS e.Names, vl encI e.Values, .str e.Text], .cells [.i 0, .nilslice], .cells (l23.flatMap qa.c)] false, .done (.opt (qj Tryz.prog 35 (.oslice 3 l23.length 9) (.i i_24))) (.ptr 3 ((i_24 : Int).toNat * 9 + 0)), .run [3] (yh Tryz.prog 3 (.ptr 3 ((i_24 : Int).toNat * 9 + 5)) (.i (w64 (x30.Used + 1)))) [.cells [.i x1, vl qa r.Slings], .cells [.i e.Number, .str e.Kind, vl encS e.Names, vl encI e.Values, .str e.Text], .cells [.i 0, .nilslice], .cells (l23.flatMap qa.c)] .undef [.cells [.i x1, vl qa r.Slings], .cells [.i e.Number, .str e.Kind, vl encS e.Names, vl encI e.Values, .str e.Text], .cells [.i 0, .nilslice], .cells (l44.flatMap qa.c)] true] (And.intro (qbn xW e_x30) (And.intro (qeF ce3 (E := qa) (l := l23) rfl rfl e_x30 (Nat.le_of_ble_eq_true rfl) rfl) (And.intro (qbn xW e_x30) (And.intro (qbN (E := qa) (l := l23) (y := (⟨x30.Name, x30.Batch, x30.Born, x30.Last, x30.Uses, w64 (x30.Used + 1), x30.Limit, x30.Until, x30.Gone⟩ : qh)) rfl (show _ = some 1 by kernel_rfl) rfl e_x30 rfl rfl rfl rfl rfl e_l44 rfl) trivial)))) ?_
                obtain rfl := Option.some.inj g29
                exact ⟨rfl, _, rfl, ((show Sub (ofG 162 [(2, .ptr 0 0), (3, .ptr 1 0), (4, .ptr 2 0), (5, .i x1), (6, .oslice 3 l23.length 9), (9, .i i_24)], [.cells [.i x1, vl qa r.Slings], .cells [.i e.Number, .str e.Kind, vl encS e.Names, vl encI e.Values, .str e.Text], .cells [.i 0, .nilslice], .cells (l44.flatMap qa.c)]) (ofG 162 [(2, .ptr 0 0), (3, .ptr 1 0), (4, .ptr 2 0), (5, .i x1), (6, .oslice 3 l44.length 9), (9, .i i_24)], [.cells [.i x1, vl qa r.Slings], .cells [.i e.Number, .str e.Kind, vl encS e.Names, vl encI e.Values, .str e.Text], .cells [.i 0, .nilslice], .cells (l44.flatMap qa.c)]) from (Sub.norm [] [some 0, some 1, some 2, some 3] rfl rfl (.keep (.ptr rfl) (.keep (.ptr rfl) (.keep (.ptr rfl) (.keep (.same (qc.int _ _)) (.keep (.osliceE rfl (yY e_l44)) (.keep (.same (qc.int _ _)) .nil)))))) (.keep rfl (.same (qf.cons (qc.int _ _) (qf.cons (ql qa _) qf.nil))) rfl rfl (.keep rfl (.same (qf.cons (qc.int _ _) (qf.cons (qc.str _) (qf.cons (ql encS _) (qf.cons (ql encI _) (qf.cons (qc.str _) qf.nil)))))) rfl rfl (.keep rfl (.same (qf.cons (qc.int _ _) (qf.cons (qc.nilslice) qf.nil))) rfl rfl (.keep rfl (.same fa) rfl rfl .nil)))))).trans (Sub.refl _))⟩
              · rw [if_neg (by rw [c43]; exact Bool.false_ne_true)] at g29
                refine sq ?_
                refine sq ?_
                obtain ⟨b46, g_v47, g29⟩ := bnd g29
                refine Goes.cut (s' := (ofG 162 [(2, .ptr 0 0), (3, .ptr 1 0), (4, .ptr 2 0), (5, .i x1), (6, .oslice 3 l23.length 9), (9, .i i_24), (133, .bool b46)], [.cells [.i x1, vl qa r.Slings], .cells [.i e.Number, .str e.Kind, vl encS e.Names, vl encI e.Values, .str e.Text], .cells [.i 0, .nilslice], .cells (l23.flatMap qa.c)])) ?_ ?_
                · rcases Bool.eq_false_or_eq_true (e.Kind == [102, 97, 105, 108]) with c45 | c45
                  · rw [if_pos (c45)] at g_v47
                    obtain rfl := Option.some.inj g_v47
                    exact qp.ro fol [(3, (.done (.bool true)))] [(2, .ptr 0 0), (3, .ptr 1 0), (4, .ptr 2 0), (5, .i x1), (6, .oslice 3 l23.length 9), (9, .i i_24), (133, .bool (x30.Name == x31))] [.cells [.i x1, vl qa r.Slings], .cells [.i e.Number, .str e.Kind, vl encS e.Names, vl encI e.Values, .str e.Text], .cells [.i 0, .nilslice], .cells (l23.flatMap qa.c)] [.done (.done (.bool (e.Kind == [102, 97, 105, 108]))) (.bool true)] (And.intro (congrArg (fun x => Pg.done (.bool x)) c45) trivial)
                  · rw [if_neg (by rw [c45]; exact Bool.false_ne_true)] at g_v47
                    obtain rfl := Option.some.inj g_v47
                    exact qp.ro fol [(3, (.done (.bool false)))] [(2, .ptr 0 0), (3, .ptr 1 0), (4, .ptr 2 0), (5, .i x1), (6, .oslice 3 l23.length 9), (9, .i i_24), (133, .bool false)] [.cells [.i x1, vl qa r.Slings], .cells [.i e.Number, .str e.Kind, vl encS e.Names, vl encI e.Values, .str e.Text], .cells [.i 0, .nilslice], .cells (l23.flatMap qa.c)] [.done (.done (.bool (e.Kind == [102, 97, 105, 108]))) (.bool false)] (And.intro (congrArg (fun x => Pg.done (.bool x)) c45) trivial)
                obtain ⟨r49, g49, g29⟩ := bnd g29
                refine Goes.imp (Q := fun x s' => (x = .normal ∧ ∃ b48, b48 = r49 ∧ Sub s' (ofG 162 [(2, .ptr 0 0), (3, .ptr 1 0), (4, .ptr 2 0), (5, .i x1), (6, .oslice 3 l23.length 9), (9, .i i_24), (133, .bool b48)], [.cells [.i x1, vl qa r.Slings], .cells [.i e.Number, .str e.Kind, vl encS e.Names, vl encI e.Values, .str e.Text], .cells [.i 0, .nilslice], .cells (l23.flatMap qa.c)]))) ?_ ?_
                · refine Goes.ifB (b := b46) (by kernel_rfl) (fun c50 => ?_) (fun c50 => ?_)
                  · rw [if_pos (c50)] at g49
                    refine Goes.skip ?_
                    obtain rfl := Option.some.inj g49
                    exact ⟨rfl, _, rfl, (Sub.refl _)⟩
                  · rw [if_neg (by rw [c50]; exact Bool.false_ne_true)] at g49
                    obtain ⟨b52, g_v53, g49⟩ := bnd g49
                    refine Goes.cut (s' := (ofG 162 [(2, .ptr 0 0), (3, .ptr 1 0), (4, .ptr 2 0), (5, .i x1), (6, .oslice 3 l23.length 9), (9, .i i_24), (133, .bool b52)], [.cells [.i x1, vl qa r.Slings], .cells [.i e.Number, .str e.Kind, vl encS e.Names, vl encI e.Values, .str e.Text], .cells [.i 0, .nilslice], .cells (l23.flatMap qa.c)])) ?_ ?_
                    · rcases Bool.eq_false_or_eq_true (e.Kind == [114, 101, 99, 97, 108, 108]) with c51 | c51
                      · rw [if_pos (c51)] at g_v53
                        obtain rfl := Option.some.inj g_v53
                        exact qp.ro fol [(3, (.done (.bool true))), (6, (.done (.ptr 3 ((i_24 : Int).toNat * 9 + 0)))), (8, (.run (.str x30.Batch) [.cells [.i x1, vl qa r.Slings], .cells [.i e.Number, .str e.Kind, vl encS e.Names, vl encI e.Values, .str e.Text], .cells [.i 0, .nilslice], .cells (l23.flatMap qa.c)] false)), (11, (.done (.fptr (e.Names.flatMap encS.c) ((0 : Int).toNat * 1 + 0)))), (12, (.done (.str x31)))] [(2, .ptr 0 0), (3, .ptr 1 0), (4, .ptr 2 0), (5, .i x1), (6, .oslice 3 l23.length 9), (9, .i i_24), (133, .bool (x30.Batch == x31))] [.cells [.i x1, vl qa r.Slings], .cells [.i e.Number, .str e.Kind, vl encS e.Names, vl encI e.Values, .str e.Text], .cells [.i 0, .nilslice], .cells (l23.flatMap qa.c)] [.done (.done (.bool (e.Kind == [114, 101, 99, 97, 108, 108]))) (.bool true), .done (.opt (qj Tryz.prog 35 (.oslice 3 l23.length 9) (.i i_24))) (.ptr 3 ((i_24 : Int).toNat * 9 + 0)), .run [3] (qz Tryz.prog 9 (.ptr 3 ((i_24 : Int).toNat * 9 + 1))) [.cells [.i x1, vl qa r.Slings], .cells [.i e.Number, .str e.Kind, vl encS e.Names, vl encI e.Values, .str e.Text], .cells [.i 0, .nilslice], .cells (l23.flatMap qa.c)] (.str x30.Batch) [.cells [.i x1, vl qa r.Slings], .cells [.i e.Number, .str e.Kind, vl encS e.Names, vl encI e.Values, .str e.Text], .cells [.i 0, .nilslice], .cells (l23.flatMap qa.c)] false, .done (.opt (qj Tryz.prog 23 (vl encS e.Names) (.i 0))) (.fptr (e.Names.flatMap encS.c) ((0 : Int).toNat * 1 + 0)), .done (qz Tryz.prog 9 (.fptr (e.Names.flatMap encS.c) ((0 : Int).toNat * 1 + 0))) (.str x31)] (And.intro (congrArg (fun x => Pg.done (.bool x)) c51) (And.intro (qbn xW e_x30) (And.intro (qeF ce9 (E := qa) (l := l23) rfl rfl e_x30 (Nat.le_of_ble_eq_true rfl) rfl) (And.intro (qF xe (E := encS) rfl e_x31) (And.intro (qJ ce9 (E := encS) rfl e_x31 (Nat.le_of_ble_eq_true rfl) rfl) trivial)))))
                      · rw [if_neg (by rw [c51]; exact Bool.false_ne_true)] at g_v53
                        obtain rfl := Option.some.inj g_v53
                        exact qp.ro fol [(3, (.done (.bool false)))] [(2, .ptr 0 0), (3, .ptr 1 0), (4, .ptr 2 0), (5, .i x1), (6, .oslice 3 l23.length 9), (9, .i i_24), (133, .bool false)] [.cells [.i x1, vl qa r.Slings], .cells [.i e.Number, .str e.Kind, vl encS e.Names, vl encI e.Values, .str e.Text], .cells [.i 0, .nilslice], .cells (l23.flatMap qa.c)] [.done (.done (.bool (e.Kind == [114, 101, 99, 97, 108, 108]))) (.bool false)] (And.intro (congrArg (fun x => Pg.done (.bool x)) c51) trivial)
                    obtain rfl := Option.some.inj g49
                    exact ⟨rfl, _, rfl, (Sub.refl _)⟩
                rintro x s' ⟨rfl, b48, rfl, hsub⟩
                refine Goes.sub hsub ?_
                refine Goes.ifB (b := b48) (by kernel_rfl) (fun c54 => ?_) (fun c54 => ?_)
                · rw [if_pos (c54)] at g29
                  obtain ⟨l55, e_l55, g29⟩ := bnd g29
                  refine Goes.ro fol [(2, (.done (.ptr 3 ((i_24 : Int).toNat * 9 + 0)))), (4, (.run .undef [.cells [.i x1, vl qa r.Slings], .cells [.i e.Number, .str e.Kind, vl encS e.Names, vl encI e.Values, .str e.Text], .cells [.i 0, .nilslice], .cells (l55.flatMap qa.c)] true))] [(2, .ptr 0 0), (3, .ptr 1 0), (4, .ptr 2 0), (5, .i x1), (6, .oslice 3 l23.length 9), (9, .i i_24)] [.cells [.i x1, vl qa r.Slings], .cells [.i e.Number, .str e.Kind, vl encS e.Names, vl encI e.Values, .str e.Text], .cells [.i 0, .nilslice], .cells (l55.flatMap qa.c)] [.done (.opt (qj Tryz.prog 35 (.oslice 3 l23.length 9) (.i i_24))) (.ptr 3 ((i_24 : Int).toNat * 9 + 0)), .run [3] (yh Tryz.prog 4 (.ptr 3 ((i_24 : Int).toNat * 9 + 8)) (.bool true)) [.cells [.i x1, vl qa r.Slings], .cells [.i e.Number, .str e.Kind, vl encS e.Names, vl encI e.Values, .str e.Text], .cells [.i 0, .nilslice], .cells (l23.flatMap qa.c)] .undef [.cells [.i x1, vl qa r.Slings], .cells [.i e.Number, .str e.Kind, vl encS e.Names, vl encI e.Values, .str e.Text], .cells [.i 0, .nilslice], .cells (l55.flatMap qa.c)] true] (And.intro (qbn xW e_x30) (And.intro (qbN (E := qa) (l := l23) (y := (⟨x30.Name, x30.Batch, x30.Born, x30.Last, x30.Uses, x30.Used, x30.Limit, x30.Until, true⟩ : qh)) rfl (show _ = some 1 by kernel_rfl) rfl e_x30 rfl rfl rfl rfl rfl e_l55 rfl) trivial)) ?_
                  obtain rfl := Option.some.inj g29
                  exact ⟨rfl, _, rfl, ((show Sub (ofG 162 [(2, .ptr 0 0), (3, .ptr 1 0), (4, .ptr 2 0), (5, .i x1), (6, .oslice 3 l23.length 9), (9, .i i_24)], [.cells [.i x1, vl qa r.Slings], .cells [.i e.Number, .str e.Kind, vl encS e.Names, vl encI e.Values, .str e.Text], .cells [.i 0, .nilslice], .cells (l55.flatMap qa.c)]) (ofG 162 [(2, .ptr 0 0), (3, .ptr 1 0), (4, .ptr 2 0), (5, .i x1), (6, .oslice 3 l55.length 9), (9, .i i_24)], [.cells [.i x1, vl qa r.Slings], .cells [.i e.Number, .str e.Kind, vl encS e.Names, vl encI e.Values, .str e.Text], .cells [.i 0, .nilslice], .cells (l55.flatMap qa.c)]) from (Sub.norm [] [some 0, some 1, some 2, some 3] rfl rfl (.keep (.ptr rfl) (.keep (.ptr rfl) (.keep (.ptr rfl) (.keep (.same (qc.int _ _)) (.keep (.osliceE rfl (yY e_l55)) (.keep (.same (qc.int _ _)) .nil)))))) (.keep rfl (.same (qf.cons (qc.int _ _) (qf.cons (ql qa _) qf.nil))) rfl rfl (.keep rfl (.same (qf.cons (qc.int _ _) (qf.cons (qc.str _) (qf.cons (ql encS _) (qf.cons (ql encI _) (qf.cons (qc.str _) qf.nil)))))) rfl rfl (.keep rfl (.same (qf.cons (qc.int _ _) (qf.cons (qc.nilslice) qf.nil))) rfl rfl (.keep rfl (.same fa) rfl rfl .nil)))))).trans (Sub.refl _))⟩
                · rw [if_neg (by rw [c54]; exact Bool.false_ne_true)] at g29
                  refine Goes.skip ?_
                  obtain rfl := Option.some.inj g29
                  exact ⟨rfl, _, rfl, (Sub.keep [2, 3, 4, 5, 6, 9] rfl rfl)⟩
          rintro x s' ⟨rfl, l28, rfl, hsub⟩
          refine Goes.sub hsub ?_
          refine Goes.rg fol [(2, .ptr 0 0), (3, .ptr 1 0), (4, .ptr 2 0), (5, .i x1), (6, .oslice 3 l28.length 9), (9, .i (w64 (i_24 + 1)))] [.cells [.i x1, vl qa r.Slings], .cells [.i e.Number, .str e.Kind, vl encS e.Names, vl encI e.Values, .str e.Text], .cells [.i 0, .nilslice], .cells (l28.flatMap qa.c)] ?_
          exact ⟨M, (ofG 162 [(2, .ptr 0 0), (3, .ptr 1 0), (4, .ptr 2 0), (5, .i x1), (6, .oslice 3 l28.length 9), (9, .i (w64 (i_24 + 1)))], [.cells [.i x1, vl qa r.Slings], .cells [.i e.Number, .str e.Kind, vl encS e.Names, vl encI e.Values, .str e.Text], .cells [.i 0, .nilslice], .cells (l28.flatMap qa.c)]), Nat.lt_succ_self _, (Sub.refl _), _, _, rfl, g26⟩
        · rw [if_neg (of_ c27)] at g26
          refine Goes.exit ?_
          obtain rfl := Option.some.inj g26
          exact ⟨rfl, _, rfl, (Sub.norm [] [some 0, some 2, some 3] rfl rfl (.keep (.ptr rfl) (.drop (.keep (.ptr rfl) (.drop (.keep (.oslice rfl) .nil))))) (.keep rfl (.same (qf.cons (qc.int _ _) (qf.cons (ql qa _) qf.nil))) rfl rfl (.keep rfl (.same (qf.cons (qc.int _ _) (qf.cons (qc.nilslice) qf.nil))) rfl rfl (.keep rfl (.same fa) rfl rfl .nil))))⟩
    rintro x s' ⟨rfl, l25, rfl, hsub⟩
    refine Goes.sub hsub ?_
    refine sq ?_
    refine Goes.rg fol [(2, .ptr 0 0), (4, .ptr 1 0)] [.cells [.i x1, .oslice 2 l25.length 9], .cells [.i 0, .nilslice], .cells (l25.flatMap qa.c)] ?_
    refine sq ?_
    refine Goes.rg fol [(4, .ptr 1 0)] [.cells [.i x1, .oslice 2 l25.length 9], .cells [.i x1, .oslice 2 l25.length 9], .cells (l25.flatMap qa.c)] ?_
    refine Goes.ret ?_
    obtain rfl := Option.some.inj h
    exact (Goes.retW (xs := [.agg [.i x1, .oslice 2 l25.length 9]]) (by kernel_rfl) (FzW.agg (qN.cons (FzW.still (Still.int 10 _ _)) (qN.cons (FzW.fz (Fz.os (E := qa) rfl rfl (Nat.le_of_ble_eq_true rfl))) qN.nil))))
def kP (N : Nat) (l : List qm) : Nat → Int → (List qh) → Int → Option (Int × (List qh))
  | 0, _, _, _ => none
  | K + 1, n1, l2, i_3 =>
    if i_3 < (l.length : Int) then
    (idx l i_3).bind fun x8 =>
    (ze N (⟨n1, l2⟩ : qC) x8).bind fun r9 =>
    kP N l K r9.Day r9.Slings (w64 (i_3 + 1))
    else
    some (n1, l2)
def qW (N : Nat) (l : List qm) : Option qC :=
  (kP N l N 0 ([] : List qh) 0).bind fun (n4, l5) =>
  some (⟨n4, l5⟩ : qC)
theorem xG (N : Nat) (l : List qm) {res : qC} (h : qW N l = some res) : qw Tryz.prog (.fn 84) [vl qb l] [] (.agg [.i res.Day, vl qa res.Slings]) [] := by
  unfold qW at h
  refine Goes.fnW Tryz.func84 rfl rfl (m := 18) rfl (rs := [.cell 2 37]) rfl (l := [(0, vl qb l)]) rfl ?_
  refine sq ?_
  refine Goes.rg fol [(0, vl qb l), (2, .ptr 0 0)] [.cells [.i 0, .nilslice]] ?_
  refine sq ?_
  refine Goes.rg fol [(0, vl qb l), (2, .ptr 0 0), (3, .ptr 1 0)] [.cells [.i 0, .nilslice], .cells [.i 0, .nilslice]] ?_
  refine sq ?_
  refine sq ?_
  refine Goes.rg fol [(0, vl qb l), (2, .ptr 0 0), (3, .ptr 1 0), (4, .i 0)] [.cells [.i 0, .nilslice], .cells [.i 0, .nilslice]] ?_
  refine Goes.block ?_
  obtain ⟨r6, g6, h⟩ := bnd h
  refine Goes.imp (Q := fun x s' => (x = .exit 0 ∧ ∃ n4 l5, (n4, l5) = r6 ∧ Sub s' (ofG 18 [(2, .ptr 0 0), (3, .ptr 1 0)], [.cells [.i 0, .nilslice], .cells [.i n4, vl qa l5]]))) ?_ ?_
  · refine Goes.sub (s' := (ofG 18 [(0, vl qb l), (2, .ptr 0 0), (3, .ptr 1 0), (4, .i 0)], [.cells [.i 0, .nilslice], .cells [.i 0, vl qa ([] : List qh)]])) (Sub.norm [] [some 0, some 1] rfl rfl (.keep (.same (ql qb _)) (.keep (.ptr rfl) (.keep (.ptr rfl) (.keep (.same (qc.int _ _)) .nil)))) (.keep rfl (.same (qf.cons (qc.int _ _) (qf.cons (qc.nilslice) qf.nil))) rfl rfl (.keep rfl (.cells (qg.cons (.same (qc.int _ _)) (qg.cons (.nilv) qg.nil))) rfl rfl .nil))) ?_
    refine Goes.loopS (fun M s => ∃ (n1 : Int) (l2 : List qh) (i_3 : Int), s = (ofG 18 [(0, vl qb l), (2, .ptr 0 0), (3, .ptr 1 0), (4, .i i_3)], [.cells [.i 0, .nilslice], .cells [.i n1, vl qa l2]]) ∧ kP N l M n1 l2 i_3 = some r6) ?_ (m := N) ⟨_, _, _, rfl, g6⟩
    rintro M s ⟨n1, l2, i_3, rfl, g6⟩
    cases M with
    | zero => simp only [kP] at g6; cases g6
    | succ M =>
      rw [kP] at g6
      refine sq ?_
      refine sq ?_
      refine Goes.rg fol [(0, vl qb l), (2, .ptr 0 0), (3, .ptr 1 0), (4, .i i_3), (8, .bool (decide (i_3 < (l.length : Int))))] [.cells [.i 0, .nilslice], .cells [.i n1, vl qa l2]] ?_
      refine Goes.ifB (b := decide (i_3 < (l.length : Int))) (by kernel_rfl) (fun c7 => ?_) (fun c7 => ?_)
      · rw [if_pos (ot c7)] at g6
        refine Goes.skip ?_
        refine sq ?_
        refine Goes.block ?_
        obtain ⟨x8, e_x8, g6⟩ := bnd g6
        obtain ⟨r9, e_r9, g6⟩ := bnd g6
        refine Goes.ro fol [(3, (.done (.fptr (l.flatMap qb.c) ((i_3 : Int).toNat * 5 + 0)))), (4, (.done (.agg [.i x8.Number, .str x8.Kind, vl encS x8.Names, vl encI x8.Values, .str x8.Text]))), (5, (.call [] [.agg [.i n1, vl qa l2], .agg [.i x8.Number, .str x8.Kind, vl encS x8.Names, vl encI x8.Values, .str x8.Text]] (.agg [.i r9.Day, vl qa r9.Slings])))] [(0, vl qb l), (2, .ptr 0 0), (3, .ptr 1 0), (4, .i i_3)] [.cells [.i 0, .nilslice], .cells [.i r9.Day, vl qa r9.Slings]] [.done (.opt (qj Tryz.prog 22 (vl qb l) (.i i_3))) (.fptr (l.flatMap qb.c) ((i_3 : Int).toNat * 5 + 0)), .done (qz Tryz.prog 26 (.fptr (l.flatMap qb.c) ((i_3 : Int).toNat * 5 + 0))) (.agg [.i x8.Number, .str x8.Kind, vl encS x8.Names, vl encI x8.Values, .str x8.Text]), .call 140 [.agg [.i n1, vl qa l2], .agg [.i x8.Number, .str x8.Kind, vl encS x8.Names, vl encI x8.Values, .str x8.Text]] [.cells [.i 0, .nilslice], .cells [.i n1, vl qa l2]] [] [.agg [.i n1, vl qa l2], .agg [.i x8.Number, .str x8.Kind, vl encS x8.Names, vl encI x8.Values, .str x8.Text]] (.agg [.i r9.Day, vl qa r9.Slings])] (And.intro (qF yL (E := qb) rfl e_x8) (And.intro (qax qf5 (E := qb) rfl e_x8) (And.intro (qo (AllST.cons (Still.agg (AllST.cons (Still.int 10 _ _) (AllST.cons (qx qa _ (Nat.le_of_ble_eq_true rfl)) AllST.nil))) (AllST.cons (Still.agg (AllST.cons (Still.int 10 _ _) (AllST.cons (Still.str 10 _) (AllST.cons (qx encS _ (Nat.le_of_ble_eq_true rfl)) (AllST.cons (qx encI _ (Nat.le_of_ble_eq_true rfl)) (AllST.cons (Still.str 10 _) AllST.nil)))))) AllST.nil)) (qdh N (⟨n1, l2⟩ : qC) x8 e_r9) (Still.agg (AllST.cons (Still.int 10 _ _) (AllST.cons (qx qa _ (Nat.le_of_ble_eq_true rfl)) AllST.nil)))) trivial))) ?_
        refine Goes.rg fol [(0, vl qb l), (2, .ptr 0 0), (3, .ptr 1 0), (4, .i (w64 (i_3 + 1)))] [.cells [.i 0, .nilslice], .cells [.i r9.Day, vl qa r9.Slings]] ?_
        exact ⟨M, (ofG 18 [(0, vl qb l), (2, .ptr 0 0), (3, .ptr 1 0), (4, .i (w64 (i_3 + 1)))], [.cells [.i 0, .nilslice], .cells [.i r9.Day, vl qa r9.Slings]]), Nat.lt_succ_self _, (Sub.refl _), _, _, _, rfl, g6⟩
      · rw [if_neg (of_ c7)] at g6
        refine Goes.exit ?_
        obtain rfl := Option.some.inj g6
        exact ⟨rfl, _, _, rfl, (Sub.keep [2, 3] rfl rfl)⟩
  rintro x s' ⟨rfl, n4, l5, rfl, hsub⟩
  try dsimp only at h
  refine Goes.sub hsub ?_
  refine sq ?_
  refine Goes.rg fol [(2, .ptr 0 0)] [.cells [.i n4, vl qa l5], .cells [.i n4, vl qa l5]] ?_
  refine Goes.ret ?_
  obtain rfl := Option.some.inj h
  exact (Goes.retW (xs := [.agg [.i n4, vl qa l5]]) (by kernel_rfl) (FzW.agg (qN.cons (FzW.still (Still.int 10 _ _)) (qN.cons (FzW.still (qx qa _ (Nat.le_of_ble_eq_true rfl))) qN.nil))))
def vF (r : qC) (name : Str) : Nat → Int → Option (Unit ⊕ Int)
  | 0, _ => none
  | K + 1, i_1 =>
    if i_1 < (r.Slings.length : Int) then
    (idx r.Slings i_1).bind fun x5 =>
    if (x5.Name == name) = true then
    some (.inr i_1)
    else
    vF r name K (w64 (i_1 + 1))
    else
    some (.inl ())
def yP (N : Nat) (r : qC) (name : Str) : Option Int :=
  (vF r name N 0).bind (fun
  | (.inl ()) =>
  some (-1)
  | (.inr q7) =>
  some q7)
theorem qcw (N : Nat) (r : qC) (name : Str) {res : Int} (h : yP N r name = some res) : qw Tryz.prog (.fn 27) [.agg [.i r.Day, vl qa r.Slings], .str name] [] (.i res) [] := by
  unfold yP at h
  refine Goes.fnW Tryz.func27 rfl rfl (m := 22) rfl (rs := [.tmp 4]) rfl (l := [(0, .agg [.i r.Day, vl qa r.Slings]), (1, .str name)]) rfl ?_
  refine sq ?_
  refine Goes.rg fol [(1, .str name), (2, .ptr 0 0)] [.cells [.i r.Day, vl qa r.Slings]] ?_
  refine sq ?_
  refine sq ?_
  refine Goes.rg fol [(1, .str name), (2, .ptr 0 0), (5, .i 0)] [.cells [.i r.Day, vl qa r.Slings]] ?_
  refine Goes.block ?_
  obtain ⟨r2, g2, h⟩ := bnd h
  refine Goes.imp (Q := fun x s' => (x = .exit 0 ∧ (.inl ()) = r2 ∧ Sub s' (ofG 22 [], [])) ∨ (x = .ret ∧ ∃ q3, (.inr q3) = r2 ∧ zG Tryz.prog [.tmp 4] (.i q3) .ret s')) ?_ ?_
  · refine Goes.loopS (fun M s => ∃ (i_1 : Int), s = (ofG 22 [(1, .str name), (2, .ptr 0 0), (5, .i i_1)], [.cells [.i r.Day, vl qa r.Slings]]) ∧ vF r name M i_1 = some r2) ?_ (m := N) ⟨_, rfl, g2⟩
    rintro M s ⟨i_1, rfl, g2⟩
    cases M with
    | zero => simp only [vF] at g2; cases g2
    | succ M =>
      rw [vF] at g2
      refine sq ?_
      refine sq ?_
      refine Goes.rg fol [(1, .str name), (2, .ptr 0 0), (5, .i i_1), (10, .bool (decide (i_1 < (r.Slings.length : Int))))] [.cells [.i r.Day, vl qa r.Slings]] ?_
      refine Goes.ifB (b := decide (i_1 < (r.Slings.length : Int))) (by kernel_rfl) (fun c4 => ?_) (fun c4 => ?_)
      · rw [if_pos (ot c4)] at g2
        refine Goes.skip ?_
        refine sq ?_
        refine Goes.block ?_
        refine sq ?_
        obtain ⟨x5, e_x5, g2⟩ := bnd g2
        refine Goes.ro fol [(3, (.done (.fptr (r.Slings.flatMap qa.c) ((i_1 : Int).toNat * 9 + 0)))), (5, (.done (.str x5.Name)))] [(1, .str name), (2, .ptr 0 0), (5, .i i_1), (20, .bool (x5.Name == name))] [.cells [.i r.Day, vl qa r.Slings]] [.done (.opt (qj Tryz.prog 35 (vl qa r.Slings) (.i i_1))) (.fptr (r.Slings.flatMap qa.c) ((i_1 : Int).toNat * 9 + 0)), .done (qz Tryz.prog 9 (.fptr (r.Slings.flatMap qa.c) ((i_1 : Int).toNat * 9 + 0))) (.str x5.Name)] (And.intro (qF xW (E := qa) rfl e_x5) (And.intro (qJ ce9 (E := qa) rfl e_x5 (Nat.le_of_ble_eq_true rfl) rfl) trivial)) ?_
        refine Goes.ifB (b := x5.Name == name) (by kernel_rfl) (fun c6 => ?_) (fun c6 => ?_)
        · rw [if_pos (c6)] at g2
          refine sq ?_
          refine Goes.rg fol [(4, .i i_1)] [.cells [.i r.Day, vl qa r.Slings]] ?_
          refine Goes.ret ?_
          obtain rfl := Option.some.inj g2
          exact Or.inr (⟨rfl, _, rfl, (Goes.retW (xs := [.i i_1]) (by kernel_rfl) (FzW.still (Still.int 11 _ _)))⟩)
        · rw [if_neg (by rw [c6]; exact Bool.false_ne_true)] at g2
          refine Goes.skip ?_
          refine Goes.rg fol [(1, .str name), (2, .ptr 0 0), (5, .i (w64 (i_1 + 1)))] [.cells [.i r.Day, vl qa r.Slings]] ?_
          exact ⟨M, (ofG 22 [(1, .str name), (2, .ptr 0 0), (5, .i (w64 (i_1 + 1)))], [.cells [.i r.Day, vl qa r.Slings]]), Nat.lt_succ_self _, (Sub.refl _), _, rfl, g2⟩
      · rw [if_neg (of_ c4)] at g2
        refine Goes.exit ?_
        obtain rfl := Option.some.inj g2
        exact Or.inl (⟨rfl, rfl, (Sub.norm [] [] rfl rfl .nil .nil)⟩)
  rintro x s' (⟨rfl, rfl, hsub⟩ | ⟨rfl, q7, rfl, hret⟩)
  · try dsimp only at h
    refine Goes.sub hsub ?_
    refine sq ?_
    refine Goes.rg fol [(4, .i (-1))] [] ?_
    refine Goes.ret ?_
    obtain rfl := Option.some.inj h
    exact (Goes.retW (xs := [.i (-1)]) (by kernel_rfl) (FzW.still (Still.int 11 _ _)))
  · try dsimp only at h
    obtain rfl := Option.some.inj h
    exact hret
def jH (s_ : qh) (day : Int) : Option Bool :=
  (if s_.Gone = true then
  some true
  else
  if day > s_.Last then
  some true
  else
  some (decide (s_.Used = s_.Uses)) : Option Bool).bind fun b3 =>
  some b3
theorem yE (s_ : qh) (day : Int) {res : Bool} (h : jH s_ day = some res) : qw Tryz.prog (.fn 33) [.agg [.str s_.Name, .str s_.Batch, .i s_.Born, .i s_.Last, .i s_.Uses, .i s_.Used, .i s_.Limit, .i s_.Until, .bool s_.Gone], .i day] [] (.bool res) [] := by
  unfold jH at h
  refine Goes.fnW Tryz.func33 rfl rfl (m := 20) rfl (rs := [.tmp 4]) rfl (l := [(0, .agg [.str s_.Name, .str s_.Batch, .i s_.Born, .i s_.Last, .i s_.Uses, .i s_.Used, .i s_.Limit, .i s_.Until, .bool s_.Gone]), (1, .i day)]) rfl ?_
  refine sq ?_
  refine Goes.rg fol [(1, .i day), (2, .ptr 0 0)] [.cells [.str s_.Name, .str s_.Batch, .i s_.Born, .i s_.Last, .i s_.Uses, .i s_.Used, .i s_.Limit, .i s_.Until, .bool s_.Gone]] ?_
  refine sq ?_
  obtain ⟨b3, g_v4, h⟩ := bnd h
  refine Goes.cut (s' := (ofG 20 [(4, .bool b3)], [.cells [.str s_.Name, .str s_.Batch, .i s_.Born, .i s_.Last, .i s_.Uses, .i s_.Used, .i s_.Limit, .i s_.Until, .bool s_.Gone]])) ?_ ?_
  · rcases Bool.eq_false_or_eq_true (s_.Gone) with c1 | c1
    · rw [if_pos (c1)] at g_v4
      obtain rfl := Option.some.inj g_v4
      exact qp.ro fol [(2, (.done (.bool true)))] [(4, .bool true)] [.cells [.str s_.Name, .str s_.Batch, .i s_.Born, .i s_.Last, .i s_.Uses, .i s_.Used, .i s_.Limit, .i s_.Until, .bool s_.Gone]] [.done (.done (.bool s_.Gone)) (.bool true)] (And.intro (congrArg (fun x => Pg.done (.bool x)) c1) trivial)
    · rw [if_neg (by rw [c1]; exact Bool.false_ne_true)] at g_v4
      rcases Bool.eq_false_or_eq_true (decide (day > s_.Last)) with c2 | c2
      · rw [if_pos (ot c2)] at g_v4
        obtain rfl := Option.some.inj g_v4
        exact qp.ro fol [(2, (.done (.bool false))), (8, (.done (.bool true)))] [(4, .bool true)] [.cells [.str s_.Name, .str s_.Batch, .i s_.Born, .i s_.Last, .i s_.Uses, .i s_.Used, .i s_.Limit, .i s_.Until, .bool s_.Gone]] [.done (.done (.bool s_.Gone)) (.bool false), .done (.done (.bool (decide (day > s_.Last)))) (.bool true)] (And.intro (congrArg (fun x => Pg.done (.bool x)) c1) (And.intro (congrArg (fun x => Pg.done (.bool x)) c2) trivial))
      · rw [if_neg (of_ c2)] at g_v4
        obtain rfl := Option.some.inj g_v4
        exact qp.ro fol [(2, (.done (.bool false))), (8, (.done (.bool false)))] [(4, .bool (decide (s_.Used = s_.Uses)))] [.cells [.str s_.Name, .str s_.Batch, .i s_.Born, .i s_.Last, .i s_.Uses, .i s_.Used, .i s_.Limit, .i s_.Until, .bool s_.Gone]] [.done (.done (.bool s_.Gone)) (.bool false), .done (.done (.bool (decide (day > s_.Last)))) (.bool false)] (And.intro (congrArg (fun x => Pg.done (.bool x)) c1) (And.intro (congrArg (fun x => Pg.done (.bool x)) c2) trivial))
  refine Goes.ret ?_
  obtain rfl := Option.some.inj h
  exact (Goes.retW (xs := [.bool b3]) (by kernel_rfl) (FzW.still (Still.bool 11 _)))
def vI (s_ : qh) (day : Int) : Option Bool :=
  (if s_.Limit > 0 then
  some (decide (day ≤ s_.Until))
  else
  some false : Option Bool).bind fun b2 =>
  some b2
theorem qaP (s_ : qh) (day : Int) {res : Bool} (h : vI s_ day = some res) : qw Tryz.prog (.fn 34) [.agg [.str s_.Name, .str s_.Batch, .i s_.Born, .i s_.Last, .i s_.Uses, .i s_.Used, .i s_.Limit, .i s_.Until, .bool s_.Gone], .i day] [] (.bool res) [] := by
  unfold vI at h
  refine Goes.fnW Tryz.func34 rfl rfl (m := 14) rfl (rs := [.tmp 4]) rfl (l := [(0, .agg [.str s_.Name, .str s_.Batch, .i s_.Born, .i s_.Last, .i s_.Uses, .i s_.Used, .i s_.Limit, .i s_.Until, .bool s_.Gone]), (1, .i day)]) rfl ?_
  refine sq ?_
  refine Goes.rg fol [(1, .i day), (2, .ptr 0 0)] [.cells [.str s_.Name, .str s_.Batch, .i s_.Born, .i s_.Last, .i s_.Uses, .i s_.Used, .i s_.Limit, .i s_.Until, .bool s_.Gone]] ?_
  refine sq ?_
  obtain ⟨b2, g_v3, h⟩ := bnd h
  refine Goes.cut (s' := (ofG 14 [(4, .bool b2)], [.cells [.str s_.Name, .str s_.Batch, .i s_.Born, .i s_.Last, .i s_.Uses, .i s_.Used, .i s_.Limit, .i s_.Until, .bool s_.Gone]])) ?_ ?_
  · rcases Bool.eq_false_or_eq_true (decide (s_.Limit > 0)) with c1 | c1
    · rw [if_pos (ot c1)] at g_v3
      obtain rfl := Option.some.inj g_v3
      exact qp.ro fol [(3, (.done (.bool true)))] [(4, .bool (decide (day ≤ s_.Until)))] [.cells [.str s_.Name, .str s_.Batch, .i s_.Born, .i s_.Last, .i s_.Uses, .i s_.Used, .i s_.Limit, .i s_.Until, .bool s_.Gone]] [.done (.done (.bool (decide (s_.Limit > 0)))) (.bool true)] (And.intro (congrArg (fun x => Pg.done (.bool x)) c1) trivial)
    · rw [if_neg (of_ c1)] at g_v3
      obtain rfl := Option.some.inj g_v3
      exact qp.ro fol [(3, (.done (.bool false)))] [(4, .bool false)] [.cells [.str s_.Name, .str s_.Batch, .i s_.Born, .i s_.Last, .i s_.Uses, .i s_.Used, .i s_.Limit, .i s_.Until, .bool s_.Gone]] [.done (.done (.bool (decide (s_.Limit > 0)))) (.bool false)] (And.intro (congrArg (fun x => Pg.done (.bool x)) c1) trivial)
  refine Goes.ret ?_
  obtain rfl := Option.some.inj h
  exact (Goes.retW (xs := [.bool b2]) (by kernel_rfl) (FzW.still (Still.bool 11 _)))
def kW (r : qC) (e : qm) (x1 : Int) : Nat → Bool → Bool → Int → Option (Bool × Bool)
  | 0, _, _, _ => none
  | K + 1, some_19, open__20, i_21 =>
    if i_21 < (r.Slings.length : Int) then
    (((idx r.Slings i_21).bind fun x29 =>
    (idx e.Names 0).bind fun x30 =>
    if (x29.Batch == x30) = true then
    (if open__20 = true then
    some true
    else
    (jH x29 x1).bind fun r33 =>
    some (!r33) : Option Bool).bind fun open__34 =>
    some (true, open__34)
    else
    some (some_19, open__20) : Option (Bool × Bool))).bind fun (some_26, open__27) =>
    kW r e x1 K some_26 open__27 (w64 (i_21 + 1))
    else
    some (some_19, open__20)
def kC (N : Nat) (r : qC) (e : qm) : Option Int :=
  (idx e.Values 0).bind fun x1 =>
  if x1 > 99999 then
  some 3
  else
  if x1 < r.Day then
  some 19
  else
  (idx e.Names 0).bind fun x4 =>
  (yP N r x4).bind fun r5 =>
  if (e.Kind == [109, 97, 107, 101]) = true then
  if r5 ≥ 0 then
  some 9
  else
  ((idx e.Values 1).bind fun x8 =>
  (zf x8 1 9999).bind fun r9 =>
  if r9 = true then
  some true
  else
  (idx e.Values 2).bind fun x11 =>
  (zf x11 1 9999).bind fun r12 =>
  if r12 = true then
  some true
  else
  some (decide ((w64 (x1 + x8)) > 99999)) : Option Bool).bind fun b14 =>
  if b14 = true then
  some 3
  else
  if (r.Slings.length : Int) ≥ 256 then
  some 5
  else
  some 0
  else
  if (e.Kind == [114, 101, 99, 97, 108, 108]) = true then
  (kW r e x1 N false false 0).bind fun (some_22, open__23) =>
  if (!some_22) = true then
  some 10
  else
  if (!open__23) = true then
  some 20
  else
  some 0
  else
  if r5 < 0 then
  some 10
  else
  (idx r.Slings r5).bind fun x39 =>
  (jH x39 x1).bind fun r40 =>
  if r40 = true then
  some 20
  else
  (if (e.Kind == [116, 101, 115, 116]) = true then
  (idx e.Values 1).bind fun x43 =>
  (zf x43 2 999999999).bind fun r44 =>
  some r44
  else
  some false : Option Bool).bind fun b45 =>
  if b45 = true then
  some 3
  else
  ((if (e.Kind == [117, 115, 101]) = true then
  (vI x39 x1).bind fun r51 =>
  if (!r51) = true then
  some (.inr 24)
  else
  (idx e.Values 1).bind fun x53 =>
  if x53 > x39.Limit then
  some (.inr 31)
  else
  some (.inl ())
  else
  some (.inl ()) : Option (Unit ⊕ Int))).bind (fun
  | (.inl ()) =>
  some 0
  | (.inr q55) =>
  some q55)
theorem qco (N : Nat) (r : qC) (e : qm) {res : Int} (h : kC N r e = some res) : qw Tryz.prog (.fn 139) [.agg [.i r.Day, vl qa r.Slings], .agg [.i e.Number, .str e.Kind, vl encS e.Names, vl encI e.Values, .str e.Text]] [] (.i res) [] := by
  unfold kC at h
  refine Goes.fnW Tryz.func139 rfl rfl (m := 127) rfl (rs := [.tmp 4]) rfl (l := [(0, .agg [.i r.Day, vl qa r.Slings]), (1, .agg [.i e.Number, .str e.Kind, vl encS e.Names, vl encI e.Values, .str e.Text])]) rfl ?_
  refine sq ?_
  refine Goes.rg fol [(2, .ptr 0 0), (3, .ptr 1 0)] [.cells [.i r.Day, vl qa r.Slings], .cells [.i e.Number, .str e.Kind, vl encS e.Names, vl encI e.Values, .str e.Text]] ?_
  refine sq ?_
  obtain ⟨x1, e_x1, h⟩ := bnd h
  refine Goes.ro fol [(2, (.done (.fptr (e.Values.flatMap encI.c) ((0 : Int).toNat * 1 + 0)))), (3, (.done (.i x1)))] [(2, .ptr 0 0), (3, .ptr 1 0), (5, .i x1)] [.cells [.i r.Day, vl qa r.Slings], .cells [.i e.Number, .str e.Kind, vl encS e.Names, vl encI e.Values, .str e.Text]] [.done (.opt (qj Tryz.prog 24 (vl encI e.Values) (.i 0))) (.fptr (e.Values.flatMap encI.c) ((0 : Int).toNat * 1 + 0)), .done (qz Tryz.prog 3 (.fptr (e.Values.flatMap encI.c) ((0 : Int).toNat * 1 + 0))) (.i x1)] (And.intro (qF vN (E := encI) rfl e_x1) (And.intro (qJ ce3 (E := encI) rfl e_x1 (Nat.le_of_ble_eq_true rfl) rfl) trivial)) ?_
  refine sq ?_
  refine sq ?_
  refine Goes.rg fol [(2, .ptr 0 0), (3, .ptr 1 0), (5, .i x1), (16, .bool (decide (x1 > 99999)))] [.cells [.i r.Day, vl qa r.Slings], .cells [.i e.Number, .str e.Kind, vl encS e.Names, vl encI e.Values, .str e.Text]] ?_
  refine Goes.ifB (b := decide (x1 > 99999)) (by kernel_rfl) (fun c2 => ?_) (fun c2 => ?_)
  · rw [if_pos (ot c2)] at h
    refine sq ?_
    refine Goes.rg fol [(4, .i 3)] [.cells [.i r.Day, vl qa r.Slings], .cells [.i e.Number, .str e.Kind, vl encS e.Names, vl encI e.Values, .str e.Text]] ?_
    refine Goes.ret ?_
    obtain rfl := Option.some.inj h
    exact (Goes.retW (xs := [.i 3]) (by kernel_rfl) (FzW.still (Still.int 11 _ _)))
  · rw [if_neg (of_ c2)] at h
    refine Goes.skip ?_
    refine sq ?_
    refine sq ?_
    refine Goes.rg fol [(2, .ptr 0 0), (3, .ptr 1 0), (5, .i x1), (20, .bool (decide (x1 < r.Day)))] [.cells [.i r.Day, vl qa r.Slings], .cells [.i e.Number, .str e.Kind, vl encS e.Names, vl encI e.Values, .str e.Text]] ?_
    refine Goes.ifB (b := decide (x1 < r.Day)) (by kernel_rfl) (fun c3 => ?_) (fun c3 => ?_)
    · rw [if_pos (ot c3)] at h
      refine sq ?_
      refine Goes.rg fol [(4, .i 19)] [.cells [.i r.Day, vl qa r.Slings], .cells [.i e.Number, .str e.Kind, vl encS e.Names, vl encI e.Values, .str e.Text]] ?_
      refine Goes.ret ?_
      obtain rfl := Option.some.inj h
      exact (Goes.retW (xs := [.i 19]) (by kernel_rfl) (FzW.still (Still.int 11 _ _)))
    · rw [if_neg (of_ c3)] at h
      refine Goes.skip ?_
      refine sq ?_
      obtain ⟨x4, e_x4, h⟩ := bnd h
      obtain ⟨r5, e_r5, h⟩ := bnd h
      refine Goes.ro fol [(3, (.done (.fptr (e.Names.flatMap encS.c) ((0 : Int).toNat * 1 + 0)))), (4, (.done (.str x4))), (5, (.call [] [.agg [.i r.Day, vl qa r.Slings], .str x4] (.i r5)))] [(2, .ptr 0 0), (3, .ptr 1 0), (5, .i x1), (6, .i r5)] [.cells [.i r.Day, vl qa r.Slings], .cells [.i e.Number, .str e.Kind, vl encS e.Names, vl encI e.Values, .str e.Text]] [.done (.opt (qj Tryz.prog 23 (vl encS e.Names) (.i 0))) (.fptr (e.Names.flatMap encS.c) ((0 : Int).toNat * 1 + 0)), .done (qz Tryz.prog 9 (.fptr (e.Names.flatMap encS.c) ((0 : Int).toNat * 1 + 0))) (.str x4), .call 27 [.agg [.i r.Day, vl qa r.Slings], .str x4] [.cells [.i r.Day, vl qa r.Slings], .cells [.i e.Number, .str e.Kind, vl encS e.Names, vl encI e.Values, .str e.Text]] [] [.agg [.i r.Day, vl qa r.Slings], .str x4] (.i r5)] (And.intro (qF xe (E := encS) rfl e_x4) (And.intro (qJ ce9 (E := encS) rfl e_x4 (Nat.le_of_ble_eq_true rfl) rfl) (And.intro (qo (AllST.cons (Still.agg (AllST.cons (Still.int 10 _ _) (AllST.cons (qx qa _ (Nat.le_of_ble_eq_true rfl)) AllST.nil))) (AllST.cons (Still.str 11 _) AllST.nil)) (qcw N r x4 e_r5) (Still.int 11 _ _)) trivial))) ?_
      refine sq ?_
      refine sq ?_
      refine Goes.rg fol [(2, .ptr 0 0), (3, .ptr 1 0), (5, .i x1), (6, .i r5), (28, .str e.Kind)] [.cells [.i r.Day, vl qa r.Slings], .cells [.i e.Number, .str e.Kind, vl encS e.Names, vl encI e.Values, .str e.Text]] ?_
      refine Goes.block ?_
      refine sq ?_
      refine Goes.rg fol [(2, .ptr 0 0), (3, .ptr 1 0), (5, .i x1), (6, .i r5), (28, .str e.Kind), (29, .bool (e.Kind == [109, 97, 107, 101]))] [.cells [.i r.Day, vl qa r.Slings], .cells [.i e.Number, .str e.Kind, vl encS e.Names, vl encI e.Values, .str e.Text]] ?_
      refine Goes.ifB (b := e.Kind == [109, 97, 107, 101]) (by kernel_rfl) (fun c6 => ?_) (fun c6 => ?_)
      · rw [if_pos (c6)] at h
        refine sq ?_
        refine sq ?_
        refine Goes.rg fol [(2, .ptr 0 0), (3, .ptr 1 0), (5, .i x1), (32, .bool (decide (r5 ≥ 0)))] [.cells [.i r.Day, vl qa r.Slings], .cells [.i e.Number, .str e.Kind, vl encS e.Names, vl encI e.Values, .str e.Text]] ?_
        refine Goes.ifB (b := decide (r5 ≥ 0)) (by kernel_rfl) (fun c7 => ?_) (fun c7 => ?_)
        · rw [if_pos (ot c7)] at h
          refine sq ?_
          refine Goes.rg fol [(4, .i 9)] [.cells [.i r.Day, vl qa r.Slings], .cells [.i e.Number, .str e.Kind, vl encS e.Names, vl encI e.Values, .str e.Text]] ?_
          refine Goes.ret ?_
          obtain rfl := Option.some.inj h
          exact (Goes.retW (xs := [.i 9]) (by kernel_rfl) (FzW.still (Still.int 11 _ _)))
        · rw [if_neg (of_ c7)] at h
          refine Goes.skip ?_
          refine sq ?_
          refine sq ?_
          obtain ⟨b14, g_v15, h⟩ := bnd h
          refine Goes.cut (s' := (ofG 127 [(2, .ptr 0 0), (53, .bool b14)], [.cells [.i r.Day, vl qa r.Slings], .cells [.i e.Number, .str e.Kind, vl encS e.Names, vl encI e.Values, .str e.Text]])) ?_ ?_
          · obtain ⟨x8, e_x8, g_v15⟩ := bnd g_v15
            obtain ⟨r9, e_r9, g_v15⟩ := bnd g_v15
            rcases Bool.eq_false_or_eq_true (r9) with c10 | c10
            · rw [if_pos (c10)] at g_v15
              obtain rfl := Option.some.inj g_v15
              exact qp.ro fol [(2, (.done (.fptr (e.Values.flatMap encI.c) ((1 : Int).toNat * 1 + 0)))), (3, (.done (.i x8))), (4, (.call [] [.i x8, .i 1, .i 9999] (.bool r9))), (5, (.done (.bool true)))] [(2, .ptr 0 0), (53, .bool true)] [.cells [.i r.Day, vl qa r.Slings], .cells [.i e.Number, .str e.Kind, vl encS e.Names, vl encI e.Values, .str e.Text]] [.done (.opt (qj Tryz.prog 24 (vl encI e.Values) (.i 1))) (.fptr (e.Values.flatMap encI.c) ((1 : Int).toNat * 1 + 0)), .done (qz Tryz.prog 3 (.fptr (e.Values.flatMap encI.c) ((1 : Int).toNat * 1 + 0))) (.i x8), .call 36 [.i x8, .i 1, .i 9999] [.cells [.i r.Day, vl qa r.Slings], .cells [.i e.Number, .str e.Kind, vl encS e.Names, vl encI e.Values, .str e.Text]] [] [.i x8, .i 1, .i 9999] (.bool r9), .done (.done (.bool r9)) (.bool true)] (And.intro (qF vN (E := encI) rfl e_x8) (And.intro (qJ ce3 (E := encI) rfl e_x8 (Nat.le_of_ble_eq_true rfl) rfl) (And.intro (qo (AllST.cons (Still.int 11 _ _) (AllST.cons (Still.int 11 _ _) (AllST.cons (Still.int 11 _ _) AllST.nil))) (kU x8 1 9999 e_r9) (Still.bool 11 _)) (And.intro (congrArg (fun x => Pg.done (.bool x)) c10) trivial))))
            · rw [if_neg (by rw [c10]; exact Bool.false_ne_true)] at g_v15
              obtain ⟨x11, e_x11, g_v15⟩ := bnd g_v15
              obtain ⟨r12, e_r12, g_v15⟩ := bnd g_v15
              rcases Bool.eq_false_or_eq_true (r12) with c13 | c13
              · rw [if_pos (c13)] at g_v15
                obtain rfl := Option.some.inj g_v15
                exact qp.ro fol [(2, (.done (.fptr (e.Values.flatMap encI.c) ((1 : Int).toNat * 1 + 0)))), (3, (.done (.i x8))), (4, (.call [] [.i x8, .i 1, .i 9999] (.bool r9))), (5, (.done (.bool false))), (8, (.done (.fptr (e.Values.flatMap encI.c) ((2 : Int).toNat * 1 + 0)))), (9, (.done (.i x11))), (10, (.call [] [.i x11, .i 1, .i 9999] (.bool r12))), (12, (.done (.bool true)))] [(2, .ptr 0 0), (53, .bool true)] [.cells [.i r.Day, vl qa r.Slings], .cells [.i e.Number, .str e.Kind, vl encS e.Names, vl encI e.Values, .str e.Text]] [.done (.opt (qj Tryz.prog 24 (vl encI e.Values) (.i 1))) (.fptr (e.Values.flatMap encI.c) ((1 : Int).toNat * 1 + 0)), .done (qz Tryz.prog 3 (.fptr (e.Values.flatMap encI.c) ((1 : Int).toNat * 1 + 0))) (.i x8), .call 36 [.i x8, .i 1, .i 9999] [.cells [.i r.Day, vl qa r.Slings], .cells [.i e.Number, .str e.Kind, vl encS e.Names, vl encI e.Values, .str e.Text]] [] [.i x8, .i 1, .i 9999] (.bool r9), .done (.done (.bool r9)) (.bool false), .done (.opt (qj Tryz.prog 24 (vl encI e.Values) (.i 2))) (.fptr (e.Values.flatMap encI.c) ((2 : Int).toNat * 1 + 0)), .done (qz Tryz.prog 3 (.fptr (e.Values.flatMap encI.c) ((2 : Int).toNat * 1 + 0))) (.i x11), .call 36 [.i x11, .i 1, .i 9999] [.cells [.i r.Day, vl qa r.Slings], .cells [.i e.Number, .str e.Kind, vl encS e.Names, vl encI e.Values, .str e.Text]] [] [.i x11, .i 1, .i 9999] (.bool r12), .done (.done (.bool r12)) (.bool true)] (And.intro (qF vN (E := encI) rfl e_x8) (And.intro (qJ ce3 (E := encI) rfl e_x8 (Nat.le_of_ble_eq_true rfl) rfl) (And.intro (qo (AllST.cons (Still.int 11 _ _) (AllST.cons (Still.int 11 _ _) (AllST.cons (Still.int 11 _ _) AllST.nil))) (kU x8 1 9999 e_r9) (Still.bool 11 _)) (And.intro (congrArg (fun x => Pg.done (.bool x)) c10) (And.intro (qF vN (E := encI) rfl e_x11) (And.intro (qJ ce3 (E := encI) rfl e_x11 (Nat.le_of_ble_eq_true rfl) rfl) (And.intro (qo (AllST.cons (Still.int 11 _ _) (AllST.cons (Still.int 11 _ _) (AllST.cons (Still.int 11 _ _) AllST.nil))) (kU x11 1 9999 e_r12) (Still.bool 11 _)) (And.intro (congrArg (fun x => Pg.done (.bool x)) c13) trivial))))))))
              · rw [if_neg (by rw [c13]; exact Bool.false_ne_true)] at g_v15
                obtain rfl := Option.some.inj g_v15
                exact qp.ro fol [(2, (.done (.fptr (e.Values.flatMap encI.c) ((1 : Int).toNat * 1 + 0)))), (3, (.done (.i x8))), (4, (.call [] [.i x8, .i 1, .i 9999] (.bool r9))), (5, (.done (.bool false))), (8, (.done (.fptr (e.Values.flatMap encI.c) ((2 : Int).toNat * 1 + 0)))), (9, (.done (.i x11))), (10, (.call [] [.i x11, .i 1, .i 9999] (.bool r12))), (12, (.done (.bool false))), (16, (.done (.fptr (e.Values.flatMap encI.c) ((1 : Int).toNat * 1 + 0)))), (17, (.done (.i x8)))] [(2, .ptr 0 0), (53, .bool (decide ((w64 (x1 + x8)) > 99999)))] [.cells [.i r.Day, vl qa r.Slings], .cells [.i e.Number, .str e.Kind, vl encS e.Names, vl encI e.Values, .str e.Text]] [.done (.opt (qj Tryz.prog 24 (vl encI e.Values) (.i 1))) (.fptr (e.Values.flatMap encI.c) ((1 : Int).toNat * 1 + 0)), .done (qz Tryz.prog 3 (.fptr (e.Values.flatMap encI.c) ((1 : Int).toNat * 1 + 0))) (.i x8), .call 36 [.i x8, .i 1, .i 9999] [.cells [.i r.Day, vl qa r.Slings], .cells [.i e.Number, .str e.Kind, vl encS e.Names, vl encI e.Values, .str e.Text]] [] [.i x8, .i 1, .i 9999] (.bool r9), .done (.done (.bool r9)) (.bool false), .done (.opt (qj Tryz.prog 24 (vl encI e.Values) (.i 2))) (.fptr (e.Values.flatMap encI.c) ((2 : Int).toNat * 1 + 0)), .done (qz Tryz.prog 3 (.fptr (e.Values.flatMap encI.c) ((2 : Int).toNat * 1 + 0))) (.i x11), .call 36 [.i x11, .i 1, .i 9999] [.cells [.i r.Day, vl qa r.Slings], .cells [.i e.Number, .str e.Kind, vl encS e.Names, vl encI e.Values, .str e.Text]] [] [.i x11, .i 1, .i 9999] (.bool r12), .done (.done (.bool r12)) (.bool false), .done (.opt (qj Tryz.prog 24 (vl encI e.Values) (.i 1))) (.fptr (e.Values.flatMap encI.c) ((1 : Int).toNat * 1 + 0)), .done (qz Tryz.prog 3 (.fptr (e.Values.flatMap encI.c) ((1 : Int).toNat * 1 + 0))) (.i x8)] (And.intro (qF vN (E := encI) rfl e_x8) (And.intro (qJ ce3 (E := encI) rfl e_x8 (Nat.le_of_ble_eq_true rfl) rfl) (And.intro (qo (AllST.cons (Still.int 11 _ _) (AllST.cons (Still.int 11 _ _) (AllST.cons (Still.int 11 _ _) AllST.nil))) (kU x8 1 9999 e_r9) (Still.bool 11 _)) (And.intro (congrArg (fun x => Pg.done (.bool x)) c10) (And.intro (qF vN (E := encI) rfl e_x11) (And.intro (qJ ce3 (E := encI) rfl e_x11 (Nat.le_of_ble_eq_true rfl) rfl) (And.intro (qo (AllST.cons (Still.int 11 _ _) (AllST.cons (Still.int 11 _ _) (AllST.cons (Still.int 11 _ _) AllST.nil))) (kU x11 1 9999 e_r12) (Still.bool 11 _)) (And.intro (congrArg (fun x => Pg.done (.bool x)) c13) (And.intro (qF vN (E := encI) rfl e_x8) (And.intro (qJ ce3 (E := encI) rfl e_x8 (Nat.le_of_ble_eq_true rfl) rfl) trivial))))))))))
          refine Goes.ifB (b := b14) (by kernel_rfl) (fun c16 => ?_) (fun c16 => ?_)
          · rw [if_pos (c16)] at h
            refine sq ?_
            refine Goes.rg fol [(4, .i 3)] [.cells [.i r.Day, vl qa r.Slings], .cells [.i e.Number, .str e.Kind, vl encS e.Names, vl encI e.Values, .str e.Text]] ?_
            refine Goes.ret ?_
            obtain rfl := Option.some.inj h
            exact (Goes.retW (xs := [.i 3]) (by kernel_rfl) (FzW.still (Still.int 11 _ _)))
          · rw [if_neg (by rw [c16]; exact Bool.false_ne_true)] at h
            refine Goes.skip ?_
            refine sq ?_
            refine sq ?_
            refine Goes.rg fol [(57, .bool (decide ((r.Slings.length : Int) ≥ 256)))] [.cells [.i r.Day, vl qa r.Slings], .cells [.i e.Number, .str e.Kind, vl encS e.Names, vl encI e.Values, .str e.Text]] ?_
            refine Goes.ifB (b := decide ((r.Slings.length : Int) ≥ 256)) (by kernel_rfl) (fun c17 => ?_) (fun c17 => ?_)
            · rw [if_pos (ot c17)] at h
              refine sq ?_
              refine Goes.rg fol [(4, .i 5)] [.cells [.i r.Day, vl qa r.Slings], .cells [.i e.Number, .str e.Kind, vl encS e.Names, vl encI e.Values, .str e.Text]] ?_
              refine Goes.ret ?_
              obtain rfl := Option.some.inj h
              exact (Goes.retW (xs := [.i 5]) (by kernel_rfl) (FzW.still (Still.int 11 _ _)))
            · rw [if_neg (of_ c17)] at h
              refine Goes.skip ?_
              refine sq ?_
              refine Goes.rg fol [(4, .i 0)] [.cells [.i r.Day, vl qa r.Slings], .cells [.i e.Number, .str e.Kind, vl encS e.Names, vl encI e.Values, .str e.Text]] ?_
              refine Goes.ret ?_
              obtain rfl := Option.some.inj h
              exact (Goes.retW (xs := [.i 0]) (by kernel_rfl) (FzW.still (Still.int 11 _ _)))
      · rw [if_neg (by rw [c6]; exact Bool.false_ne_true)] at h
        refine sq ?_
        refine Goes.rg fol [(2, .ptr 0 0), (3, .ptr 1 0), (5, .i x1), (6, .i r5), (58, .bool (e.Kind == [114, 101, 99, 97, 108, 108]))] [.cells [.i r.Day, vl qa r.Slings], .cells [.i e.Number, .str e.Kind, vl encS e.Names, vl encI e.Values, .str e.Text]] ?_
        refine Goes.ifB (b := e.Kind == [114, 101, 99, 97, 108, 108]) (by kernel_rfl) (fun c18 => ?_) (fun c18 => ?_)
        · rw [if_pos (c18)] at h
          refine sq ?_
          refine Goes.rg fol [(2, .ptr 0 0), (3, .ptr 1 0), (5, .i x1), (7, .bool false), (8, .bool false)] [.cells [.i r.Day, vl qa r.Slings], .cells [.i e.Number, .str e.Kind, vl encS e.Names, vl encI e.Values, .str e.Text]] ?_
          refine sq ?_
          refine sq ?_
          refine Goes.rg fol [(2, .ptr 0 0), (3, .ptr 1 0), (5, .i x1), (7, .bool false), (8, .bool false), (9, .i 0)] [.cells [.i r.Day, vl qa r.Slings], .cells [.i e.Number, .str e.Kind, vl encS e.Names, vl encI e.Values, .str e.Text]] ?_
          refine Goes.block ?_
          obtain ⟨r24, g24, h⟩ := bnd h
          refine Goes.imp (Q := fun x s' => (x = .exit 1 ∧ ∃ some_22 open__23, (some_22, open__23) = r24 ∧ Sub s' (ofG 127 [(7, .bool some_22), (8, .bool open__23)], []))) ?_ ?_
          · refine Goes.loopS (fun M s => ∃ (some_19 : Bool) (open__20 : Bool) (i_21 : Int), s = (ofG 127 [(2, .ptr 0 0), (3, .ptr 1 0), (5, .i x1), (7, .bool some_19), (8, .bool open__20), (9, .i i_21)], [.cells [.i r.Day, vl qa r.Slings], .cells [.i e.Number, .str e.Kind, vl encS e.Names, vl encI e.Values, .str e.Text]]) ∧ kW r e x1 M some_19 open__20 i_21 = some r24) ?_ (m := N) ⟨_, _, _, rfl, g24⟩
            rintro M s ⟨some_19, open__20, i_21, rfl, g24⟩
            cases M with
            | zero => simp only [kW] at g24; cases g24
            | succ M =>
              rw [kW] at g24
              refine sq ?_
              refine sq ?_
              refine Goes.rg fol [(2, .ptr 0 0), (3, .ptr 1 0), (5, .i x1), (7, .bool some_19), (8, .bool open__20), (9, .i i_21), (64, .bool (decide (i_21 < (r.Slings.length : Int))))] [.cells [.i r.Day, vl qa r.Slings], .cells [.i e.Number, .str e.Kind, vl encS e.Names, vl encI e.Values, .str e.Text]] ?_
              refine Goes.ifB (b := decide (i_21 < (r.Slings.length : Int))) (by kernel_rfl) (fun c25 => ?_) (fun c25 => ?_)
              · rw [if_pos (ot c25)] at g24
                refine Goes.skip ?_
                refine sq ?_
                obtain ⟨r28, g28, g24⟩ := bnd g24
                refine Goes.imp (Q := fun x s' => (x = .normal ∧ ∃ some_26 open__27, (some_26, open__27) = r28 ∧ Sub s' (ofG 127 [(2, .ptr 0 0), (3, .ptr 1 0), (5, .i x1), (7, .bool some_26), (8, .bool open__27), (9, .i i_21)], [.cells [.i r.Day, vl qa r.Slings], .cells [.i e.Number, .str e.Kind, vl encS e.Names, vl encI e.Values, .str e.Text]]))) ?_ ?_
                · refine Goes.block ?_
                  refine sq ?_
                  obtain ⟨x29, e_x29, g28⟩ := bnd g28
                  obtain ⟨x30, e_x30, g28⟩ := bnd g28
                  refine Goes.ro fol [(3, (.done (.fptr (r.Slings.flatMap qa.c) ((i_21 : Int).toNat * 9 + 0)))), (5, (.done (.str x29.Batch))), (8, (.done (.fptr (e.Names.flatMap encS.c) ((0 : Int).toNat * 1 + 0)))), (9, (.done (.str x30)))] [(2, .ptr 0 0), (3, .ptr 1 0), (5, .i x1), (7, .bool some_19), (8, .bool open__20), (9, .i i_21), (77, .bool (x29.Batch == x30))] [.cells [.i r.Day, vl qa r.Slings], .cells [.i e.Number, .str e.Kind, vl encS e.Names, vl encI e.Values, .str e.Text]] [.done (.opt (qj Tryz.prog 35 (vl qa r.Slings) (.i i_21))) (.fptr (r.Slings.flatMap qa.c) ((i_21 : Int).toNat * 9 + 0)), .done (qz Tryz.prog 9 (.fptr (r.Slings.flatMap qa.c) ((i_21 : Int).toNat * 9 + 1))) (.str x29.Batch), .done (.opt (qj Tryz.prog 23 (vl encS e.Names) (.i 0))) (.fptr (e.Names.flatMap encS.c) ((0 : Int).toNat * 1 + 0)), .done (qz Tryz.prog 9 (.fptr (e.Names.flatMap encS.c) ((0 : Int).toNat * 1 + 0))) (.str x30)] (And.intro (qF xW (E := qa) rfl e_x29) (And.intro (qJ ce9 (E := qa) rfl e_x29 (Nat.le_of_ble_eq_true rfl) rfl) (And.intro (qF xe (E := encS) rfl e_x30) (And.intro (qJ ce9 (E := encS) rfl e_x30 (Nat.le_of_ble_eq_true rfl) rfl) trivial)))) ?_
                  refine Goes.ifB (b := x29.Batch == x30) (by kernel_rfl) (fun c31 => ?_) (fun c31 => ?_)
                  · rw [if_pos (c31)] at g28
                    refine sq ?_
                    refine Goes.rg fol [(2, .ptr 0 0), (3, .ptr 1 0), (5, .i x1), (7, .bool true), (8, .bool open__20), (9, .i i_21)] [.cells [.i r.Day, vl qa r.Slings], .cells [.i e.Number, .str e.Kind, vl encS e.Names, vl encI e.Values, .str e.Text]] ?_
                    obtain ⟨open__34, g_v35, g28⟩ := bnd g28
                    refine Goes.cut (s' := (ofG 127 [(2, .ptr 0 0), (3, .ptr 1 0), (5, .i x1), (7, .bool true), (8, .bool open__34), (9, .i i_21)], [.cells [.i r.Day, vl qa r.Slings], .cells [.i e.Number, .str e.Kind, vl encS e.Names, vl encI e.Values, .str e.Text]])) ?_ ?_
                    · rcases Bool.eq_false_or_eq_true (open__20) with c32 | c32
                      · rw [if_pos (c32)] at g_v35
                        obtain rfl := Option.some.inj g_v35
                        exact qp.ro fol [(1, (.done (.bool true)))] [(2, .ptr 0 0), (3, .ptr 1 0), (5, .i x1), (7, .bool true), (8, .bool true), (9, .i i_21)] [.cells [.i r.Day, vl qa r.Slings], .cells [.i e.Number, .str e.Kind, vl encS e.Names, vl encI e.Values, .str e.Text]] [.done (.done (.bool open__20)) (.bool true)] (And.intro (congrArg (fun x => Pg.done (.bool x)) c32) trivial)
                      · rw [if_neg (by rw [c32]; exact Bool.false_ne_true)] at g_v35
                        obtain ⟨r33, e_r33, g_v35⟩ := bnd g_v35
                        obtain rfl := Option.some.inj g_v35
                        exact qp.ro fol [(1, (.done (.bool false))), (5, (.done (.fptr (r.Slings.flatMap qa.c) ((i_21 : Int).toNat * 9 + 0)))), (6, (.done (.agg [.str x29.Name, .str x29.Batch, .i x29.Born, .i x29.Last, .i x29.Uses, .i x29.Used, .i x29.Limit, .i x29.Until, .bool x29.Gone]))), (8, (.call [] [.agg [.str x29.Name, .str x29.Batch, .i x29.Born, .i x29.Last, .i x29.Uses, .i x29.Used, .i x29.Limit, .i x29.Until, .bool x29.Gone], .i x1] (.bool r33)))] [(2, .ptr 0 0), (3, .ptr 1 0), (5, .i x1), (7, .bool true), (8, .bool (!r33)), (9, .i i_21)] [.cells [.i r.Day, vl qa r.Slings], .cells [.i e.Number, .str e.Kind, vl encS e.Names, vl encI e.Values, .str e.Text]] [.done (.done (.bool open__20)) (.bool false), .done (.opt (qj Tryz.prog 35 (vl qa r.Slings) (.i i_21))) (.fptr (r.Slings.flatMap qa.c) ((i_21 : Int).toNat * 9 + 0)), .done (qz Tryz.prog 60 (.fptr (r.Slings.flatMap qa.c) ((i_21 : Int).toNat * 9 + 0))) (.agg [.str x29.Name, .str x29.Batch, .i x29.Born, .i x29.Last, .i x29.Uses, .i x29.Used, .i x29.Limit, .i x29.Until, .bool x29.Gone]), .call 33 [.agg [.str x29.Name, .str x29.Batch, .i x29.Born, .i x29.Last, .i x29.Uses, .i x29.Used, .i x29.Limit, .i x29.Until, .bool x29.Gone], .i x1] [.cells [.i r.Day, vl qa r.Slings], .cells [.i e.Number, .str e.Kind, vl encS e.Names, vl encI e.Values, .str e.Text]] [] [.agg [.str x29.Name, .str x29.Batch, .i x29.Born, .i x29.Last, .i x29.Uses, .i x29.Used, .i x29.Limit, .i x29.Until, .bool x29.Gone], .i x1] (.bool r33)] (And.intro (congrArg (fun x => Pg.done (.bool x)) c32) (And.intro (qF xW (E := qa) rfl e_x29) (And.intro (qax ag60 (E := qa) rfl e_x29) (And.intro (qo (AllST.cons (Still.agg (AllST.cons (Still.str 10 _) (AllST.cons (Still.str 10 _) (AllST.cons (Still.int 10 _ _) (AllST.cons (Still.int 10 _ _) (AllST.cons (Still.int 10 _ _) (AllST.cons (Still.int 10 _ _) (AllST.cons (Still.int 10 _ _) (AllST.cons (Still.int 10 _ _) (AllST.cons (Still.bool 10 _) AllST.nil)))))))))) (AllST.cons (Still.int 11 _ _) AllST.nil)) (yE x29 x1 e_r33) (Still.bool 11 _)) trivial))))
                    obtain rfl := Option.some.inj g28
                    exact ⟨rfl, _, _, rfl, (Sub.refl _)⟩
                  · rw [if_neg (by rw [c31]; exact Bool.false_ne_true)] at g28
                    refine Goes.skip ?_
                    obtain rfl := Option.some.inj g28
                    exact ⟨rfl, _, _, rfl, (Sub.keep [2, 3, 5, 7, 8, 9] rfl rfl)⟩
                rintro x s' ⟨rfl, some_26, open__27, rfl, hsub⟩
                try dsimp only at g24
                refine Goes.sub hsub ?_
                refine Goes.rg fol [(2, .ptr 0 0), (3, .ptr 1 0), (5, .i x1), (7, .bool some_26), (8, .bool open__27), (9, .i (w64 (i_21 + 1)))] [.cells [.i r.Day, vl qa r.Slings], .cells [.i e.Number, .str e.Kind, vl encS e.Names, vl encI e.Values, .str e.Text]] ?_
                exact ⟨M, (ofG 127 [(2, .ptr 0 0), (3, .ptr 1 0), (5, .i x1), (7, .bool some_26), (8, .bool open__27), (9, .i (w64 (i_21 + 1)))], [.cells [.i r.Day, vl qa r.Slings], .cells [.i e.Number, .str e.Kind, vl encS e.Names, vl encI e.Values, .str e.Text]]), Nat.lt_succ_self _, (Sub.refl _), _, _, _, rfl, g24⟩
              · rw [if_neg (of_ c25)] at g24
                refine Goes.exit ?_
                obtain rfl := Option.some.inj g24
                exact ⟨rfl, _, _, rfl, (Sub.norm [] [] rfl rfl (.drop (.drop (.drop (.keep (.same (qc.bool _)) (.keep (.same (qc.bool _)) .nil))))) .nil)⟩
          rintro x s' ⟨rfl, some_22, open__23, rfl, hsub⟩
          try dsimp only at h
          refine Goes.sub hsub ?_
          refine sq ?_
          refine sq ?_
          refine Goes.rg fol [(8, .bool open__23), (90, .bool (!some_22))] [] ?_
          refine Goes.ifB (b := !some_22) (by kernel_rfl) (fun c36 => ?_) (fun c36 => ?_)
          · rw [if_pos (c36)] at h
            refine sq ?_
            refine Goes.rg fol [(4, .i 10)] [] ?_
            refine Goes.ret ?_
            obtain rfl := Option.some.inj h
            exact (Goes.retW (xs := [.i 10]) (by kernel_rfl) (FzW.still (Still.int 11 _ _)))
          · rw [if_neg (by rw [c36]; exact Bool.false_ne_true)] at h
            refine Goes.skip ?_
            refine sq ?_
            refine sq ?_
            refine Goes.rg fol [(92, .bool (!open__23))] [] ?_
            refine Goes.ifB (b := !open__23) (by kernel_rfl) (fun c37 => ?_) (fun c37 => ?_)
            · rw [if_pos (c37)] at h
              refine sq ?_
              refine Goes.rg fol [(4, .i 20)] [] ?_
              refine Goes.ret ?_
              obtain rfl := Option.some.inj h
              exact (Goes.retW (xs := [.i 20]) (by kernel_rfl) (FzW.still (Still.int 11 _ _)))
            · rw [if_neg (by rw [c37]; exact Bool.false_ne_true)] at h
              refine Goes.skip ?_
              refine sq ?_
              refine Goes.rg fol [(4, .i 0)] [] ?_
              refine Goes.ret ?_
              obtain rfl := Option.some.inj h
              exact (Goes.retW (xs := [.i 0]) (by kernel_rfl) (FzW.still (Still.int 11 _ _)))
        · rw [if_neg (by rw [c18]; exact Bool.false_ne_true)] at h
          refine Goes.skip ?_
          refine sq ?_
          refine sq ?_
          refine Goes.rg fol [(2, .ptr 0 0), (3, .ptr 1 0), (5, .i x1), (6, .i r5), (94, .bool (decide (r5 < 0)))] [.cells [.i r.Day, vl qa r.Slings], .cells [.i e.Number, .str e.Kind, vl encS e.Names, vl encI e.Values, .str e.Text]] ?_
          refine Goes.ifB (b := decide (r5 < 0)) (by kernel_rfl) (fun c38 => ?_) (fun c38 => ?_)
          · rw [if_pos (ot c38)] at h
            refine sq ?_
            refine Goes.rg fol [(4, .i 10)] [.cells [.i r.Day, vl qa r.Slings], .cells [.i e.Number, .str e.Kind, vl encS e.Names, vl encI e.Values, .str e.Text]] ?_
            refine Goes.ret ?_
            obtain rfl := Option.some.inj h
            exact (Goes.retW (xs := [.i 10]) (by kernel_rfl) (FzW.still (Still.int 11 _ _)))
          · rw [if_neg (of_ c38)] at h
            refine Goes.skip ?_
            refine sq ?_
            obtain ⟨x39, e_x39, h⟩ := bnd h
            refine Goes.ro fol [(3, (.done (.fptr (r.Slings.flatMap qa.c) ((r5 : Int).toNat * 9 + 0)))), (4, (.done (.agg [.str x39.Name, .str x39.Batch, .i x39.Born, .i x39.Last, .i x39.Uses, .i x39.Used, .i x39.Limit, .i x39.Until, .bool x39.Gone])))] [(3, .ptr 1 0), (5, .i x1), (10, .ptr 2 0)] [.cells [.i r.Day, vl qa r.Slings], .cells [.i e.Number, .str e.Kind, vl encS e.Names, vl encI e.Values, .str e.Text], .cells [.str x39.Name, .str x39.Batch, .i x39.Born, .i x39.Last, .i x39.Uses, .i x39.Used, .i x39.Limit, .i x39.Until, .bool x39.Gone]] [.done (.opt (qj Tryz.prog 35 (vl qa r.Slings) (.i r5))) (.fptr (r.Slings.flatMap qa.c) ((r5 : Int).toNat * 9 + 0)), .done (qz Tryz.prog 60 (.fptr (r.Slings.flatMap qa.c) ((r5 : Int).toNat * 9 + 0))) (.agg [.str x39.Name, .str x39.Batch, .i x39.Born, .i x39.Last, .i x39.Uses, .i x39.Used, .i x39.Limit, .i x39.Until, .bool x39.Gone])] (And.intro (qF xW (E := qa) rfl e_x39) (And.intro (qax ag60 (E := qa) rfl e_x39) trivial)) ?_
            refine sq ?_
            refine sq ?_
            obtain ⟨r40, e_r40, h⟩ := bnd h
            refine Goes.ro fol [(2, (.call [] [.agg [.str x39.Name, .str x39.Batch, .i x39.Born, .i x39.Last, .i x39.Uses, .i x39.Used, .i x39.Limit, .i x39.Until, .bool x39.Gone], .i x1] (.bool r40)))] [(3, .ptr 1 0), (5, .i x1), (10, .ptr 2 0), (102, .bool r40)] [.cells [.i r.Day, vl qa r.Slings], .cells [.i e.Number, .str e.Kind, vl encS e.Names, vl encI e.Values, .str e.Text], .cells [.str x39.Name, .str x39.Batch, .i x39.Born, .i x39.Last, .i x39.Uses, .i x39.Used, .i x39.Limit, .i x39.Until, .bool x39.Gone]] [.call 33 [.agg [.str x39.Name, .str x39.Batch, .i x39.Born, .i x39.Last, .i x39.Uses, .i x39.Used, .i x39.Limit, .i x39.Until, .bool x39.Gone], .i x1] [.cells [.i r.Day, vl qa r.Slings], .cells [.i e.Number, .str e.Kind, vl encS e.Names, vl encI e.Values, .str e.Text], .cells [.str x39.Name, .str x39.Batch, .i x39.Born, .i x39.Last, .i x39.Uses, .i x39.Used, .i x39.Limit, .i x39.Until, .bool x39.Gone]] [] [.agg [.str x39.Name, .str x39.Batch, .i x39.Born, .i x39.Last, .i x39.Uses, .i x39.Used, .i x39.Limit, .i x39.Until, .bool x39.Gone], .i x1] (.bool r40)] (And.intro (qo (AllST.cons (Still.agg (AllST.cons (Still.str 10 _) (AllST.cons (Still.str 10 _) (AllST.cons (Still.int 10 _ _) (AllST.cons (Still.int 10 _ _) (AllST.cons (Still.int 10 _ _) (AllST.cons (Still.int 10 _ _) (AllST.cons (Still.int 10 _ _) (AllST.cons (Still.int 10 _ _) (AllST.cons (Still.bool 10 _) AllST.nil)))))))))) (AllST.cons (Still.int 11 _ _) AllST.nil)) (yE x39 x1 e_r40) (Still.bool 11 _)) trivial) ?_
            refine Goes.ifB (b := r40) (by kernel_rfl) (fun c41 => ?_) (fun c41 => ?_)
            · rw [if_pos (c41)] at h
              refine sq ?_
              refine Goes.rg fol [(4, .i 20)] [.cells [.i r.Day, vl qa r.Slings], .cells [.i e.Number, .str e.Kind, vl encS e.Names, vl encI e.Values, .str e.Text], .cells [.str x39.Name, .str x39.Batch, .i x39.Born, .i x39.Last, .i x39.Uses, .i x39.Used, .i x39.Limit, .i x39.Until, .bool x39.Gone]] ?_
              refine Goes.ret ?_
              obtain rfl := Option.some.inj h
              exact (Goes.retW (xs := [.i 20]) (by kernel_rfl) (FzW.still (Still.int 11 _ _)))
            · rw [if_neg (by rw [c41]; exact Bool.false_ne_true)] at h
              refine Goes.skip ?_
              refine sq ?_
              refine sq ?_
              obtain ⟨b45, g_v46, h⟩ := bnd h
              refine Goes.cut (s' := (ofG 127 [(3, .ptr 1 0), (5, .i x1), (10, .ptr 2 0), (112, .bool b45)], [.cells [.i r.Day, vl qa r.Slings], .cells [.i e.Number, .str e.Kind, vl encS e.Names, vl encI e.Values, .str e.Text], .cells [.str x39.Name, .str x39.Batch, .i x39.Born, .i x39.Last, .i x39.Uses, .i x39.Used, .i x39.Limit, .i x39.Until, .bool x39.Gone]])) ?_ ?_
              · rcases Bool.eq_false_or_eq_true (e.Kind == [116, 101, 115, 116]) with c42 | c42
                · rw [if_pos (c42)] at g_v46
                  obtain ⟨x43, e_x43, g_v46⟩ := bnd g_v46
                  obtain ⟨r44, e_r44, g_v46⟩ := bnd g_v46
                  obtain rfl := Option.some.inj g_v46
                  exact qp.ro fol [(3, (.done (.bool true))), (6, (.done (.fptr (e.Values.flatMap encI.c) ((1 : Int).toNat * 1 + 0)))), (7, (.done (.i x43))), (8, (.call [] [.i x43, .i 2, .i 999999999] (.bool r44)))] [(3, .ptr 1 0), (5, .i x1), (10, .ptr 2 0), (112, .bool r44)] [.cells [.i r.Day, vl qa r.Slings], .cells [.i e.Number, .str e.Kind, vl encS e.Names, vl encI e.Values, .str e.Text], .cells [.str x39.Name, .str x39.Batch, .i x39.Born, .i x39.Last, .i x39.Uses, .i x39.Used, .i x39.Limit, .i x39.Until, .bool x39.Gone]] [.done (.done (.bool (e.Kind == [116, 101, 115, 116]))) (.bool true), .done (.opt (qj Tryz.prog 24 (vl encI e.Values) (.i 1))) (.fptr (e.Values.flatMap encI.c) ((1 : Int).toNat * 1 + 0)), .done (qz Tryz.prog 3 (.fptr (e.Values.flatMap encI.c) ((1 : Int).toNat * 1 + 0))) (.i x43), .call 36 [.i x43, .i 2, .i 999999999] [.cells [.i r.Day, vl qa r.Slings], .cells [.i e.Number, .str e.Kind, vl encS e.Names, vl encI e.Values, .str e.Text], .cells [.str x39.Name, .str x39.Batch, .i x39.Born, .i x39.Last, .i x39.Uses, .i x39.Used, .i x39.Limit, .i x39.Until, .bool x39.Gone]] [] [.i x43, .i 2, .i 999999999] (.bool r44)] (And.intro (congrArg (fun x => Pg.done (.bool x)) c42) (And.intro (qF vN (E := encI) rfl e_x43) (And.intro (qJ ce3 (E := encI) rfl e_x43 (Nat.le_of_ble_eq_true rfl) rfl) (And.intro (qo (AllST.cons (Still.int 11 _ _) (AllST.cons (Still.int 11 _ _) (AllST.cons (Still.int 11 _ _) AllST.nil))) (kU x43 2 999999999 e_r44) (Still.bool 11 _)) trivial))))
                · rw [if_neg (by rw [c42]; exact Bool.false_ne_true)] at g_v46
                  obtain rfl := Option.some.inj g_v46
                  exact qp.ro fol [(3, (.done (.bool false)))] [(3, .ptr 1 0), (5, .i x1), (10, .ptr 2 0), (112, .bool false)] [.cells [.i r.Day, vl qa r.Slings], .cells [.i e.Number, .str e.Kind, vl encS e.Names, vl encI e.Values, .str e.Text], .cells [.str x39.Name, .str x39.Batch, .i x39.Born, .i x39.Last, .i x39.Uses, .i x39.Used, .i x39.Limit, .i x39.Until, .bool x39.Gone]] [.done (.done (.bool (e.Kind == [116, 101, 115, 116]))) (.bool false)] (And.intro (congrArg (fun x => Pg.done (.bool x)) c42) trivial)
              refine Goes.ifB (b := b45) (by kernel_rfl) (fun c47 => ?_) (fun c47 => ?_)
              · rw [if_pos (c47)] at h
                refine sq ?_
                refine Goes.rg fol [(4, .i 3)] [.cells [.i r.Day, vl qa r.Slings], .cells [.i e.Number, .str e.Kind, vl encS e.Names, vl encI e.Values, .str e.Text], .cells [.str x39.Name, .str x39.Batch, .i x39.Born, .i x39.Last, .i x39.Uses, .i x39.Used, .i x39.Limit, .i x39.Until, .bool x39.Gone]] ?_
                refine Goes.ret ?_
                obtain rfl := Option.some.inj h
                exact (Goes.retW (xs := [.i 3]) (by kernel_rfl) (FzW.still (Still.int 11 _ _)))
              · rw [if_neg (by rw [c47]; exact Bool.false_ne_true)] at h
                refine Goes.skip ?_
                refine sq ?_
                refine sq ?_
                refine Goes.rg fol [(3, .ptr 1 0), (5, .i x1), (10, .ptr 2 0), (115, .bool (e.Kind == [117, 115, 101]))] [.cells [.i r.Day, vl qa r.Slings], .cells [.i e.Number, .str e.Kind, vl encS e.Names, vl encI e.Values, .str e.Text], .cells [.str x39.Name, .str x39.Batch, .i x39.Born, .i x39.Last, .i x39.Uses, .i x39.Used, .i x39.Limit, .i x39.Until, .bool x39.Gone]] ?_
                obtain ⟨r48, g48, h⟩ := bnd h
                refine Goes.imp (Q := fun x s' => (x = .normal ∧ (.inl ()) = r48 ∧ Sub s' (ofG 127 [], [])) ∨ (x = .ret ∧ ∃ q49, (.inr q49) = r48 ∧ zG Tryz.prog [.tmp 4] (.i q49) .ret s')) ?_ ?_
                · refine Goes.ifB (b := e.Kind == [117, 115, 101]) (by kernel_rfl) (fun c50 => ?_) (fun c50 => ?_)
                  · rw [if_pos (c50)] at g48
                    refine sq ?_
                    refine sq ?_
                    obtain ⟨r51, e_r51, g48⟩ := bnd g48
                    refine Goes.ro fol [(2, (.call [] [.agg [.str x39.Name, .str x39.Batch, .i x39.Born, .i x39.Last, .i x39.Uses, .i x39.Used, .i x39.Limit, .i x39.Until, .bool x39.Gone], .i x1] (.bool r51)))] [(3, .ptr 1 0), (10, .ptr 2 0), (119, .bool (!r51))] [.cells [.i r.Day, vl qa r.Slings], .cells [.i e.Number, .str e.Kind, vl encS e.Names, vl encI e.Values, .str e.Text], .cells [.str x39.Name, .str x39.Batch, .i x39.Born, .i x39.Last, .i x39.Uses, .i x39.Used, .i x39.Limit, .i x39.Until, .bool x39.Gone]] [.call 34 [.agg [.str x39.Name, .str x39.Batch, .i x39.Born, .i x39.Last, .i x39.Uses, .i x39.Used, .i x39.Limit, .i x39.Until, .bool x39.Gone], .i x1] [.cells [.i r.Day, vl qa r.Slings], .cells [.i e.Number, .str e.Kind, vl encS e.Names, vl encI e.Values, .str e.Text], .cells [.str x39.Name, .str x39.Batch, .i x39.Born, .i x39.Last, .i x39.Uses, .i x39.Used, .i x39.Limit, .i x39.Until, .bool x39.Gone]] [] [.agg [.str x39.Name, .str x39.Batch, .i x39.Born, .i x39.Last, .i x39.Uses, .i x39.Used, .i x39.Limit, .i x39.Until, .bool x39.Gone], .i x1] (.bool r51)] (And.intro (qo (AllST.cons (Still.agg (AllST.cons (Still.str 10 _) (AllST.cons (Still.str 10 _) (AllST.cons (Still.int 10 _ _) (AllST.cons (Still.int 10 _ _) (AllST.cons (Still.int 10 _ _) (AllST.cons (Still.int 10 _ _) (AllST.cons (Still.int 10 _ _) (AllST.cons (Still.int 10 _ _) (AllST.cons (Still.bool 10 _) AllST.nil)))))))))) (AllST.cons (Still.int 11 _ _) AllST.nil)) (qaP x39 x1 e_r51) (Still.bool 11 _)) trivial) ?_
                    refine Goes.ifB (b := !r51) (by kernel_rfl) (fun c52 => ?_) (fun c52 => ?_)
                    · rw [if_pos (c52)] at g48
                      refine sq ?_
                      refine Goes.rg fol [(4, .i 24)] [.cells [.i r.Day, vl qa r.Slings], .cells [.i e.Number, .str e.Kind, vl encS e.Names, vl encI e.Values, .str e.Text], .cells [.str x39.Name, .str x39.Batch, .i x39.Born, .i x39.Last, .i x39.Uses, .i x39.Used, .i x39.Limit, .i x39.Until, .bool x39.Gone]] ?_
                      refine Goes.ret ?_
                      obtain rfl := Option.some.inj g48
                      exact Or.inr (⟨rfl, _, rfl, (Goes.retW (xs := [.i 24]) (by kernel_rfl) (FzW.still (Still.int 11 _ _)))⟩)
                    · rw [if_neg (by rw [c52]; exact Bool.false_ne_true)] at g48
                      refine Goes.skip ?_
                      refine sq ?_
                      obtain ⟨x53, e_x53, g48⟩ := bnd g48
                      refine Goes.ro fol [(2, (.done (.fptr (e.Values.flatMap encI.c) ((1 : Int).toNat * 1 + 0)))), (3, (.done (.i x53)))] [(126, .bool (decide (x53 > x39.Limit)))] [.cells [.i r.Day, vl qa r.Slings], .cells [.i e.Number, .str e.Kind, vl encS e.Names, vl encI e.Values, .str e.Text], .cells [.str x39.Name, .str x39.Batch, .i x39.Born, .i x39.Last, .i x39.Uses, .i x39.Used, .i x39.Limit, .i x39.Until, .bool x39.Gone]] [.done (.opt (qj Tryz.prog 24 (vl encI e.Values) (.i 1))) (.fptr (e.Values.flatMap encI.c) ((1 : Int).toNat * 1 + 0)), .done (qz Tryz.prog 3 (.fptr (e.Values.flatMap encI.c) ((1 : Int).toNat * 1 + 0))) (.i x53)] (And.intro (qF vN (E := encI) rfl e_x53) (And.intro (qJ ce3 (E := encI) rfl e_x53 (Nat.le_of_ble_eq_true rfl) rfl) trivial)) ?_
                      refine Goes.ifB (b := decide (x53 > x39.Limit)) (by kernel_rfl) (fun c54 => ?_) (fun c54 => ?_)
                      · rw [if_pos (ot c54)] at g48
                        refine sq ?_
                        refine Goes.rg fol [(4, .i 31)] [.cells [.i r.Day, vl qa r.Slings], .cells [.i e.Number, .str e.Kind, vl encS e.Names, vl encI e.Values, .str e.Text], .cells [.str x39.Name, .str x39.Batch, .i x39.Born, .i x39.Last, .i x39.Uses, .i x39.Used, .i x39.Limit, .i x39.Until, .bool x39.Gone]] ?_
                        refine Goes.ret ?_
                        obtain rfl := Option.some.inj g48
                        exact Or.inr (⟨rfl, _, rfl, (Goes.retW (xs := [.i 31]) (by kernel_rfl) (FzW.still (Still.int 11 _ _)))⟩)
                      · rw [if_neg (of_ c54)] at g48
                        refine Goes.skip ?_
                        obtain rfl := Option.some.inj g48
                        exact Or.inl (⟨rfl, rfl, (Sub.norm [] [] rfl rfl .nil .nil)⟩)
                  · rw [if_neg (by rw [c50]; exact Bool.false_ne_true)] at g48
                    refine Goes.skip ?_
                    obtain rfl := Option.some.inj g48
                    exact Or.inl (⟨rfl, rfl, (Sub.norm [] [] rfl rfl .nil .nil)⟩)
                rintro x s' (⟨rfl, rfl, hsub⟩ | ⟨rfl, q55, rfl, hret⟩)
                · try dsimp only at h
                  refine Goes.sub hsub ?_
                  refine sq ?_
                  refine Goes.rg fol [(4, .i 0)] [] ?_
                  refine Goes.ret ?_
                  obtain rfl := Option.some.inj h
                  exact (Goes.retW (xs := [.i 0]) (by kernel_rfl) (FzW.still (Still.int 11 _ _)))
                · try dsimp only at h
                  obtain rfl := Option.some.inj h
                  exact hret
def kX (N : Nat) (l : List qm) : Nat → (List qm) → Int → Option ((List qm) ⊕ ((List qm) × Int × Int))
  | 0, _, _ => none
  | K + 1, counted_1, i_2 =>
    if i_2 < (l.length : Int) then
    (((idx l i_2).bind fun x10 =>
    (jN N x10).bind fun r11 =>
    (if r11 = 0 then
    some (!decide (x10.Number = (w64 (i_2 + 1))))
    else
    some false : Option Bool).bind fun b13 =>
    ((if b13 = true then
    some 11
    else
    some r11 : Option Int)).bind fun e_15 =>
    (if e_15 = 0 then
    if (x10.Kind == [117, 110, 100, 111]) = true then
    some (decide ((counted_1.length : Int) = 0))
    else
    some false
    else
    some false : Option Bool).bind fun b20 =>
    ((if b20 = true then
    some 12
    else
    some e_15 : Option Int)).bind fun e_22 =>
    (if e_22 = 0 then
    some (!(x10.Kind == [117, 110, 100, 111]))
    else
    some false : Option Bool).bind fun b26 =>
    ((if b26 = true then
    (qW N counted_1).bind fun r31 =>
    (kC N r31 x10).bind fun r32 =>
    some r32
    else
    some e_22 : Option Int)).bind fun e_28 =>
    if (!decide (e_28 = 0)) = true then
    some (.inr ([], w64 (i_2 + 1), e_28))
    else
    if (x10.Kind == [117, 110, 100, 111]) = true then
    (cut counted_1 0 (w64 ((counted_1.length : Int) - 1))).bind fun s35 =>
    some (.inl s35)
    else
    (app 88 ([] : List qm) counted_1).bind fun l36 =>
    (app 88 l36 [x10]).bind fun l37 =>
    some (.inl l37) : Option ((List qm) ⊕ ((List qm) × Int × Int)))).bind (fun
    | (.inl counted_7) =>
    kX N l K counted_7 (w64 (i_2 + 1))
    | (.inr q38) =>
    some (.inr q38))
    else
    some (.inl counted_1)
def jh (N : Nat) (l : List qm) : Option ((List qm) × Int × Int) :=
  (kX N l N ([] : List qm) 0).bind (fun
  | (.inl counted_3) =>
  some (counted_3, 0, 0)
  | (.inr q39) =>
  some q39)
theorem xZ (N : Nat) (l : List qm) {res : (List qm) × Int × Int} (h : jh N l = some res) : qw Tryz.prog (.fn 83) [vl qb l] [] (.tuple [vl qb res.1, .i res.2.1, .i res.2.2]) [] := by
  unfold jh at h
  refine Goes.fnW Tryz.func83 rfl rfl (m := 82) rfl (rs := [.tmp 2, .tmp 3, .tmp 4]) rfl (l := [(0, vl qb l)]) rfl ?_
  refine sq ?_
  refine Goes.rg fol [(0, vl qb l)] [] ?_
  refine sq ?_
  refine Goes.rg fol [(0, vl qb l), (5, .nilslice)] [] ?_
  refine sq ?_
  refine sq ?_
  refine Goes.rg fol [(0, vl qb l), (5, .nilslice), (6, .i 0)] [] ?_
  refine Goes.block ?_
  obtain ⟨r4, g4, h⟩ := bnd h
  refine Goes.imp (Q := fun x s' => (x = .exit 0 ∧ ∃ counted_3, (.inl counted_3) = r4 ∧ Sub s' (ofG 82 [(5, vl qb counted_3)], [])) ∨ (x = .ret ∧ ∃ q5, (.inr q5) = r4 ∧ zG Tryz.prog [.tmp 2, .tmp 3, .tmp 4] (.tuple [vl qb q5.1, .i q5.2.1, .i q5.2.2]) .ret s')) ?_ ?_
  · refine Goes.sub (s' := (ofG 82 [(0, vl qb l), (5, vl qb ([] : List qm)), (6, .i 0)], [])) (Sub.norm [] [] rfl rfl (.keep (.same (ql qb _)) (.keep .nilv (.keep (.same (qc.int _ _)) .nil))) .nil) ?_
    refine Goes.loopS (fun M s => ∃ (counted_1 : List qm) (i_2 : Int), s = (ofG 82 [(0, vl qb l), (5, vl qb counted_1), (6, .i i_2)], []) ∧ kX N l M counted_1 i_2 = some r4) ?_ (m := N) ⟨_, _, rfl, g4⟩
    rintro M s ⟨counted_1, i_2, rfl, g4⟩
    cases M with
    | zero => simp only [kX] at g4; cases g4
    | succ M =>
      rw [kX] at g4
      refine sq ?_
      refine sq ?_
      refine Goes.rg fol [(0, vl qb l), (5, vl qb counted_1), (6, .i i_2), (12, .bool (decide (i_2 < (l.length : Int))))] [] ?_
      refine Goes.ifB (b := decide (i_2 < (l.length : Int))) (by kernel_rfl) (fun c6 => ?_) (fun c6 => ?_)
      · rw [if_pos (ot c6)] at g4
        refine Goes.skip ?_
        refine sq ?_
        obtain ⟨r8, g8, g4⟩ := bnd g4
        refine Goes.imp (Q := fun x s' => (x = .normal ∧ ∃ counted_7, (.inl counted_7) = r8 ∧ Sub s' (ofG 82 [(0, vl qb l), (5, vl qb counted_7), (6, .i i_2)], [])) ∨ (x = .ret ∧ ∃ q9, (.inr q9) = r8 ∧ zG Tryz.prog [.tmp 2, .tmp 3, .tmp 4] (.tuple [vl qb q9.1, .i q9.2.1, .i q9.2.2]) .ret s')) ?_ ?_
        · refine Goes.block ?_
          refine sq ?_
          obtain ⟨x10, e_x10, g8⟩ := bnd g8
          obtain ⟨r11, e_r11, g8⟩ := bnd g8
          refine Goes.ro fol [(2, (.done (.fptr (l.flatMap qb.c) ((i_2 : Int).toNat * 5 + 0)))), (3, (.done (.agg [.i x10.Number, .str x10.Kind, vl encS x10.Names, vl encI x10.Values, .str x10.Text]))), (4, (.call [] [.agg [.i x10.Number, .str x10.Kind, vl encS x10.Names, vl encI x10.Values, .str x10.Text]] (.i r11)))] [(0, vl qb l), (5, vl qb counted_1), (6, .i i_2), (7, .i r11)] [] [.done (.opt (qj Tryz.prog 22 (vl qb l) (.i i_2))) (.fptr (l.flatMap qb.c) ((i_2 : Int).toNat * 5 + 0)), .done (qz Tryz.prog 26 (.fptr (l.flatMap qb.c) ((i_2 : Int).toNat * 5 + 0))) (.agg [.i x10.Number, .str x10.Kind, vl encS x10.Names, vl encI x10.Values, .str x10.Text]), .call 19 [.agg [.i x10.Number, .str x10.Kind, vl encS x10.Names, vl encI x10.Values, .str x10.Text]] [] [] [.agg [.i x10.Number, .str x10.Kind, vl encS x10.Names, vl encI x10.Values, .str x10.Text]] (.i r11)] (And.intro (qF yL (E := qb) rfl e_x10) (And.intro (qax qf5 (E := qb) rfl e_x10) (And.intro (qo (AllST.cons (Still.agg (AllST.cons (Still.int 10 _ _) (AllST.cons (Still.str 10 _) (AllST.cons (qx encS _ (Nat.le_of_ble_eq_true rfl)) (AllST.cons (qx encI _ (Nat.le_of_ble_eq_true rfl)) (AllST.cons (Still.str 10 _) AllST.nil)))))) AllST.nil) (qbg N x10 e_r11) (Still.int 11 _ _)) trivial))) ?_
          refine sq ?_
          refine sq ?_
          obtain ⟨b13, g_v14, g8⟩ := bnd g8
          refine Goes.cut (s' := (ofG 82 [(0, vl qb l), (5, vl qb counted_1), (6, .i i_2), (7, .i r11), (31, .bool b13)], [])) ?_ ?_
          · rcases Bool.eq_false_or_eq_true (decide (r11 = 0)) with c12 | c12
            · rw [if_pos (ot c12)] at g_v14
              obtain rfl := Option.some.inj g_v14
              exact qp.ro fol [(2, (.done (.bool true))), (5, (.done (.fptr (l.flatMap qb.c) ((i_2 : Int).toNat * 5 + 0)))), (7, (.done (.i x10.Number)))] [(0, vl qb l), (5, vl qb counted_1), (6, .i i_2), (7, .i r11), (31, .bool (!decide (x10.Number = (w64 (i_2 + 1)))))] [] [.done (.done (.bool (decide (r11 = 0)))) (.bool true), .done (.opt (qj Tryz.prog 22 (vl qb l) (.i i_2))) (.fptr (l.flatMap qb.c) ((i_2 : Int).toNat * 5 + 0)), .done (qz Tryz.prog 3 (.fptr (l.flatMap qb.c) ((i_2 : Int).toNat * 5 + 0))) (.i x10.Number)] (And.intro (congrArg (fun x => Pg.done (.bool x)) c12) (And.intro (qF yL (E := qb) rfl e_x10) (And.intro (qJ ce3 (E := qb) rfl e_x10 (Nat.le_of_ble_eq_true rfl) rfl) trivial)))
            · rw [if_neg (of_ c12)] at g_v14
              obtain rfl := Option.some.inj g_v14
              exact qp.ro fol [(2, (.done (.bool false)))] [(0, vl qb l), (5, vl qb counted_1), (6, .i i_2), (7, .i r11), (31, .bool false)] [] [.done (.done (.bool (decide (r11 = 0)))) (.bool false)] (And.intro (congrArg (fun x => Pg.done (.bool x)) c12) trivial)
          obtain ⟨r16, g16, g8⟩ := bnd g8
          refine Goes.imp (Q := fun x s' => (x = .normal ∧ ∃ e_15, e_15 = r16 ∧ Sub s' (ofG 82 [(0, vl qb l), (5, vl qb counted_1), (6, .i i_2), (7, .i e_15)], []))) ?_ ?_
          · refine Goes.ifB (b := b13) (by kernel_rfl) (fun c17 => ?_) (fun c17 => ?_)
            · rw [if_pos (c17)] at g16
              refine Goes.rg fol [(0, vl qb l), (5, vl qb counted_1), (6, .i i_2), (7, .i 11)] [] ?_
              obtain rfl := Option.some.inj g16
              exact ⟨rfl, _, rfl, (Sub.refl _)⟩
            · rw [if_neg (by rw [c17]; exact Bool.false_ne_true)] at g16
              refine Goes.skip ?_
              obtain rfl := Option.some.inj g16
              exact ⟨rfl, _, rfl, (Sub.keep [0, 5, 6, 7] rfl rfl)⟩
          rintro x s' ⟨rfl, e_15, rfl, hsub⟩
          refine Goes.sub hsub ?_
          refine sq ?_
          refine Goes.ro fol [(2, (.done (.fptr (l.flatMap qb.c) ((i_2 : Int).toNat * 5 + 0)))), (4, (.done (.str x10.Kind)))] [(0, vl qb l), (5, vl qb counted_1), (6, .i i_2), (7, .i e_15), (8, .bool (x10.Kind == [117, 110, 100, 111]))] [] [.done (.opt (qj Tryz.prog 22 (vl qb l) (.i i_2))) (.fptr (l.flatMap qb.c) ((i_2 : Int).toNat * 5 + 0)), .done (qz Tryz.prog 9 (.fptr (l.flatMap qb.c) ((i_2 : Int).toNat * 5 + 1))) (.str x10.Kind)] (And.intro (qF yL (E := qb) rfl e_x10) (And.intro (qJ ce9 (E := qb) rfl e_x10 (Nat.le_of_ble_eq_true rfl) rfl) trivial)) ?_
          refine sq ?_
          refine sq ?_
          obtain ⟨b20, g_v21, g8⟩ := bnd g8
          refine Goes.cut (s' := (ofG 82 [(0, vl qb l), (5, vl qb counted_1), (6, .i i_2), (7, .i e_15), (8, .bool (x10.Kind == [117, 110, 100, 111])), (47, .bool b20)], [])) ?_ ?_
          · rcases Bool.eq_false_or_eq_true (decide (e_15 = 0)) with c18 | c18
            · rw [if_pos (ot c18)] at g_v21
              rcases Bool.eq_false_or_eq_true (x10.Kind == [117, 110, 100, 111]) with c19 | c19
              · rw [if_pos (c19)] at g_v21
                obtain rfl := Option.some.inj g_v21
                exact qp.ro fol [(2, (.done (.bool true))), (5, (.done (.bool true)))] [(0, vl qb l), (5, vl qb counted_1), (6, .i i_2), (7, .i e_15), (8, .bool (x10.Kind == [117, 110, 100, 111])), (47, .bool (decide ((counted_1.length : Int) = 0)))] [] [.done (.done (.bool (decide (e_15 = 0)))) (.bool true), .done (.done (.bool (x10.Kind == [117, 110, 100, 111]))) (.bool true)] (And.intro (congrArg (fun x => Pg.done (.bool x)) c18) (And.intro (congrArg (fun x => Pg.done (.bool x)) c19) trivial))
              · rw [if_neg (by rw [c19]; exact Bool.false_ne_true)] at g_v21
                obtain rfl := Option.some.inj g_v21
                exact qp.ro fol [(2, (.done (.bool true))), (5, (.done (.bool false)))] [(0, vl qb l), (5, vl qb counted_1), (6, .i i_2), (7, .i e_15), (8, .bool (x10.Kind == [117, 110, 100, 111])), (47, .bool false)] [] [.done (.done (.bool (decide (e_15 = 0)))) (.bool true), .done (.done (.bool (x10.Kind == [117, 110, 100, 111]))) (.bool false)] (And.intro (congrArg (fun x => Pg.done (.bool x)) c18) (And.intro (congrArg (fun x => Pg.done (.bool x)) c19) trivial))
            · rw [if_neg (of_ c18)] at g_v21
              obtain rfl := Option.some.inj g_v21
              exact qp.ro fol [(2, (.done (.bool false)))] [(0, vl qb l), (5, vl qb counted_1), (6, .i i_2), (7, .i e_15), (8, .bool (x10.Kind == [117, 110, 100, 111])), (47, .bool false)] [] [.done (.done (.bool (decide (e_15 = 0)))) (.bool false)] (And.intro (congrArg (fun x => Pg.done (.bool x)) c18) trivial)
          obtain ⟨r23, g23, g8⟩ := bnd g8
          refine Goes.imp (Q := fun x s' => (x = .normal ∧ ∃ e_22, e_22 = r23 ∧ Sub s' (ofG 82 [(0, vl qb l), (5, vl qb counted_1), (6, .i i_2), (7, .i e_22), (8, .bool (x10.Kind == [117, 110, 100, 111]))], []))) ?_ ?_
          · refine Goes.ifB (b := b20) (by kernel_rfl) (fun c24 => ?_) (fun c24 => ?_)
            · rw [if_pos (c24)] at g23
              refine Goes.rg fol [(0, vl qb l), (5, vl qb counted_1), (6, .i i_2), (7, .i 12), (8, .bool (x10.Kind == [117, 110, 100, 111]))] [] ?_
              obtain rfl := Option.some.inj g23
              exact ⟨rfl, _, rfl, (Sub.refl _)⟩
            · rw [if_neg (by rw [c24]; exact Bool.false_ne_true)] at g23
              refine Goes.skip ?_
              obtain rfl := Option.some.inj g23
              exact ⟨rfl, _, rfl, (Sub.keep [0, 5, 6, 7, 8] rfl rfl)⟩
          rintro x s' ⟨rfl, e_22, rfl, hsub⟩
          refine Goes.sub hsub ?_
          refine sq ?_
          refine sq ?_
          obtain ⟨b26, g_v27, g8⟩ := bnd g8
          refine Goes.cut (s' := (ofG 82 [(0, vl qb l), (5, vl qb counted_1), (6, .i i_2), (7, .i e_22), (8, .bool (x10.Kind == [117, 110, 100, 111])), (53, .bool b26)], [])) ?_ ?_
          · rcases Bool.eq_false_or_eq_true (decide (e_22 = 0)) with c25 | c25
            · rw [if_pos (ot c25)] at g_v27
              obtain rfl := Option.some.inj g_v27
              exact qp.ro fol [(2, (.done (.bool true)))] [(0, vl qb l), (5, vl qb counted_1), (6, .i i_2), (7, .i e_22), (8, .bool (x10.Kind == [117, 110, 100, 111])), (53, .bool (!(x10.Kind == [117, 110, 100, 111])))] [] [.done (.done (.bool (decide (e_22 = 0)))) (.bool true)] (And.intro (congrArg (fun x => Pg.done (.bool x)) c25) trivial)
            · rw [if_neg (of_ c25)] at g_v27
              obtain rfl := Option.some.inj g_v27
              exact qp.ro fol [(2, (.done (.bool false)))] [(0, vl qb l), (5, vl qb counted_1), (6, .i i_2), (7, .i e_22), (8, .bool (x10.Kind == [117, 110, 100, 111])), (53, .bool false)] [] [.done (.done (.bool (decide (e_22 = 0)))) (.bool false)] (And.intro (congrArg (fun x => Pg.done (.bool x)) c25) trivial)
          obtain ⟨r29, g29, g8⟩ := bnd g8
          refine Goes.imp (Q := fun x s' => (x = .normal ∧ ∃ e_28, e_28 = r29 ∧ Sub s' (ofG 82 [(0, vl qb l), (5, vl qb counted_1), (6, .i i_2), (7, .i e_28), (8, .bool (x10.Kind == [117, 110, 100, 111]))], []))) ?_ ?_
          · refine Goes.ifB (b := b26) (by kernel_rfl) (fun c30 => ?_) (fun c30 => ?_)
            · rw [if_pos (c30)] at g29
              obtain ⟨r31, e_r31, g29⟩ := bnd g29
              obtain ⟨r32, e_r32, g29⟩ := bnd g29
              refine Goes.ro fol [(1, (.call [] [vl qb counted_1] (.agg [.i r31.Day, vl qa r31.Slings]))), (4, (.done (.fptr (l.flatMap qb.c) ((i_2 : Int).toNat * 5 + 0)))), (5, (.done (.agg [.i x10.Number, .str x10.Kind, vl encS x10.Names, vl encI x10.Values, .str x10.Text]))), (6, (.call [] [.agg [.i r31.Day, vl qa r31.Slings], .agg [.i x10.Number, .str x10.Kind, vl encS x10.Names, vl encI x10.Values, .str x10.Text]] (.i r32)))] [(0, vl qb l), (5, vl qb counted_1), (6, .i i_2), (7, .i r32), (8, .bool (x10.Kind == [117, 110, 100, 111]))] [] [.call 84 [vl qb counted_1] [] [] [vl qb counted_1] (.agg [.i r31.Day, vl qa r31.Slings]), .done (.opt (qj Tryz.prog 22 (vl qb l) (.i i_2))) (.fptr (l.flatMap qb.c) ((i_2 : Int).toNat * 5 + 0)), .done (qz Tryz.prog 26 (.fptr (l.flatMap qb.c) ((i_2 : Int).toNat * 5 + 0))) (.agg [.i x10.Number, .str x10.Kind, vl encS x10.Names, vl encI x10.Values, .str x10.Text]), .call 139 [.agg [.i r31.Day, vl qa r31.Slings], .agg [.i x10.Number, .str x10.Kind, vl encS x10.Names, vl encI x10.Values, .str x10.Text]] [] [] [.agg [.i r31.Day, vl qa r31.Slings], .agg [.i x10.Number, .str x10.Kind, vl encS x10.Names, vl encI x10.Values, .str x10.Text]] (.i r32)] (And.intro (qo (AllST.cons (qx qb _ (Nat.le_of_ble_eq_true rfl)) AllST.nil) (xG N counted_1 e_r31) (Still.agg (AllST.cons (Still.int 10 _ _) (AllST.cons (qx qa _ (Nat.le_of_ble_eq_true rfl)) AllST.nil)))) (And.intro (qF yL (E := qb) rfl e_x10) (And.intro (qax qf5 (E := qb) rfl e_x10) (And.intro (qo (AllST.cons (Still.agg (AllST.cons (Still.int 10 _ _) (AllST.cons (qx qa _ (Nat.le_of_ble_eq_true rfl)) AllST.nil))) (AllST.cons (Still.agg (AllST.cons (Still.int 10 _ _) (AllST.cons (Still.str 10 _) (AllST.cons (qx encS _ (Nat.le_of_ble_eq_true rfl)) (AllST.cons (qx encI _ (Nat.le_of_ble_eq_true rfl)) (AllST.cons (Still.str 10 _) AllST.nil)))))) AllST.nil)) (qco N r31 x10 e_r32) (Still.int 11 _ _)) trivial)))) ?_
              obtain rfl := Option.some.inj g29
              exact ⟨rfl, _, rfl, (Sub.refl _)⟩
            · rw [if_neg (by rw [c30]; exact Bool.false_ne_true)] at g29
              refine Goes.skip ?_
              obtain rfl := Option.some.inj g29
              exact ⟨rfl, _, rfl, (Sub.keep [0, 5, 6, 7, 8] rfl rfl)⟩
          rintro x s' ⟨rfl, e_28, rfl, hsub⟩
          refine Goes.sub hsub ?_
          refine sq ?_
          refine sq ?_
          refine Goes.rg fol [(0, vl qb l), (5, vl qb counted_1), (6, .i i_2), (7, .i e_28), (8, .bool (x10.Kind == [117, 110, 100, 111])), (62, .bool (!decide (e_28 = 0)))] [] ?_
          refine Goes.ifB (b := !decide (e_28 = 0)) (by kernel_rfl) (fun c33 => ?_) (fun c33 => ?_)
          · rw [if_pos (c33)] at g8
            refine sq ?_
            refine Goes.rg fol [(2, .nilslice), (3, .i (w64 (i_2 + 1))), (4, .i e_28)] [] ?_
            refine Goes.ret ?_
            obtain rfl := Option.some.inj g8
            exact Or.inr (⟨rfl, _, rfl, (Goes.retW (xs := [.nilslice, .i (w64 (i_2 + 1)), .i e_28]) (by kernel_rfl) (FzW.tuple (qN.cons (FzW.nilv (E := qb)) (qN.cons (FzW.still (Still.int 10 _ _)) (qN.cons (FzW.still (Still.int 10 _ _)) qN.nil)))))⟩)
          · rw [if_neg (by rw [c33]; exact Bool.false_ne_true)] at g8
            refine Goes.skip ?_
            refine sq ?_
            refine Goes.rg fol [(0, vl qb l), (5, vl qb counted_1), (6, .i i_2), (66, .bool (x10.Kind == [117, 110, 100, 111]))] [] ?_
            refine Goes.ifB (b := x10.Kind == [117, 110, 100, 111]) (by kernel_rfl) (fun c34 => ?_) (fun c34 => ?_)
            · rw [if_pos (c34)] at g8
              obtain ⟨s35, e_s35, g8⟩ := bnd g8
              refine Goes.ro fol [(4, (.done (vl qb s35)))] [(0, vl qb l), (5, vl qb s35), (6, .i i_2)] [] [.done (.opt (zo Tryz.prog 22 (vl qb counted_1) none (some (.i (w64 ((counted_1.length : Int) - 1)))) none)) (vl qb s35)] (And.intro (qic yL (E := qb) rfl none (some (w64 ((counted_1.length : Int) - 1))) e_s35) trivial) ?_
              obtain rfl := Option.some.inj g8
              exact Or.inl (⟨rfl, _, rfl, (Sub.refl _)⟩)
            · rw [if_neg (by rw [c34]; exact Bool.false_ne_true)] at g8
              obtain ⟨l36, e_l36, g8⟩ := bnd g8
              obtain ⟨l37, e_l37, g8⟩ := bnd g8
              refine Goes.ro fol [(2, (.run (.oslice 1 l36.length 5) [.dead, .cells (l36.flatMap qb.c)] true)), (5, (.done (.fptr (l.flatMap qb.c) ((i_2 : Int).toNat * 5 + 0)))), (6, (.done (.agg [.i x10.Number, .str x10.Kind, vl encS x10.Names, vl encI x10.Values, .str x10.Text]))), (8, (.run (.oslice 3 l37.length 5) [.dead, .dead, .cells [.i x10.Number, .str x10.Kind, vl encS x10.Names, vl encI x10.Values, .str x10.Text], .cells (l37.flatMap qb.c)] true))] [(0, vl qb l), (5, .oslice 3 l37.length 5), (6, .i i_2)] [.dead, .dead, .cells [.i x10.Number, .str x10.Kind, vl encS x10.Names, vl encI x10.Values, .str x10.Text], .cells (l37.flatMap qb.c)] [.run [0] (kV Tryz.prog [22, 22] (.slice 0 0 0 0 5) (vl qb counted_1)) [.cells []] (.oslice 1 l36.length 5) [.dead, .cells (l36.flatMap qb.c)] true, .done (.opt (qj Tryz.prog 22 (vl qb l) (.i i_2))) (.fptr (l.flatMap qb.c) ((i_2 : Int).toNat * 5 + 0)), .done (qz Tryz.prog 26 (.fptr (l.flatMap qb.c) ((i_2 : Int).toNat * 5 + 0))) (.agg [.i x10.Number, .str x10.Kind, vl encS x10.Names, vl encI x10.Values, .str x10.Text]), .run [1, 2] (kV Tryz.prog [22, 22] (.oslice 1 l36.length 5) (.slice 2 0 1 1 5)) [.dead, .cells (l36.flatMap qb.c), .cells [.i x10.Number, .str x10.Kind, vl encS x10.Names, vl encI x10.Values, .str x10.Text]] (.oslice 3 l37.length 5) [.dead, .dead, .cells [.i x10.Number, .str x10.Kind, vl encS x10.Names, vl encI x10.Values, .str x10.Text], .cells (l37.flatMap qb.c)] true] (And.intro (jI yL (E := qb) rfl (qcb (E := qb) rfl _) (qdf (E := qb) rfl rfl rfl e_l36 rfl)) (And.intro (qF yL (E := qb) rfl e_x10) (And.intro (qax qf5 (E := qb) rfl e_x10) (And.intro (jI yL (E := qb) rfl (qbp (E := qb) (ys := [x10]) rfl rfl rfl rfl) (qgq (E := qb) (l := l36) rfl rfl rfl e_l37 rfl)) trivial)))) ?_
              obtain rfl := Option.some.inj g8
              exact Or.inl (⟨rfl, _, rfl, (Sub.norm [3] [] rfl rfl (.keep (.same (ql qb _)) (.keep (.frz (Fz.os (E := qb) rfl rfl (Nat.le_of_ble_eq_true rfl)) (ql qb _)) (.keep (.same (qc.int _ _)) .nil))) .nil)⟩)
        rintro x s' (⟨rfl, counted_7, rfl, hsub⟩ | ⟨rfl, q38, rfl, hret⟩)
        · try dsimp only at g4
          refine Goes.sub hsub ?_
          refine Goes.rg fol [(0, vl qb l), (5, vl qb counted_7), (6, .i (w64 (i_2 + 1)))] [] ?_
          exact ⟨M, (ofG 82 [(0, vl qb l), (5, vl qb counted_7), (6, .i (w64 (i_2 + 1)))], []), Nat.lt_succ_self _, (Sub.refl _), _, _, rfl, g4⟩
        · try dsimp only at g4
          obtain rfl := Option.some.inj g4
          exact Or.inr (⟨rfl, _, rfl, hret⟩)
      · rw [if_neg (of_ c6)] at g4
        refine Goes.exit ?_
        obtain rfl := Option.some.inj g4
        exact Or.inl (⟨rfl, _, rfl, (Sub.keep [5] rfl rfl)⟩)
  rintro x s' (⟨rfl, counted_3, rfl, hsub⟩ | ⟨rfl, q39, rfl, hret⟩)
  · try dsimp only at h
    refine Goes.sub hsub ?_
    refine sq ?_
    refine Goes.rg fol [(2, vl qb counted_3), (3, .i 0), (4, .i 0)] [] ?_
    refine Goes.ret ?_
    obtain rfl := Option.some.inj h
    exact (Goes.retW (xs := [vl qb counted_3, .i 0, .i 0]) (by kernel_rfl) (FzW.tuple (qN.cons (FzW.still (qx qb _ (Nat.le_of_ble_eq_true rfl))) (qN.cons (FzW.still (Still.int 10 _ _)) (qN.cons (FzW.still (Still.int 10 _ _)) qN.nil)))))
  · try dsimp only at h
    obtain rfl := Option.some.inj h
    exact hret
def jD (N : Nat) (l : List qm) : Option (qC × Int × Int) :=
  if (l.length : Int) > 1000 then
  some ((⟨0, []⟩ : qC), 0, 5)
  else
  (jh N l).bind fun r2 =>
  if (!decide (r2.2.2 = 0)) = true then
  some ((⟨0, []⟩ : qC), r2.2.1, r2.2.2)
  else
  (qW N r2.1).bind fun r4 =>
  some (r4, 0, 0)
theorem qcG (N : Nat) (l : List qm) {res : qC × Int × Int} (h : jD N l = some res) : qw Tryz.prog (.fn 17) [vl qb l] [] (.tuple [.agg [.i res.1.Day, vl qa res.1.Slings], .i res.2.1, .i res.2.2]) [] := by
  unfold jD at h
  refine Goes.fnW Tryz.func17 rfl rfl (m := 25) rfl (rs := [.cell 2 37, .tmp 3, .tmp 4]) rfl (l := [(0, vl qb l)]) rfl ?_
  refine sq ?_
  refine Goes.rg fol [(0, vl qb l), (2, .ptr 0 0)] [.cells [.i 0, .nilslice]] ?_
  refine sq ?_
  refine sq ?_
  refine Goes.rg fol [(0, vl qb l), (2, .ptr 0 0), (10, .bool (decide ((l.length : Int) > 1000)))] [.cells [.i 0, .nilslice]] ?_
  refine Goes.ifB (b := decide ((l.length : Int) > 1000)) (by kernel_rfl) (fun c1 => ?_) (fun c1 => ?_)
  · rw [if_pos (ot c1)] at h
    refine sq ?_
    refine Goes.rg fol [(2, .ptr 0 0), (3, .i 0), (4, .i 5)] [.cells [.i 0, .nilslice]] ?_
    refine Goes.ret ?_
    obtain rfl := Option.some.inj h
    exact (Goes.retW (xs := [.agg [.i 0, .nilslice], .i 0, .i 5]) (by kernel_rfl) (FzW.tuple (qN.cons (FzW.agg (qN.cons (FzW.still (Still.int 9 _ _)) (qN.cons (FzW.nilv (E := qa)) qN.nil))) (qN.cons (FzW.still (Still.int 10 _ _)) (qN.cons (FzW.still (Still.int 10 _ _)) qN.nil)))))
  · rw [if_neg (of_ c1)] at h
    refine Goes.skip ?_
    refine sq ?_
    obtain ⟨r2, e_r2, h⟩ := bnd h
    refine Goes.ro fol [(1, (.call [] [vl qb l] (.tuple [vl qb r2.1, .i r2.2.1, .i r2.2.2])))] [(2, .ptr 0 0), (5, vl qb r2.1), (6, .i r2.2.1), (7, .i r2.2.2)] [.cells [.i 0, .nilslice]] [.call 83 [vl qb l] [.cells [.i 0, .nilslice]] [] [vl qb l] (.tuple [vl qb r2.1, .i r2.2.1, .i r2.2.2])] (And.intro (qo (AllST.cons (qx qb _ (Nat.le_of_ble_eq_true rfl)) AllST.nil) (xZ N l e_r2) (Still.tuple (AllST.cons (qx qb _ (Nat.le_of_ble_eq_true rfl)) (AllST.cons (Still.int 10 _ _) (AllST.cons (Still.int 10 _ _) AllST.nil))))) trivial) ?_
    refine sq ?_
    refine sq ?_
    refine Goes.rg fol [(2, .ptr 0 0), (5, vl qb r2.1), (6, .i r2.2.1), (7, .i r2.2.2), (19, .bool (!decide (r2.2.2 = 0)))] [.cells [.i 0, .nilslice]] ?_
    refine Goes.ifB (b := !decide (r2.2.2 = 0)) (by kernel_rfl) (fun c3 => ?_) (fun c3 => ?_)
    · rw [if_pos (c3)] at h
      refine sq ?_
      refine Goes.rg fol [(2, .ptr 0 0), (3, .i r2.2.1), (4, .i r2.2.2)] [.cells [.i 0, .nilslice]] ?_
      refine Goes.ret ?_
      obtain rfl := Option.some.inj h
      exact (Goes.retW (xs := [.agg [.i 0, .nilslice], .i r2.2.1, .i r2.2.2]) (by kernel_rfl) (FzW.tuple (qN.cons (FzW.agg (qN.cons (FzW.still (Still.int 9 _ _)) (qN.cons (FzW.nilv (E := qa)) qN.nil))) (qN.cons (FzW.still (Still.int 10 _ _)) (qN.cons (FzW.still (Still.int 10 _ _)) qN.nil)))))
    · rw [if_neg (by rw [c3]; exact Bool.false_ne_true)] at h
      refine Goes.skip ?_
      refine sq ?_
      obtain ⟨r4, e_r4, h⟩ := bnd h
      refine Goes.ro fol [(1, (.call [] [vl qb r2.1] (.agg [.i r4.Day, vl qa r4.Slings])))] [(2, .ptr 0 0), (3, .i 0), (4, .i 0)] [.cells [.i r4.Day, vl qa r4.Slings]] [.call 84 [vl qb r2.1] [.cells [.i 0, .nilslice]] [] [vl qb r2.1] (.agg [.i r4.Day, vl qa r4.Slings])] (And.intro (qo (AllST.cons (qx qb _ (Nat.le_of_ble_eq_true rfl)) AllST.nil) (xG N r2.1 e_r4) (Still.agg (AllST.cons (Still.int 10 _ _) (AllST.cons (qx qa _ (Nat.le_of_ble_eq_true rfl)) AllST.nil)))) trivial) ?_
      refine Goes.ret ?_
      obtain rfl := Option.some.inj h
      exact (Goes.retW (xs := [.agg [.i r4.Day, vl qa r4.Slings], .i 0, .i 0]) (by kernel_rfl) (FzW.tuple (qN.cons (FzW.agg (qN.cons (FzW.still (Still.int 9 _ _)) (qN.cons (FzW.still (qx qa _ (Nat.le_of_ble_eq_true rfl))) qN.nil))) (qN.cons (FzW.still (Still.int 10 _ _)) (qN.cons (FzW.still (Still.int 10 _ _)) qN.nil)))))
def jd (l : List Int) : Nat → Int → Option (Unit ⊕ Int)
  | 0, _ => none
  | K + 1, n1 =>
    if n1 < (l.length : Int) then
    (idx l n1).bind fun x5 =>
    if (!decide (x5 = 0)) = true then
    some (.inr x5)
    else
    jd l K (w64 (n1 + 1))
    else
    some (.inl ())
def kY (N : Nat) (l : List Int) : Option Int :=
  (jd l N 0).bind (fun
  | (.inl ()) =>
  some 0
  | (.inr q7) =>
  some q7)
theorem zC (N : Nat) (l : List Int) {res : Int} (h : kY N l = some res) : qw Tryz.prog (.fn 86) [vl encI l] [] (.i res) [] := by
  unfold kY at h
  refine Goes.fnW Tryz.func86 rfl rfl (m := 15) rfl (rs := [.tmp 2]) rfl (l := [(0, vl encI l)]) rfl ?_
  refine sq ?_
  refine Goes.rg fol [(0, vl encI l)] [] ?_
  refine sq ?_
  refine sq ?_
  refine Goes.rg fol [(5, vl encI l), (6, .i (l.length : Int)), (7, .i 0)] [] ?_
  refine Goes.block ?_
  obtain ⟨r2, g2, h⟩ := bnd h
  refine Goes.imp (Q := fun x s' => (x = .exit 0 ∧ (.inl ()) = r2 ∧ Sub s' (ofG 15 [], [])) ∨ (x = .ret ∧ ∃ q3, (.inr q3) = r2 ∧ zG Tryz.prog [.tmp 2] (.i q3) .ret s')) ?_ ?_
  · refine Goes.loopS (fun M s => ∃ (n1 : Int), s = (ofG 15 [(5, vl encI l), (6, .i (l.length : Int)), (7, .i n1)], []) ∧ jd l M n1 = some r2) ?_ (m := N) ⟨_, rfl, g2⟩
    rintro M s ⟨n1, rfl, g2⟩
    cases M with
    | zero => simp only [jd] at g2; cases g2
    | succ M =>
      rw [jd] at g2
      refine sq ?_
      refine Goes.rg fol [(5, vl encI l), (6, .i (l.length : Int)), (7, .i n1), (8, .bool (decide (n1 < (l.length : Int))))] [] ?_
      refine sq ?_
      refine Goes.ifB (b := decide (n1 < (l.length : Int))) (by kernel_rfl) (fun c4 => ?_) (fun c4 => ?_)
      · rw [if_pos (ot c4)] at g2
        refine Goes.skip ?_
        refine sq ?_
        refine Goes.block ?_
        refine sq ?_
        obtain ⟨x5, e_x5, g2⟩ := bnd g2
        refine Goes.ro fol [(0, (.done (.fptr (l.flatMap encI.c) ((n1 : Int).toNat * 1 + 0)))), (1, (.done (.i x5)))] [(4, .i x5), (5, vl encI l), (6, .i (l.length : Int)), (7, .i n1)] [] [.done (.opt (qj Tryz.prog 218 (vl encI l) (.i n1))) (.fptr (l.flatMap encI.c) ((n1 : Int).toNat * 1 + 0)), .done (qz Tryz.prog 32 (.fptr (l.flatMap encI.c) ((n1 : Int).toNat * 1 + 0))) (.i x5)] (And.intro (qF sl218 (E := encI) rfl e_x5) (And.intro (qJ ce32 (E := encI) rfl e_x5 (Nat.le_of_ble_eq_true rfl) rfl) trivial)) ?_
        refine sq ?_
        refine Goes.rg fol [(4, .i x5), (5, vl encI l), (6, .i (l.length : Int)), (7, .i n1), (12, .bool (!decide (x5 = 0)))] [] ?_
        refine Goes.ifB (b := !decide (x5 = 0)) (by kernel_rfl) (fun c6 => ?_) (fun c6 => ?_)
        · rw [if_pos (c6)] at g2
          refine sq ?_
          refine Goes.rg fol [(2, .i x5)] [] ?_
          refine Goes.ret ?_
          obtain rfl := Option.some.inj g2
          exact Or.inr (⟨rfl, _, rfl, (Goes.retW (xs := [.i x5]) (by kernel_rfl) (FzW.still (Still.int 11 _ _)))⟩)
        · rw [if_neg (by rw [c6]; exact Bool.false_ne_true)] at g2
          refine Goes.skip ?_
          refine Goes.rg fol [(5, vl encI l), (6, .i (l.length : Int)), (7, .i (w64 (n1 + 1)))] [] ?_
          exact ⟨M, (ofG 15 [(5, vl encI l), (6, .i (l.length : Int)), (7, .i (w64 (n1 + 1)))], []), Nat.lt_succ_self _, (Sub.refl _), _, rfl, g2⟩
      · rw [if_neg (of_ c4)] at g2
        refine Goes.exit ?_
        obtain rfl := Option.some.inj g2
        exact Or.inl (⟨rfl, rfl, (Sub.keep [] rfl rfl)⟩)
  rintro x s' (⟨rfl, rfl, hsub⟩ | ⟨rfl, q7, rfl, hret⟩)
  · try dsimp only at h
    refine Goes.sub hsub ?_
    refine sq ?_
    refine Goes.rg fol [(2, .i 0)] [] ?_
    refine Goes.ret ?_
    obtain rfl := Option.some.inj h
    exact (Goes.retW (xs := [.i 0]) (by kernel_rfl) (FzW.still (Still.int 11 _ _)))
  · try dsimp only at h
    obtain rfl := Option.some.inj h
    exact hret
def qZ (holds : Bool) (e : Int) : Option Int :=
  if holds = true then
  some e
  else
  some 0
theorem qI (holds : Bool) (e : Int) {res : Int} (h : qZ holds e = some res) : qw Tryz.prog (.fn 88) [.bool holds, .i e] [] (.i res) [] := by
  unfold qZ at h
  refine Goes.fnW Tryz.func88 rfl rfl (m := 7) rfl (rs := [.tmp 4]) rfl (l := [(0, .bool holds), (1, .i e)]) rfl ?_
  refine sq ?_
  refine Goes.rg fol [(0, .bool holds), (1, .i e)] [] ?_
  refine sq ?_
  refine sq ?_
  refine Goes.rg fol [(1, .i e), (5, .bool holds)] [] ?_
  refine Goes.ifB (b := holds) (by kernel_rfl) (fun c1 => ?_) (fun c1 => ?_)
  · rw [if_pos (c1)] at h
    refine sq ?_
    refine Goes.rg fol [(4, .i e)] [] ?_
    refine Goes.ret ?_
    obtain rfl := Option.some.inj h
    exact (Goes.retW (xs := [.i e]) (by kernel_rfl) (FzW.still (Still.int 11 _ _)))
  · rw [if_neg (by rw [c1]; exact Bool.false_ne_true)] at h
    refine Goes.skip ?_
    refine sq ?_
    refine Goes.rg fol [(4, .i 0)] [] ?_
    refine Goes.ret ?_
    obtain rfl := Option.some.inj h
    exact (Goes.retW (xs := [.i 0]) (by kernel_rfl) (FzW.still (Still.int 11 _ _)))
def zq (n : Int) (low : Int) (high : Int) : Option Int :=
  (if n < low then
  (qZ true 3).bind fun r2 =>
  some r2
  else
  (qZ (decide (n > high)) 3).bind fun r3 =>
  some r3 : Option Int).bind fun n4 =>
  some n4
theorem zM (n : Int) (low : Int) (high : Int) {res : Int} (h : zq n low high = some res) : qw Tryz.prog (.fn 87) [.i n, .i low, .i high] [] (.i res) [] := by
  unfold zq at h
  refine Goes.fnW Tryz.func87 rfl rfl (m := 16) rfl (rs := [.tmp 6]) rfl (l := [(0, .i n), (1, .i low), (2, .i high)]) rfl ?_
  refine sq ?_
  refine Goes.rg fol [(0, .i n), (1, .i low), (2, .i high)] [] ?_
  refine sq ?_
  obtain ⟨n4, g_v5, h⟩ := bnd h
  refine Goes.cut (s' := (ofG 16 [(6, .i n4)], [])) ?_ ?_
  · rcases Bool.eq_false_or_eq_true (decide (n < low)) with c1 | c1
    · rw [if_pos (ot c1)] at g_v5
      obtain ⟨r2, e_r2, g_v5⟩ := bnd g_v5
      obtain rfl := Option.some.inj g_v5
      exact qp.ro fol [(3, (.done (.bool true))), (8, (.call [] [.bool true, .i 3] (.i r2)))] [(6, .i r2)] [] [.done (.done (.bool (decide (n < low)))) (.bool true), .call 88 [.bool true, .i 3] [] [] [.bool true, .i 3] (.i r2)] (And.intro (congrArg (fun x => Pg.done (.bool x)) c1) (And.intro (qo (AllST.cons (Still.bool 11 _) (AllST.cons (Still.int 11 _ _) AllST.nil)) (qI true 3 e_r2) (Still.int 11 _ _)) trivial))
    · rw [if_neg (of_ c1)] at g_v5
      obtain ⟨r3, e_r3, g_v5⟩ := bnd g_v5
      obtain rfl := Option.some.inj g_v5
      exact qp.ro fol [(3, (.done (.bool false))), (8, (.call [] [.bool (decide (n > high)), .i 3] (.i r3)))] [(6, .i r3)] [] [.done (.done (.bool (decide (n < low)))) (.bool false), .call 88 [.bool (decide (n > high)), .i 3] [] [] [.bool (decide (n > high)), .i 3] (.i r3)] (And.intro (congrArg (fun x => Pg.done (.bool x)) c1) (And.intro (qo (AllST.cons (Still.bool 11 _) (AllST.cons (Still.int 11 _ _) AllST.nil)) (qI (decide (n > high)) 3 e_r3) (Still.int 11 _ _)) trivial))
  refine Goes.ret ?_
  obtain rfl := Option.some.inj h
  exact (Goes.retW (xs := [.i n4]) (by kernel_rfl) (FzW.still (Still.int 11 _ _)))
def zy (a0_ : qh) (a1_ : Str) : Option Bool :=
  some (!(ltL a0_.Name a1_))
theorem yM (a0_ : qh) (a1_ : Str) {res : Bool} (h : zy a0_ a1_ = some res) : qw Tryz.prog (.fn 149) [.agg [.str a0_.Name, .str a0_.Batch, .i a0_.Born, .i a0_.Last, .i a0_.Uses, .i a0_.Used, .i a0_.Limit, .i a0_.Until, .bool a0_.Gone], .fptr [.str a1_] 0] [] (.bool res) [] := by
  unfold zy at h
  refine Goes.fnW Tryz.func149 rfl rfl (m := 8) rfl (rs := [.tmp 3]) rfl (l := [(0, .agg [.str a0_.Name, .str a0_.Batch, .i a0_.Born, .i a0_.Last, .i a0_.Uses, .i a0_.Used, .i a0_.Limit, .i a0_.Until, .bool a0_.Gone]), (1, .fptr [.str a1_] 0)]) rfl ?_
  refine sq ?_
  refine Goes.rg fol [(1, .fptr [.str a1_] 0), (2, .ptr 0 0)] [.cells [.str a0_.Name, .str a0_.Batch, .i a0_.Born, .i a0_.Last, .i a0_.Uses, .i a0_.Used, .i a0_.Limit, .i a0_.Until, .bool a0_.Gone]] ?_
  refine sq ?_
  refine Goes.rg fol [(3, .bool (!(ltL a0_.Name a1_)))] [.cells [.str a0_.Name, .str a0_.Batch, .i a0_.Born, .i a0_.Last, .i a0_.Uses, .i a0_.Used, .i a0_.Limit, .i a0_.Until, .bool a0_.Gone]] ?_
  refine Goes.ret ?_
  obtain rfl := Option.some.inj h
  exact (Goes.retW (xs := [.bool (!(ltL a0_.Name a1_))]) (by kernel_rfl) (FzW.still (Still.bool 11 _)))
def qH (a0_ : List qh) (a1_ : Str) : Nat → Int → Option (Unit ⊕ Int)
  | 0, _ => none
  | K + 1, n1 =>
    if n1 < (a0_.length : Int) then
    (idx a0_ n1).bind fun x5 =>
    (zy x5 a1_).bind fun r6 =>
    if r6 = true then
    some (.inr n1)
    else
    qH a0_ a1_ K (w64 (n1 + 1))
    else
    some (.inl ())
def zF (N : Nat) (a0_ : List qh) (a1_ : Str) : Option Int :=
  (qH a0_ a1_ N 0).bind (fun
  | (.inl ()) =>
  some (-1)
  | (.inr q8) =>
  some q8)
theorem yT (N : Nat) (a0_ : List qh) (a1_ : Str) {res : Int} (h : zF N a0_ a1_ = some res) : qw Tryz.prog (.fn 148) [vl qa a0_, .func (.func 149) [] [.fptr [.str a1_] 0]] [] (.i res) [] := by
  unfold zF at h
  refine Goes.fnW Tryz.func148 rfl rfl (m := 19) rfl (rs := [.tmp 4]) rfl (l := [(0, vl qa a0_), (1, .func (.func 149) [] [.fptr [.str a1_] 0])]) rfl ?_
  refine sq ?_
  refine Goes.rg fol [(0, vl qa a0_), (1, .func (.func 149) [] [.fptr [.str a1_] 0])] [] ?_
  refine sq ?_
  refine sq ?_
  refine Goes.rg fol [(0, vl qa a0_), (1, .func (.func 149) [] [.fptr [.str a1_] 0]), (7, .i (a0_.length : Int)), (8, .i 0)] [] ?_
  refine Goes.block ?_
  obtain ⟨r2, g2, h⟩ := bnd h
  refine Goes.imp (Q := fun x s' => (x = .exit 0 ∧ (.inl ()) = r2 ∧ Sub s' (ofG 19 [], [])) ∨ (x = .ret ∧ ∃ q3, (.inr q3) = r2 ∧ zG Tryz.prog [.tmp 4] (.i q3) .ret s')) ?_ ?_
  · refine Goes.loopS (fun M s => ∃ (n1 : Int), s = (ofG 19 [(0, vl qa a0_), (1, .func (.func 149) [] [.fptr [.str a1_] 0]), (7, .i (a0_.length : Int)), (8, .i n1)], []) ∧ qH a0_ a1_ M n1 = some r2) ?_ (m := N) ⟨_, rfl, g2⟩
    rintro M s ⟨n1, rfl, g2⟩
    cases M with
    | zero => simp only [qH] at g2; cases g2
    | succ M =>
      rw [qH] at g2
      refine sq ?_
      refine Goes.rg fol [(0, vl qa a0_), (1, .func (.func 149) [] [.fptr [.str a1_] 0]), (7, .i (a0_.length : Int)), (8, .i n1), (9, .bool (decide (n1 < (a0_.length : Int))))] [] ?_
      refine sq ?_
      refine Goes.ifB (b := decide (n1 < (a0_.length : Int))) (by kernel_rfl) (fun c4 => ?_) (fun c4 => ?_)
      · rw [if_pos (ot c4)] at g2
        refine Goes.skip ?_
        refine sq ?_
        refine Goes.block ?_
        refine sq ?_
        refine Goes.rg fol [(0, vl qa a0_), (1, .func (.func 149) [] [.fptr [.str a1_] 0]), (5, .i n1), (7, .i (a0_.length : Int)), (8, .i n1)] [] ?_
        refine sq ?_
        obtain ⟨x5, e_x5, g2⟩ := bnd g2
        obtain ⟨r6, e_r6, g2⟩ := bnd g2
        refine Goes.ro fol [(3, (.done (.fptr (a0_.flatMap qa.c) ((n1 : Int).toNat * 9 + 0)))), (4, (.done (.agg [.str x5.Name, .str x5.Batch, .i x5.Born, .i x5.Last, .i x5.Uses, .i x5.Used, .i x5.Limit, .i x5.Until, .bool x5.Gone]))), (5, (.call [] [.agg [.str x5.Name, .str x5.Batch, .i x5.Born, .i x5.Last, .i x5.Uses, .i x5.Used, .i x5.Limit, .i x5.Until, .bool x5.Gone], .fptr [.str a1_] 0] (.bool r6)))] [(0, vl qa a0_), (1, .func (.func 149) [] [.fptr [.str a1_] 0]), (5, .i n1), (7, .i (a0_.length : Int)), (8, .i n1), (16, .bool r6)] [] [.done (.opt (qj Tryz.prog 29 (vl qa a0_) (.i n1))) (.fptr (a0_.flatMap qa.c) ((n1 : Int).toNat * 9 + 0)), .done (qz Tryz.prog 68 (.fptr (a0_.flatMap qa.c) ((n1 : Int).toNat * 9 + 0))) (.agg [.str x5.Name, .str x5.Batch, .i x5.Born, .i x5.Last, .i x5.Uses, .i x5.Used, .i x5.Limit, .i x5.Until, .bool x5.Gone]), .call 149 [.agg [.str x5.Name, .str x5.Batch, .i x5.Born, .i x5.Last, .i x5.Uses, .i x5.Used, .i x5.Limit, .i x5.Until, .bool x5.Gone], .fptr [.str a1_] 0] [] [] [.agg [.str x5.Name, .str x5.Batch, .i x5.Born, .i x5.Last, .i x5.Uses, .i x5.Used, .i x5.Limit, .i x5.Until, .bool x5.Gone], .fptr [.str a1_] 0] (.bool r6)] (And.intro (qF xN (E := qa) rfl e_x5) (And.intro (qax qii (E := qa) rfl e_x5) (And.intro (qjl (FzL.cons (Fz.still (Still.agg (AllST.cons (Still.str 10 _) (AllST.cons (Still.str 10 _) (AllST.cons (Still.int 10 _ _) (AllST.cons (Still.int 10 _ _) (AllST.cons (Still.int 10 _ _) (AllST.cons (Still.int 10 _ _) (AllST.cons (Still.int 10 _ _) (AllST.cons (Still.int 10 _ _) (AllST.cons (Still.bool 10 _) AllST.nil))))))))))) (FzL.cons (Fz.still (Still.fptr (AllST.cons (Still.str 10 _) AllST.nil))) FzL.nil)) (yM x5 a1_ e_r6) (Still.bool 11 _)) trivial))) ?_
        refine Goes.ifB (b := r6) (by kernel_rfl) (fun c7 => ?_) (fun c7 => ?_)
        · rw [if_pos (c7)] at g2
          refine sq ?_
          refine Goes.rg fol [(4, .i n1)] [] ?_
          refine Goes.ret ?_
          obtain rfl := Option.some.inj g2
          exact Or.inr (⟨rfl, _, rfl, (Goes.retW (xs := [.i n1]) (by kernel_rfl) (FzW.still (Still.int 11 _ _)))⟩)
        · rw [if_neg (by rw [c7]; exact Bool.false_ne_true)] at g2
          refine Goes.skip ?_
          refine Goes.rg fol [(0, vl qa a0_), (1, .func (.func 149) [] [.fptr [.str a1_] 0]), (7, .i (a0_.length : Int)), (8, .i (w64 (n1 + 1)))] [] ?_
          exact ⟨M, (ofG 19 [(0, vl qa a0_), (1, .func (.func 149) [] [.fptr [.str a1_] 0]), (7, .i (a0_.length : Int)), (8, .i (w64 (n1 + 1)))], []), Nat.lt_succ_self _, (Sub.refl _), _, rfl, g2⟩
      · rw [if_neg (of_ c4)] at g2
        refine Goes.exit ?_
        obtain rfl := Option.some.inj g2
        exact Or.inl (⟨rfl, rfl, (Sub.keep [] rfl rfl)⟩)
  rintro x s' (⟨rfl, rfl, hsub⟩ | ⟨rfl, q8, rfl, hret⟩)
  · try dsimp only at h
    refine Goes.sub hsub ?_
    refine sq ?_
    refine Goes.rg fol [(4, .i (-1))] [] ?_
    refine Goes.ret ?_
    obtain rfl := Option.some.inj h
    exact (Goes.retW (xs := [.i (-1)]) (by kernel_rfl) (FzW.still (Still.int 11 _ _)))
  · try dsimp only at h
    obtain rfl := Option.some.inj h
    exact hret
def qX (N : Nat) (r : zA) (name : Str) : Option (Int × Bool) :=
  (zF N r.Slings name).bind fun r1 =>
  if r1 < 0 then
  some ((r.Slings.length : Int), false)
  else
  (idx r.Slings r1).bind fun x3 =>
  some (r1, x3.Name == name)
theorem ja (N : Nat) (r : zA) (name : Str) {res : Int × Bool} (h : qX N r name = some res) : qw Tryz.prog (.fn 93) [.agg [.i r.Day, vl qa r.Slings], .str name] [] (.tuple [.i res.1, .bool res.2]) [] := by
  unfold qX at h
  refine Goes.fnW Tryz.func93 rfl rfl (m := 25) rfl (rs := [.tmp 4, .tmp 5]) rfl (l := [(0, .agg [.i r.Day, vl qa r.Slings]), (1, .str name)]) rfl ?_
  refine sq ?_
  refine Goes.rg fol [(2, .ptr 0 0), (3, .ptr 1 0)] [.cells [.i r.Day, vl qa r.Slings], .cells [.str name]] ?_
  refine sq ?_
  obtain ⟨r1, e_r1, h⟩ := bnd h
  refine Goes.ro fol [(3, (.call [1] [vl qa r.Slings, .func (.func 149) [] [.fptr [.str name] 0]] (.i r1)))] [(2, .ptr 0 0), (3, .ptr 1 0), (6, .i r1)] [.cells [.i r.Day, vl qa r.Slings], .cells [.str name]] [.call 148 [vl qa r.Slings, .func (.func 149) [] [.ptr 1 0]] [.cells [.i r.Day, vl qa r.Slings], .cells [.str name]] [1] [vl qa r.Slings, .func (.func 149) [] [.fptr [.str name] 0]] (.i r1)] (And.intro (yg (FzL.cons (Fz.still (qx qa _ (Nat.le_of_ble_eq_true rfl))) (FzL.cons (Fz.func FzL.nil (FzL.cons (Fz.ptr rfl rfl (FzL.cons (Fz.still (Still.str 9 _)) FzL.nil)) FzL.nil)) FzL.nil)) (yT N r.Slings name e_r1) (Still.int 11 _ _) rfl) trivial) ?_
  refine sq ?_
  refine sq ?_
  refine Goes.rg fol [(2, .ptr 0 0), (3, .ptr 1 0), (6, .i r1), (12, .bool (decide (r1 < 0)))] [.cells [.i r.Day, vl qa r.Slings], .cells [.str name]] ?_
  refine Goes.ifB (b := decide (r1 < 0)) (by kernel_rfl) (fun c2 => ?_) (fun c2 => ?_)
  · rw [if_pos (ot c2)] at h
    refine sq ?_
    refine Goes.rg fol [(4, .i (r.Slings.length : Int)), (5, .bool false)] [.cells [.i r.Day, vl qa r.Slings], .cells [.str name]] ?_
    refine Goes.ret ?_
    obtain rfl := Option.some.inj h
    exact (Goes.retW (xs := [.i (r.Slings.length : Int), .bool false]) (by kernel_rfl) (FzW.tuple (qN.cons (FzW.still (Still.int 10 _ _)) (qN.cons (FzW.still (Still.bool 10 _)) qN.nil))))
  · rw [if_neg (of_ c2)] at h
    refine Goes.skip ?_
    refine sq ?_
    obtain ⟨x3, e_x3, h⟩ := bnd h
    refine Goes.ro fol [(4, (.done (.fptr (r.Slings.flatMap qa.c) ((r1 : Int).toNat * 9 + 0)))), (6, (.done (.str x3.Name)))] [(4, .i r1), (5, .bool (x3.Name == name))] [.cells [.i r.Day, vl qa r.Slings], .cells [.str name]] [.done (.opt (qj Tryz.prog 29 (vl qa r.Slings) (.i r1))) (.fptr (r.Slings.flatMap qa.c) ((r1 : Int).toNat * 9 + 0)), .done (qz Tryz.prog 9 (.fptr (r.Slings.flatMap qa.c) ((r1 : Int).toNat * 9 + 0))) (.str x3.Name)] (And.intro (qF xN (E := qa) rfl e_x3) (And.intro (qJ ce9 (E := qa) rfl e_x3 (Nat.le_of_ble_eq_true rfl) rfl) trivial)) ?_
    refine Goes.ret ?_
    obtain rfl := Option.some.inj h
    exact (Goes.retW (xs := [.i r1, .bool (x3.Name == name)]) (by kernel_rfl) (FzW.tuple (qN.cons (FzW.still (Still.int 10 _ _)) (qN.cons (FzW.still (Still.bool 10 _)) qN.nil))))
def zD (n : Int) : Option Int :=
  (zq n 0 99999).bind fun r1 =>
  some r1
theorem jZ (n : Int) {res : Int} (h : zD n = some res) : qw Tryz.prog (.fn 94) [.i n] [] (.i res) [] := by
  unfold zD at h
  refine Goes.fnW Tryz.func94 rfl rfl (m := 5) rfl (rs := [.tmp 2]) rfl (l := [(0, .i n)]) rfl ?_
  refine sq ?_
  refine Goes.rg fol [(0, .i n)] [] ?_
  refine sq ?_
  obtain ⟨r1, e_r1, h⟩ := bnd h
  refine Goes.ro fol [(1, (.call [] [.i n, .i 0, .i 99999] (.i r1)))] [(2, .i r1)] [] [.call 87 [.i n, .i 0, .i 99999] [] [] [.i n, .i 0, .i 99999] (.i r1)] (And.intro (qo (AllST.cons (Still.int 11 _ _) (AllST.cons (Still.int 11 _ _) (AllST.cons (Still.int 11 _ _) AllST.nil))) (zM n 0 99999 e_r1) (Still.int 11 _ _)) trivial) ?_
  refine Goes.ret ?_
  obtain rfl := Option.some.inj h
  exact (Goes.retW (xs := [.i r1]) (by kernel_rfl) (FzW.still (Still.int 11 _ _)))
def kE (s_ : qh) (day : Int) : Option Bool :=
  (if s_.Gone = true then
  some true
  else
  if day > s_.Last then
  some true
  else
  some (decide (s_.Used = s_.Uses)) : Option Bool).bind fun b3 =>
  some b3
theorem zZ (s_ : qh) (day : Int) {res : Bool} (h : kE s_ day = some res) : qw Tryz.prog (.fn 95) [.agg [.str s_.Name, .str s_.Batch, .i s_.Born, .i s_.Last, .i s_.Uses, .i s_.Used, .i s_.Limit, .i s_.Until, .bool s_.Gone], .i day] [] (.bool res) [] := by
  unfold kE at h
  refine Goes.fnW Tryz.func95 rfl rfl (m := 20) rfl (rs := [.tmp 4]) rfl (l := [(0, .agg [.str s_.Name, .str s_.Batch, .i s_.Born, .i s_.Last, .i s_.Uses, .i s_.Used, .i s_.Limit, .i s_.Until, .bool s_.Gone]), (1, .i day)]) rfl ?_
  refine sq ?_
  refine Goes.rg fol [(1, .i day), (2, .ptr 0 0)] [.cells [.str s_.Name, .str s_.Batch, .i s_.Born, .i s_.Last, .i s_.Uses, .i s_.Used, .i s_.Limit, .i s_.Until, .bool s_.Gone]] ?_
  refine sq ?_
  obtain ⟨b3, g_v4, h⟩ := bnd h
  refine Goes.cut (s' := (ofG 20 [(4, .bool b3)], [.cells [.str s_.Name, .str s_.Batch, .i s_.Born, .i s_.Last, .i s_.Uses, .i s_.Used, .i s_.Limit, .i s_.Until, .bool s_.Gone]])) ?_ ?_
  · rcases Bool.eq_false_or_eq_true (s_.Gone) with c1 | c1
    · rw [if_pos (c1)] at g_v4
      obtain rfl := Option.some.inj g_v4
      exact qp.ro fol [(2, (.done (.bool true)))] [(4, .bool true)] [.cells [.str s_.Name, .str s_.Batch, .i s_.Born, .i s_.Last, .i s_.Uses, .i s_.Used, .i s_.Limit, .i s_.Until, .bool s_.Gone]] [.done (.done (.bool s_.Gone)) (.bool true)] (And.intro (congrArg (fun x => Pg.done (.bool x)) c1) trivial)
    · rw [if_neg (by rw [c1]; exact Bool.false_ne_true)] at g_v4
      rcases Bool.eq_false_or_eq_true (decide (day > s_.Last)) with c2 | c2
      · rw [if_pos (ot c2)] at g_v4
        obtain rfl := Option.some.inj g_v4
        exact qp.ro fol [(2, (.done (.bool false))), (8, (.done (.bool true)))] [(4, .bool true)] [.cells [.str s_.Name, .str s_.Batch, .i s_.Born, .i s_.Last, .i s_.Uses, .i s_.Used, .i s_.Limit, .i s_.Until, .bool s_.Gone]] [.done (.done (.bool s_.Gone)) (.bool false), .done (.done (.bool (decide (day > s_.Last)))) (.bool true)] (And.intro (congrArg (fun x => Pg.done (.bool x)) c1) (And.intro (congrArg (fun x => Pg.done (.bool x)) c2) trivial))
      · rw [if_neg (of_ c2)] at g_v4
        obtain rfl := Option.some.inj g_v4
        exact qp.ro fol [(2, (.done (.bool false))), (8, (.done (.bool false)))] [(4, .bool (decide (s_.Used = s_.Uses)))] [.cells [.str s_.Name, .str s_.Batch, .i s_.Born, .i s_.Last, .i s_.Uses, .i s_.Used, .i s_.Limit, .i s_.Until, .bool s_.Gone]] [.done (.done (.bool s_.Gone)) (.bool false), .done (.done (.bool (decide (day > s_.Last)))) (.bool false)] (And.intro (congrArg (fun x => Pg.done (.bool x)) c1) (And.intro (congrArg (fun x => Pg.done (.bool x)) c2) trivial))
  refine Goes.ret ?_
  obtain rfl := Option.some.inj h
  exact (Goes.retW (xs := [.bool b3]) (by kernel_rfl) (FzW.still (Still.bool 11 _)))
def zL (s_ : qh) (day : Int) : Option Bool :=
  (if s_.Limit > 0 then
  some (decide (day ≤ s_.Until))
  else
  some false : Option Bool).bind fun b2 =>
  some b2
theorem yu (s_ : qh) (day : Int) {res : Bool} (h : zL s_ day = some res) : qw Tryz.prog (.fn 96) [.agg [.str s_.Name, .str s_.Batch, .i s_.Born, .i s_.Last, .i s_.Uses, .i s_.Used, .i s_.Limit, .i s_.Until, .bool s_.Gone], .i day] [] (.bool res) [] := by
  unfold zL at h
  refine Goes.fnW Tryz.func96 rfl rfl (m := 14) rfl (rs := [.tmp 4]) rfl (l := [(0, .agg [.str s_.Name, .str s_.Batch, .i s_.Born, .i s_.Last, .i s_.Uses, .i s_.Used, .i s_.Limit, .i s_.Until, .bool s_.Gone]), (1, .i day)]) rfl ?_
  refine sq ?_
  refine Goes.rg fol [(1, .i day), (2, .ptr 0 0)] [.cells [.str s_.Name, .str s_.Batch, .i s_.Born, .i s_.Last, .i s_.Uses, .i s_.Used, .i s_.Limit, .i s_.Until, .bool s_.Gone]] ?_
  refine sq ?_
  obtain ⟨b2, g_v3, h⟩ := bnd h
  refine Goes.cut (s' := (ofG 14 [(4, .bool b2)], [.cells [.str s_.Name, .str s_.Batch, .i s_.Born, .i s_.Last, .i s_.Uses, .i s_.Used, .i s_.Limit, .i s_.Until, .bool s_.Gone]])) ?_ ?_
  · rcases Bool.eq_false_or_eq_true (decide (s_.Limit > 0)) with c1 | c1
    · rw [if_pos (ot c1)] at g_v3
      obtain rfl := Option.some.inj g_v3
      exact qp.ro fol [(3, (.done (.bool true)))] [(4, .bool (decide (day ≤ s_.Until)))] [.cells [.str s_.Name, .str s_.Batch, .i s_.Born, .i s_.Last, .i s_.Uses, .i s_.Used, .i s_.Limit, .i s_.Until, .bool s_.Gone]] [.done (.done (.bool (decide (s_.Limit > 0)))) (.bool true)] (And.intro (congrArg (fun x => Pg.done (.bool x)) c1) trivial)
    · rw [if_neg (of_ c1)] at g_v3
      obtain rfl := Option.some.inj g_v3
      exact qp.ro fol [(3, (.done (.bool false)))] [(4, .bool false)] [.cells [.str s_.Name, .str s_.Batch, .i s_.Born, .i s_.Last, .i s_.Uses, .i s_.Used, .i s_.Limit, .i s_.Until, .bool s_.Gone]] [.done (.done (.bool (decide (s_.Limit > 0)))) (.bool false)] (And.intro (congrArg (fun x => Pg.done (.bool x)) c1) trivial)
  refine Goes.ret ?_
  obtain rfl := Option.some.inj h
  exact (Goes.retW (xs := [.bool b2]) (by kernel_rfl) (FzW.still (Still.bool 11 _)))
def zk  : Option Unit :=
  some ()
theorem kw  {res : Unit} (h : zk  = some res) : qw Tryz.prog (.fn 85) [] [] (fm1) [] := by
  unfold zk at h
  refine Goes.fnW Tryz.func85 rfl rfl (m := 9) rfl (rs := [.tmp 0]) rfl (l := []) rfl ?_
  refine sq ?_
  refine Goes.rg fol [] [] ?_
  refine sq ?_
  refine Goes.rg fol [(0, .map 0)] [.map [.str [109, 97, 107, 101], .str [116, 101, 115, 116], .str [117, 115, 101], .str [102, 97, 105, 108], .str [114, 101, 99, 97, 108, 108], .str [117, 110, 100, 111]] [.agg [.i 2, .i 3, .func (.func 141) [] []], .agg [.i 1, .i 2, .func (.func 142) [] []], .agg [.i 1, .i 2, .func (.func 143) [] []], .agg [.i 1, .i 1, .func (.func 144) [] []], .agg [.i 1, .i 1, .func (.func 145) [] []], .agg [.i 0, .i 0, .nilfunc]]] ?_
  refine Goes.ret ?_
  obtain rfl := Option.some.inj h
  exact (Goes.retW (xs := [.map 0]) (by kernel_rfl) (FzW.of (by kernel_rfl)))
def jC (c : Int) : Option Bool :=
  (if c ≥ 97 then
  if c ≤ 122 then
  some true
  else
  if c ≥ 65 then
  some (decide (c ≤ 90))
  else
  some false
  else
  if c ≥ 65 then
  some (decide (c ≤ 90))
  else
  some false : Option Bool).bind fun b5 =>
  some b5
theorem jo (c : Int) {res : Bool} (h : jC c = some res) : qw Tryz.prog (.fn 183) [.int .i32 c] [] (.bool res) [] := by
  unfold jC at h
  refine Goes.fnW Tryz.func183 rfl rfl (m := 17) rfl (rs := [.tmp 2]) rfl (l := [(0, .int .i32 c)]) rfl ?_
  refine sq ?_
  refine Goes.rg fol [(0, .int .i32 c)] [] ?_
  refine sq ?_
  obtain ⟨b5, g_v6, h⟩ := bnd h
  refine Goes.cut (s' := (ofG 17 [(2, .bool b5)], [])) ?_ ?_
  · rcases Bool.eq_false_or_eq_true (decide (c ≥ 97)) with c1 | c1
    · rw [if_pos (ot c1)] at g_v6
      rcases Bool.eq_false_or_eq_true (decide (c ≤ 122)) with c2 | c2
      · rw [if_pos (ot c2)] at g_v6
        obtain rfl := Option.some.inj g_v6
        exact qp.ro fol [(2, (.done (.bool true))), (6, (.done (.bool true)))] [(2, .bool true)] [] [.done (.done (.bool (decide (c ≥ 97)))) (.bool true), .done (.done (.bool (decide (c ≤ 122)))) (.bool true)] (And.intro (congrArg (fun x => Pg.done (.bool x)) c1) (And.intro (congrArg (fun x => Pg.done (.bool x)) c2) trivial))
      · rw [if_neg (of_ c2)] at g_v6
        rcases Bool.eq_false_or_eq_true (decide (c ≥ 65)) with c3 | c3
        · rw [if_pos (ot c3)] at g_v6
          obtain rfl := Option.some.inj g_v6
          exact qp.ro fol [(2, (.done (.bool true))), (6, (.done (.bool false))), (9, (.done (.bool true)))] [(2, .bool (decide (c ≤ 90)))] [] [.done (.done (.bool (decide (c ≥ 97)))) (.bool true), .done (.done (.bool (decide (c ≤ 122)))) (.bool false), .done (.done (.bool (decide (c ≥ 65)))) (.bool true)] (And.intro (congrArg (fun x => Pg.done (.bool x)) c1) (And.intro (congrArg (fun x => Pg.done (.bool x)) c2) (And.intro (congrArg (fun x => Pg.done (.bool x)) c3) trivial)))
        · rw [if_neg (of_ c3)] at g_v6
          obtain rfl := Option.some.inj g_v6
          exact qp.ro fol [(2, (.done (.bool true))), (6, (.done (.bool false))), (9, (.done (.bool false)))] [(2, .bool false)] [] [.done (.done (.bool (decide (c ≥ 97)))) (.bool true), .done (.done (.bool (decide (c ≤ 122)))) (.bool false), .done (.done (.bool (decide (c ≥ 65)))) (.bool false)] (And.intro (congrArg (fun x => Pg.done (.bool x)) c1) (And.intro (congrArg (fun x => Pg.done (.bool x)) c2) (And.intro (congrArg (fun x => Pg.done (.bool x)) c3) trivial)))
    · rw [if_neg (of_ c1)] at g_v6
      rcases Bool.eq_false_or_eq_true (decide (c ≥ 65)) with c4 | c4
      · rw [if_pos (ot c4)] at g_v6
        obtain rfl := Option.some.inj g_v6
        exact qp.ro fol [(2, (.done (.bool false))), (9, (.done (.bool true)))] [(2, .bool (decide (c ≤ 90)))] [] [.done (.done (.bool (decide (c ≥ 97)))) (.bool false), .done (.done (.bool (decide (c ≥ 65)))) (.bool true)] (And.intro (congrArg (fun x => Pg.done (.bool x)) c1) (And.intro (congrArg (fun x => Pg.done (.bool x)) c4) trivial))
      · rw [if_neg (of_ c4)] at g_v6
        obtain rfl := Option.some.inj g_v6
        exact qp.ro fol [(2, (.done (.bool false))), (9, (.done (.bool false)))] [(2, .bool false)] [] [.done (.done (.bool (decide (c ≥ 97)))) (.bool false), .done (.done (.bool (decide (c ≥ 65)))) (.bool false)] (And.intro (congrArg (fun x => Pg.done (.bool x)) c1) (And.intro (congrArg (fun x => Pg.done (.bool x)) c4) trivial))
  refine Goes.ret ?_
  obtain rfl := Option.some.inj h
  exact (Goes.retW (xs := [.bool b5]) (by kernel_rfl) (FzW.still (Still.bool 11 _)))
def zN (s_ : Str) : Nat → Nat → Option (Unit ⊕ Bool)
  | 0, _ => none
  | K + 1, k1 =>
    if k1 < s_.length then
    ((jC (qR s_ k1)).bind fun r5 =>
    if (!r5) = true then
    if (k1 : Int) = 0 then
    some true
    else
    if (!decide ((qR s_ k1) = 95)) = true then
    if (qR s_ k1) < 48 then
    some true
    else
    some (decide ((qR s_ k1) > 57))
    else
    some false
    else
    some false : Option Bool).bind fun b10 =>
    if b10 = true then
    some (.inr false)
    else
    zN s_ K (k1 + runeLen s_ k1)
    else
    some (.inl ())
def vO (N : Nat) (s_ : Str) : Option Bool :=
  (zN s_ N 0).bind (fun
  | (.inl ()) =>
  (if (!(s_ == [])) = true then
  some (decide ((s_.length : Int) ≤ 24))
  else
  some false : Option Bool).bind fun b14 =>
  some b14
  | (.inr q16) =>
  some q16)
theorem qcg (N : Nat) (s_ : Str) {res : Bool} (h : vO N s_ = some res) : qw Tryz.prog (.fn 146) [.str s_] [] (.bool res) [] := by
  unfold vO at h
  refine Goes.fnW Tryz.func146 rfl rfl (m := 37) rfl (rs := [.tmp 2]) rfl (l := [(0, .str s_)]) rfl ?_
  refine sq ?_
  refine Goes.rg fol [(0, .str s_)] [] ?_
  refine sq ?_
  refine sq ?_
  refine Goes.rg fol [(0, .str s_), (6, .ptr 0 0)] [.iter s_ 0] ?_
  refine Goes.block ?_
  obtain ⟨r2, g2, h⟩ := bnd h
  refine Goes.imp (Q := fun x s' => (x = .exit 0 ∧ (.inl ()) = r2 ∧ Sub s' (ofG 37 [(0, .str s_)], [])) ∨ (x = .ret ∧ ∃ q3, (.inr q3) = r2 ∧ zG Tryz.prog [.tmp 2] (.bool q3) .ret s')) ?_ ?_
  · refine Goes.sub (s' := (ofG 37 [(0, .str s_), (6, .ptr 0 0)], [.iter s_ 0])) (Sub.keep [0, 6] rfl rfl) ?_
    refine Goes.loopS (fun M s => ∃ (k1 : Nat), s = (ofG 37 [(0, .str s_), (6, .ptr 0 0)], [.iter s_ k1]) ∧ zN s_ M k1 = some r2) ?_ (m := N) ⟨_, rfl, g2⟩
    rintro M s ⟨k1, rfl, g2⟩
    cases M with
    | zero => simp only [zN] at g2; cases g2
    | succ M =>
      rw [zN] at g2
      refine sq ?_
      rcases Classical.em (k1 < s_.length) with c4 | c4
      · rw [if_pos c4] at g2
        refine Goes.ro fol [(0, (.run (.tuple [.bool true, .i (k1 : Int), .int .i32 (qR s_ k1)]) [.iter s_ (k1 + runeLen s_ k1)] true))] [(0, .str s_), (6, .ptr 0 0), (7, .tuple [.bool true, .i (k1 : Int), .int .i32 (qR s_ k1)]), (8, .bool true)] [.iter s_ (k1 + runeLen s_ k1)] [.run [0] (qcc (.ptr 0 0) true) [.iter s_ k1] (.tuple [.bool true, .i (k1 : Int), .int .i32 (qR s_ k1)]) [.iter s_ (k1 + runeLen s_ k1)] true] (And.intro (qgN rfl c4 rfl) trivial) ?_
        refine sq ?_
        refine Goes.ifB (b := true) (by kernel_rfl) (fun _ => ?_) (fun c => (by cases c))
        refine Goes.skip ?_
        refine Goes.block ?_
        refine sq ?_
        refine Goes.rg fol [(0, .str s_), (3, .i (k1 : Int)), (4, .int .i32 (qR s_ k1)), (6, .ptr 0 0)] [.iter s_ (k1 + runeLen s_ k1)] ?_
        refine sq ?_
        obtain ⟨b10, g_v11, g2⟩ := bnd g2
        refine Goes.cut (s' := (ofG 37 [(0, .str s_), (6, .ptr 0 0), (29, .bool b10)], [.iter s_ (k1 + runeLen s_ k1)])) ?_ ?_
        · obtain ⟨r5, e_r5, g_v11⟩ := bnd g_v11
          rcases Bool.eq_false_or_eq_true (!r5) with c6 | c6
          · rw [if_pos (c6)] at g_v11
            rcases Bool.eq_false_or_eq_true (decide ((k1 : Int) = 0)) with c7 | c7
            · rw [if_pos (ot c7)] at g_v11
              obtain rfl := Option.some.inj g_v11
              exact qp.ro fol [(1, (.call [] [.int .i32 (qR s_ k1)] (.bool r5))), (3, (.done (.bool true))), (6, (.done (.bool true)))] [(0, .str s_), (6, .ptr 0 0), (29, .bool true)] [.iter s_ (k1 + runeLen s_ k1)] [.call 183 [.int .i32 (qR s_ k1)] [.iter s_ (k1 + runeLen s_ k1)] [] [.int .i32 (qR s_ k1)] (.bool r5), .done (.done (.bool (!r5))) (.bool true), .done (.done (.bool (decide ((k1 : Int) = 0)))) (.bool true)] (And.intro (qo (AllST.cons (Still.int 11 _ _) AllST.nil) (jo (qR s_ k1) e_r5) (Still.bool 11 _)) (And.intro (congrArg (fun x => Pg.done (.bool x)) c6) (And.intro (congrArg (fun x => Pg.done (.bool x)) c7) trivial)))
            · rw [if_neg (of_ c7)] at g_v11
              rcases Bool.eq_false_or_eq_true (!decide ((qR s_ k1) = 95)) with c8 | c8
              · rw [if_pos (c8)] at g_v11
                rcases Bool.eq_false_or_eq_true (decide ((qR s_ k1) < 48)) with c9 | c9
                · rw [if_pos (ot c9)] at g_v11
                  obtain rfl := Option.some.inj g_v11
                  exact qp.ro fol [(1, (.call [] [.int .i32 (qR s_ k1)] (.bool r5))), (3, (.done (.bool true))), (6, (.done (.bool false))), (9, (.done (.bool true))), (12, (.done (.bool true)))] [(0, .str s_), (6, .ptr 0 0), (29, .bool true)] [.iter s_ (k1 + runeLen s_ k1)] [.call 183 [.int .i32 (qR s_ k1)] [.iter s_ (k1 + runeLen s_ k1)] [] [.int .i32 (qR s_ k1)] (.bool r5), .done (.done (.bool (!r5))) (.bool true), .done (.done (.bool (decide ((k1 : Int) = 0)))) (.bool false), .done (.done (.bool (!decide ((qR s_ k1) = 95)))) (.bool true), .done (.done (.bool (decide ((qR s_ k1) < 48)))) (.bool true)] (And.intro (qo (AllST.cons (Still.int 11 _ _) AllST.nil) (jo (qR s_ k1) e_r5) (Still.bool 11 _)) (And.intro (congrArg (fun x => Pg.done (.bool x)) c6) (And.intro (congrArg (fun x => Pg.done (.bool x)) c7) (And.intro (congrArg (fun x => Pg.done (.bool x)) c8) (And.intro (congrArg (fun x => Pg.done (.bool x)) c9) trivial)))))
                · rw [if_neg (of_ c9)] at g_v11
                  obtain rfl := Option.some.inj g_v11
                  exact qp.ro fol [(1, (.call [] [.int .i32 (qR s_ k1)] (.bool r5))), (3, (.done (.bool true))), (6, (.done (.bool false))), (9, (.done (.bool true))), (12, (.done (.bool false)))] [(0, .str s_), (6, .ptr 0 0), (29, .bool (decide ((qR s_ k1) > 57)))] [.iter s_ (k1 + runeLen s_ k1)] [.call 183 [.int .i32 (qR s_ k1)] [.iter s_ (k1 + runeLen s_ k1)] [] [.int .i32 (qR s_ k1)] (.bool r5), .done (.done (.bool (!r5))) (.bool true), .done (.done (.bool (decide ((k1 : Int) = 0)))) (.bool false), .done (.done (.bool (!decide ((qR s_ k1) = 95)))) (.bool true), .done (.done (.bool (decide ((qR s_ k1) < 48)))) (.bool false)] (And.intro (qo (AllST.cons (Still.int 11 _ _) AllST.nil) (jo (qR s_ k1) e_r5) (Still.bool 11 _)) (And.intro (congrArg (fun x => Pg.done (.bool x)) c6) (And.intro (congrArg (fun x => Pg.done (.bool x)) c7) (And.intro (congrArg (fun x => Pg.done (.bool x)) c8) (And.intro (congrArg (fun x => Pg.done (.bool x)) c9) trivial)))))
              · rw [if_neg (by rw [c8]; exact Bool.false_ne_true)] at g_v11
                obtain rfl := Option.some.inj g_v11
                exact qp.ro fol [(1, (.call [] [.int .i32 (qR s_ k1)] (.bool r5))), (3, (.done (.bool true))), (6, (.done (.bool false))), (9, (.done (.bool false)))] [(0, .str s_), (6, .ptr 0 0), (29, .bool false)] [.iter s_ (k1 + runeLen s_ k1)] [.call 183 [.int .i32 (qR s_ k1)] [.iter s_ (k1 + runeLen s_ k1)] [] [.int .i32 (qR s_ k1)] (.bool r5), .done (.done (.bool (!r5))) (.bool true), .done (.done (.bool (decide ((k1 : Int) = 0)))) (.bool false), .done (.done (.bool (!decide ((qR s_ k1) = 95)))) (.bool false)] (And.intro (qo (AllST.cons (Still.int 11 _ _) AllST.nil) (jo (qR s_ k1) e_r5) (Still.bool 11 _)) (And.intro (congrArg (fun x => Pg.done (.bool x)) c6) (And.intro (congrArg (fun x => Pg.done (.bool x)) c7) (And.intro (congrArg (fun x => Pg.done (.bool x)) c8) trivial))))
          · rw [if_neg (by rw [c6]; exact Bool.false_ne_true)] at g_v11
            obtain rfl := Option.some.inj g_v11
            exact qp.ro fol [(1, (.call [] [.int .i32 (qR s_ k1)] (.bool r5))), (3, (.done (.bool false)))] [(0, .str s_), (6, .ptr 0 0), (29, .bool false)] [.iter s_ (k1 + runeLen s_ k1)] [.call 183 [.int .i32 (qR s_ k1)] [.iter s_ (k1 + runeLen s_ k1)] [] [.int .i32 (qR s_ k1)] (.bool r5), .done (.done (.bool (!r5))) (.bool false)] (And.intro (qo (AllST.cons (Still.int 11 _ _) AllST.nil) (jo (qR s_ k1) e_r5) (Still.bool 11 _)) (And.intro (congrArg (fun x => Pg.done (.bool x)) c6) trivial))
        refine Goes.ifB (b := b10) (by kernel_rfl) (fun c12 => ?_) (fun c12 => ?_)
        · rw [if_pos (c12)] at g2
          refine sq ?_
          refine Goes.rg fol [(2, .bool false)] [.iter s_ (k1 + runeLen s_ k1)] ?_
          refine Goes.ret ?_
          obtain rfl := Option.some.inj g2
          exact Or.inr (⟨rfl, _, rfl, (Goes.retW (xs := [.bool false]) (by kernel_rfl) (FzW.still (Still.bool 11 _)))⟩)
        · rw [if_neg (by rw [c12]; exact Bool.false_ne_true)] at g2
          refine Goes.skip ?_
          exact ⟨M, (ofG 37 [(0, .str s_), (6, .ptr 0 0)], [.iter s_ (k1 + runeLen s_ k1)]), Nat.lt_succ_self _, (Sub.keep [0, 6] rfl rfl), _, rfl, g2⟩
      · rw [if_neg c4] at g2
        refine Goes.ro fol [(0, (.run (.tuple [.bool false]) [.iter s_ k1] false))] [(0, .str s_), (6, .ptr 0 0), (7, .tuple [.bool false]), (8, .bool false)] [.iter s_ k1] [.run [0] (qcc (.ptr 0 0) true) [.iter s_ k1] (.tuple [.bool false]) [.iter s_ k1] false] (And.intro (qgv rfl c4) trivial) ?_
        refine sq ?_
        refine Goes.ifB (b := false) (by kernel_rfl) (fun c => (by cases c)) (fun _ => ?_)
        refine Goes.exit ?_
        obtain rfl := Option.some.inj g2
        exact Or.inl (⟨rfl, rfl, (Sub.norm [] [] rfl rfl (.keep (.same (qc.str _)) .nil) .nil)⟩)
  rintro x s' (⟨rfl, rfl, hsub⟩ | ⟨rfl, q16, rfl, hret⟩)
  · try dsimp only at h
    refine Goes.sub hsub ?_
    refine sq ?_
    obtain ⟨b14, g_v15, h⟩ := bnd h
    refine Goes.cut (s' := (ofG 37 [(2, .bool b14)], [])) ?_ ?_
    · rcases Bool.eq_false_or_eq_true (!(s_ == [])) with c13 | c13
      · rw [if_pos (c13)] at g_v15
        obtain rfl := Option.some.inj g_v15
        exact qp.ro fol [(2, (.done (.bool true)))] [(2, .bool (decide ((s_.length : Int) ≤ 24)))] [] [.done (.done (.bool (!(s_ == [])))) (.bool true)] (And.intro (congrArg (fun x => Pg.done (.bool x)) c13) trivial)
      · rw [if_neg (by rw [c13]; exact Bool.false_ne_true)] at g_v15
        obtain rfl := Option.some.inj g_v15
        exact qp.ro fol [(2, (.done (.bool false)))] [(2, .bool false)] [] [.done (.done (.bool (!(s_ == [])))) (.bool false)] (And.intro (congrArg (fun x => Pg.done (.bool x)) c13) trivial)
    refine Goes.ret ?_
    obtain rfl := Option.some.inj h
    exact (Goes.retW (xs := [.bool b14]) (by kernel_rfl) (FzW.still (Still.bool 11 _)))
  · try dsimp only at h
    obtain rfl := Option.some.inj h
    exact hret
def vL (N : Nat) (s_ : Str) : Option Int :=
  (vO N s_).bind fun r1 =>
  (qZ (!r1) 8).bind fun r2 =>
  some r2
theorem qaA (N : Nat) (s_ : Str) {res : Int} (h : vL N s_ = some res) : qw Tryz.prog (.fn 89) [.str s_] [] (.i res) [] := by
  unfold vL at h
  refine Goes.fnW Tryz.func89 rfl rfl (m := 7) rfl (rs := [.tmp 2]) rfl (l := [(0, .str s_)]) rfl ?_
  refine sq ?_
  refine Goes.rg fol [(0, .str s_)] [] ?_
  refine sq ?_
  obtain ⟨r1, e_r1, h⟩ := bnd h
  obtain ⟨r2, e_r2, h⟩ := bnd h
  refine Goes.ro fol [(1, (.call [] [.str s_] (.bool r1))), (3, (.call [] [.bool (!r1), .i 8] (.i r2)))] [(2, .i r2)] [] [.call 146 [.str s_] [] [] [.str s_] (.bool r1), .call 88 [.bool (!r1), .i 8] [] [] [.bool (!r1), .i 8] (.i r2)] (And.intro (qo (AllST.cons (Still.str 11 _) AllST.nil) (qcg N s_ e_r1) (Still.bool 11 _)) (And.intro (qo (AllST.cons (Still.bool 11 _) (AllST.cons (Still.int 11 _ _) AllST.nil)) (qI (!r1) 8 e_r2) (Still.int 11 _ _)) trivial)) ?_
  refine Goes.ret ?_
  obtain rfl := Option.some.inj h
  exact (Goes.retW (xs := [.i r2]) (by kernel_rfl) (FzW.still (Still.int 11 _ _)))
end Go.Av
