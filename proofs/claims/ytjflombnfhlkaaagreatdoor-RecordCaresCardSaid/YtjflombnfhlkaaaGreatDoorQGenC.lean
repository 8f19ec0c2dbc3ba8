/-
  The walk of the law.
-/
import Derived.Test.YtjflombnfhlkaaaGreatDoorQGenC3
import Derived.Test.YtjflombnfhlkaaaGreatDoorAvAwk10
noncomputable section
namespace Go.Av
open Go.Proofs Go.RowKit
set_option linter.unusedSectionVars false
set_option linter.unusedVariables false
set_option linter.unusedSimpArgs false
set_option maxRecDepth 100000
def awk : Option Bool := some true
theorem qe0 {res : Bool} (h : awk = some res) : qp Tryz.prog (.fn 15) [] [] (.bool res) [] := by
  obtain rfl := si h
  exact qjn
def zi (r27 : Bool × Int) (r28 : Int × Int) (r30 : Bool) : Nat → Int → Int → Option Int
  | 0, _, _ => none
  | K + 1, n31, n_32 =>
    if n31 < 3 then
    (((idx ([r27.1, decide (r28.2 = 0), r30] : List Bool) n31).bind fun x38 =>
    if x38 = true then
    some (w64 (n_32 + 1))
    else
    some n_32 : Option Int)).bind fun n_36 =>
    zi r27 r28 r30 K (w64 (n31 + 1)) n_36
    else
    some n_32
def kR (l : List ql) (x26 : qf) (r29 : (List Int) × Int) : Nat → Int → Option (Unit ⊕ Bool)
  | 0, _ => none
  | K + 1, n50 =>
    if n50 < (r29.1.length : Int) then
    (idx r29.1 n50).bind fun x54 =>
    (if x54 < 1 then
    some true
    else
    if x54 > (l.length : Int) then
    some true
    else
    if n50 > 0 then
    (idx r29.1 (w64 (n50 - 1))).bind fun x58 =>
    if x54 ≤ x58 then
    some true
    else
    (idx l (w64 (x54 - 1))).bind fun x60 =>
    if (x60.Names.length : Int) = 0 then
    some true
    else
    (idx x60.Names 0).bind fun x62 =>
    if (!(x62 == x26.Name)) = true then
    if (!(x60.Kind == [114, 101, 99, 97, 108, 108])) = true then
    some true
    else
    some (!(x62 == x26.Batch))
    else
    some false
    else
    (idx l (w64 (x54 - 1))).bind fun x65 =>
    if (x65.Names.length : Int) = 0 then
    some true
    else
    (idx x65.Names 0).bind fun x67 =>
    if (!(x67 == x26.Name)) = true then
    if (!(x65.Kind == [114, 101, 99, 97, 108, 108])) = true then
    some true
    else
    some (!(x67 == x26.Batch))
    else
    some false : Option Bool).bind fun b70 =>
    if b70 = true then
    some (.inr false)
    else
    kR l x26 r29 K (w64 (n50 + 1))
    else
    some (.inl ())
def kN (N : Nat) (l : List ql) (day : Int) (r14 : kD × Int × Int) (r15 : (List Str) × Int) : Nat → Int → Int → Option (Int ⊕ Bool)
  | 0, _, _ => none
  | K + 1, found_20, n21 =>
    if n21 < (r14.1.Slings.length : Int) then
    (idx r14.1.Slings n21).bind fun x26 =>
    (jl N l x26.Name day).bind fun r27 =>
    (jM N l x26.Name day).bind fun r28 =>
    (vR N l x26.Name).bind fun r29 =>
    (jh N r15.1 x26.Name).bind fun r30 =>
    (zi r27 r28 r30 N 0 0).bind fun n_33 =>
    (if (!decide (r27.2 = 0)) = true then
    some true
    else
    if (!decide (r29.2 = 0)) = true then
    some true
    else
    if (!decide (n_33 = 1)) = true then
    some true
    else
    some (decide ((r29.1.length : Int) = 0)) : Option Bool).bind fun b43 =>
    if b43 = true then
    some (.inr false)
    else
    (jh N r15.1 x26.Name).bind fun r46 =>
    ((if r46 = true then
    some (w64 (found_20 + 1))
    else
    some found_20 : Option Int)).bind fun found_47 =>
    (kR l x26 r29 N 0).bind (fun
    | (.inl ()) =>
    (idx r29.1 0).bind fun x73 =>
    (idx l (w64 (x73 - 1))).bind fun x74 =>
    if (!(x74.Kind == [109, 97, 107, 101])) = true then
    some (.inr false)
    else
    kN N l day r14 r15 K found_47 (w64 (n21 + 1))
    | (.inr q76) =>
    some (.inr q76))
    else
    some (.inl found_20)
def kP (N : Nat) (batch : Str) (r14 : kD × Int × Int) (r78 : (List Str) × Int) : Nat → Int → Int → Option (Int ⊕ Bool)
  | 0, _, _ => none
  | K + 1, n79, own_80 =>
    if n79 < (r14.1.Slings.length : Int) then
    (((idx r14.1.Slings n79).bind fun x88 =>
    if (x88.Batch == batch) = true then
    (jh N r78.1 x88.Name).bind fun r90 =>
    if (!r90) = true then
    some (.inr false)
    else
    some (.inl (w64 (own_80 + 1)))
    else
    some (.inl own_80) : Option (Int ⊕ Bool))).bind (fun
    | (.inl own_85) =>
    kP N batch r14 r78 K (w64 (n79 + 1)) own_85
    | (.inr q92) =>
    some (.inr q92))
    else
    some (.inl own_80)
def kQ (N : Nat) (r78 : (List Str) × Int) (l105 : List ql) : Nat → Int → Option (Unit ⊕ Bool)
  | 0, _ => none
  | K + 1, n106 =>
    if n106 < (r78.1.length : Int) then
    (idx r78.1 n106).bind fun x110 =>
    (jl N l105 x110 0).bind fun r111 =>
    (if (!decide (r111.2 = 0)) = true then
    some true
    else
    some (!r111.1) : Option Bool).bind fun b113 =>
    if b113 = true then
    some (.inr false)
    else
    kQ N r78 l105 K (w64 (n106 + 1))
    else
    some (.inl ())
def vO (N : Nat) (l : List ql) (batch : Str) (day : Int) : Option Bool :=
  (jo N l 20).bind fun r1 =>
  if (!r1) = true then
  (awk).bind fun r3 =>
  some r3
  else
  (vX N l).bind fun r4 =>
  (if (!decide (r4.2.2 = 0)) = true then
  some true
  else
  (zD day 0 99999).bind fun r6 =>
  if r6 = true then
  some true
  else
  if (batch.length : Int) > 60 then
  some true
  else
  (vZ N batch).bind fun r9 =>
  some (!r9) : Option Bool).bind fun b10 =>
  if b10 = true then
  (awk).bind fun r13 =>
  some r13
  else
  (yu N l).bind fun r14 =>
  (xL N l day).bind fun r15 =>
  (if (!decide (r14.2.2 = 0)) = true then
  some true
  else
  some (!decide (r15.2 = 0)) : Option Bool).bind fun b17 =>
  if b17 = true then
  some false
  else
  (kN N l day r14 r15 N 0 0).bind (fun
  | (.inl found_22) =>
  if (!decide (found_22 = (r15.1.length : Int))) = true then
  some false
  else
  (yG N l batch).bind fun r78 =>
  (kP N batch r14 r78 N 0 0).bind (fun
  | (.inl own_81) =>
  (if (!decide ((r78.1.length : Int) = own_81)) = true then
  some true
  else
  some (!((decide (r78.2 = 0)) == (decide (own_81 > 0)))) : Option Bool).bind fun b94 =>
  if b94 = true then
  some false
  else
  (vW N l (⟨w64 ((l.length : Int) + 1), [114, 101, 99, 97, 108, 108], ([batch] : List Str), ([(if r14.1.Day > day then r14.1.Day else day)] : List Int), []⟩ : ql)).bind fun r97 =>
  if (!decide (r97 = 0)) = true then
  (awk).bind fun r99 =>
  some r99
  else
  (app 88 ([] : List ql) l).bind fun l104 =>
  (app 88 l104 [(⟨w64 ((l.length : Int) + 1), [114, 101, 99, 97, 108, 108], ([batch] : List Str), ([(if r14.1.Day > day then r14.1.Day else day)] : List Int), []⟩ : ql)]).bind fun l105 =>
  (kQ N r78 l105 N 0).bind (fun
  | (.inl ()) =>
  (if (r78.1.length : Int) > 0 then
  (awk).bind fun r117 =>
  some r117
  else
  some false : Option Bool).bind fun b118 =>
  some b118
  | (.inr q120) =>
  some q120)
  | (.inr q121) =>
  some q121)
  | (.inr q122) =>
  some q122)
theorem qa8 (N : Nat) (l : List ql) (batch : Str) (day : Int) {res : Bool} (h : vO N l batch day = some res) : qp Tryz.prog (.fn 8) [vl qb l, .str batch, .i day] [] (.bool res) [] := by
  unfold vO at h
  refine Goes.fnW Tryz.func8 rfl rfl (m := 324) rfl (rs := [.tmp 6]) rfl (l := [(0, vl qb l), (1, .str batch), (2, .i day)]) rfl ?_
  refine sq (Goes.rg fol [(0, vl qb l), (1, .str batch), (2, .i day)] [] ?_)
  refine sq ?_
  refine sq ?_
  obtain ⟨r1, e_r1, h⟩ := bnd h
  refine Goes.rp fol [1] [(0, vl qb l), (1, .str batch), (2, .i day), (42, .bool (!r1))] [] [.call 14 [vl qb l, .i 20] [] [] [vl qb l, .i 20] (.bool r1)] (an (qm (AllST.cons (qx qb _ (nl rfl)) (AllST.cons tI AllST.nil)) (qbh N l 20 e_r1) tB) trivial) ?_
  refine Goes.ifB (b := !r1) (by kernel_rfl) (fun c2 => ?_) (fun c2 => ?_)
  · rw [if_pos (c2)] at h
    refine sq ?_
    obtain ⟨r3, e_r3, h⟩ := bnd h
    refine Goes.rp fol [0] [(6, .bool r3)] [] [.call 15 [] [] [] [] (.bool r3)] (an (qm AllST.nil (qe0 e_r3) tB) trivial) ?_
    refine Goes.ret ?_
    obtain rfl := si h
    exact (Goes.retW (xs := [.bool r3]) (by kernel_rfl) (FzW.still tB))
  · rw [if_neg (nb c2)] at h
    refine Goes.skip ?_
    refine sq ?_
    obtain ⟨r4, e_r4, h⟩ := bnd h
    refine Goes.rp fol [1] [(0, vl qb l), (1, .str batch), (2, .i day), (9, .i r4.2.2)] [.cells [.i r4.1.Day, vl qa r4.1.Slings]] [.call 17 [vl qb l] [] [] [vl qb l] (.tuple [.agg [.i r4.1.Day, vl qa r4.1.Slings], .i r4.2.1, .i r4.2.2])] (an (qm (AllST.cons (qx qb _ (nl rfl)) AllST.nil) (qdg N l e_r4) (Still.tuple (AllST.cons (Still.agg (AllST.cons tI (AllST.cons (qx qa _ (nl rfl)) AllST.nil))) (AllST.cons tI (AllST.cons tI AllST.nil))))) trivial) ?_
    refine sq ?_
    refine sq ?_
    obtain ⟨b10, g_v11, h⟩ := bnd h
    refine Goes.cut (s' := (ofG 324 [(0, vl qb l), (1, .str batch), (2, .i day), (65, .bool b10)], [.cells [.i r4.1.Day, vl qa r4.1.Slings]])) ?_ ?_
    · rcases Bool.eq_false_or_eq_true (!decide (r4.2.2 = 0)) with c5 | c5
      · rw [if_pos (c5)] at g_v11
        obtain rfl := si g_v11
        exact qo.rp fol [2] [(0, vl qb l), (1, .str batch), (2, .i day), (65, .bool true)] [.cells [.i r4.1.Day, vl qa r4.1.Slings]] [.done (.done (.bool (!decide (r4.2.2 = 0)))) (.bool true)] (an (congrArg (fun x => Pg.done (.bool x)) c5) trivial)
      · rw [if_neg (nb c5)] at g_v11
        obtain ⟨r6, e_r6, g_v11⟩ := bnd g_v11
        rcases Bool.eq_false_or_eq_true (r6) with c7 | c7
        · rw [if_pos (c7)] at g_v11
          obtain rfl := si g_v11
          exact qo.rp fol [2, 4, 6] [(0, vl qb l), (1, .str batch), (2, .i day), (65, .bool true)] [.cells [.i r4.1.Day, vl qa r4.1.Slings]] [.done (.done (.bool (!decide (r4.2.2 = 0)))) (.bool false), .call 36 [.i day, .i 0, .i 99999] [.cells [.i r4.1.Day, vl qa r4.1.Slings]] [] [.i day, .i 0, .i 99999] (.bool r6), .done (.done (.bool r6)) (.bool true)] (an (congrArg (fun x => Pg.done (.bool x)) c5) (an (qm (AllST.cons tI (AllST.cons tI (AllST.cons tI AllST.nil))) (kI day 0 99999 e_r6) tB) (an (congrArg (fun x => Pg.done (.bool x)) c7) trivial)))
        · rw [if_neg (nb c7)] at g_v11
          rcases Bool.eq_false_or_eq_true (decide ((batch.length : Int) > 60)) with c8 | c8
          · rw [if_pos (ot c8)] at g_v11
            obtain rfl := si g_v11
            exact qo.rp fol [2, 4, 6, 11] [(0, vl qb l), (1, .str batch), (2, .i day), (65, .bool true)] [.cells [.i r4.1.Day, vl qa r4.1.Slings]] [.done (.done (.bool (!decide (r4.2.2 = 0)))) (.bool false), .call 36 [.i day, .i 0, .i 99999] [.cells [.i r4.1.Day, vl qa r4.1.Slings]] [] [.i day, .i 0, .i 99999] (.bool r6), .done (.done (.bool r6)) (.bool false), .done (.done (.bool (decide ((batch.length : Int) > 60)))) (.bool true)] (an (congrArg (fun x => Pg.done (.bool x)) c5) (an (qm (AllST.cons tI (AllST.cons tI (AllST.cons tI AllST.nil))) (kI day 0 99999 e_r6) tB) (an (congrArg (fun x => Pg.done (.bool x)) c7) (an (congrArg (fun x => Pg.done (.bool x)) c8) trivial))))
          · rw [if_neg (of_ c8)] at g_v11
            obtain ⟨r9, e_r9, g_v11⟩ := bnd g_v11
            obtain rfl := si g_v11
            exact qo.rp fol [2, 4, 6, 11, 13] [(0, vl qb l), (1, .str batch), (2, .i day), (65, .bool (!r9))] [.cells [.i r4.1.Day, vl qa r4.1.Slings]] [.done (.done (.bool (!decide (r4.2.2 = 0)))) (.bool false), .call 36 [.i day, .i 0, .i 99999] [.cells [.i r4.1.Day, vl qa r4.1.Slings]] [] [.i day, .i 0, .i 99999] (.bool r6), .done (.done (.bool r6)) (.bool false), .done (.done (.bool (decide ((batch.length : Int) > 60)))) (.bool false), .call 47 [.str batch] [.cells [.i r4.1.Day, vl qa r4.1.Slings]] [] [.str batch] (.bool r9)] (an (congrArg (fun x => Pg.done (.bool x)) c5) (an (qm (AllST.cons tI (AllST.cons tI (AllST.cons tI AllST.nil))) (kI day 0 99999 e_r6) tB) (an (congrArg (fun x => Pg.done (.bool x)) c7) (an (congrArg (fun x => Pg.done (.bool x)) c8) (an (qm (AllST.cons tS AllST.nil) (qaS N batch e_r9) tB) trivial)))))
    refine Goes.ifB (b := b10) (by kernel_rfl) (fun c12 => ?_) (fun c12 => ?_)
    · rw [if_pos (c12)] at h
      refine sq ?_
      obtain ⟨r13, e_r13, h⟩ := bnd h
      refine Goes.rp fol [0] [(6, .bool r13)] [.cells [.i r4.1.Day, vl qa r4.1.Slings]] [.call 15 [] [.cells [.i r4.1.Day, vl qa r4.1.Slings]] [] [] (.bool r13)] (an (qm AllST.nil (qe0 e_r13) tB) trivial) ?_
      refine Goes.ret ?_
      obtain rfl := si h
      exact (Goes.retW (xs := [.bool r13]) (by kernel_rfl) (FzW.still tB))
    · rw [if_neg (nb c12)] at h
      refine Goes.skip ?_
      refine sq ?_
      obtain ⟨r14, e_r14, h⟩ := bnd h
      refine Goes.rp fol [1] [(0, vl qb l), (1, .str batch), (2, .i day), (10, .ptr 1 0), (12, .i r14.2.2)] [.cells [.i r4.1.Day, vl qa r4.1.Slings], .cells [.i r14.1.Day, vl qa r14.1.Slings]] [.call 16 [vl qb l] [.cells [.i r4.1.Day, vl qa r4.1.Slings]] [] [vl qb l] (.tuple [.agg [.i r14.1.Day, vl qa r14.1.Slings], .i r14.2.1, .i r14.2.2])] (an (qm (AllST.cons (qx qb _ (nl rfl)) AllST.nil) (qcI N l e_r14) (Still.tuple (AllST.cons (Still.agg (AllST.cons tI (AllST.cons (qx qa _ (nl rfl)) AllST.nil))) (AllST.cons tI (AllST.cons tI AllST.nil))))) trivial) ?_
      refine sq ?_
      obtain ⟨r15, e_r15, h⟩ := bnd h
      refine Goes.rp fol [2] [(0, vl qb l), (1, .str batch), (2, .i day), (10, .ptr 1 0), (12, .i r14.2.2), (13, vl encS r15.1), (14, .i r15.2)] [.cells [.i r4.1.Day, vl qa r4.1.Slings], .cells [.i r14.1.Day, vl qa r14.1.Slings]] [.call 37 [vl qb l, .i day] [.cells [.i r4.1.Day, vl qa r4.1.Slings], .cells [.i r14.1.Day, vl qa r14.1.Slings]] [] [vl qb l, .i day] (.tuple [vl encS r15.1, .i r15.2])] (an (qm (AllST.cons (qx qb _ (nl rfl)) (AllST.cons tI AllST.nil)) (qeq N l day e_r15) (Still.tuple (AllST.cons (qx encS _ (nl rfl)) (AllST.cons tI AllST.nil)))) trivial) ?_
      refine sq ?_
      refine sq ?_
      obtain ⟨b17, g_v18, h⟩ := bnd h
      refine Goes.cut (s' := (ofG 324 [(0, vl qb l), (1, .str batch), (2, .i day), (10, .ptr 1 0), (13, vl encS r15.1), (84, .bool b17)], [.cells [.i r4.1.Day, vl qa r4.1.Slings], .cells [.i r14.1.Day, vl qa r14.1.Slings]])) ?_ ?_
      · rcases Bool.eq_false_or_eq_true (!decide (r14.2.2 = 0)) with c16 | c16
        · rw [if_pos (c16)] at g_v18
          obtain rfl := si g_v18
          exact qo.rp fol [2] [(0, vl qb l), (1, .str batch), (2, .i day), (10, .ptr 1 0), (13, vl encS r15.1), (84, .bool true)] [.cells [.i r4.1.Day, vl qa r4.1.Slings], .cells [.i r14.1.Day, vl qa r14.1.Slings]] [.done (.done (.bool (!decide (r14.2.2 = 0)))) (.bool true)] (an (congrArg (fun x => Pg.done (.bool x)) c16) trivial)
        · rw [if_neg (nb c16)] at g_v18
          obtain rfl := si g_v18
          exact qo.rp fol [2] [(0, vl qb l), (1, .str batch), (2, .i day), (10, .ptr 1 0), (13, vl encS r15.1), (84, .bool (!decide (r15.2 = 0)))] [.cells [.i r4.1.Day, vl qa r4.1.Slings], .cells [.i r14.1.Day, vl qa r14.1.Slings]] [.done (.done (.bool (!decide (r14.2.2 = 0)))) (.bool false)] (an (congrArg (fun x => Pg.done (.bool x)) c16) trivial)
      refine Goes.ifB (b := b17) (by kernel_rfl) (fun c19 => ?_) (fun c19 => ?_)
      · rw [if_pos (c19)] at h
        refine sq (Goes.rg fol [(6, .bool false)] [.cells [.i r4.1.Day, vl qa r4.1.Slings], .cells [.i r14.1.Day, vl qa r14.1.Slings]] ?_)
        refine Goes.ret ?_
        obtain rfl := si h
        exact (Goes.retW (xs := [.bool false]) (by kernel_rfl) (FzW.still tB))
      · rw [if_neg (nb c19)] at h
        refine Goes.skip ?_
        refine sq (Goes.rg fol [(0, vl qb l), (1, .str batch), (2, .i day), (10, .ptr 1 0), (13, vl encS r15.1), (15, .i 0)] [.cells [.i r4.1.Day, vl qa r4.1.Slings], .cells [.i r14.1.Day, vl qa r14.1.Slings]] ?_)
        refine sq ?_
        refine sq (Goes.rg fol [(0, vl qb l), (1, .str batch), (2, .i day), (10, .ptr 1 0), (13, vl encS r15.1), (15, .i 0), (86, vl qa r14.1.Slings), (87, .i (r14.1.Slings.length : Int)), (88, .i 0)] [.cells [.i r4.1.Day, vl qa r4.1.Slings], .cells [.i r14.1.Day, vl qa r14.1.Slings]] ?_)
        refine Goes.block ?_
        obtain ⟨r23, g23, h⟩ := bnd h
        refine Goes.imp (Q := fun x s' => (x = .exit 0 ∧ ∃ found_22, (.inl found_22) = r23 ∧ Sub s' (ofG 324 [(0, vl qb l), (1, .str batch), (2, .i day), (10, .ptr 0 0), (13, vl encS r15.1), (15, .i found_22)], [.cells [.i r14.1.Day, vl qa r14.1.Slings]])) ∨ (x = .ret ∧ ∃ q24, (.inr q24) = r23 ∧ zw Tryz.prog [.tmp 6] (.bool q24) .ret s')) ?_ ?_
        · refine Goes.sub (s' := (ofG 324 [(0, vl qb l), (1, .str batch), (2, .i day), (10, .ptr 0 0), (13, vl encS r15.1), (15, .i 0), (86, vl qa r14.1.Slings), (87, .i (r14.1.Slings.length : Int)), (88, .i 0)], [.cells [.i r14.1.Day, vl qa r14.1.Slings]])) (Sub.norm [] [some 1] rfl rfl (.keep (.same (qj qb _)) (.keep (.same nS) (.keep (.same nI) (.keep (.ptr rfl) (.keep (.same (qj encS _)) (.keep (.same nI) (.keep (.same (qj qa _)) (.keep (.same nI) (.keep (.same nI) .nil))))))))) (.keep rfl (.same (qd.cons nI (qd.cons (qj qa _) qd.nil))) rfl rfl .nil)) ?_
          refine Goes.loopS (fun M s => ∃ (found_20 : Int) (n21 : Int), s = (ofG 324 [(0, vl qb l), (1, .str batch), (2, .i day), (10, .ptr 0 0), (13, vl encS r15.1), (15, .i found_20), (86, vl qa r14.1.Slings), (87, .i (r14.1.Slings.length : Int)), (88, .i n21)], [.cells [.i r14.1.Day, vl qa r14.1.Slings]]) ∧ kN N l day r14 r15 M found_20 n21 = some r23) ?_ (m := N) ⟨_, _, rfl, g23⟩
          rintro M s ⟨found_20, n21, rfl, g23⟩
          cases M with
          | zero => simp only [kN] at g23; cases g23
          | succ M =>
            rw [kN] at g23
            refine sq (Goes.rg fol [(0, vl qb l), (1, .str batch), (2, .i day), (10, .ptr 0 0), (13, vl encS r15.1), (15, .i found_20), (86, vl qa r14.1.Slings), (87, .i (r14.1.Slings.length : Int)), (88, .i n21), (89, .bool (decide (n21 < (r14.1.Slings.length : Int))))] [.cells [.i r14.1.Day, vl qa r14.1.Slings]] ?_)
            refine sq ?_
            refine Goes.ifB (b := decide (n21 < (r14.1.Slings.length : Int))) (by kernel_rfl) (fun c25 => ?_) (fun c25 => ?_)
            · rw [if_pos (ot c25)] at g23
              refine Goes.skip ?_
              refine sq (Goes.block ?_)
              refine sq ?_
              obtain ⟨x26, e_x26, g23⟩ := bnd g23
              refine Goes.rp fol [0, 1] [(0, vl qb l), (1, .str batch), (2, .i day), (10, .ptr 0 0), (13, vl encS r15.1), (15, .i found_20), (17, .ptr 1 0), (86, vl qa r14.1.Slings), (87, .i (r14.1.Slings.length : Int)), (88, .i n21)] [.cells [.i r14.1.Day, vl qa r14.1.Slings], .cells (cS x26)] [.done (.opt (qh Tryz.prog 29 (vl qa r14.1.Slings) (.i n21))) (.fptr (r14.1.Slings.flatMap qa.c) ((n21 : Int).toNat * 9 + 0)), .done (qw Tryz.prog 68 (.fptr (r14.1.Slings.flatMap qa.c) ((n21 : Int).toNat * 9 + 0))) (.agg (cS x26))] (an (qA xq (E := qa) rfl e_x26) (an (qab qfl (E := qa) rfl e_x26) trivial)) ?_
              refine sq ?_
              obtain ⟨r27, e_r27, g23⟩ := bnd g23
              refine Goes.rp fol [4] [(0, vl qb l), (1, .str batch), (2, .i day), (10, .ptr 0 0), (13, vl encS r15.1), (15, .i found_20), (17, .ptr 1 0), (18, .bool r27.1), (19, .i r27.2), (86, vl qa r14.1.Slings), (87, .i (r14.1.Slings.length : Int)), (88, .i n21)] [.cells [.i r14.1.Day, vl qa r14.1.Slings], .cells (cS x26)] [.call 25 [vl qb l, .str x26.Name, .i day] [.cells [.i r14.1.Day, vl qa r14.1.Slings], .cells (cS x26)] [] [vl qb l, .str x26.Name, .i day] (.tuple [.bool r27.1, .i r27.2])] (an (qm (AllST.cons (qx qb _ (nl rfl)) (AllST.cons tS (AllST.cons tI AllST.nil))) (x9 N l x26.Name day e_r27) (Still.tuple (AllST.cons tB (AllST.cons tI AllST.nil)))) trivial) ?_
              refine sq ?_
              obtain ⟨r28, e_r28, g23⟩ := bnd g23
              refine Goes.rp fol [4] [(0, vl qb l), (1, .str batch), (2, .i day), (10, .ptr 0 0), (13, vl encS r15.1), (15, .i found_20), (17, .ptr 1 0), (18, .bool r27.1), (19, .i r27.2), (21, .i r28.2), (86, vl qa r14.1.Slings), (87, .i (r14.1.Slings.length : Int)), (88, .i n21)] [.cells [.i r14.1.Day, vl qa r14.1.Slings], .cells (cS x26)] [.call 26 [vl qb l, .str x26.Name, .i day] [.cells [.i r14.1.Day, vl qa r14.1.Slings], .cells (cS x26)] [] [vl qb l, .str x26.Name, .i day] (.tuple [.i r28.1, .i r28.2])] (an (qm (AllST.cons (qx qb _ (nl rfl)) (AllST.cons tS (AllST.cons tI AllST.nil))) (qaZ N l x26.Name day e_r28) (Still.tuple (AllST.cons tI (AllST.cons tI AllST.nil)))) trivial) ?_
              refine sq ?_
              obtain ⟨r29, e_r29, g23⟩ := bnd g23
              refine Goes.rp fol [3] [(0, vl qb l), (1, .str batch), (2, .i day), (10, .ptr 0 0), (13, vl encS r15.1), (15, .i found_20), (17, .ptr 1 0), (18, .bool r27.1), (19, .i r27.2), (21, .i r28.2), (22, vl encI r29.1), (23, .i r29.2), (86, vl qa r14.1.Slings), (87, .i (r14.1.Slings.length : Int)), (88, .i n21)] [.cells [.i r14.1.Day, vl qa r14.1.Slings], .cells (cS x26)] [.call 24 [vl qb l, .str x26.Name] [.cells [.i r14.1.Day, vl qa r14.1.Slings], .cells (cS x26)] [] [vl qb l, .str x26.Name] (.tuple [vl encI r29.1, .i r29.2])] (an (qm (AllST.cons (qx qb _ (nl rfl)) (AllST.cons tS AllST.nil)) (qca N l x26.Name e_r29) (Still.tuple (AllST.cons (qx encI _ (nl rfl)) (AllST.cons tI AllST.nil)))) trivial) ?_
              refine sq (Goes.rg fol [(0, vl qb l), (1, .str batch), (2, .i day), (10, .ptr 0 0), (13, vl encS r15.1), (15, .i found_20), (17, .ptr 1 0), (18, .bool r27.1), (19, .i r27.2), (21, .i r28.2), (22, vl encI r29.1), (23, .i r29.2), (24, .i 0), (86, vl qa r14.1.Slings), (87, .i (r14.1.Slings.length : Int)), (88, .i n21)] [.cells [.i r14.1.Day, vl qa r14.1.Slings], .cells (cS x26)] ?_)
              refine sq ?_
              refine sq ?_
              obtain ⟨r30, e_r30, g23⟩ := bnd g23
              refine Goes.rp fol [6] [(0, vl qb l), (1, .str batch), (2, .i day), (10, .ptr 0 0), (13, vl encS r15.1), (15, .i found_20), (17, .ptr 1 0), (19, .i r27.2), (22, vl encI r29.1), (23, .i r29.2), (24, .i 0), (86, vl qa r14.1.Slings), (87, .i (r14.1.Slings.length : Int)), (88, .i n21), (122, .slice 2 0 3 3 1), (123, .i 3), (124, .i 0)] [.cells [.i r14.1.Day, vl qa r14.1.Slings], .cells (cS x26), .cells [.bool r27.1, .bool (decide (r28.2 = 0)), .bool r30]] [.call 48 [vl encS r15.1, .str x26.Name] [.cells [.i r14.1.Day, vl qa r14.1.Slings], .cells (cS x26)] [] [vl encS r15.1, .str x26.Name] (.bool r30)] (an (qm (AllST.cons (qx encS _ (nl rfl)) (AllST.cons tS AllST.nil)) (yS N r15.1 x26.Name e_r30) tB) trivial) ?_
              refine Goes.block ?_
              obtain ⟨r34, g34, g23⟩ := bnd g23
              refine Goes.imp (Q := fun x s' => (x = .exit 2 ∧ ∃ n_33, n_33 = r34 ∧ Sub s' (ofG 324 [(0, vl qb l), (1, .str batch), (2, .i day), (10, .ptr 0 0), (13, vl encS r15.1), (15, .i found_20), (17, .ptr 1 0), (19, .i r27.2), (22, vl encI r29.1), (23, .i r29.2), (24, .i n_33), (86, vl qa r14.1.Slings), (87, .i (r14.1.Slings.length : Int)), (88, .i n21)], [.cells [.i r14.1.Day, vl qa r14.1.Slings], .cells (cS x26)]))) ?_ ?_
              · refine Goes.loopS (fun M s => ∃ (n31 : Int) (n_32 : Int), s = (ofG 324 [(0, vl qb l), (1, .str batch), (2, .i day), (10, .ptr 0 0), (13, vl encS r15.1), (15, .i found_20), (17, .ptr 1 0), (19, .i r27.2), (22, vl encI r29.1), (23, .i r29.2), (24, .i n_32), (86, vl qa r14.1.Slings), (87, .i (r14.1.Slings.length : Int)), (88, .i n21), (122, .slice 2 0 3 3 1), (123, .i 3), (124, .i n31)], [.cells [.i r14.1.Day, vl qa r14.1.Slings], .cells (cS x26), .cells [.bool r27.1, .bool (decide (r28.2 = 0)), .bool r30]]) ∧ zi r27 r28 r30 M n31 n_32 = some r34) ?_ (m := N) ⟨_, _, rfl, g34⟩
                rintro M s ⟨n31, n_32, rfl, g34⟩
                cases M with
                | zero => simp only [zi] at g34; cases g34
                | succ M =>
                  rw [zi] at g34
                  refine sq (Goes.rg fol [(0, vl qb l), (1, .str batch), (2, .i day), (10, .ptr 0 0), (13, vl encS r15.1), (15, .i found_20), (17, .ptr 1 0), (19, .i r27.2), (22, vl encI r29.1), (23, .i r29.2), (24, .i n_32), (86, vl qa r14.1.Slings), (87, .i (r14.1.Slings.length : Int)), (88, .i n21), (122, .slice 2 0 3 3 1), (123, .i 3), (124, .i n31), (125, .bool (decide (n31 < 3)))] [.cells [.i r14.1.Day, vl qa r14.1.Slings], .cells (cS x26), .cells [.bool r27.1, .bool (decide (r28.2 = 0)), .bool r30]] ?_)
                  refine sq ?_
                  refine Goes.ifB (b := decide (n31 < 3)) (by kernel_rfl) (fun c35 => ?_) (fun c35 => ?_)
                  · rw [if_pos (ot c35)] at g34
                    refine Goes.skip ?_
                    refine sq ?_
                    obtain ⟨r37, g37, g34⟩ := bnd g34
                    refine Goes.imp (Q := fun x s' => (x = .normal ∧ ∃ n_36, n_36 = r37 ∧ Sub s' (ofG 324 [(0, vl qb l), (1, .str batch), (2, .i day), (10, .ptr 0 0), (13, vl encS r15.1), (15, .i found_20), (17, .ptr 1 0), (19, .i r27.2), (22, vl encI r29.1), (23, .i r29.2), (24, .i n_36), (86, vl qa r14.1.Slings), (87, .i (r14.1.Slings.length : Int)), (88, .i n21), (122, .slice 2 0 3 3 1), (123, .i 3), (124, .i n31)], [.cells [.i r14.1.Day, vl qa r14.1.Slings], .cells (cS x26), .cells [.bool r27.1, .bool (decide (r28.2 = 0)), .bool r30]]))) ?_ ?_
                    · refine Goes.block ?_
                      refine sq ?_
                      obtain ⟨x38, e_x38, g37⟩ := bnd g37
                      refine Goes.rp fol [0, 1] [(0, vl qb l), (1, .str batch), (2, .i day), (10, .ptr 0 0), (13, vl encS r15.1), (15, .i found_20), (17, .ptr 1 0), (19, .i r27.2), (22, vl encI r29.1), (23, .i r29.2), (24, .i n_32), (26, .bool x38), (86, vl qa r14.1.Slings), (87, .i (r14.1.Slings.length : Int)), (88, .i n21), (122, .slice 2 0 3 3 1), (123, .i 3), (124, .i n31)] [.cells [.i r14.1.Day, vl qa r14.1.Slings], .cells (cS x26), .cells [.bool r27.1, .bool (decide (r28.2 = 0)), .bool r30]] [.done (.opt (qh Tryz.prog 86 (.slice 2 0 ([r27.1, decide (r28.2 = 0), r30] : List Bool).length ([r27.1, decide (r28.2 = 0), r30] : List Bool).length 1) (.i n31))) (.ptr 2 ((n31 : Int).toNat * 1 + 0)), .run [2] (qw Tryz.prog 4 (.ptr 2 ((n31 : Int).toNat * 1 + 0))) [.cells [.i r14.1.Day, vl qa r14.1.Slings], .cells (cS x26), .cells [.bool r27.1, .bool (decide (r28.2 = 0)), .bool r30]] (.bool x38) [.cells [.i r14.1.Day, vl qa r14.1.Slings], .cells (cS x26), .cells [.bool r27.1, .bool (decide (r28.2 = 0)), .bool r30]] false] (an (qhR sl86 e_x38) (an (qem ce4 (E := encB) (l := ([r27.1, decide (r28.2 = 0), r30] : List Bool)) rfl rfl e_x38 (nl rfl) rfl) trivial)) ?_
                      refine sq (Goes.rg fol [(0, vl qb l), (1, .str batch), (2, .i day), (10, .ptr 0 0), (13, vl encS r15.1), (15, .i found_20), (17, .ptr 1 0), (19, .i r27.2), (22, vl encI r29.1), (23, .i r29.2), (24, .i n_32), (86, vl qa r14.1.Slings), (87, .i (r14.1.Slings.length : Int)), (88, .i n21), (122, .slice 2 0 3 3 1), (123, .i 3), (124, .i n31), (128, .bool x38)] [.cells [.i r14.1.Day, vl qa r14.1.Slings], .cells (cS x26), .cells [.bool r27.1, .bool (decide (r28.2 = 0)), .bool r30]] ?_)
                      refine Goes.ifB (b := x38) (by kernel_rfl) (fun c39 => ?_) (fun c39 => ?_)
                      · rw [if_pos (c39)] at g37
                        refine Goes.rg fol [(0, vl qb l), (1, .str batch), (2, .i day), (10, .ptr 0 0), (13, vl encS r15.1), (15, .i found_20), (17, .ptr 1 0), (19, .i r27.2), (22, vl encI r29.1), (23, .i r29.2), (24, .i (w64 (n_32 + 1))), (86, vl qa r14.1.Slings), (87, .i (r14.1.Slings.length : Int)), (88, .i n21), (122, .slice 2 0 3 3 1), (123, .i 3), (124, .i n31)] [.cells [.i r14.1.Day, vl qa r14.1.Slings], .cells (cS x26), .cells [.bool r27.1, .bool (decide (r28.2 = 0)), .bool r30]] ?_
                        obtain rfl := si g37
                        exact ⟨rfl, _, rfl, (Sub.refl _)⟩
                      · rw [if_neg (nb c39)] at g37
                        refine Goes.skip ?_
                        obtain rfl := si g37
                        exact ⟨rfl, _, rfl, (Sub.keep [0, 1, 2, 10, 13, 15, 17, 19, 22, 23, 24, 86, 87, 88, 122, 123, 124] rfl rfl)⟩
                    rintro x s' ⟨rfl, n_36, rfl, hsub⟩
                    refine Goes.sub hsub ?_
                    refine Goes.rg fol [(0, vl qb l), (1, .str batch), (2, .i day), (10, .ptr 0 0), (13, vl encS r15.1), (15, .i found_20), (17, .ptr 1 0), (19, .i r27.2), (22, vl encI r29.1), (23, .i r29.2), (24, .i n_36), (86, vl qa r14.1.Slings), (87, .i (r14.1.Slings.length : Int)), (88, .i n21), (122, .slice 2 0 3 3 1), (123, .i 3), (124, .i (w64 (n31 + 1)))] [.cells [.i r14.1.Day, vl qa r14.1.Slings], .cells (cS x26), .cells [.bool r27.1, .bool (decide (r28.2 = 0)), .bool r30]] ?_
                    exact ⟨M, (ofG 324 [(0, vl qb l), (1, .str batch), (2, .i day), (10, .ptr 0 0), (13, vl encS r15.1), (15, .i found_20), (17, .ptr 1 0), (19, .i r27.2), (22, vl encI r29.1), (23, .i r29.2), (24, .i n_36), (86, vl qa r14.1.Slings), (87, .i (r14.1.Slings.length : Int)), (88, .i n21), (122, .slice 2 0 3 3 1), (123, .i 3), (124, .i (w64 (n31 + 1)))], [.cells [.i r14.1.Day, vl qa r14.1.Slings], .cells (cS x26), .cells [.bool r27.1, .bool (decide (r28.2 = 0)), .bool r30]]), Nat.lt_succ_self _, (Sub.refl _), _, _, rfl, g34⟩
                  · rw [if_neg (of_ c35)] at g34
                    refine Goes.exit ?_
                    obtain rfl := si g34
                    exact ⟨rfl, _, rfl, (Sub.norm [] [some 0, some 1] rfl rfl (.keep (.same (qj qb _)) (.keep (.same nS) (.keep (.same nI) (.keep (.ptr rfl) (.keep (.same (qj encS _)) (.keep (.same nI) (.keep (.ptr rfl) (.keep (.same nI) (.keep (.same (qj encI _)) (.keep (.same nI) (.keep (.same nI) (.keep (.same (qj qa _)) (.keep (.same nI) (.keep (.same nI) .nil)))))))))))))) (.keep rfl (.same (qd.cons nI (qd.cons (qj qa _) qd.nil))) rfl rfl (.keep rfl (.same (qd.cons nS (qd.cons nS (qd.cons nI (qd.cons nI (qd.cons nI (qd.cons nI (qd.cons nI (qd.cons nI (qd.cons nB qd.nil)))))))))) rfl rfl .nil)))⟩
              rintro x s' ⟨rfl, n_33, rfl, hsub⟩
              refine Goes.sub hsub ?_
              refine sq ?_
              refine sq ?_
              obtain ⟨b43, g_v44, g23⟩ := bnd g23
              refine Goes.cut (s' := (ofG 324 [(0, vl qb l), (1, .str batch), (2, .i day), (10, .ptr 0 0), (13, vl encS r15.1), (15, .i found_20), (17, .ptr 1 0), (22, vl encI r29.1), (86, vl qa r14.1.Slings), (87, .i (r14.1.Slings.length : Int)), (88, .i n21), (146, .bool b43)], [.cells [.i r14.1.Day, vl qa r14.1.Slings], .cells (cS x26)])) ?_ ?_
              · rcases Bool.eq_false_or_eq_true (!decide (r27.2 = 0)) with c40 | c40
                · rw [if_pos (c40)] at g_v44
                  obtain rfl := si g_v44
                  exact qo.rp fol [2] [(0, vl qb l), (1, .str batch), (2, .i day), (10, .ptr 0 0), (13, vl encS r15.1), (15, .i found_20), (17, .ptr 1 0), (22, vl encI r29.1), (86, vl qa r14.1.Slings), (87, .i (r14.1.Slings.length : Int)), (88, .i n21), (146, .bool true)] [.cells [.i r14.1.Day, vl qa r14.1.Slings], .cells (cS x26)] [.done (.done (.bool (!decide (r27.2 = 0)))) (.bool true)] (an (congrArg (fun x => Pg.done (.bool x)) c40) trivial)
                · rw [if_neg (nb c40)] at g_v44
                  rcases Bool.eq_false_or_eq_true (!decide (r29.2 = 0)) with c41 | c41
                  · rw [if_pos (c41)] at g_v44
                    obtain rfl := si g_v44
                    exact qo.rp fol [2, 6] [(0, vl qb l), (1, .str batch), (2, .i day), (10, .ptr 0 0), (13, vl encS r15.1), (15, .i found_20), (17, .ptr 1 0), (22, vl encI r29.1), (86, vl qa r14.1.Slings), (87, .i (r14.1.Slings.length : Int)), (88, .i n21), (146, .bool true)] [.cells [.i r14.1.Day, vl qa r14.1.Slings], .cells (cS x26)] [.done (.done (.bool (!decide (r27.2 = 0)))) (.bool false), .done (.done (.bool (!decide (r29.2 = 0)))) (.bool true)] (an (congrArg (fun x => Pg.done (.bool x)) c40) (an (congrArg (fun x => Pg.done (.bool x)) c41) trivial))
                  · rw [if_neg (nb c41)] at g_v44
                    rcases Bool.eq_false_or_eq_true (!decide (n_33 = 1)) with c42 | c42
                    · rw [if_pos (c42)] at g_v44
                      obtain rfl := si g_v44
                      exact qo.rp fol [2, 6, 10] [(0, vl qb l), (1, .str batch), (2, .i day), (10, .ptr 0 0), (13, vl encS r15.1), (15, .i found_20), (17, .ptr 1 0), (22, vl encI r29.1), (86, vl qa r14.1.Slings), (87, .i (r14.1.Slings.length : Int)), (88, .i n21), (146, .bool true)] [.cells [.i r14.1.Day, vl qa r14.1.Slings], .cells (cS x26)] [.done (.done (.bool (!decide (r27.2 = 0)))) (.bool false), .done (.done (.bool (!decide (r29.2 = 0)))) (.bool false), .done (.done (.bool (!decide (n_33 = 1)))) (.bool true)] (an (congrArg (fun x => Pg.done (.bool x)) c40) (an (congrArg (fun x => Pg.done (.bool x)) c41) (an (congrArg (fun x => Pg.done (.bool x)) c42) trivial)))
                    · rw [if_neg (nb c42)] at g_v44
                      obtain rfl := si g_v44
                      exact qo.rp fol [2, 6, 10] [(0, vl qb l), (1, .str batch), (2, .i day), (10, .ptr 0 0), (13, vl encS r15.1), (15, .i found_20), (17, .ptr 1 0), (22, vl encI r29.1), (86, vl qa r14.1.Slings), (87, .i (r14.1.Slings.length : Int)), (88, .i n21), (146, .bool (decide ((r29.1.length : Int) = 0)))] [.cells [.i r14.1.Day, vl qa r14.1.Slings], .cells (cS x26)] [.done (.done (.bool (!decide (r27.2 = 0)))) (.bool false), .done (.done (.bool (!decide (r29.2 = 0)))) (.bool false), .done (.done (.bool (!decide (n_33 = 1)))) (.bool false)] (an (congrArg (fun x => Pg.done (.bool x)) c40) (an (congrArg (fun x => Pg.done (.bool x)) c41) (an (congrArg (fun x => Pg.done (.bool x)) c42) trivial)))
              refine Goes.ifB (b := b43) (by kernel_rfl) (fun c45 => ?_) (fun c45 => ?_)
              · rw [if_pos (c45)] at g23
                refine sq (Goes.rg fol [(6, .bool false)] [.cells [.i r14.1.Day, vl qa r14.1.Slings], .cells (cS x26)] ?_)
                refine Goes.ret ?_
                obtain rfl := si g23
                exact Or.inr (⟨rfl, _, rfl, (Goes.retW (xs := [.bool false]) (by kernel_rfl) (FzW.still tB))⟩)
              · rw [if_neg (nb c45)] at g23
                refine Goes.skip ?_
                refine sq ?_
                refine sq ?_
                obtain ⟨r46, e_r46, g23⟩ := bnd g23
                refine Goes.rp fol [3] [(0, vl qb l), (1, .str batch), (2, .i day), (10, .ptr 0 0), (13, vl encS r15.1), (15, .i found_20), (17, .ptr 1 0), (22, vl encI r29.1), (86, vl qa r14.1.Slings), (87, .i (r14.1.Slings.length : Int)), (88, .i n21), (150, .bool r46)] [.cells [.i r14.1.Day, vl qa r14.1.Slings], .cells (cS x26)] [.call 48 [vl encS r15.1, .str x26.Name] [.cells [.i r14.1.Day, vl qa r14.1.Slings], .cells (cS x26)] [] [vl encS r15.1, .str x26.Name] (.bool r46)] (an (qm (AllST.cons (qx encS _ (nl rfl)) (AllST.cons tS AllST.nil)) (yS N r15.1 x26.Name e_r46) tB) trivial) ?_
                obtain ⟨r48, g48, g23⟩ := bnd g23
                refine Goes.imp (Q := fun x s' => (x = .normal ∧ ∃ found_47, found_47 = r48 ∧ Sub s' (ofG 324 [(0, vl qb l), (1, .str batch), (2, .i day), (10, .ptr 0 0), (13, vl encS r15.1), (15, .i found_47), (17, .ptr 1 0), (22, vl encI r29.1), (86, vl qa r14.1.Slings), (87, .i (r14.1.Slings.length : Int)), (88, .i n21)], [.cells [.i r14.1.Day, vl qa r14.1.Slings], .cells (cS x26)]))) ?_ ?_
                · refine Goes.ifB (b := r46) (by kernel_rfl) (fun c49 => ?_) (fun c49 => ?_)
                  · rw [if_pos (c49)] at g48
                    refine Goes.rg fol [(0, vl qb l), (1, .str batch), (2, .i day), (10, .ptr 0 0), (13, vl encS r15.1), (15, .i (w64 (found_20 + 1))), (17, .ptr 1 0), (22, vl encI r29.1), (86, vl qa r14.1.Slings), (87, .i (r14.1.Slings.length : Int)), (88, .i n21)] [.cells [.i r14.1.Day, vl qa r14.1.Slings], .cells (cS x26)] ?_
                    obtain rfl := si g48
                    exact ⟨rfl, _, rfl, (Sub.refl _)⟩
                  · rw [if_neg (nb c49)] at g48
                    refine Goes.skip ?_
                    obtain rfl := si g48
                    exact ⟨rfl, _, rfl, (Sub.keep [0, 1, 2, 10, 13, 15, 17, 22, 86, 87, 88] rfl rfl)⟩
                rintro x s' ⟨rfl, found_47, rfl, hsub⟩
                refine Goes.sub hsub ?_
                refine sq ?_
                refine sq (Goes.rg fol [(0, vl qb l), (1, .str batch), (2, .i day), (10, .ptr 0 0), (13, vl encS r15.1), (15, .i found_47), (17, .ptr 1 0), (22, vl encI r29.1), (86, vl qa r14.1.Slings), (87, .i (r14.1.Slings.length : Int)), (88, .i n21), (153, vl encI r29.1), (154, .i (r29.1.length : Int)), (155, .i 0)] [.cells [.i r14.1.Day, vl qa r14.1.Slings], .cells (cS x26)] ?_)
                refine Goes.block ?_
                obtain ⟨r51, g51, g23⟩ := bnd g23
                refine Goes.imp (Q := fun x s' => (x = .exit 4 ∧ (.inl ()) = r51 ∧ Sub s' (ofG 324 [(0, vl qb l), (1, .str batch), (2, .i day), (10, .ptr 0 0), (13, vl encS r15.1), (15, .i found_47), (22, vl encI r29.1), (86, vl qa r14.1.Slings), (87, .i (r14.1.Slings.length : Int)), (88, .i n21)], [.cells [.i r14.1.Day, vl qa r14.1.Slings]])) ∨ (x = .ret ∧ ∃ q52, (.inr q52) = r51 ∧ zw Tryz.prog [.tmp 6] (.bool q52) .ret s')) ?_ ?_
                · refine Goes.loopS (fun M s => ∃ (n50 : Int), s = (ofG 324 [(0, vl qb l), (1, .str batch), (2, .i day), (10, .ptr 0 0), (13, vl encS r15.1), (15, .i found_47), (17, .ptr 1 0), (22, vl encI r29.1), (86, vl qa r14.1.Slings), (87, .i (r14.1.Slings.length : Int)), (88, .i n21), (153, vl encI r29.1), (154, .i (r29.1.length : Int)), (155, .i n50)], [.cells [.i r14.1.Day, vl qa r14.1.Slings], .cells (cS x26)]) ∧ kR l x26 r29 M n50 = some r51) ?_ (m := N) ⟨_, rfl, g51⟩
                  rintro M s ⟨n50, rfl, g51⟩
                  cases M with
                  | zero => simp only [kR] at g51; cases g51
                  | succ M =>
                    rw [kR] at g51
                    refine sq (Goes.rg fol [(0, vl qb l), (1, .str batch), (2, .i day), (10, .ptr 0 0), (13, vl encS r15.1), (15, .i found_47), (17, .ptr 1 0), (22, vl encI r29.1), (86, vl qa r14.1.Slings), (87, .i (r14.1.Slings.length : Int)), (88, .i n21), (153, vl encI r29.1), (154, .i (r29.1.length : Int)), (155, .i n50), (156, .bool (decide (n50 < (r29.1.length : Int))))] [.cells [.i r14.1.Day, vl qa r14.1.Slings], .cells (cS x26)] ?_)
                    refine sq ?_
                    refine Goes.ifB (b := decide (n50 < (r29.1.length : Int))) (by kernel_rfl) (fun c53 => ?_) (fun c53 => ?_)
                    · rw [if_pos (ot c53)] at g51
                      refine Goes.skip ?_
                      refine sq (Goes.block ?_)
                      refine sq ?_
                      obtain ⟨x54, e_x54, g51⟩ := bnd g51
                      refine Goes.rp fol [1, 2] [(0, vl qb l), (1, .str batch), (2, .i day), (10, .ptr 0 0), (13, vl encS r15.1), (15, .i found_47), (17, .ptr 1 0), (22, vl encI r29.1), (27, .i n50), (28, .i x54), (86, vl qa r14.1.Slings), (87, .i (r14.1.Slings.length : Int)), (88, .i n21), (153, vl encI r29.1), (154, .i (r29.1.length : Int)), (155, .i n50)] [.cells [.i r14.1.Day, vl qa r14.1.Slings], .cells (cS x26)] [.done (.opt (qh Tryz.prog 24 (vl encI r29.1) (.i n50))) (.fptr (r29.1.flatMap encI.c) ((n50 : Int).toNat * 1 + 0)), .done (qw Tryz.prog 3 (.fptr (r29.1.flatMap encI.c) ((n50 : Int).toNat * 1 + 0))) (.i x54)] (an (qA vT (E := encI) rfl e_x54) (an (qB ce3 (E := encI) rfl e_x54 (nl rfl) rfl) trivial)) ?_
                      refine sq ?_
                      obtain ⟨b70, g_v71, g51⟩ := bnd g51
                      refine Goes.cut (s' := (ofG 324 [(0, vl qb l), (1, .str batch), (2, .i day), (10, .ptr 0 0), (13, vl encS r15.1), (15, .i found_47), (17, .ptr 1 0), (22, vl encI r29.1), (86, vl qa r14.1.Slings), (87, .i (r14.1.Slings.length : Int)), (88, .i n21), (153, vl encI r29.1), (154, .i (r29.1.length : Int)), (155, .i n50), (225, .bool b70)], [.cells [.i r14.1.Day, vl qa r14.1.Slings], .cells (cS x26)])) ?_ ?_
                      · rcases Bool.eq_false_or_eq_true (decide (x54 < 1)) with c55 | c55
                        · rw [if_pos (ot c55)] at g_v71
                          obtain rfl := si g_v71
                          exact qo.rp fol [2] [(0, vl qb l), (1, .str batch), (2, .i day), (10, .ptr 0 0), (13, vl encS r15.1), (15, .i found_47), (17, .ptr 1 0), (22, vl encI r29.1), (86, vl qa r14.1.Slings), (87, .i (r14.1.Slings.length : Int)), (88, .i n21), (153, vl encI r29.1), (154, .i (r29.1.length : Int)), (155, .i n50), (225, .bool true)] [.cells [.i r14.1.Day, vl qa r14.1.Slings], .cells (cS x26)] [.done (.done (.bool (decide (x54 < 1)))) (.bool true)] (an (congrArg (fun x => Pg.done (.bool x)) c55) trivial)
                        · rw [if_neg (of_ c55)] at g_v71
                          rcases Bool.eq_false_or_eq_true (decide (x54 > (l.length : Int))) with c56 | c56
                          · rw [if_pos (ot c56)] at g_v71
                            obtain rfl := si g_v71
                            exact qo.rp fol [2, 8] [(0, vl qb l), (1, .str batch), (2, .i day), (10, .ptr 0 0), (13, vl encS r15.1), (15, .i found_47), (17, .ptr 1 0), (22, vl encI r29.1), (86, vl qa r14.1.Slings), (87, .i (r14.1.Slings.length : Int)), (88, .i n21), (153, vl encI r29.1), (154, .i (r29.1.length : Int)), (155, .i n50), (225, .bool true)] [.cells [.i r14.1.Day, vl qa r14.1.Slings], .cells (cS x26)] [.done (.done (.bool (decide (x54 < 1)))) (.bool false), .done (.done (.bool (decide (x54 > (l.length : Int))))) (.bool true)] (an (congrArg (fun x => Pg.done (.bool x)) c55) (an (congrArg (fun x => Pg.done (.bool x)) c56) trivial))
                          · rw [if_neg (of_ c56)] at g_v71
                            rcases Bool.eq_false_or_eq_true (decide (n50 > 0)) with c57 | c57
                            · rw [if_pos (ot c57)] at g_v71
                              obtain ⟨x58, e_x58, g_v71⟩ := bnd g_v71
                              rcases Bool.eq_false_or_eq_true (decide (x54 ≤ x58)) with c59 | c59
                              · rw [if_pos (ot c59)] at g_v71
                                obtain rfl := si g_v71
                                exact qo.rp fol [2, 8, 11, 16, 17, 21] [(0, vl qb l), (1, .str batch), (2, .i day), (10, .ptr 0 0), (13, vl encS r15.1), (15, .i found_47), (17, .ptr 1 0), (22, vl encI r29.1), (86, vl qa r14.1.Slings), (87, .i (r14.1.Slings.length : Int)), (88, .i n21), (153, vl encI r29.1), (154, .i (r29.1.length : Int)), (155, .i n50), (225, .bool true)] [.cells [.i r14.1.Day, vl qa r14.1.Slings], .cells (cS x26)] [.done (.done (.bool (decide (x54 < 1)))) (.bool false), .done (.done (.bool (decide (x54 > (l.length : Int))))) (.bool false), .done (.done (.bool (decide (n50 > 0)))) (.bool true), .done (.opt (qh Tryz.prog 24 (vl encI r29.1) (.i (w64 (n50 - 1))))) (.fptr (r29.1.flatMap encI.c) ((w64 (n50 - 1) : Int).toNat * 1 + 0)), .done (qw Tryz.prog 3 (.fptr (r29.1.flatMap encI.c) ((w64 (n50 - 1) : Int).toNat * 1 + 0))) (.i x58), .done (.done (.bool (decide (x54 ≤ x58)))) (.bool true)] (an (congrArg (fun x => Pg.done (.bool x)) c55) (an (congrArg (fun x => Pg.done (.bool x)) c56) (an (congrArg (fun x => Pg.done (.bool x)) c57) (an (qA vT (E := encI) rfl e_x58) (an (qB ce3 (E := encI) rfl e_x58 (nl rfl) rfl) (an (congrArg (fun x => Pg.done (.bool x)) c59) trivial))))))
                              · rw [if_neg (of_ c59)] at g_v71
                                obtain ⟨x60, e_x60, g_v71⟩ := bnd g_v71
                                rcases Bool.eq_false_or_eq_true (decide ((x60.Names.length : Int) = 0)) with c61 | c61
                                · rw [if_pos (ot c61)] at g_v71
                                  obtain rfl := si g_v71
                                  exact qo.rp fol [2, 8, 11, 16, 17, 21, 25, 27, 31] [(0, vl qb l), (1, .str batch), (2, .i day), (10, .ptr 0 0), (13, vl encS r15.1), (15, .i found_47), (17, .ptr 1 0), (22, vl encI r29.1), (86, vl qa r14.1.Slings), (87, .i (r14.1.Slings.length : Int)), (88, .i n21), (153, vl encI r29.1), (154, .i (r29.1.length : Int)), (155, .i n50), (225, .bool true)] [.cells [.i r14.1.Day, vl qa r14.1.Slings], .cells (cS x26)] [.done (.done (.bool (decide (x54 < 1)))) (.bool false), .done (.done (.bool (decide (x54 > (l.length : Int))))) (.bool false), .done (.done (.bool (decide (n50 > 0)))) (.bool true), .done (.opt (qh Tryz.prog 24 (vl encI r29.1) (.i (w64 (n50 - 1))))) (.fptr (r29.1.flatMap encI.c) ((w64 (n50 - 1) : Int).toNat * 1 + 0)), .done (qw Tryz.prog 3 (.fptr (r29.1.flatMap encI.c) ((w64 (n50 - 1) : Int).toNat * 1 + 0))) (.i x58), .done (.done (.bool (decide (x54 ≤ x58)))) (.bool false), .done (.opt (qh Tryz.prog 22 (vl qb l) (.i (w64 (x54 - 1))))) (.fptr (l.flatMap qb.c) ((w64 (x54 - 1) : Int).toNat * 5 + 0)), .done (qw Tryz.prog 23 (.fptr (l.flatMap qb.c) ((w64 (x54 - 1) : Int).toNat * 5 + 2))) (vl encS x60.Names), .done (.done (.bool (decide ((x60.Names.length : Int) = 0)))) (.bool true)] (an (congrArg (fun x => Pg.done (.bool x)) c55) (an (congrArg (fun x => Pg.done (.bool x)) c56) (an (congrArg (fun x => Pg.done (.bool x)) c57) (an (qA vT (E := encI) rfl e_x58) (an (qB ce3 (E := encI) rfl e_x58 (nl rfl) rfl) (an (congrArg (fun x => Pg.done (.bool x)) c59) (an (qA jH (E := qb) rfl e_x60) (an (qB qai (E := qb) rfl e_x60 (nl rfl) rfl) (an (congrArg (fun x => Pg.done (.bool x)) c61) trivial)))))))))
                                · rw [if_neg (of_ c61)] at g_v71
                                  obtain ⟨x62, e_x62, g_v71⟩ := bnd g_v71
                                  rcases Bool.eq_false_or_eq_true (!(x62 == x26.Name)) with c63 | c63
                                  · rw [if_pos (c63)] at g_v71
                                    rcases Bool.eq_false_or_eq_true (!(x60.Kind == [114, 101, 99, 97, 108, 108])) with c64 | c64
                                    · rw [if_pos (c64)] at g_v71
                                      obtain rfl := si g_v71
                                      exact qo.rp fol [2, 8, 11, 16, 17, 21, 25, 27, 31, 35, 37, 38, 39, 43, 47, 49, 51] [(0, vl qb l), (1, .str batch), (2, .i day), (10, .ptr 0 0), (13, vl encS r15.1), (15, .i found_47), (17, .ptr 1 0), (22, vl encI r29.1), (86, vl qa r14.1.Slings), (87, .i (r14.1.Slings.length : Int)), (88, .i n21), (153, vl encI r29.1), (154, .i (r29.1.length : Int)), (155, .i n50), (225, .bool true)] [.cells [.i r14.1.Day, vl qa r14.1.Slings], .cells (cS x26)] [.done (.done (.bool (decide (x54 < 1)))) (.bool false), .done (.done (.bool (decide (x54 > (l.length : Int))))) (.bool false), .done (.done (.bool (decide (n50 > 0)))) (.bool true), .done (.opt (qh Tryz.prog 24 (vl encI r29.1) (.i (w64 (n50 - 1))))) (.fptr (r29.1.flatMap encI.c) ((w64 (n50 - 1) : Int).toNat * 1 + 0)), .done (qw Tryz.prog 3 (.fptr (r29.1.flatMap encI.c) ((w64 (n50 - 1) : Int).toNat * 1 + 0))) (.i x58), .done (.done (.bool (decide (x54 ≤ x58)))) (.bool false), .done (.opt (qh Tryz.prog 22 (vl qb l) (.i (w64 (x54 - 1))))) (.fptr (l.flatMap qb.c) ((w64 (x54 - 1) : Int).toNat * 5 + 0)), .done (qw Tryz.prog 23 (.fptr (l.flatMap qb.c) ((w64 (x54 - 1) : Int).toNat * 5 + 2))) (vl encS x60.Names), .done (.done (.bool (decide ((x60.Names.length : Int) = 0)))) (.bool false), .done (.opt (qh Tryz.prog 22 (vl qb l) (.i (w64 (x54 - 1))))) (.fptr (l.flatMap qb.c) ((w64 (x54 - 1) : Int).toNat * 5 + 0)), .done (qw Tryz.prog 23 (.fptr (l.flatMap qb.c) ((w64 (x54 - 1) : Int).toNat * 5 + 2))) (vl encS x60.Names), .done (.opt (qh Tryz.prog 23 (vl encS x60.Names) (.i 0))) (.fptr (x60.Names.flatMap encS.c) ((0 : Int).toNat * 1 + 0)), .done (qw Tryz.prog 9 (.fptr (x60.Names.flatMap encS.c) ((0 : Int).toNat * 1 + 0))) (.str x62), .done (.done (.bool (!(x62 == x26.Name)))) (.bool true), .done (.opt (qh Tryz.prog 22 (vl qb l) (.i (w64 (x54 - 1))))) (.fptr (l.flatMap qb.c) ((w64 (x54 - 1) : Int).toNat * 5 + 0)), .done (qw Tryz.prog 9 (.fptr (l.flatMap qb.c) ((w64 (x54 - 1) : Int).toNat * 5 + 1))) (.str x60.Kind), .done (.done (.bool (!(x60.Kind == [114, 101, 99, 97, 108, 108])))) (.bool true)] (an (congrArg (fun x => Pg.done (.bool x)) c55) (an (congrArg (fun x => Pg.done (.bool x)) c56) (an (congrArg (fun x => Pg.done (.bool x)) c57) (an (qA vT (E := encI) rfl e_x58) (an (qB ce3 (E := encI) rfl e_x58 (nl rfl) rfl) (an (congrArg (fun x => Pg.done (.bool x)) c59) (an (qA jH (E := qb) rfl e_x60) (an (qB qai (E := qb) rfl e_x60 (nl rfl) rfl) (an (congrArg (fun x => Pg.done (.bool x)) c61) (an (qA jH (E := qb) rfl e_x60) (an (qB qai (E := qb) rfl e_x60 (nl rfl) rfl) (an (qA yn (E := encS) rfl e_x62) (an (qB ce9 (E := encS) rfl e_x62 (nl rfl) rfl) (an (congrArg (fun x => Pg.done (.bool x)) c63) (an (qA jH (E := qb) rfl e_x60) (an (qB ce9 (E := qb) rfl e_x60 (nl rfl) rfl) (an (congrArg (fun x => Pg.done (.bool x)) c64) trivial)))))))))))))))))
                                    · rw [if_neg (nb c64)] at g_v71
                                      obtain rfl := si g_v71
                                      exact qo.rp fol [2, 8, 11, 16, 17, 21, 25, 27, 31, 35, 37, 38, 39, 43, 47, 49, 51, 55, 57, 58, 59] [(0, vl qb l), (1, .str batch), (2, .i day), (10, .ptr 0 0), (13, vl encS r15.1), (15, .i found_47), (17, .ptr 1 0), (22, vl encI r29.1), (86, vl qa r14.1.Slings), (87, .i (r14.1.Slings.length : Int)), (88, .i n21), (153, vl encI r29.1), (154, .i (r29.1.length : Int)), (155, .i n50), (225, .bool (!(x62 == x26.Batch)))] [.cells [.i r14.1.Day, vl qa r14.1.Slings], .cells (cS x26)] [.done (.done (.bool (decide (x54 < 1)))) (.bool false), .done (.done (.bool (decide (x54 > (l.length : Int))))) (.bool false), .done (.done (.bool (decide (n50 > 0)))) (.bool true), .done (.opt (qh Tryz.prog 24 (vl encI r29.1) (.i (w64 (n50 - 1))))) (.fptr (r29.1.flatMap encI.c) ((w64 (n50 - 1) : Int).toNat * 1 + 0)), .done (qw Tryz.prog 3 (.fptr (r29.1.flatMap encI.c) ((w64 (n50 - 1) : Int).toNat * 1 + 0))) (.i x58), .done (.done (.bool (decide (x54 ≤ x58)))) (.bool false), .done (.opt (qh Tryz.prog 22 (vl qb l) (.i (w64 (x54 - 1))))) (.fptr (l.flatMap qb.c) ((w64 (x54 - 1) : Int).toNat * 5 + 0)), .done (qw Tryz.prog 23 (.fptr (l.flatMap qb.c) ((w64 (x54 - 1) : Int).toNat * 5 + 2))) (vl encS x60.Names), .done (.done (.bool (decide ((x60.Names.length : Int) = 0)))) (.bool false), .done (.opt (qh Tryz.prog 22 (vl qb l) (.i (w64 (x54 - 1))))) (.fptr (l.flatMap qb.c) ((w64 (x54 - 1) : Int).toNat * 5 + 0)), .done (qw Tryz.prog 23 (.fptr (l.flatMap qb.c) ((w64 (x54 - 1) : Int).toNat * 5 + 2))) (vl encS x60.Names), .done (.opt (qh Tryz.prog 23 (vl encS x60.Names) (.i 0))) (.fptr (x60.Names.flatMap encS.c) ((0 : Int).toNat * 1 + 0)), .done (qw Tryz.prog 9 (.fptr (x60.Names.flatMap encS.c) ((0 : Int).toNat * 1 + 0))) (.str x62), .done (.done (.bool (!(x62 == x26.Name)))) (.bool true), .done (.opt (qh Tryz.prog 22 (vl qb l) (.i (w64 (x54 - 1))))) (.fptr (l.flatMap qb.c) ((w64 (x54 - 1) : Int).toNat * 5 + 0)), .done (qw Tryz.prog 9 (.fptr (l.flatMap qb.c) ((w64 (x54 - 1) : Int).toNat * 5 + 1))) (.str x60.Kind), .done (.done (.bool (!(x60.Kind == [114, 101, 99, 97, 108, 108])))) (.bool false), .done (.opt (qh Tryz.prog 22 (vl qb l) (.i (w64 (x54 - 1))))) (.fptr (l.flatMap qb.c) ((w64 (x54 - 1) : Int).toNat * 5 + 0)), .done (qw Tryz.prog 23 (.fptr (l.flatMap qb.c) ((w64 (x54 - 1) : Int).toNat * 5 + 2))) (vl encS x60.Names), .done (.opt (qh Tryz.prog 23 (vl encS x60.Names) (.i 0))) (.fptr (x60.Names.flatMap encS.c) ((0 : Int).toNat * 1 + 0)), .done (qw Tryz.prog 9 (.fptr (x60.Names.flatMap encS.c) ((0 : Int).toNat * 1 + 0))) (.str x62)] (an (congrArg (fun x => Pg.done (.bool x)) c55) (an (congrArg (fun x => Pg.done (.bool x)) c56) (an (congrArg (fun x => Pg.done (.bool x)) c57) (an (qA vT (E := encI) rfl e_x58) (an (qB ce3 (E := encI) rfl e_x58 (nl rfl) rfl) (an (congrArg (fun x => Pg.done (.bool x)) c59) (an (qA jH (E := qb) rfl e_x60) (an (qB qai (E := qb) rfl e_x60 (nl rfl) rfl) (an (congrArg (fun x => Pg.done (.bool x)) c61) (an (qA jH (E := qb) rfl e_x60) (an (qB qai (E := qb) rfl e_x60 (nl rfl) rfl) (an (qA yn (E := encS) rfl e_x62) (an (qB ce9 (E := encS) rfl e_x62 (nl rfl) rfl) (an (congrArg (fun x => Pg.done (.bool x)) c63) (an (qA jH (E := qb) rfl e_x60) (an (qB ce9 (E := qb) rfl e_x60 (nl rfl) rfl) (an (congrArg (fun x => Pg.done (.bool x)) c64) (an (qA jH (E := qb) rfl e_x60) (an (qB qai (E := qb) rfl e_x60 (nl rfl) rfl) (an (qA yn (E := encS) rfl e_x62) (an (qB ce9 (E := encS) rfl e_x62 (nl rfl) rfl) trivial)))))))))))))))))))))
                                  · rw [if_neg (nb c63)] at g_v71
                                    obtain rfl := si g_v71
                                    exact qo.rp fol [2, 8, 11, 16, 17, 21, 25, 27, 31, 35, 37, 38, 39, 43] [(0, vl qb l), (1, .str batch), (2, .i day), (10, .ptr 0 0), (13, vl encS r15.1), (15, .i found_47), (17, .ptr 1 0), (22, vl encI r29.1), (86, vl qa r14.1.Slings), (87, .i (r14.1.Slings.length : Int)), (88, .i n21), (153, vl encI r29.1), (154, .i (r29.1.length : Int)), (155, .i n50), (225, .bool false)] [.cells [.i r14.1.Day, vl qa r14.1.Slings], .cells (cS x26)] [.done (.done (.bool (decide (x54 < 1)))) (.bool false), .done (.done (.bool (decide (x54 > (l.length : Int))))) (.bool false), .done (.done (.bool (decide (n50 > 0)))) (.bool true), .done (.opt (qh Tryz.prog 24 (vl encI r29.1) (.i (w64 (n50 - 1))))) (.fptr (r29.1.flatMap encI.c) ((w64 (n50 - 1) : Int).toNat * 1 + 0)), .done (qw Tryz.prog 3 (.fptr (r29.1.flatMap encI.c) ((w64 (n50 - 1) : Int).toNat * 1 + 0))) (.i x58), .done (.done (.bool (decide (x54 ≤ x58)))) (.bool false), .done (.opt (qh Tryz.prog 22 (vl qb l) (.i (w64 (x54 - 1))))) (.fptr (l.flatMap qb.c) ((w64 (x54 - 1) : Int).toNat * 5 + 0)), .done (qw Tryz.prog 23 (.fptr (l.flatMap qb.c) ((w64 (x54 - 1) : Int).toNat * 5 + 2))) (vl encS x60.Names), .done (.done (.bool (decide ((x60.Names.length : Int) = 0)))) (.bool false), .done (.opt (qh Tryz.prog 22 (vl qb l) (.i (w64 (x54 - 1))))) (.fptr (l.flatMap qb.c) ((w64 (x54 - 1) : Int).toNat * 5 + 0)), .done (qw Tryz.prog 23 (.fptr (l.flatMap qb.c) ((w64 (x54 - 1) : Int).toNat * 5 + 2))) (vl encS x60.Names), .done (.opt (qh Tryz.prog 23 (vl encS x60.Names) (.i 0))) (.fptr (x60.Names.flatMap encS.c) ((0 : Int).toNat * 1 + 0)), .done (qw Tryz.prog 9 (.fptr (x60.Names.flatMap encS.c) ((0 : Int).toNat * 1 + 0))) (.str x62), .done (.done (.bool (!(x62 == x26.Name)))) (.bool false)] (an (congrArg (fun x => Pg.done (.bool x)) c55) (an (congrArg (fun x => Pg.done (.bool x)) c56) (an (congrArg (fun x => Pg.done (.bool x)) c57) (an (qA vT (E := encI) rfl e_x58) (an (qB ce3 (E := encI) rfl e_x58 (nl rfl) rfl) (an (congrArg (fun x => Pg.done (.bool x)) c59) (an (qA jH (E := qb) rfl e_x60) (an (qB qai (E := qb) rfl e_x60 (nl rfl) rfl) (an (congrArg (fun x => Pg.done (.bool x)) c61) (an (qA jH (E := qb) rfl e_x60) (an (qB qai (E := qb) rfl e_x60 (nl rfl) rfl) (an (qA yn (E := encS) rfl e_x62) (an (qB ce9 (E := encS) rfl e_x62 (nl rfl) rfl) (an (congrArg (fun x => Pg.done (.bool x)) c63) trivial))))))))))))))
                            · rw [if_neg (of_ c57)] at g_v71
                              obtain ⟨x65, e_x65, g_v71⟩ := bnd g_v71
                              rcases Bool.eq_false_or_eq_true (decide ((x65.Names.length : Int) = 0)) with c66 | c66
                              · rw [if_pos (ot c66)] at g_v71
                                obtain rfl := si g_v71
                                exact qo.rp fol [2, 8, 11, 25, 27, 31] [(0, vl qb l), (1, .str batch), (2, .i day), (10, .ptr 0 0), (13, vl encS r15.1), (15, .i found_47), (17, .ptr 1 0), (22, vl encI r29.1), (86, vl qa r14.1.Slings), (87, .i (r14.1.Slings.length : Int)), (88, .i n21), (153, vl encI r29.1), (154, .i (r29.1.length : Int)), (155, .i n50), (225, .bool true)] [.cells [.i r14.1.Day, vl qa r14.1.Slings], .cells (cS x26)] [.done (.done (.bool (decide (x54 < 1)))) (.bool false), .done (.done (.bool (decide (x54 > (l.length : Int))))) (.bool false), .done (.done (.bool (decide (n50 > 0)))) (.bool false), .done (.opt (qh Tryz.prog 22 (vl qb l) (.i (w64 (x54 - 1))))) (.fptr (l.flatMap qb.c) ((w64 (x54 - 1) : Int).toNat * 5 + 0)), .done (qw Tryz.prog 23 (.fptr (l.flatMap qb.c) ((w64 (x54 - 1) : Int).toNat * 5 + 2))) (vl encS x65.Names), .done (.done (.bool (decide ((x65.Names.length : Int) = 0)))) (.bool true)] (an (congrArg (fun x => Pg.done (.bool x)) c55) (an (congrArg (fun x => Pg.done (.bool x)) c56) (an (congrArg (fun x => Pg.done (.bool x)) c57) (an (qA jH (E := qb) rfl e_x65) (an (qB qai (E := qb) rfl e_x65 (nl rfl) rfl) (an (congrArg (fun x => Pg.done (.bool x)) c66) trivial))))))
                              · rw [if_neg (of_ c66)] at g_v71
                                obtain ⟨x67, e_x67, g_v71⟩ := bnd g_v71
                                rcases Bool.eq_false_or_eq_true (!(x67 == x26.Name)) with c68 | c68
                                · rw [if_pos (c68)] at g_v71
                                  rcases Bool.eq_false_or_eq_true (!(x65.Kind == [114, 101, 99, 97, 108, 108])) with c69 | c69
                                  · rw [if_pos (c69)] at g_v71
                                    obtain rfl := si g_v71
                                    exact qo.rp fol [2, 8, 11, 25, 27, 31, 35, 37, 38, 39, 43, 47, 49, 51] [(0, vl qb l), (1, .str batch), (2, .i day), (10, .ptr 0 0), (13, vl encS r15.1), (15, .i found_47), (17, .ptr 1 0), (22, vl encI r29.1), (86, vl qa r14.1.Slings), (87, .i (r14.1.Slings.length : Int)), (88, .i n21), (153, vl encI r29.1), (154, .i (r29.1.length : Int)), (155, .i n50), (225, .bool true)] [.cells [.i r14.1.Day, vl qa r14.1.Slings], .cells (cS x26)] [.done (.done (.bool (decide (x54 < 1)))) (.bool false), .done (.done (.bool (decide (x54 > (l.length : Int))))) (.bool false), .done (.done (.bool (decide (n50 > 0)))) (.bool false), .done (.opt (qh Tryz.prog 22 (vl qb l) (.i (w64 (x54 - 1))))) (.fptr (l.flatMap qb.c) ((w64 (x54 - 1) : Int).toNat * 5 + 0)), .done (qw Tryz.prog 23 (.fptr (l.flatMap qb.c) ((w64 (x54 - 1) : Int).toNat * 5 + 2))) (vl encS x65.Names), .done (.done (.bool (decide ((x65.Names.length : Int) = 0)))) (.bool false), .done (.opt (qh Tryz.prog 22 (vl qb l) (.i (w64 (x54 - 1))))) (.fptr (l.flatMap qb.c) ((w64 (x54 - 1) : Int).toNat * 5 + 0)), .done (qw Tryz.prog 23 (.fptr (l.flatMap qb.c) ((w64 (x54 - 1) : Int).toNat * 5 + 2))) (vl encS x65.Names), .done (.opt (qh Tryz.prog 23 (vl encS x65.Names) (.i 0))) (.fptr (x65.Names.flatMap encS.c) ((0 : Int).toNat * 1 + 0)), .done (qw Tryz.prog 9 (.fptr (x65.Names.flatMap encS.c) ((0 : Int).toNat * 1 + 0))) (.str x67), .done (.done (.bool (!(x67 == x26.Name)))) (.bool true), .done (.opt (qh Tryz.prog 22 (vl qb l) (.i (w64 (x54 - 1))))) (.fptr (l.flatMap qb.c) ((w64 (x54 - 1) : Int).toNat * 5 + 0)), .done (qw Tryz.prog 9 (.fptr (l.flatMap qb.c) ((w64 (x54 - 1) : Int).toNat * 5 + 1))) (.str x65.Kind), .done (.done (.bool (!(x65.Kind == [114, 101, 99, 97, 108, 108])))) (.bool true)] (an (congrArg (fun x => Pg.done (.bool x)) c55) (an (congrArg (fun x => Pg.done (.bool x)) c56) (an (congrArg (fun x => Pg.done (.bool x)) c57) (an (qA jH (E := qb) rfl e_x65) (an (qB qai (E := qb) rfl e_x65 (nl rfl) rfl) (an (congrArg (fun x => Pg.done (.bool x)) c66) (an (qA jH (E := qb) rfl e_x65) (an (qB qai (E := qb) rfl e_x65 (nl rfl) rfl) (an (qA yn (E := encS) rfl e_x67) (an (qB ce9 (E := encS) rfl e_x67 (nl rfl) rfl) (an (congrArg (fun x => Pg.done (.bool x)) c68) (an (qA jH (E := qb) rfl e_x65) (an (qB ce9 (E := qb) rfl e_x65 (nl rfl) rfl) (an (congrArg (fun x => Pg.done (.bool x)) c69) trivial))))))))))))))
                                  · rw [if_neg (nb c69)] at g_v71
                                    obtain rfl := si g_v71
                                    exact qo.rp fol [2, 8, 11, 25, 27, 31, 35, 37, 38, 39, 43, 47, 49, 51, 55, 57, 58, 59] [(0, vl qb l), (1, .str batch), (2, .i day), (10, .ptr 0 0), (13, vl encS r15.1), (15, .i found_47), (17, .ptr 1 0), (22, vl encI r29.1), (86, vl qa r14.1.Slings), (87, .i (r14.1.Slings.length : Int)), (88, .i n21), (153, vl encI r29.1), (154, .i (r29.1.length : Int)), (155, .i n50), (225, .bool (!(x67 == x26.Batch)))] [.cells [.i r14.1.Day, vl qa r14.1.Slings], .cells (cS x26)] [.done (.done (.bool (decide (x54 < 1)))) (.bool false), .done (.done (.bool (decide (x54 > (l.length : Int))))) (.bool false), .done (.done (.bool (decide (n50 > 0)))) (.bool false), .done (.opt (qh Tryz.prog 22 (vl qb l) (.i (w64 (x54 - 1))))) (.fptr (l.flatMap qb.c) ((w64 (x54 - 1) : Int).toNat * 5 + 0)), .done (qw Tryz.prog 23 (.fptr (l.flatMap qb.c) ((w64 (x54 - 1) : Int).toNat * 5 + 2))) (vl encS x65.Names), .done (.done (.bool (decide ((x65.Names.length : Int) = 0)))) (.bool false), .done (.opt (qh Tryz.prog 22 (vl qb l) (.i (w64 (x54 - 1))))) (.fptr (l.flatMap qb.c) ((w64 (x54 - 1) : Int).toNat * 5 + 0)), .done (qw Tryz.prog 23 (.fptr (l.flatMap qb.c) ((w64 (x54 - 1) : Int).toNat * 5 + 2))) (vl encS x65.Names), .done (.opt (qh Tryz.prog 23 (vl encS x65.Names) (.i 0))) (.fptr (x65.Names.flatMap encS.c) ((0 : Int).toNat * 1 + 0)), .done (qw Tryz.prog 9 (.fptr (x65.Names.flatMap encS.c) ((0 : Int).toNat * 1 + 0))) (.str x67), .done (.done (.bool (!(x67 == x26.Name)))) (.bool true), .done (.opt (qh Tryz.prog 22 (vl qb l) (.i (w64 (x54 - 1))))) (.fptr (l.flatMap qb.c) ((w64 (x54 - 1) : Int).toNat * 5 + 0)), .done (qw Tryz.prog 9 (.fptr (l.flatMap qb.c) ((w64 (x54 - 1) : Int).toNat * 5 + 1))) (.str x65.Kind), .done (.done (.bool (!(x65.Kind == [114, 101, 99, 97, 108, 108])))) (.bool false), .done (.opt (qh Tryz.prog 22 (vl qb l) (.i (w64 (x54 - 1))))) (.fptr (l.flatMap qb.c) ((w64 (x54 - 1) : Int).toNat * 5 + 0)), .done (qw Tryz.prog 23 (.fptr (l.flatMap qb.c) ((w64 (x54 - 1) : Int).toNat * 5 + 2))) (vl encS x65.Names), .done (.opt (qh Tryz.prog 23 (vl encS x65.Names) (.i 0))) (.fptr (x65.Names.flatMap encS.c) ((0 : Int).toNat * 1 + 0)), .done (qw Tryz.prog 9 (.fptr (x65.Names.flatMap encS.c) ((0 : Int).toNat * 1 + 0))) (.str x67)] (an (congrArg (fun x => Pg.done (.bool x)) c55) (an (congrArg (fun x => Pg.done (.bool x)) c56) (an (congrArg (fun x => Pg.done (.bool x)) c57) (an (qA jH (E := qb) rfl e_x65) (an (qB qai (E := qb) rfl e_x65 (nl rfl) rfl) (an (congrArg (fun x => Pg.done (.bool x)) c66) (an (qA jH (E := qb) rfl e_x65) (an (qB qai (E := qb) rfl e_x65 (nl rfl) rfl) (an (qA yn (E := encS) rfl e_x67) (an (qB ce9 (E := encS) rfl e_x67 (nl rfl) rfl) (an (congrArg (fun x => Pg.done (.bool x)) c68) (an (qA jH (E := qb) rfl e_x65) (an (qB ce9 (E := qb) rfl e_x65 (nl rfl) rfl) (an (congrArg (fun x => Pg.done (.bool x)) c69) (an (qA jH (E := qb) rfl e_x65) (an (qB qai (E := qb) rfl e_x65 (nl rfl) rfl) (an (qA yn (E := encS) rfl e_x67) (an (qB ce9 (E := encS) rfl e_x67 (nl rfl) rfl) trivial))))))))))))))))))
                                · rw [if_neg (nb c68)] at g_v71
                                  obtain rfl := si g_v71
                                  exact qo.rp fol [2, 8, 11, 25, 27, 31, 35, 37, 38, 39, 43] [(0, vl qb l), (1, .str batch), (2, .i day), (10, .ptr 0 0), (13, vl encS r15.1), (15, .i found_47), (17, .ptr 1 0), (22, vl encI r29.1), (86, vl qa r14.1.Slings), (87, .i (r14.1.Slings.length : Int)), (88, .i n21), (153, vl encI r29.1), (154, .i (r29.1.length : Int)), (155, .i n50), (225, .bool false)] [.cells [.i r14.1.Day, vl qa r14.1.Slings], .cells (cS x26)] [.done (.done (.bool (decide (x54 < 1)))) (.bool false), .done (.done (.bool (decide (x54 > (l.length : Int))))) (.bool false), .done (.done (.bool (decide (n50 > 0)))) (.bool false), .done (.opt (qh Tryz.prog 22 (vl qb l) (.i (w64 (x54 - 1))))) (.fptr (l.flatMap qb.c) ((w64 (x54 - 1) : Int).toNat * 5 + 0)), .done (qw Tryz.prog 23 (.fptr (l.flatMap qb.c) ((w64 (x54 - 1) : Int).toNat * 5 + 2))) (vl encS x65.Names), .done (.done (.bool (decide ((x65.Names.length : Int) = 0)))) (.bool false), .done (.opt (qh Tryz.prog 22 (vl qb l) (.i (w64 (x54 - 1))))) (.fptr (l.flatMap qb.c) ((w64 (x54 - 1) : Int).toNat * 5 + 0)), .done (qw Tryz.prog 23 (.fptr (l.flatMap qb.c) ((w64 (x54 - 1) : Int).toNat * 5 + 2))) (vl encS x65.Names), .done (.opt (qh Tryz.prog 23 (vl encS x65.Names) (.i 0))) (.fptr (x65.Names.flatMap encS.c) ((0 : Int).toNat * 1 + 0)), .done (qw Tryz.prog 9 (.fptr (x65.Names.flatMap encS.c) ((0 : Int).toNat * 1 + 0))) (.str x67), .done (.done (.bool (!(x67 == x26.Name)))) (.bool false)] (an (congrArg (fun x => Pg.done (.bool x)) c55) (an (congrArg (fun x => Pg.done (.bool x)) c56) (an (congrArg (fun x => Pg.done (.bool x)) c57) (an (qA jH (E := qb) rfl e_x65) (an (qB qai (E := qb) rfl e_x65 (nl rfl) rfl) (an (congrArg (fun x => Pg.done (.bool x)) c66) (an (qA jH (E := qb) rfl e_x65) (an (qB qai (E := qb) rfl e_x65 (nl rfl) rfl) (an (qA yn (E := encS) rfl e_x67) (an (qB ce9 (E := encS) rfl e_x67 (nl rfl) rfl) (an (congrArg (fun x => Pg.done (.bool x)) c68) trivial)))))))))))
                      refine Goes.ifB (b := b70) (by kernel_rfl) (fun c72 => ?_) (fun c72 => ?_)
                      · rw [if_pos (c72)] at g51
                        refine sq (Goes.rg fol [(6, .bool false)] [.cells [.i r14.1.Day, vl qa r14.1.Slings], .cells (cS x26)] ?_)
                        refine Goes.ret ?_
                        obtain rfl := si g51
                        exact Or.inr (⟨rfl, _, rfl, (Goes.retW (xs := [.bool false]) (by kernel_rfl) (FzW.still tB))⟩)
                      · rw [if_neg (nb c72)] at g51
                        refine Goes.skip ?_
                        refine Goes.rg fol [(0, vl qb l), (1, .str batch), (2, .i day), (10, .ptr 0 0), (13, vl encS r15.1), (15, .i found_47), (17, .ptr 1 0), (22, vl encI r29.1), (86, vl qa r14.1.Slings), (87, .i (r14.1.Slings.length : Int)), (88, .i n21), (153, vl encI r29.1), (154, .i (r29.1.length : Int)), (155, .i (w64 (n50 + 1)))] [.cells [.i r14.1.Day, vl qa r14.1.Slings], .cells (cS x26)] ?_
                        exact ⟨M, (ofG 324 [(0, vl qb l), (1, .str batch), (2, .i day), (10, .ptr 0 0), (13, vl encS r15.1), (15, .i found_47), (17, .ptr 1 0), (22, vl encI r29.1), (86, vl qa r14.1.Slings), (87, .i (r14.1.Slings.length : Int)), (88, .i n21), (153, vl encI r29.1), (154, .i (r29.1.length : Int)), (155, .i (w64 (n50 + 1)))], [.cells [.i r14.1.Day, vl qa r14.1.Slings], .cells (cS x26)]), Nat.lt_succ_self _, (Sub.refl _), _, rfl, g51⟩
                    · rw [if_neg (of_ c53)] at g51
                      refine Goes.exit ?_
                      obtain rfl := si g51
                      exact Or.inl (⟨rfl, rfl, (Sub.norm [] [some 0] rfl rfl (.keep (.same (qj qb _)) (.keep (.same nS) (.keep (.same nI) (.keep (.ptr rfl) (.keep (.same (qj encS _)) (.keep (.same nI) (.drop (.keep (.same (qj encI _)) (.keep (.same (qj qa _)) (.keep (.same nI) (.keep (.same nI) .nil))))))))))) (.keep rfl (.same (qd.cons nI (qd.cons (qj qa _) qd.nil))) rfl rfl .nil))⟩)
                rintro x s' (⟨rfl, rfl, hsub⟩ | ⟨rfl, q76, rfl, hret⟩)
                · try dsimp only at g23
                  refine Goes.sub hsub ?_
                  refine sq ?_
                  obtain ⟨x73, e_x73, g23⟩ := bnd g23
                  obtain ⟨x74, e_x74, g23⟩ := bnd g23
                  refine Goes.rp fol [2, 3, 5, 7] [(0, vl qb l), (1, .str batch), (2, .i day), (10, .ptr 0 0), (13, vl encS r15.1), (15, .i found_47), (86, vl qa r14.1.Slings), (87, .i (r14.1.Slings.length : Int)), (88, .i n21), (235, .bool (!(x74.Kind == [109, 97, 107, 101])))] [.cells [.i r14.1.Day, vl qa r14.1.Slings]] [.done (.opt (qh Tryz.prog 24 (vl encI r29.1) (.i 0))) (.fptr (r29.1.flatMap encI.c) ((0 : Int).toNat * 1 + 0)), .done (qw Tryz.prog 3 (.fptr (r29.1.flatMap encI.c) ((0 : Int).toNat * 1 + 0))) (.i x73), .done (.opt (qh Tryz.prog 22 (vl qb l) (.i (w64 (x73 - 1))))) (.fptr (l.flatMap qb.c) ((w64 (x73 - 1) : Int).toNat * 5 + 0)), .done (qw Tryz.prog 9 (.fptr (l.flatMap qb.c) ((w64 (x73 - 1) : Int).toNat * 5 + 1))) (.str x74.Kind)] (an (qA vT (E := encI) rfl e_x73) (an (qB ce3 (E := encI) rfl e_x73 (nl rfl) rfl) (an (qA jH (E := qb) rfl e_x74) (an (qB ce9 (E := qb) rfl e_x74 (nl rfl) rfl) trivial)))) ?_
                  refine Goes.ifB (b := !(x74.Kind == [109, 97, 107, 101])) (by kernel_rfl) (fun c75 => ?_) (fun c75 => ?_)
                  · rw [if_pos (c75)] at g23
                    refine sq (Goes.rg fol [(6, .bool false)] [.cells [.i r14.1.Day, vl qa r14.1.Slings]] ?_)
                    refine Goes.ret ?_
                    obtain rfl := si g23
                    exact Or.inr (⟨rfl, _, rfl, (Goes.retW (xs := [.bool false]) (by kernel_rfl) (FzW.still tB))⟩)
                  · rw [if_neg (nb c75)] at g23
                    refine Goes.skip ?_
                    refine Goes.rg fol [(0, vl qb l), (1, .str batch), (2, .i day), (10, .ptr 0 0), (13, vl encS r15.1), (15, .i found_47), (86, vl qa r14.1.Slings), (87, .i (r14.1.Slings.length : Int)), (88, .i (w64 (n21 + 1)))] [.cells [.i r14.1.Day, vl qa r14.1.Slings]] ?_
                    exact ⟨M, (ofG 324 [(0, vl qb l), (1, .str batch), (2, .i day), (10, .ptr 0 0), (13, vl encS r15.1), (15, .i found_47), (86, vl qa r14.1.Slings), (87, .i (r14.1.Slings.length : Int)), (88, .i (w64 (n21 + 1)))], [.cells [.i r14.1.Day, vl qa r14.1.Slings]]), Nat.lt_succ_self _, (Sub.refl _), _, _, rfl, g23⟩
                · try dsimp only at g23
                  obtain rfl := si g23
                  exact Or.inr (⟨rfl, _, rfl, hret⟩)
            · rw [if_neg (of_ c25)] at g23
              refine Goes.exit ?_
              obtain rfl := si g23
              exact Or.inl (⟨rfl, _, rfl, (Sub.keep [0, 1, 2, 10, 13, 15] rfl rfl)⟩)
        rintro x s' (⟨rfl, found_22, rfl, hsub⟩ | ⟨rfl, q122, rfl, hret⟩)
        · try dsimp only at h
          refine Goes.sub hsub ?_
          refine sq ?_
          refine sq (Goes.rg fol [(0, vl qb l), (1, .str batch), (2, .i day), (10, .ptr 0 0), (240, .bool (!decide (found_22 = (r15.1.length : Int))))] [.cells [.i r14.1.Day, vl qa r14.1.Slings]] ?_)
          refine Goes.ifB (b := !decide (found_22 = (r15.1.length : Int))) (by kernel_rfl) (fun c77 => ?_) (fun c77 => ?_)
          · rw [if_pos (c77)] at h
            refine sq (Goes.rg fol [(6, .bool false)] [.cells [.i r14.1.Day, vl qa r14.1.Slings]] ?_)
            refine Goes.ret ?_
            obtain rfl := si h
            exact (Goes.retW (xs := [.bool false]) (by kernel_rfl) (FzW.still tB))
          · rw [if_neg (nb c77)] at h
            refine Goes.skip ?_
            refine sq ?_
            obtain ⟨r78, e_r78, h⟩ := bnd h
            refine Goes.rp fol [2] [(0, vl qb l), (1, .str batch), (2, .i day), (10, .ptr 0 0), (29, vl encS r78.1), (30, .i r78.2)] [.cells [.i r14.1.Day, vl qa r14.1.Slings]] [.call 38 [vl qb l, .str batch] [.cells [.i r14.1.Day, vl qa r14.1.Slings]] [] [vl qb l, .str batch] (.tuple [vl encS r78.1, .i r78.2])] (an (qm (AllST.cons (qx qb _ (nl rfl)) (AllST.cons tS AllST.nil)) (qdd N l batch e_r78) (Still.tuple (AllST.cons (qx encS _ (nl rfl)) (AllST.cons tI AllST.nil)))) trivial) ?_
            refine sq (Goes.rg fol [(0, vl qb l), (1, .str batch), (2, .i day), (10, .ptr 0 0), (29, vl encS r78.1), (30, .i r78.2), (31, .i 0)] [.cells [.i r14.1.Day, vl qa r14.1.Slings]] ?_)
            refine sq ?_
            refine sq (Goes.rg fol [(0, vl qb l), (1, .str batch), (2, .i day), (10, .ptr 0 0), (29, vl encS r78.1), (30, .i r78.2), (31, .i 0), (248, vl qa r14.1.Slings), (249, .i (r14.1.Slings.length : Int)), (250, .i 0)] [.cells [.i r14.1.Day, vl qa r14.1.Slings]] ?_)
            refine Goes.block ?_
            obtain ⟨r82, g82, h⟩ := bnd h
            refine Goes.imp (Q := fun x s' => (x = .exit 6 ∧ ∃ own_81, (.inl own_81) = r82 ∧ Sub s' (ofG 324 [(0, vl qb l), (1, .str batch), (2, .i day), (10, .ptr 0 0), (29, vl encS r78.1), (30, .i r78.2), (31, .i own_81)], [.cells [.i r14.1.Day, vl qa r14.1.Slings]])) ∨ (x = .ret ∧ ∃ q83, (.inr q83) = r82 ∧ zw Tryz.prog [.tmp 6] (.bool q83) .ret s')) ?_ ?_
            · refine Goes.loopS (fun M s => ∃ (n79 : Int) (own_80 : Int), s = (ofG 324 [(0, vl qb l), (1, .str batch), (2, .i day), (10, .ptr 0 0), (29, vl encS r78.1), (30, .i r78.2), (31, .i own_80), (248, vl qa r14.1.Slings), (249, .i (r14.1.Slings.length : Int)), (250, .i n79)], [.cells [.i r14.1.Day, vl qa r14.1.Slings]]) ∧ kP N batch r14 r78 M n79 own_80 = some r82) ?_ (m := N) ⟨_, _, rfl, g82⟩
              rintro M s ⟨n79, own_80, rfl, g82⟩
              cases M with
              | zero => simp only [kP] at g82; cases g82
              | succ M =>
                rw [kP] at g82
                refine sq (Goes.rg fol [(0, vl qb l), (1, .str batch), (2, .i day), (10, .ptr 0 0), (29, vl encS r78.1), (30, .i r78.2), (31, .i own_80), (248, vl qa r14.1.Slings), (249, .i (r14.1.Slings.length : Int)), (250, .i n79), (251, .bool (decide (n79 < (r14.1.Slings.length : Int))))] [.cells [.i r14.1.Day, vl qa r14.1.Slings]] ?_)
                refine sq ?_
                refine Goes.ifB (b := decide (n79 < (r14.1.Slings.length : Int))) (by kernel_rfl) (fun c84 => ?_) (fun c84 => ?_)
                · rw [if_pos (ot c84)] at g82
                  refine Goes.skip ?_
                  refine sq ?_
                  obtain ⟨r86, g86, g82⟩ := bnd g82
                  refine Goes.imp (Q := fun x s' => (x = .normal ∧ ∃ own_85, (.inl own_85) = r86 ∧ Sub s' (ofG 324 [(0, vl qb l), (1, .str batch), (2, .i day), (10, .ptr 0 0), (29, vl encS r78.1), (30, .i r78.2), (31, .i own_85), (248, vl qa r14.1.Slings), (249, .i (r14.1.Slings.length : Int)), (250, .i n79)], [.cells [.i r14.1.Day, vl qa r14.1.Slings]])) ∨ (x = .ret ∧ ∃ q87, (.inr q87) = r86 ∧ zw Tryz.prog [.tmp 6] (.bool q87) .ret s')) ?_ ?_
                  · refine Goes.block ?_
                    refine sq ?_
                    obtain ⟨x88, e_x88, g86⟩ := bnd g86
                    refine Goes.rp fol [0, 1] [(0, vl qb l), (1, .str batch), (2, .i day), (10, .ptr 0 0), (29, vl encS r78.1), (30, .i r78.2), (31, .i own_80), (33, .ptr 1 0), (248, vl qa r14.1.Slings), (249, .i (r14.1.Slings.length : Int)), (250, .i n79)] [.cells [.i r14.1.Day, vl qa r14.1.Slings], .cells (cS x88)] [.done (.opt (qh Tryz.prog 29 (vl qa r14.1.Slings) (.i n79))) (.fptr (r14.1.Slings.flatMap qa.c) ((n79 : Int).toNat * 9 + 0)), .done (qw Tryz.prog 68 (.fptr (r14.1.Slings.flatMap qa.c) ((n79 : Int).toNat * 9 + 0))) (.agg (cS x88))] (an (qA xq (E := qa) rfl e_x88) (an (qab qfl (E := qa) rfl e_x88) trivial)) ?_
                    refine sq (Goes.rg fol [(0, vl qb l), (1, .str batch), (2, .i day), (10, .ptr 0 0), (29, vl encS r78.1), (30, .i r78.2), (31, .i own_80), (33, .ptr 1 0), (248, vl qa r14.1.Slings), (249, .i (r14.1.Slings.length : Int)), (250, .i n79), (257, .bool (x88.Batch == batch))] [.cells [.i r14.1.Day, vl qa r14.1.Slings], .cells (cS x88)] ?_)
                    refine Goes.ifB (b := x88.Batch == batch) (by kernel_rfl) (fun c89 => ?_) (fun c89 => ?_)
                    · rw [if_pos (c89)] at g86
                      refine sq (Goes.rg fol [(0, vl qb l), (1, .str batch), (2, .i day), (10, .ptr 0 0), (29, vl encS r78.1), (30, .i r78.2), (31, .i (w64 (own_80 + 1))), (33, .ptr 1 0), (248, vl qa r14.1.Slings), (249, .i (r14.1.Slings.length : Int)), (250, .i n79)] [.cells [.i r14.1.Day, vl qa r14.1.Slings], .cells (cS x88)] ?_)
                      refine sq ?_
                      obtain ⟨r90, e_r90, g86⟩ := bnd g86
                      refine Goes.rp fol [3] [(0, vl qb l), (1, .str batch), (2, .i day), (10, .ptr 0 0), (29, vl encS r78.1), (30, .i r78.2), (31, .i (w64 (own_80 + 1))), (248, vl qa r14.1.Slings), (249, .i (r14.1.Slings.length : Int)), (250, .i n79), (264, .bool (!r90))] [.cells [.i r14.1.Day, vl qa r14.1.Slings], .cells (cS x88)] [.call 48 [vl encS r78.1, .str x88.Name] [.cells [.i r14.1.Day, vl qa r14.1.Slings], .cells (cS x88)] [] [vl encS r78.1, .str x88.Name] (.bool r90)] (an (qm (AllST.cons (qx encS _ (nl rfl)) (AllST.cons tS AllST.nil)) (yS N r78.1 x88.Name e_r90) tB) trivial) ?_
                      refine Goes.ifB (b := !r90) (by kernel_rfl) (fun c91 => ?_) (fun c91 => ?_)
                      · rw [if_pos (c91)] at g86
                        refine sq (Goes.rg fol [(6, .bool false)] [.cells [.i r14.1.Day, vl qa r14.1.Slings], .cells (cS x88)] ?_)
                        refine Goes.ret ?_
                        obtain rfl := si g86
                        exact Or.inr (⟨rfl, _, rfl, (Goes.retW (xs := [.bool false]) (by kernel_rfl) (FzW.still tB))⟩)
                      · rw [if_neg (nb c91)] at g86
                        refine Goes.skip ?_
                        obtain rfl := si g86
                        exact Or.inl (⟨rfl, _, rfl, (Sub.norm [] [some 0] rfl rfl (.keep (.same (qj qb _)) (.keep (.same nS) (.keep (.same nI) (.keep (.ptr rfl) (.keep (.same (qj encS _)) (.keep (.same nI) (.keep (.same nI) (.keep (.same (qj qa _)) (.keep (.same nI) (.keep (.same nI) .nil)))))))))) (.keep rfl (.same (qd.cons nI (qd.cons (qj qa _) qd.nil))) rfl rfl .nil))⟩)
                    · rw [if_neg (nb c89)] at g86
                      refine Goes.skip ?_
                      obtain rfl := si g86
                      exact Or.inl (⟨rfl, _, rfl, (Sub.norm [] [some 0] rfl rfl (.keep (.same (qj qb _)) (.keep (.same nS) (.keep (.same nI) (.keep (.ptr rfl) (.keep (.same (qj encS _)) (.keep (.same nI) (.keep (.same nI) (.drop (.keep (.same (qj qa _)) (.keep (.same nI) (.keep (.same nI) .nil))))))))))) (.keep rfl (.same (qd.cons nI (qd.cons (qj qa _) qd.nil))) rfl rfl .nil))⟩)
                  rintro x s' (⟨rfl, own_85, rfl, hsub⟩ | ⟨rfl, q92, rfl, hret⟩)
                  · try dsimp only at g82
                    refine Goes.sub hsub ?_
                    refine Goes.rg fol [(0, vl qb l), (1, .str batch), (2, .i day), (10, .ptr 0 0), (29, vl encS r78.1), (30, .i r78.2), (31, .i own_85), (248, vl qa r14.1.Slings), (249, .i (r14.1.Slings.length : Int)), (250, .i (w64 (n79 + 1)))] [.cells [.i r14.1.Day, vl qa r14.1.Slings]] ?_
                    exact ⟨M, (ofG 324 [(0, vl qb l), (1, .str batch), (2, .i day), (10, .ptr 0 0), (29, vl encS r78.1), (30, .i r78.2), (31, .i own_85), (248, vl qa r14.1.Slings), (249, .i (r14.1.Slings.length : Int)), (250, .i (w64 (n79 + 1)))], [.cells [.i r14.1.Day, vl qa r14.1.Slings]]), Nat.lt_succ_self _, (Sub.refl _), _, _, rfl, g82⟩
                  · try dsimp only at g82
                    obtain rfl := si g82
                    exact Or.inr (⟨rfl, _, rfl, hret⟩)
                · rw [if_neg (of_ c84)] at g82
                  refine Goes.exit ?_
                  obtain rfl := si g82
                  exact Or.inl (⟨rfl, _, rfl, (Sub.keep [0, 1, 2, 10, 29, 30, 31] rfl rfl)⟩)
            rintro x s' (⟨rfl, own_81, rfl, hsub⟩ | ⟨rfl, q121, rfl, hret⟩)
            · try dsimp only at h
              refine Goes.sub hsub ?_
              refine sq ?_
              refine sq ?_
              obtain ⟨b94, g_v95, h⟩ := bnd h
              refine Goes.cut (s' := (ofG 324 [(0, vl qb l), (1, .str batch), (2, .i day), (10, .ptr 0 0), (29, vl encS r78.1), (276, .bool b94)], [.cells [.i r14.1.Day, vl qa r14.1.Slings]])) ?_ ?_
              · rcases Bool.eq_false_or_eq_true (!decide ((r78.1.length : Int) = own_81)) with c93 | c93
                · rw [if_pos (c93)] at g_v95
                  obtain rfl := si g_v95
                  exact qo.rp fol [4] [(0, vl qb l), (1, .str batch), (2, .i day), (10, .ptr 0 0), (29, vl encS r78.1), (276, .bool true)] [.cells [.i r14.1.Day, vl qa r14.1.Slings]] [.done (.done (.bool (!decide ((r78.1.length : Int) = own_81)))) (.bool true)] (an (congrArg (fun x => Pg.done (.bool x)) c93) trivial)
                · rw [if_neg (nb c93)] at g_v95
                  obtain rfl := si g_v95
                  exact qo.rp fol [4] [(0, vl qb l), (1, .str batch), (2, .i day), (10, .ptr 0 0), (29, vl encS r78.1), (276, .bool (!((decide (r78.2 = 0)) == (decide (own_81 > 0)))))] [.cells [.i r14.1.Day, vl qa r14.1.Slings]] [.done (.done (.bool (!decide ((r78.1.length : Int) = own_81)))) (.bool false)] (an (congrArg (fun x => Pg.done (.bool x)) c93) trivial)
              refine Goes.ifB (b := b94) (by kernel_rfl) (fun c96 => ?_) (fun c96 => ?_)
              · rw [if_pos (c96)] at h
                refine sq (Goes.rg fol [(6, .bool false)] [.cells [.i r14.1.Day, vl qa r14.1.Slings]] ?_)
                refine Goes.ret ?_
                obtain rfl := si h
                exact (Goes.retW (xs := [.bool false]) (by kernel_rfl) (FzW.still tB))
              · rw [if_neg (nb c96)] at h
                refine Goes.skip ?_
                refine sq (Goes.rg fol [(0, vl qb l), (29, vl encS r78.1), (34, .ptr 3 0)] [.cells [.i r14.1.Day, vl qa r14.1.Slings], .cells [.str batch], .cells [.i (if r14.1.Day > day then r14.1.Day else day)], .cells [.i (w64 ((l.length : Int) + 1)), .str [114, 101, 99, 97, 108, 108], .slice 1 0 1 1 1, .slice 2 0 1 1 1, .str []]] ?_)
                refine sq ?_
                refine sq ?_
                obtain ⟨r97, e_r97, h⟩ := bnd h
                refine Goes.rp fol [2] [(0, vl qb l), (29, vl encS r78.1), (34, .ptr 3 0), (291, .bool (!decide (r97 = 0)))] [.cells [.i r14.1.Day, vl qa r14.1.Slings], .cells [.str batch], .cells [.i (if r14.1.Day > day then r14.1.Day else day)], .cells [.i (w64 ((l.length : Int) + 1)), .str [114, 101, 99, 97, 108, 108], .slice 1 0 1 1 1, .slice 2 0 1 1 1, .str []]] [.call 22 [vl qb l, .agg [.i (w64 ((l.length : Int) + 1)), .str [114, 101, 99, 97, 108, 108], .slice 1 0 1 1 1, .slice 2 0 1 1 1, .str []]] [.cells [.i r14.1.Day, vl qa r14.1.Slings], .cells [.str batch], .cells [.i (if r14.1.Day > day then r14.1.Day else day)], .cells [.i (w64 ((l.length : Int) + 1)), .str [114, 101, 99, 97, 108, 108], .slice 1 0 1 1 1, .slice 2 0 1 1 1, .str []]] [1, 2] [vl qb l, .agg [.i (w64 ((l.length : Int) + 1)), .str [114, 101, 99, 97, 108, 108], vl encS ([batch] : List Str), vl encI ([(if r14.1.Day > day then r14.1.Day else day)] : List Int), .str []]] (.i r97)] (an (yh (FzL.cons (Fz.still (qx qb _ (nl rfl))) (FzL.cons (Fz.agg (FzL.cons (Fz.still tI) (FzL.cons (Fz.still tS) (FzL.cons (Fz.lit rfl rfl (FzL.still (AllST.cons tS AllST.nil))) (FzL.cons (Fz.lit rfl rfl (FzL.still (AllST.cons tI AllST.nil))) (FzL.cons (Fz.still tS) FzL.nil)))))) FzL.nil)) (qcB N l (⟨w64 ((l.length : Int) + 1), [114, 101, 99, 97, 108, 108], ([batch] : List Str), ([(if r14.1.Day > day then r14.1.Day else day)] : List Int), []⟩ : ql) e_r97) tI rfl) trivial) ?_
                refine Goes.ifB (b := !decide (r97 = 0)) (by kernel_rfl) (fun c98 => ?_) (fun c98 => ?_)
                · rw [if_pos (c98)] at h
                  refine sq ?_
                  obtain ⟨r99, e_r99, h⟩ := bnd h
                  refine Goes.rp fol [0] [(6, .bool r99)] [.cells [.i r14.1.Day, vl qa r14.1.Slings], .cells [.str batch], .cells [.i (if r14.1.Day > day then r14.1.Day else day)], .cells [.i (w64 ((l.length : Int) + 1)), .str [114, 101, 99, 97, 108, 108], .slice 1 0 1 1 1, .slice 2 0 1 1 1, .str []]] [.call 15 [] [.cells [.i r14.1.Day, vl qa r14.1.Slings], .cells [.str batch], .cells [.i (if r14.1.Day > day then r14.1.Day else day)], .cells [.i (w64 ((l.length : Int) + 1)), .str [114, 101, 99, 97, 108, 108], .slice 1 0 1 1 1, .slice 2 0 1 1 1, .str []]] [] [] (.bool r99)] (an (qm AllST.nil (qe0 e_r99) tB) trivial) ?_
                  refine Goes.ret ?_
                  obtain rfl := si h
                  exact (Goes.retW (xs := [.bool r99]) (by kernel_rfl) (FzW.still tB))
                · rw [if_neg (nb c98)] at h
                  refine Goes.skip ?_
                  refine sq (Goes.sub (s' := (ofG 324 [(0, vl qb l), (29, vl encS r78.1), (34, .ptr 0 0), (291, .bool (!decide (r97 = 0)))], [.cells [.i (w64 ((l.length : Int) + 1)), .str [114, 101, 99, 97, 108, 108], vl encS ([batch] : List Str), .slice 1 0 1 1 1, .str []], .cells [.i (if r14.1.Day > day then r14.1.Day else day)]])) (Sub.norm [1] [some 3, some 2] rfl rfl (.keep (.same (qj qb _)) (.keep (.same (qj encS _)) (.keep (.ptr rfl) (.keep (.same nB) .nil)))) (.keep rfl (.cells (qg.cons (.same nI) (qg.cons (.same nS) (qg.cons (.frz (Fz.lit rfl rfl (FzL.still (AllST.cons tS AllST.nil))) (qj encS _)) (qg.cons (.slice rfl) (qg.cons (.same nS) qg.nil)))))) rfl rfl (.keep rfl (.same (qd.cons nI qd.nil)) rfl rfl .nil))) ?_)
                  refine Goes.sub (s' := (ofG 324 [(0, vl qb l), (29, vl encS r78.1), (34, .ptr 0 0), (291, .bool (!decide (r97 = 0)))], [.cells [.i (w64 ((l.length : Int) + 1)), .str [114, 101, 99, 97, 108, 108], vl encS ([batch] : List Str), vl encI ([(if r14.1.Day > day then r14.1.Day else day)] : List Int), .str []]])) (Sub.norm [1] [some 0] rfl rfl (.keep (.same (qj qb _)) (.keep (.same (qj encS _)) (.keep (.ptr rfl) (.keep (.same nB) .nil)))) (.keep rfl (.cells (qg.cons (.same nI) (qg.cons (.same nS) (qg.cons (.same (qj encS _)) (qg.cons (.frz (Fz.lit rfl rfl (FzL.still (AllST.cons tI AllST.nil))) (qj encI _)) (qg.cons (.same nS) qg.nil)))))) rfl rfl .nil)) ?_
                  obtain ⟨l104, e_l104, h⟩ := bnd h
                  obtain ⟨l105, e_l105, h⟩ := bnd h
                  refine Goes.rp fol [2, 5] [(29, vl encS r78.1), (35, .oslice 4 l105.length 5)] [.cells [.i (w64 ((l.length : Int) + 1)), .str [114, 101, 99, 97, 108, 108], vl encS ([batch] : List Str), vl encI ([(if r14.1.Day > day then r14.1.Day else day)] : List Int), .str []], .dead, .dead, .cells [.i (w64 ((l.length : Int) + 1)), .str [114, 101, 99, 97, 108, 108], vl encS ([batch] : List Str), vl encI ([(if r14.1.Day > day then r14.1.Day else day)] : List Int), .str []], .cells (l105.flatMap qb.c)] [.run [1] (zb Tryz.prog [22, 22] (.slice 1 0 0 0 5) (vl qb l)) [.cells [.i (w64 ((l.length : Int) + 1)), .str [114, 101, 99, 97, 108, 108], vl encS ([batch] : List Str), vl encI ([(if r14.1.Day > day then r14.1.Day else day)] : List Int), .str []], .cells []] (.oslice 2 l104.length 5) [.cells [.i (w64 ((l.length : Int) + 1)), .str [114, 101, 99, 97, 108, 108], vl encS ([batch] : List Str), vl encI ([(if r14.1.Day > day then r14.1.Day else day)] : List Int), .str []], .dead, .cells (l104.flatMap qb.c)] true, .run [2, 3] (zb Tryz.prog [22, 22] (.oslice 2 l104.length 5) (.slice 3 0 1 1 5)) [.cells [.i (w64 ((l.length : Int) + 1)), .str [114, 101, 99, 97, 108, 108], vl encS ([batch] : List Str), vl encI ([(if r14.1.Day > day then r14.1.Day else day)] : List Int), .str []], .dead, .cells (l104.flatMap qb.c), .cells [.i (w64 ((l.length : Int) + 1)), .str [114, 101, 99, 97, 108, 108], vl encS ([batch] : List Str), vl encI ([(if r14.1.Day > day then r14.1.Day else day)] : List Int), .str []]] (.oslice 4 l105.length 5) [.cells [.i (w64 ((l.length : Int) + 1)), .str [114, 101, 99, 97, 108, 108], vl encS ([batch] : List Str), vl encI ([(if r14.1.Day > day then r14.1.Day else day)] : List Int), .str []], .dead, .dead, .cells [.i (w64 ((l.length : Int) + 1)), .str [114, 101, 99, 97, 108, 108], vl encS ([batch] : List Str), vl encI ([(if r14.1.Day > day then r14.1.Day else day)] : List Int), .str []], .cells (l105.flatMap qb.c)] true] (an (jQ jH (E := qb) rfl (qbL (E := qb) rfl _) (qc0 (E := qb) rfl rfl rfl e_l104 rfl)) (an (jQ jH (E := qb) rfl (qbc (E := qb) (ys := [(⟨w64 ((l.length : Int) + 1), [114, 101, 99, 97, 108, 108], ([batch] : List Str), ([(if r14.1.Day > day then r14.1.Day else day)] : List Int), []⟩ : ql)]) rfl rfl rfl rfl) (qfU (E := qb) (l := l104) rfl rfl rfl e_l105 rfl)) trivial)) ?_
                  refine sq ?_
                  refine sq (Goes.rg fol [(29, vl encS r78.1), (35, .oslice 4 l105.length 5), (299, vl encS r78.1), (300, .i (r78.1.length : Int)), (301, .i 0)] [.cells [.i (w64 ((l.length : Int) + 1)), .str [114, 101, 99, 97, 108, 108], vl encS ([batch] : List Str), vl encI ([(if r14.1.Day > day then r14.1.Day else day)] : List Int), .str []], .dead, .dead, .cells [.i (w64 ((l.length : Int) + 1)), .str [114, 101, 99, 97, 108, 108], vl encS ([batch] : List Str), vl encI ([(if r14.1.Day > day then r14.1.Day else day)] : List Int), .str []], .cells (l105.flatMap qb.c)] ?_)
                  refine Goes.block ?_
                  obtain ⟨r107, g107, h⟩ := bnd h
                  refine Goes.imp (Q := fun x s' => (x = .exit 8 ∧ (.inl ()) = r107 ∧ Sub s' (ofG 324 [(29, vl encS r78.1)], [])) ∨ (x = .ret ∧ ∃ q108, (.inr q108) = r107 ∧ zw Tryz.prog [.tmp 6] (.bool q108) .ret s')) ?_ ?_
                  · refine Goes.sub (s' := (ofG 324 [(29, vl encS r78.1), (35, .oslice 0 l105.length 5), (299, vl encS r78.1), (300, .i (r78.1.length : Int)), (301, .i 0)], [.cells (l105.flatMap qb.c)])) (Sub.norm [] [some 4] rfl rfl (.keep (.same (qj encS _)) (.keep (.oslice rfl) (.keep (.same (qj encS _)) (.keep (.same nI) (.keep (.same nI) .nil))))) (.keep rfl (.same fa) rfl rfl .nil)) ?_
                    refine Goes.loopS (fun M s => ∃ (n106 : Int), s = (ofG 324 [(29, vl encS r78.1), (35, .oslice 0 l105.length 5), (299, vl encS r78.1), (300, .i (r78.1.length : Int)), (301, .i n106)], [.cells (l105.flatMap qb.c)]) ∧ kQ N r78 l105 M n106 = some r107) ?_ (m := N) ⟨_, rfl, g107⟩
                    rintro M s ⟨n106, rfl, g107⟩
                    cases M with
                    | zero => simp only [kQ] at g107; cases g107
                    | succ M =>
                      rw [kQ] at g107
                      refine sq (Goes.rg fol [(29, vl encS r78.1), (35, .oslice 0 l105.length 5), (299, vl encS r78.1), (300, .i (r78.1.length : Int)), (301, .i n106), (302, .bool (decide (n106 < (r78.1.length : Int))))] [.cells (l105.flatMap qb.c)] ?_)
                      refine sq ?_
                      refine Goes.ifB (b := decide (n106 < (r78.1.length : Int))) (by kernel_rfl) (fun c109 => ?_) (fun c109 => ?_)
                      · rw [if_pos (ot c109)] at g107
                        refine Goes.skip ?_
                        refine sq (Goes.block ?_)
                        refine sq ?_
                        obtain ⟨x110, e_x110, g107⟩ := bnd g107
                        refine Goes.rp fol [0, 1] [(29, vl encS r78.1), (35, .oslice 0 l105.length 5), (37, .str x110), (299, vl encS r78.1), (300, .i (r78.1.length : Int)), (301, .i n106)] [.cells (l105.flatMap qb.c)] [.done (.opt (qh Tryz.prog 23 (vl encS r78.1) (.i n106))) (.fptr (r78.1.flatMap encS.c) ((n106 : Int).toNat * 1 + 0)), .done (qw Tryz.prog 9 (.fptr (r78.1.flatMap encS.c) ((n106 : Int).toNat * 1 + 0))) (.str x110)] (an (qA yn (E := encS) rfl e_x110) (an (qB ce9 (E := encS) rfl e_x110 (nl rfl) rfl) trivial)) ?_
                        refine sq ?_
                        obtain ⟨r111, e_r111, g107⟩ := bnd g107
                        refine Goes.rp fol [2] [(29, vl encS r78.1), (35, .oslice 0 l105.length 5), (38, .bool r111.1), (39, .i r111.2), (299, vl encS r78.1), (300, .i (r78.1.length : Int)), (301, .i n106)] [.cells (l105.flatMap qb.c)] [.call 25 [.oslice 0 l105.length 5, .str x110, .i 0] [.cells (l105.flatMap qb.c)] [0] [vl qb l105, .str x110, .i 0] (.tuple [.bool r111.1, .i r111.2])] (an (yh (FzL.cons (Fz.os (E := qb) rfl rfl (nl rfl)) (FzL.cons (Fz.still tS) (FzL.cons (Fz.still tI) FzL.nil))) (x9 N l105 x110 0 e_r111) (Still.tuple (AllST.cons tB (AllST.cons tI AllST.nil))) rfl) trivial) ?_
                        refine sq ?_
                        obtain ⟨b113, g_v114, g107⟩ := bnd g107
                        refine Goes.cut (s' := (ofG 324 [(29, vl encS r78.1), (35, .oslice 0 l105.length 5), (299, vl encS r78.1), (300, .i (r78.1.length : Int)), (301, .i n106), (316, .bool b113)], [.cells (l105.flatMap qb.c)])) ?_ ?_
                        · rcases Bool.eq_false_or_eq_true (!decide (r111.2 = 0)) with c112 | c112
                          · rw [if_pos (c112)] at g_v114
                            obtain rfl := si g_v114
                            exact qo.rp fol [2] [(29, vl encS r78.1), (35, .oslice 0 l105.length 5), (299, vl encS r78.1), (300, .i (r78.1.length : Int)), (301, .i n106), (316, .bool true)] [.cells (l105.flatMap qb.c)] [.done (.done (.bool (!decide (r111.2 = 0)))) (.bool true)] (an (congrArg (fun x => Pg.done (.bool x)) c112) trivial)
                          · rw [if_neg (nb c112)] at g_v114
                            obtain rfl := si g_v114
                            exact qo.rp fol [2] [(29, vl encS r78.1), (35, .oslice 0 l105.length 5), (299, vl encS r78.1), (300, .i (r78.1.length : Int)), (301, .i n106), (316, .bool (!r111.1))] [.cells (l105.flatMap qb.c)] [.done (.done (.bool (!decide (r111.2 = 0)))) (.bool false)] (an (congrArg (fun x => Pg.done (.bool x)) c112) trivial)
                        refine Goes.ifB (b := b113) (by kernel_rfl) (fun c115 => ?_) (fun c115 => ?_)
                        · rw [if_pos (c115)] at g107
                          refine sq (Goes.rg fol [(6, .bool false)] [.cells (l105.flatMap qb.c)] ?_)
                          refine Goes.ret ?_
                          obtain rfl := si g107
                          exact Or.inr (⟨rfl, _, rfl, (Goes.retW (xs := [.bool false]) (by kernel_rfl) (FzW.still tB))⟩)
                        · rw [if_neg (nb c115)] at g107
                          refine Goes.skip ?_
                          refine Goes.rg fol [(29, vl encS r78.1), (35, .oslice 0 l105.length 5), (299, vl encS r78.1), (300, .i (r78.1.length : Int)), (301, .i (w64 (n106 + 1)))] [.cells (l105.flatMap qb.c)] ?_
                          exact ⟨M, (ofG 324 [(29, vl encS r78.1), (35, .oslice 0 l105.length 5), (299, vl encS r78.1), (300, .i (r78.1.length : Int)), (301, .i (w64 (n106 + 1)))], [.cells (l105.flatMap qb.c)]), Nat.lt_succ_self _, (Sub.refl _), _, rfl, g107⟩
                      · rw [if_neg (of_ c109)] at g107
                        refine Goes.exit ?_
                        obtain rfl := si g107
                        exact Or.inl (⟨rfl, rfl, (Sub.norm [] [] rfl rfl (.keep (.same (qj encS _)) .nil) .nil)⟩)
                  rintro x s' (⟨rfl, rfl, hsub⟩ | ⟨rfl, q120, rfl, hret⟩)
                  · try dsimp only at h
                    refine Goes.sub hsub ?_
                    refine sq ?_
                    obtain ⟨b118, g_v119, h⟩ := bnd h
                    refine Goes.cut (s' := (ofG 324 [(6, .bool b118)], [])) ?_ ?_
                    · rcases Bool.eq_false_or_eq_true (decide ((r78.1.length : Int) > 0)) with c116 | c116
                      · rw [if_pos (ot c116)] at g_v119
                        obtain ⟨r117, e_r117, g_v119⟩ := bnd g_v119
                        obtain rfl := si g_v119
                        exact qo.rp fol [3, 4] [(6, .bool r117)] [] [.done (.done (.bool (decide ((r78.1.length : Int) > 0)))) (.bool true), .call 15 [] [] [] [] (.bool r117)] (an (congrArg (fun x => Pg.done (.bool x)) c116) (an (qm AllST.nil (qe0 e_r117) tB) trivial))
                      · rw [if_neg (of_ c116)] at g_v119
                        obtain rfl := si g_v119
                        exact qo.rp fol [3] [(6, .bool false)] [] [.done (.done (.bool (decide ((r78.1.length : Int) > 0)))) (.bool false)] (an (congrArg (fun x => Pg.done (.bool x)) c116) trivial)
                    refine Goes.ret ?_
                    obtain rfl := si h
                    exact (Goes.retW (xs := [.bool b118]) (by kernel_rfl) (FzW.still tB))
                  · try dsimp only at h
                    obtain rfl := si h
                    exact hret
            · try dsimp only at h
              obtain rfl := si h
              exact hret
        · try dsimp only at h
          obtain rfl := si h
          exact hret
end Go.Av
