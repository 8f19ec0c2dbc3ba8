/-
  Walks of functions: what each computes, as a plain function.
-/
import Derived.Test.YtjflombnfhlkaaaGreatDoorGenS3
noncomputable section
namespace Go.Av
open Go.Proofs Go.RowKit
set_option linter.unusedSectionVars false
set_option linter.unusedVariables false
set_option linter.unusedSimpArgs false
set_option maxRecDepth 100000
variable [Glob]
def zn (sling : Str) (r1 : (List qm) × Int × Int) : Nat → (List Int) → Int → Str → Option (List Int)
  | 0, _, _, _ => none
  | K + 1, l2, i_3, batch_4 =>
    if i_3 < (r1.1.length : Int) then
    (((idx r1.1 i_3).bind fun x11 =>
    if (x11.Kind == [114, 101, 99, 97, 108, 108]) = true then
    (if (!(batch_4 == [])) = true then
    (idx x11.Names 0).bind fun x14 =>
    some (x14 == batch_4)
    else
    some false : Option Bool).bind fun b15 =>
    ((if b15 = true then
    (app 8 l2 [x11.Number]).bind fun l20 =>
    some l20
    else
    some l2 : Option (List Int))).bind fun l17 =>
    some (l17, batch_4)
    else
    (idx x11.Names 0).bind fun x21 =>
    if (x21 == sling) = true then
    (app 8 l2 [x11.Number]).bind fun l23 =>
    if (x11.Kind == [109, 97, 107, 101]) = true then
    (idx x11.Names 1).bind fun x25 =>
    some (l23, x25)
    else
    some (l23, batch_4)
    else
    some (l2, batch_4) : Option ((List Int) × Str))).bind fun (l8, batch_9) =>
    zn sling r1 K l8 (w64 (i_3 + 1)) batch_9
    else
    some l2
def vP (N : Nat) (l : List qm) (sling : Str) : Option (List Int) :=
  (jh N l).bind fun r1 =>
  (zn sling r1 N ([] : List Int) 0 []).bind fun l5 =>
  some l5
theorem qcs (N : Nat) (l : List qm) (sling : Str) {res : List Int} (h : vP N l sling = some res) : qw Tryz.prog (.fn 32) [vl qb l, .str sling] [] (vl encI res) [] := by
  unfold vP at h
  refine Goes.fnW Tryz.func32 rfl rfl (m := 65) rfl (rs := [.tmp 4]) rfl (l := [(0, vl qb l), (1, .str sling)]) rfl ?_
  refine sq ?_
  refine Goes.rg fol [(0, vl qb l), (1, .str sling)] [] ?_
  refine sq ?_
  obtain ⟨r1, e_r1, h⟩ := bnd h
  refine Goes.ro fol [(1, (.call [] [vl qb l] (.tuple [vl qb r1.1, .i r1.2.1, .i r1.2.2])))] [(1, .str sling), (5, vl qb r1.1)] [] [.call 83 [vl qb l] [] [] [vl qb l] (.tuple [vl qb r1.1, .i r1.2.1, .i r1.2.2])] (And.intro (qo (AllST.cons (qx qb _ (Nat.le_of_ble_eq_true rfl)) AllST.nil) (xZ N l e_r1) (Still.tuple (AllST.cons (qx qb _ (Nat.le_of_ble_eq_true rfl)) (AllST.cons (Still.int 10 _ _) (AllST.cons (Still.int 10 _ _) AllST.nil))))) trivial) ?_
  refine sq ?_
  refine Goes.rg fol [(1, .str sling), (5, vl qb r1.1), (8, .nilslice)] [] ?_
  refine sq ?_
  refine Goes.rg fol [(1, .str sling), (5, vl qb r1.1), (8, .nilslice), (9, .str [])] [] ?_
  refine sq ?_
  refine sq ?_
  refine Goes.rg fol [(1, .str sling), (5, vl qb r1.1), (8, .nilslice), (9, .str []), (10, .i 0)] [] ?_
  refine Goes.block ?_
  obtain ⟨r6, g6, h⟩ := bnd h
  refine Goes.imp (Q := fun x s' => (x = .exit 0 ∧ ∃ l5, l5 = r6 ∧ Sub s' (ofG 65 [(8, .gslice 0 l5.length 1)], [.cells (l5.flatMap encI.c)]))) ?_ ?_
  · refine Goes.sub (s' := (ofG 65 [(1, .str sling), (5, vl qb r1.1), (8, .gslice 0 ([] : List Int).length 1), (9, .str []), (10, .i 0)], [.cells (([] : List Int).flatMap encI.c)])) (Sub.norm [] [none] rfl rfl (.keep (.same (qc.str _)) (.keep (.same (ql qb _)) (.keep .nil (.keep (.same (qc.str _)) (.keep (.same (qc.int _ _)) .nil))))) (.fresh .nil)) ?_
    refine Goes.loopS (fun M s => ∃ (l2 : List Int) (i_3 : Int) (batch_4 : Str), s = (ofG 65 [(1, .str sling), (5, vl qb r1.1), (8, .gslice 0 l2.length 1), (9, .str batch_4), (10, .i i_3)], [.cells (l2.flatMap encI.c)]) ∧ zn sling r1 M l2 i_3 batch_4 = some r6) ?_ (m := N) ⟨_, _, _, rfl, g6⟩
    rintro M s ⟨l2, i_3, batch_4, rfl, g6⟩
    cases M with
    | zero => simp only [zn] at g6; cases g6
    | succ M =>
      rw [zn] at g6
      refine sq ?_
      refine sq ?_
      refine Goes.rg fol [(1, .str sling), (5, vl qb r1.1), (8, .gslice 0 l2.length 1), (9, .str batch_4), (10, .i i_3), (21, .bool (decide (i_3 < (r1.1.length : Int))))] [.cells (l2.flatMap encI.c)] ?_
      refine Goes.ifB (b := decide (i_3 < (r1.1.length : Int))) (by kernel_rfl) (fun c7 => ?_) (fun c7 => ?_)
      · rw [if_pos (ot c7)] at g6
        refine Goes.skip ?_
        refine sq ?_
        obtain ⟨r10, g10, g6⟩ := bnd g6
        refine Goes.imp (Q := fun x s' => (x = .normal ∧ ∃ l8 batch_9, (l8, batch_9) = r10 ∧ Sub s' (ofG 65 [(1, .str sling), (5, vl qb r1.1), (8, .gslice 0 l8.length 1), (9, .str batch_9), (10, .i i_3)], [.cells (l8.flatMap encI.c)]))) ?_ ?_
        · refine Goes.block ?_
          refine sq ?_
          obtain ⟨x11, e_x11, g10⟩ := bnd g10
          refine Goes.ro fol [(2, (.done (.fptr (r1.1.flatMap qb.c) ((i_3 : Int).toNat * 5 + 0)))), (3, (.done (.agg [.i x11.Number, .str x11.Kind, vl encS x11.Names, vl encI x11.Values, .str x11.Text])))] [(1, .str sling), (5, vl qb r1.1), (8, .gslice 0 l2.length 1), (9, .str batch_4), (10, .i i_3), (11, .ptr 1 0)] [.cells (l2.flatMap encI.c), .cells [.i x11.Number, .str x11.Kind, vl encS x11.Names, vl encI x11.Values, .str x11.Text]] [.done (.opt (qj Tryz.prog 22 (vl qb r1.1) (.i i_3))) (.fptr (r1.1.flatMap qb.c) ((i_3 : Int).toNat * 5 + 0)), .done (qz Tryz.prog 26 (.fptr (r1.1.flatMap qb.c) ((i_3 : Int).toNat * 5 + 0))) (.agg [.i x11.Number, .str x11.Kind, vl encS x11.Names, vl encI x11.Values, .str x11.Text])] (And.intro (qF yL (E := qb) rfl e_x11) (And.intro (qax qf5 (E := qb) rfl e_x11) trivial)) ?_
          refine sq ?_
          refine sq ?_
          refine Goes.rg fol [(1, .str sling), (5, vl qb r1.1), (8, .gslice 0 l2.length 1), (9, .str batch_4), (10, .i i_3), (11, .ptr 1 0), (30, .bool (x11.Kind == [114, 101, 99, 97, 108, 108]))] [.cells (l2.flatMap encI.c), .cells [.i x11.Number, .str x11.Kind, vl encS x11.Names, vl encI x11.Values, .str x11.Text]] ?_
          refine Goes.ifB (b := x11.Kind == [114, 101, 99, 97, 108, 108]) (by kernel_rfl) (fun c12 => ?_) (fun c12 => ?_)
          · rw [if_pos (c12)] at g10
            refine sq ?_
            refine sq ?_
            obtain ⟨b15, g_v16, g10⟩ := bnd g10
            refine Goes.cut (s' := (ofG 65 [(1, .str sling), (5, vl qb r1.1), (8, .gslice 0 l2.length 1), (9, .str batch_4), (10, .i i_3), (11, .ptr 1 0), (40, .bool b15)], [.cells (l2.flatMap encI.c), .cells [.i x11.Number, .str x11.Kind, vl encS x11.Names, vl encI x11.Values, .str x11.Text]])) ?_ ?_
            · rcases Bool.eq_false_or_eq_true (!(batch_4 == [])) with c13 | c13
              · rw [if_pos (c13)] at g_v16
                obtain ⟨x14, e_x14, g_v16⟩ := bnd g_v16
                obtain rfl := Option.some.inj g_v16
                exact qp.ro fol [(2, (.done (.bool true))), (5, (.done (.fptr (x11.Names.flatMap encS.c) ((0 : Int).toNat * 1 + 0)))), (6, (.done (.str x14)))] [(1, .str sling), (5, vl qb r1.1), (8, .gslice 0 l2.length 1), (9, .str batch_4), (10, .i i_3), (11, .ptr 1 0), (40, .bool (x14 == batch_4))] [.cells (l2.flatMap encI.c), .cells [.i x11.Number, .str x11.Kind, vl encS x11.Names, vl encI x11.Values, .str x11.Text]] [.done (.done (.bool (!(batch_4 == [])))) (.bool true), .done (.opt (qj Tryz.prog 23 (vl encS x11.Names) (.i 0))) (.fptr (x11.Names.flatMap encS.c) ((0 : Int).toNat * 1 + 0)), .done (qz Tryz.prog 9 (.fptr (x11.Names.flatMap encS.c) ((0 : Int).toNat * 1 + 0))) (.str x14)] (And.intro (congrArg (fun x => Pg.done (.bool x)) c13) (And.intro (qF xe (E := encS) rfl e_x14) (And.intro (qJ ce9 (E := encS) rfl e_x14 (Nat.le_of_ble_eq_true rfl) rfl) trivial)))
              · rw [if_neg (by rw [c13]; exact Bool.false_ne_true)] at g_v16
                obtain rfl := Option.some.inj g_v16
                exact qp.ro fol [(2, (.done (.bool false)))] [(1, .str sling), (5, vl qb r1.1), (8, .gslice 0 l2.length 1), (9, .str batch_4), (10, .i i_3), (11, .ptr 1 0), (40, .bool false)] [.cells (l2.flatMap encI.c), .cells [.i x11.Number, .str x11.Kind, vl encS x11.Names, vl encI x11.Values, .str x11.Text]] [.done (.done (.bool (!(batch_4 == [])))) (.bool false)] (And.intro (congrArg (fun x => Pg.done (.bool x)) c13) trivial)
            obtain ⟨r18, g18, g10⟩ := bnd g10
            refine Goes.imp (Q := fun x s' => (x = .normal ∧ ∃ l17, l17 = r18 ∧ Sub s' (ofG 65 [(1, .str sling), (5, vl qb r1.1), (8, .gslice 0 l17.length 1), (9, .str batch_4), (10, .i i_3)], [.cells (l17.flatMap encI.c)]))) ?_ ?_
            · refine Goes.ifB (b := b15) (by kernel_rfl) (fun c19 => ?_) (fun c19 => ?_)
              · rw [if_pos (c19)] at g18
                obtain ⟨l20, e_l20, g18⟩ := bnd g18
                refine Goes.ro fol [(4, (.run (.gslice 3 l20.length 1) [.dead, .cells [.i x11.Number, .str x11.Kind, vl encS x11.Names, vl encI x11.Values, .str x11.Text], .cells [.i x11.Number], .cells (l20.flatMap encI.c)] true))] [(1, .str sling), (5, vl qb r1.1), (8, .gslice 3 l20.length 1), (9, .str batch_4), (10, .i i_3)] [.dead, .cells [.i x11.Number, .str x11.Kind, vl encS x11.Names, vl encI x11.Values, .str x11.Text], .cells [.i x11.Number], .cells (l20.flatMap encI.c)] [.run [0, 2] (kV Tryz.prog [24, 24] (.gslice 0 l2.length 1) (.slice 2 0 1 1 1)) [.cells (l2.flatMap encI.c), .cells [.i x11.Number, .str x11.Kind, vl encS x11.Names, vl encI x11.Values, .str x11.Text], .cells [.i x11.Number]] (.gslice 3 l20.length 1) [.dead, .cells [.i x11.Number, .str x11.Kind, vl encS x11.Names, vl encI x11.Values, .str x11.Text], .cells [.i x11.Number], .cells (l20.flatMap encI.c)] true] (And.intro (jI vN (E := encI) rfl (qbp (E := encI) (ys := [x11.Number]) rfl rfl rfl rfl) (qfj (E := encI) (l := l2) rfl rfl rfl e_l20 rfl)) trivial) ?_
                obtain rfl := Option.some.inj g18
                exact ⟨rfl, _, rfl, (Sub.norm [] [some 3] rfl rfl (.keep (.same (qc.str _)) (.keep (.same (ql qb _)) (.keep (.gslice rfl) (.keep (.same (qc.str _)) (.keep (.same (qc.int _ _)) .nil))))) (.keep rfl (.same fa) rfl rfl .nil))⟩
              · rw [if_neg (by rw [c19]; exact Bool.false_ne_true)] at g18
                refine Goes.skip ?_
                obtain rfl := Option.some.inj g18
                exact ⟨rfl, _, rfl, (Sub.norm [] [some 0] rfl rfl (.keep (.same (qc.str _)) (.keep (.same (ql qb _)) (.keep (.gslice rfl) (.keep (.same (qc.str _)) (.keep (.same (qc.int _ _)) .nil))))) (.keep rfl (.same fa) rfl rfl .nil))⟩
            rintro x s' ⟨rfl, l17, rfl, hsub⟩
            refine Goes.sub hsub ?_
            refine Goes.exit ?_
            obtain rfl := Option.some.inj g10
            exact ⟨rfl, _, _, rfl, (Sub.refl _)⟩
          · rw [if_neg (by rw [c12]; exact Bool.false_ne_true)] at g10
            refine Goes.skip ?_
            refine sq ?_
            obtain ⟨x21, e_x21, g10⟩ := bnd g10
            refine Goes.ro fol [(2, (.done (.fptr (x11.Names.flatMap encS.c) ((0 : Int).toNat * 1 + 0)))), (3, (.done (.str x21)))] [(1, .str sling), (5, vl qb r1.1), (8, .gslice 0 l2.length 1), (9, .str batch_4), (10, .i i_3), (11, .ptr 1 0), (51, .bool (x21 == sling))] [.cells (l2.flatMap encI.c), .cells [.i x11.Number, .str x11.Kind, vl encS x11.Names, vl encI x11.Values, .str x11.Text]] [.done (.opt (qj Tryz.prog 23 (vl encS x11.Names) (.i 0))) (.fptr (x11.Names.flatMap encS.c) ((0 : Int).toNat * 1 + 0)), .done (qz Tryz.prog 9 (.fptr (x11.Names.flatMap encS.c) ((0 : Int).toNat * 1 + 0))) (.str x21)] (And.intro (qF xe (E := encS) rfl e_x21) (And.intro (qJ ce9 (E := encS) rfl e_x21 (Nat.le_of_ble_eq_true rfl) rfl) trivial)) ?_
            refine Goes.ifB (b := x21 == sling) (by kernel_rfl) (fun c22 => ?_) (fun c22 => ?_)
            · rw [if_pos (c22)] at g10
              refine sq ?_
              obtain ⟨l23, e_l23, g10⟩ := bnd g10
              refine Goes.ro fol [(4, (.run (.gslice 3 l23.length 1) [.dead, .cells [.i x11.Number, .str x11.Kind, vl encS x11.Names, vl encI x11.Values, .str x11.Text], .cells [.i x11.Number], .cells (l23.flatMap encI.c)] true))] [(1, .str sling), (5, vl qb r1.1), (8, .gslice 3 l23.length 1), (9, .str batch_4), (10, .i i_3), (11, .ptr 1 0)] [.dead, .cells [.i x11.Number, .str x11.Kind, vl encS x11.Names, vl encI x11.Values, .str x11.Text], .cells [.i x11.Number], .cells (l23.flatMap encI.c)] [.run [0, 2] (kV Tryz.prog [24, 24] (.gslice 0 l2.length 1) (.slice 2 0 1 1 1)) [.cells (l2.flatMap encI.c), .cells [.i x11.Number, .str x11.Kind, vl encS x11.Names, vl encI x11.Values, .str x11.Text], .cells [.i x11.Number]] (.gslice 3 l23.length 1) [.dead, .cells [.i x11.Number, .str x11.Kind, vl encS x11.Names, vl encI x11.Values, .str x11.Text], .cells [.i x11.Number], .cells (l23.flatMap encI.c)] true] (And.intro (jI vN (E := encI) rfl (qbp (E := encI) (ys := [x11.Number]) rfl rfl rfl rfl) (qfj (E := encI) (l := l2) rfl rfl rfl e_l23 rfl)) trivial) ?_
              refine sq ?_
              refine Goes.rg fol [(1, .str sling), (5, vl qb r1.1), (8, .gslice 3 l23.length 1), (9, .str batch_4), (10, .i i_3), (11, .ptr 1 0), (59, .bool (x11.Kind == [109, 97, 107, 101]))] [.dead, .cells [.i x11.Number, .str x11.Kind, vl encS x11.Names, vl encI x11.Values, .str x11.Text], .cells [.i x11.Number], .cells (l23.flatMap encI.c)] ?_
              refine Goes.ifB (b := x11.Kind == [109, 97, 107, 101]) (by kernel_rfl) (fun c24 => ?_) (fun c24 => ?_)
              · rw [if_pos (c24)] at g10
                obtain ⟨x25, e_x25, g10⟩ := bnd g10
                refine Goes.ro fol [(2, (.done (.fptr (x11.Names.flatMap encS.c) ((1 : Int).toNat * 1 + 0)))), (3, (.done (.str x25)))] [(1, .str sling), (5, vl qb r1.1), (8, .gslice 3 l23.length 1), (9, .str x25), (10, .i i_3)] [.dead, .cells [.i x11.Number, .str x11.Kind, vl encS x11.Names, vl encI x11.Values, .str x11.Text], .cells [.i x11.Number], .cells (l23.flatMap encI.c)] [.done (.opt (qj Tryz.prog 23 (vl encS x11.Names) (.i 1))) (.fptr (x11.Names.flatMap encS.c) ((1 : Int).toNat * 1 + 0)), .done (qz Tryz.prog 9 (.fptr (x11.Names.flatMap encS.c) ((1 : Int).toNat * 1 + 0))) (.str x25)] (And.intro (qF xe (E := encS) rfl e_x25) (And.intro (qJ ce9 (E := encS) rfl e_x25 (Nat.le_of_ble_eq_true rfl) rfl) trivial)) ?_
                obtain rfl := Option.some.inj g10
                exact ⟨rfl, _, _, rfl, (Sub.norm [] [some 3] rfl rfl (.keep (.same (qc.str _)) (.keep (.same (ql qb _)) (.keep (.gslice rfl) (.keep (.same (qc.str _)) (.keep (.same (qc.int _ _)) .nil))))) (.keep rfl (.same fa) rfl rfl .nil))⟩
              · rw [if_neg (by rw [c24]; exact Bool.false_ne_true)] at g10
                refine Goes.skip ?_
                obtain rfl := Option.some.inj g10
                exact ⟨rfl, _, _, rfl, (Sub.norm [] [some 3] rfl rfl (.keep (.same (qc.str _)) (.keep (.same (ql qb _)) (.keep (.gslice rfl) (.keep (.same (qc.str _)) (.keep (.same (qc.int _ _)) .nil))))) (.keep rfl (.same fa) rfl rfl .nil))⟩
            · rw [if_neg (by rw [c22]; exact Bool.false_ne_true)] at g10
              refine Goes.skip ?_
              obtain rfl := Option.some.inj g10
              exact ⟨rfl, _, _, rfl, (Sub.norm [] [some 0] rfl rfl (.keep (.same (qc.str _)) (.keep (.same (ql qb _)) (.keep (.gslice rfl) (.keep (.same (qc.str _)) (.keep (.same (qc.int _ _)) .nil))))) (.keep rfl (.same fa) rfl rfl .nil))⟩
        rintro x s' ⟨rfl, l8, batch_9, rfl, hsub⟩
        try dsimp only at g6
        refine Goes.sub hsub ?_
        refine Goes.rg fol [(1, .str sling), (5, vl qb r1.1), (8, .gslice 0 l8.length 1), (9, .str batch_9), (10, .i (w64 (i_3 + 1)))] [.cells (l8.flatMap encI.c)] ?_
        exact ⟨M, (ofG 65 [(1, .str sling), (5, vl qb r1.1), (8, .gslice 0 l8.length 1), (9, .str batch_9), (10, .i (w64 (i_3 + 1)))], [.cells (l8.flatMap encI.c)]), Nat.lt_succ_self _, (Sub.refl _), _, _, _, rfl, g6⟩
      · rw [if_neg (of_ c7)] at g6
        refine Goes.exit ?_
        obtain rfl := Option.some.inj g6
        exact ⟨rfl, _, rfl, (Sub.keep [8] rfl rfl)⟩
  rintro x s' ⟨rfl, l5, rfl, hsub⟩
  refine Goes.sub hsub ?_
  refine sq ?_
  refine Goes.rg fol [(4, .gslice 0 l5.length 1)] [.cells (l5.flatMap encI.c)] ?_
  refine Goes.ret ?_
  obtain rfl := Option.some.inj h
  exact (Goes.retW (xs := [.gslice 0 l5.length 1]) (by kernel_rfl) (FzW.fz (Fz.gs (E := encI) rfl rfl (Nat.le_of_ble_eq_true rfl))))
def kM (a : List Int) (b : List Int) : Nat → Int → Option (Unit ⊕ Bool)
  | 0, _ => none
  | K + 1, i_2 =>
    if i_2 < (a.length : Int) then
    (idx a i_2).bind fun x6 =>
    (idx b i_2).bind fun x7 =>
    if (!decide (x6 = x7)) = true then
    some (.inr false)
    else
    kM a b K (w64 (i_2 + 1))
    else
    some (.inl ())
def vG (N : Nat) (a : List Int) (b : List Int) : Option Bool :=
  if (!decide ((a.length : Int) = (b.length : Int))) = true then
  some false
  else
  (kM a b N 0).bind (fun
  | (.inl ()) =>
  some true
  | (.inr q9) =>
  some q9)
theorem zX (N : Nat) (a : List Int) (b : List Int) {res : Bool} (h : vG N a b = some res) : qw Tryz.prog (.fn 35) [vl encI a, vl encI b] [] (.bool res) [] := by
  unfold vG at h
  refine Goes.fnW Tryz.func35 rfl rfl (m := 26) rfl (rs := [.tmp 4]) rfl (l := [(0, vl encI a), (1, vl encI b)]) rfl ?_
  refine sq ?_
  refine Goes.rg fol [(0, vl encI a), (1, vl encI b)] [] ?_
  refine sq ?_
  refine sq ?_
  refine Goes.rg fol [(0, vl encI a), (1, vl encI b), (10, .bool (!decide ((a.length : Int) = (b.length : Int))))] [] ?_
  refine Goes.ifB (b := !decide ((a.length : Int) = (b.length : Int))) (by kernel_rfl) (fun c1 => ?_) (fun c1 => ?_)
  · rw [if_pos (c1)] at h
    refine sq ?_
    refine Goes.rg fol [(4, .bool false)] [] ?_
    refine Goes.ret ?_
    obtain rfl := Option.some.inj h
    exact (Goes.retW (xs := [.bool false]) (by kernel_rfl) (FzW.still (Still.bool 11 _)))
  · rw [if_neg (by rw [c1]; exact Bool.false_ne_true)] at h
    refine Goes.skip ?_
    refine sq ?_
    refine sq ?_
    refine Goes.rg fol [(0, vl encI a), (1, vl encI b), (5, .i 0)] [] ?_
    refine Goes.block ?_
    obtain ⟨r3, g3, h⟩ := bnd h
    refine Goes.imp (Q := fun x s' => (x = .exit 0 ∧ (.inl ()) = r3 ∧ Sub s' (ofG 26 [], [])) ∨ (x = .ret ∧ ∃ q4, (.inr q4) = r3 ∧ zG Tryz.prog [.tmp 4] (.bool q4) .ret s')) ?_ ?_
    · refine Goes.loopS (fun M s => ∃ (i_2 : Int), s = (ofG 26 [(0, vl encI a), (1, vl encI b), (5, .i i_2)], []) ∧ kM a b M i_2 = some r3) ?_ (m := N) ⟨_, rfl, g3⟩
      rintro M s ⟨i_2, rfl, g3⟩
      cases M with
      | zero => simp only [kM] at g3; cases g3
      | succ M =>
        rw [kM] at g3
        refine sq ?_
        refine sq ?_
        refine Goes.rg fol [(0, vl encI a), (1, vl encI b), (5, .i i_2), (14, .bool (decide (i_2 < (a.length : Int))))] [] ?_
        refine Goes.ifB (b := decide (i_2 < (a.length : Int))) (by kernel_rfl) (fun c5 => ?_) (fun c5 => ?_)
        · rw [if_pos (ot c5)] at g3
          refine Goes.skip ?_
          refine sq ?_
          refine Goes.block ?_
          refine sq ?_
          obtain ⟨x6, e_x6, g3⟩ := bnd g3
          obtain ⟨x7, e_x7, g3⟩ := bnd g3
          refine Goes.ro fol [(2, (.done (.fptr (a.flatMap encI.c) ((i_2 : Int).toNat * 1 + 0)))), (3, (.done (.i x6))), (6, (.done (.fptr (b.flatMap encI.c) ((i_2 : Int).toNat * 1 + 0)))), (7, (.done (.i x7)))] [(0, vl encI a), (1, vl encI b), (5, .i i_2), (25, .bool (!decide (x6 = x7)))] [] [.done (.opt (qj Tryz.prog 24 (vl encI a) (.i i_2))) (.fptr (a.flatMap encI.c) ((i_2 : Int).toNat * 1 + 0)), .done (qz Tryz.prog 3 (.fptr (a.flatMap encI.c) ((i_2 : Int).toNat * 1 + 0))) (.i x6), .done (.opt (qj Tryz.prog 24 (vl encI b) (.i i_2))) (.fptr (b.flatMap encI.c) ((i_2 : Int).toNat * 1 + 0)), .done (qz Tryz.prog 3 (.fptr (b.flatMap encI.c) ((i_2 : Int).toNat * 1 + 0))) (.i x7)] (And.intro (qF vN (E := encI) rfl e_x6) (And.intro (qJ ce3 (E := encI) rfl e_x6 (Nat.le_of_ble_eq_true rfl) rfl) (And.intro (qF vN (E := encI) rfl e_x7) (And.intro (qJ ce3 (E := encI) rfl e_x7 (Nat.le_of_ble_eq_true rfl) rfl) trivial)))) ?_
          refine Goes.ifB (b := !decide (x6 = x7)) (by kernel_rfl) (fun c8 => ?_) (fun c8 => ?_)
          · rw [if_pos (c8)] at g3
            refine sq ?_
            refine Goes.rg fol [(4, .bool false)] [] ?_
            refine Goes.ret ?_
            obtain rfl := Option.some.inj g3
            exact Or.inr (⟨rfl, _, rfl, (Goes.retW (xs := [.bool false]) (by kernel_rfl) (FzW.still (Still.bool 11 _)))⟩)
          · rw [if_neg (by rw [c8]; exact Bool.false_ne_true)] at g3
            refine Goes.skip ?_
            refine Goes.rg fol [(0, vl encI a), (1, vl encI b), (5, .i (w64 (i_2 + 1)))] [] ?_
            exact ⟨M, (ofG 26 [(0, vl encI a), (1, vl encI b), (5, .i (w64 (i_2 + 1)))], []), Nat.lt_succ_self _, (Sub.refl _), _, rfl, g3⟩
        · rw [if_neg (of_ c5)] at g3
          refine Goes.exit ?_
          obtain rfl := Option.some.inj g3
          exact Or.inl (⟨rfl, rfl, (Sub.keep [] rfl rfl)⟩)
    rintro x s' (⟨rfl, rfl, hsub⟩ | ⟨rfl, q9, rfl, hret⟩)
    · try dsimp only at h
      refine Goes.sub hsub ?_
      refine sq ?_
      refine Goes.rg fol [(4, .bool true)] [] ?_
      refine Goes.ret ?_
      obtain rfl := Option.some.inj h
      exact (Goes.retW (xs := [.bool true]) (by kernel_rfl) (FzW.still (Still.bool 11 _)))
    · try dsimp only at h
      obtain rfl := Option.some.inj h
      exact hret
end Go.Av
