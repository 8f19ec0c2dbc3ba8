/-
  Walks of functions: what each computes, as a plain function.
-/
import Derived.Test.YtjflombnfhlkaaaGreatDoorAvMp
import Derived.Test.YtjflombnfhlkaaaGreatDoorChecked
noncomputable section
namespace Go.Av
open Go.Proofs Go.RowKit
set_option linter.unusedSectionVars false
set_option linter.unusedVariables false
set_option linter.unusedSimpArgs false
set_option maxRecDepth 100000
variable [Glob]
theorem fol : Tryz.prog.follows .mixedOrders = true := by kernel_rfl
structure ql where
  Number : Int
  Kind : Str
  Names : List Str
  Values : List Int
  Text : Str
def qb : Enc ql := (encI.prod (encS.prod ((qgm encS).prod ((qgm encI).prod encS)))).comap fun x => (x.Number, x.Kind, x.Names, x.Values, x.Text)
structure qc where
  Name : Str
  Batch : Str
  Born : Int
  Last : Int
  Uses : Int
  Used : Int
  Limit : Int
  Until : Int
  Gone : Bool
def qa : Enc qc := (encS.prod (encS.prod (encI.prod (encI.prod (encI.prod (encI.prod (encI.prod (encI.prod encB)))))))).comap fun x => (x.Name, x.Batch, x.Born, x.Last, x.Uses, x.Used, x.Limit, x.Until, x.Gone)
abbrev cS (x : qc) : List AV := [.str x.Name, .str x.Batch, .i x.Born, .i x.Last, .i x.Uses, .i x.Used, .i x.Limit, .i x.Until, .bool x.Gone]
abbrev cE (x : ql) : List AV := [.i x.Number, .str x.Kind, vl encS x.Names, vl encI x.Values, .str x.Text]
abbrev bS (l : List qc) : Blk := .cells (l.flatMap qa.c)
abbrev cF (a : Int) (b : Str) (c : List Str) (d : List Int) (e : Str) : List AV := [.i a, .str b, vl encS c, vl encI d, .str e]
abbrev cT (a b : Str) (c d e f g h : Int) (i : Bool) : List AV := [.str a, .str b, .i c, .i d, .i e, .i f, .i g, .i h, .bool i]
structure kU where
  Day : Int
  Slings : List qc
def qeS : Enc kU := (encI.prod (qgm qa)).comap fun x => (x.Day, x.Slings)
structure StateT where
  number : Int
  register : kU
def qh : Enc StateT := (encI.prod qeS).comap fun x => (x.number, x.register)
structure qI where
  Day : Int
  Slings : List qc
def qiK : Enc qI := (encI.prod (qgm qa)).comap fun x => (x.Day, x.Slings)
theorem yA : SlT Tryz.prog 22 26 5 88 := ⟨by kernel_rfl, by kernel_rfl, by kernel_rfl, by kernel_rfl⟩
theorem ce9 : CeT Tryz.prog 9 := ⟨by kernel_rfl, by kernel_rfl⟩
theorem qio : CeT Tryz.prog 23 := ⟨by kernel_rfl, by kernel_rfl⟩
theorem ce24 : CeT Tryz.prog 24 := ⟨by kernel_rfl, by kernel_rfl⟩
theorem qaq : SlT Tryz.prog 23 9 1 16 := ⟨by kernel_rfl, by kernel_rfl, by kernel_rfl, by kernel_rfl⟩
theorem sl218 : SlT Tryz.prog 218 32 1 8 := ⟨by kernel_rfl, by kernel_rfl, by kernel_rfl, by kernel_rfl⟩
theorem ce32 : CeT Tryz.prog 32 := ⟨by kernel_rfl, by kernel_rfl⟩
theorem xK : SlT Tryz.prog 29 68 9 88 := ⟨by kernel_rfl, by kernel_rfl, by kernel_rfl, by kernel_rfl⟩
theorem qhk : AgT Tryz.prog 68 9 := ⟨by kernel_rfl, by kernel_rfl⟩
theorem qaF : MapT Tryz.prog 154 9 152 (.agg [.i 0, .i 0, .nilfunc]) := ⟨by kernel_rfl, by kernel_rfl, by kernel_rfl⟩
theorem zA : SlT Tryz.prog 24 3 1 8 := ⟨by kernel_rfl, by kernel_rfl, by kernel_rfl, by kernel_rfl⟩
theorem ce3 : CeT Tryz.prog 3 := ⟨by kernel_rfl, by kernel_rfl⟩
theorem qhi : AgT Tryz.prog 26 5 := ⟨by kernel_rfl, by kernel_rfl⟩
theorem qgs : SlT Tryz.prog 163 167 3 40 := ⟨by kernel_rfl, by kernel_rfl, by kernel_rfl, by kernel_rfl⟩
theorem ag31 : AgT Tryz.prog 31 2 := ⟨by kernel_rfl, by kernel_rfl⟩
theorem it3 : Tryz.prog.underlying 3 = some (.int .i64) := by kernel_rfl
theorem st9 : Tryz.prog.underlying 9 = some .string := by kernel_rfl
theorem qal : SlT Tryz.prog 35 60 9 88 := ⟨by kernel_rfl, by kernel_rfl, by kernel_rfl, by kernel_rfl⟩
theorem ag60 : AgT Tryz.prog 60 9 := ⟨by kernel_rfl, by kernel_rfl⟩
theorem vF : MpT Tryz.prog 65 9 3 .string (.i 0) := ⟨by kernel_rfl, by kernel_rfl, by kernel_rfl⟩
theorem zx : MpT Tryz.prog 66 9 24 .string (.nilslice) := ⟨by kernel_rfl, by kernel_rfl, by kernel_rfl⟩
theorem yx : MpT Tryz.prog 67 9 4 .string (.bool false) := ⟨by kernel_rfl, by kernel_rfl, by kernel_rfl⟩
abbrev fm1 : AV := .fmap [.str [109, 97, 107, 101], .str [116, 101, 115, 116], .str [117, 115, 101], .str [102, 97, 105, 108], .str [114, 101, 99, 97, 108, 108], .str [117, 110, 100, 111]] [.agg [.i 2, .i 3, .func (.func 141) [] []], .agg [.i 1, .i 2, .func (.func 142) [] []], .agg [.i 1, .i 2, .func (.func 143) [] []], .agg [.i 1, .i 1, .func (.func 144) [] []], .agg [.i 1, .i 1, .func (.func 145) [] []], .agg [.i 0, .i 0, .nilfunc]]
def ku (l : List ql) (i_2 : Int) : Nat → Int → Option (Unit ⊕ Bool)
  | 0, _ => none
  | K + 1, k_13 =>
    (idx l i_2).bind fun x16 =>
    if k_13 < (x16.Names.length : Int) then
    (idx x16.Names k_13).bind fun x18 =>
    if (x18.length : Int) > 60 then
    some (.inr false)
    else
    ku l i_2 K (w64 (k_13 + 1))
    else
    some (.inl ())
def ko (N : Nat) (l : List ql) : Nat → Int → Option (Unit ⊕ Bool)
  | 0, _ => none
  | K + 1, i_2 =>
    if i_2 < (l.length : Int) then
    ((idx l i_2).bind fun x6 =>
    if (x6.Kind.length : Int) > 60 then
    some true
    else
    if (x6.Names.length : Int) > 5 then
    some true
    else
    if (x6.Values.length : Int) > 5 then
    some true
    else
    some (decide ((x6.Text.length : Int) > 60)) : Option Bool).bind fun b10 =>
    if b10 = true then
    some (.inr false)
    else
    (ku l i_2 N 0).bind (fun
    | (.inl ()) =>
    ko N l K (w64 (i_2 + 1))
    | (.inr q20) =>
    some (.inr q20))
    else
    some (.inl ())
def jh (N : Nat) (l : List ql) (n : Int) : Option Bool :=
  if (l.length : Int) > n then
  some false
  else
  (ko N l N 0).bind (fun
  | (.inl ()) =>
  some true
  | (.inr q21) =>
  some q21)
theorem qa2 (N : Nat) (l : List ql) (n : Int) {res : Bool} (h : jh N l n = some res) : qy Tryz.prog (.fn 14) [vl qb l, .i n] [] (.bool res) [] := by
  unfold jh at h
  refine Goes.fnW Tryz.func14 rfl rfl (m := 71) rfl (rs := [.tmp 4]) rfl (l := [(0, vl qb l), (1, .i n)]) rfl ?_
  refine sq (Goes.rg fol [(0, vl qb l), (1, .i n)] [] ?_)
  refine sq ?_
  refine sq (Goes.rg fol [(0, vl qb l), (10, .bool (decide ((l.length : Int) > n)))] [] ?_)
  refine Goes.ifB (b := decide ((l.length : Int) > n)) (by kernel_rfl) (fun c1 => ?_) (fun c1 => ?_)
  · rw [if_pos (ot c1)] at h
    refine sq (Goes.rg fol [(4, .bool false)] [] ?_)
    refine Goes.ret ?_
    obtain rfl := si h
    exact (Goes.retW (xs := [.bool false]) (by kernel_rfl) (FzW.still tB))
  · rw [if_neg (of_ c1)] at h
    refine Goes.skip ?_
    refine sq ?_
    refine sq (Goes.rg fol [(0, vl qb l), (5, .i 0)] [] ?_)
    refine Goes.block ?_
    obtain ⟨r3, g3, h⟩ := bnd h
    refine Goes.imp (Q := fun x s' => (x = .exit 0 ∧ (.inl ()) = r3 ∧ Sub s' (ofG 71 [], [])) ∨ (x = .ret ∧ ∃ q4, (.inr q4) = r3 ∧ zH Tryz.prog [.tmp 4] (.bool q4) .ret s')) ?_ ?_
    · refine Goes.loopS (fun M s => ∃ (i_2 : Int), s = (ofG 71 [(0, vl qb l), (5, .i i_2)], []) ∧ ko N l M i_2 = some r3) ?_ (m := N) ⟨_, rfl, g3⟩
      rintro M s ⟨i_2, rfl, g3⟩
      cases M with
      | zero => simp only [ko] at g3; cases g3
      | succ M =>
        rw [ko] at g3
        refine sq ?_
        refine sq (Goes.rg fol [(0, vl qb l), (5, .i i_2), (14, .bool (decide (i_2 < (l.length : Int))))] [] ?_)
        refine Goes.ifB (b := decide (i_2 < (l.length : Int))) (by kernel_rfl) (fun c5 => ?_) (fun c5 => ?_)
        · rw [if_pos (ot c5)] at g3
          refine Goes.skip ?_
          refine sq (Goes.block ?_)
          refine sq ?_
          refine sq ?_
          obtain ⟨b10, g_v11, g3⟩ := bnd g3
          refine Goes.cut (s' := (ofG 71 [(0, vl qb l), (5, .i i_2), (50, .bool b10)], [])) ?_ ?_
          · obtain ⟨x6, e_x6, g_v11⟩ := bnd g_v11
            rcases Bool.eq_false_or_eq_true (decide ((x6.Kind.length : Int) > 60)) with c7 | c7
            · rw [if_pos (ot c7)] at g_v11
              obtain rfl := si g_v11
              exact qm.rp fol [2, 4, 7] [(0, vl qb l), (5, .i i_2), (50, .bool true)] [] [.done (.opt (qd Tryz.prog 22 (vl qb l) (.i i_2))) (.fptr (l.flatMap qb.c) ((i_2 : Int).toNat * 5 + 0)), .done (qx Tryz.prog 9 (.fptr (l.flatMap qb.c) ((i_2 : Int).toNat * 5 + 1))) (.str x6.Kind), .done (.done (.bool (decide ((x6.Kind.length : Int) > 60)))) (.bool true)] (an (qB yA (E := qb) rfl e_x6) (an (qA ce9 (E := qb) rfl e_x6 (nl rfl) rfl) (an (congrArg (fun x => Pg.done (.bool x)) c7) trivial)))
            · rw [if_neg (of_ c7)] at g_v11
              rcases Bool.eq_false_or_eq_true (decide ((x6.Names.length : Int) > 5)) with c8 | c8
              · rw [if_pos (ot c8)] at g_v11
                obtain rfl := si g_v11
                exact qm.rp fol [2, 4, 7, 10, 12, 16] [(0, vl qb l), (5, .i i_2), (50, .bool true)] [] [.done (.opt (qd Tryz.prog 22 (vl qb l) (.i i_2))) (.fptr (l.flatMap qb.c) ((i_2 : Int).toNat * 5 + 0)), .done (qx Tryz.prog 9 (.fptr (l.flatMap qb.c) ((i_2 : Int).toNat * 5 + 1))) (.str x6.Kind), .done (.done (.bool (decide ((x6.Kind.length : Int) > 60)))) (.bool false), .done (.opt (qd Tryz.prog 22 (vl qb l) (.i i_2))) (.fptr (l.flatMap qb.c) ((i_2 : Int).toNat * 5 + 0)), .done (qx Tryz.prog 23 (.fptr (l.flatMap qb.c) ((i_2 : Int).toNat * 5 + 2))) (vl encS x6.Names), .done (.done (.bool (decide ((x6.Names.length : Int) > 5)))) (.bool true)] (an (qB yA (E := qb) rfl e_x6) (an (qA ce9 (E := qb) rfl e_x6 (nl rfl) rfl) (an (congrArg (fun x => Pg.done (.bool x)) c7) (an (qB yA (E := qb) rfl e_x6) (an (qA qio (E := qb) rfl e_x6 (nl rfl) rfl) (an (congrArg (fun x => Pg.done (.bool x)) c8) trivial))))))
              · rw [if_neg (of_ c8)] at g_v11
                rcases Bool.eq_false_or_eq_true (decide ((x6.Values.length : Int) > 5)) with c9 | c9
                · rw [if_pos (ot c9)] at g_v11
                  obtain rfl := si g_v11
                  exact qm.rp fol [2, 4, 7, 10, 12, 16, 19, 21, 25] [(0, vl qb l), (5, .i i_2), (50, .bool true)] [] [.done (.opt (qd Tryz.prog 22 (vl qb l) (.i i_2))) (.fptr (l.flatMap qb.c) ((i_2 : Int).toNat * 5 + 0)), .done (qx Tryz.prog 9 (.fptr (l.flatMap qb.c) ((i_2 : Int).toNat * 5 + 1))) (.str x6.Kind), .done (.done (.bool (decide ((x6.Kind.length : Int) > 60)))) (.bool false), .done (.opt (qd Tryz.prog 22 (vl qb l) (.i i_2))) (.fptr (l.flatMap qb.c) ((i_2 : Int).toNat * 5 + 0)), .done (qx Tryz.prog 23 (.fptr (l.flatMap qb.c) ((i_2 : Int).toNat * 5 + 2))) (vl encS x6.Names), .done (.done (.bool (decide ((x6.Names.length : Int) > 5)))) (.bool false), .done (.opt (qd Tryz.prog 22 (vl qb l) (.i i_2))) (.fptr (l.flatMap qb.c) ((i_2 : Int).toNat * 5 + 0)), .done (qx Tryz.prog 24 (.fptr (l.flatMap qb.c) ((i_2 : Int).toNat * 5 + 3))) (vl encI x6.Values), .done (.done (.bool (decide ((x6.Values.length : Int) > 5)))) (.bool true)] (an (qB yA (E := qb) rfl e_x6) (an (qA ce9 (E := qb) rfl e_x6 (nl rfl) rfl) (an (congrArg (fun x => Pg.done (.bool x)) c7) (an (qB yA (E := qb) rfl e_x6) (an (qA qio (E := qb) rfl e_x6 (nl rfl) rfl) (an (congrArg (fun x => Pg.done (.bool x)) c8) (an (qB yA (E := qb) rfl e_x6) (an (qA ce24 (E := qb) rfl e_x6 (nl rfl) rfl) (an (congrArg (fun x => Pg.done (.bool x)) c9) trivial)))))))))
                · rw [if_neg (of_ c9)] at g_v11
                  obtain rfl := si g_v11
                  exact qm.rp fol [2, 4, 7, 10, 12, 16, 19, 21, 25, 28, 30] [(0, vl qb l), (5, .i i_2), (50, .bool (decide ((x6.Text.length : Int) > 60)))] [] [.done (.opt (qd Tryz.prog 22 (vl qb l) (.i i_2))) (.fptr (l.flatMap qb.c) ((i_2 : Int).toNat * 5 + 0)), .done (qx Tryz.prog 9 (.fptr (l.flatMap qb.c) ((i_2 : Int).toNat * 5 + 1))) (.str x6.Kind), .done (.done (.bool (decide ((x6.Kind.length : Int) > 60)))) (.bool false), .done (.opt (qd Tryz.prog 22 (vl qb l) (.i i_2))) (.fptr (l.flatMap qb.c) ((i_2 : Int).toNat * 5 + 0)), .done (qx Tryz.prog 23 (.fptr (l.flatMap qb.c) ((i_2 : Int).toNat * 5 + 2))) (vl encS x6.Names), .done (.done (.bool (decide ((x6.Names.length : Int) > 5)))) (.bool false), .done (.opt (qd Tryz.prog 22 (vl qb l) (.i i_2))) (.fptr (l.flatMap qb.c) ((i_2 : Int).toNat * 5 + 0)), .done (qx Tryz.prog 24 (.fptr (l.flatMap qb.c) ((i_2 : Int).toNat * 5 + 3))) (vl encI x6.Values), .done (.done (.bool (decide ((x6.Values.length : Int) > 5)))) (.bool false), .done (.opt (qd Tryz.prog 22 (vl qb l) (.i i_2))) (.fptr (l.flatMap qb.c) ((i_2 : Int).toNat * 5 + 0)), .done (qx Tryz.prog 9 (.fptr (l.flatMap qb.c) ((i_2 : Int).toNat * 5 + 4))) (.str x6.Text)] (an (qB yA (E := qb) rfl e_x6) (an (qA ce9 (E := qb) rfl e_x6 (nl rfl) rfl) (an (congrArg (fun x => Pg.done (.bool x)) c7) (an (qB yA (E := qb) rfl e_x6) (an (qA qio (E := qb) rfl e_x6 (nl rfl) rfl) (an (congrArg (fun x => Pg.done (.bool x)) c8) (an (qB yA (E := qb) rfl e_x6) (an (qA ce24 (E := qb) rfl e_x6 (nl rfl) rfl) (an (congrArg (fun x => Pg.done (.bool x)) c9) (an (qB yA (E := qb) rfl e_x6) (an (qA ce9 (E := qb) rfl e_x6 (nl rfl) rfl) trivial)))))))))))
          refine Goes.ifB (b := b10) (by kernel_rfl) (fun c12 => ?_) (fun c12 => ?_)
          · rw [if_pos (c12)] at g3
            refine sq (Goes.rg fol [(4, .bool false)] [] ?_)
            refine Goes.ret ?_
            obtain rfl := si g3
            exact Or.inr (⟨rfl, _, rfl, (Goes.retW (xs := [.bool false]) (by kernel_rfl) (FzW.still tB))⟩)
          · rw [if_neg (nb c12)] at g3
            refine Goes.skip ?_
            refine sq (Goes.rg fol [(0, vl qb l), (5, .i i_2), (6, .i 0)] [] ?_)
            refine Goes.block ?_
            obtain ⟨r14, g14, g3⟩ := bnd g3
            refine Goes.imp (Q := fun x s' => (x = .exit 2 ∧ (.inl ()) = r14 ∧ Sub s' (ofG 71 [(0, vl qb l), (5, .i i_2)], [])) ∨ (x = .ret ∧ ∃ q15, (.inr q15) = r14 ∧ zH Tryz.prog [.tmp 4] (.bool q15) .ret s')) ?_ ?_
            · refine Goes.loopS (fun M s => ∃ (k_13 : Int), s = (ofG 71 [(0, vl qb l), (5, .i i_2), (6, .i k_13)], []) ∧ ku l i_2 M k_13 = some r14) ?_ (m := N) ⟨_, rfl, g14⟩
              rintro M s ⟨k_13, rfl, g14⟩
              cases M with
              | zero => simp only [ku] at g14; cases g14
              | succ M =>
                rw [ku] at g14
                refine sq ?_
                refine sq ?_
                obtain ⟨x16, e_x16, g14⟩ := bnd g14
                refine Goes.rp fol [3, 5] [(0, vl qb l), (5, .i i_2), (6, .i k_13), (58, .bool (decide (k_13 < (x16.Names.length : Int))))] [] [.done (.opt (qd Tryz.prog 22 (vl qb l) (.i i_2))) (.fptr (l.flatMap qb.c) ((i_2 : Int).toNat * 5 + 0)), .done (qx Tryz.prog 23 (.fptr (l.flatMap qb.c) ((i_2 : Int).toNat * 5 + 2))) (vl encS x16.Names)] (an (qB yA (E := qb) rfl e_x16) (an (qA qio (E := qb) rfl e_x16 (nl rfl) rfl) trivial)) ?_
                refine Goes.ifB (b := decide (k_13 < (x16.Names.length : Int))) (by kernel_rfl) (fun c17 => ?_) (fun c17 => ?_)
                · rw [if_pos (ot c17)] at g14
                  refine Goes.skip ?_
                  refine sq (Goes.block ?_)
                  refine sq ?_
                  obtain ⟨x18, e_x18, g14⟩ := bnd g14
                  refine Goes.rp fol [2, 4, 6, 7] [(0, vl qb l), (5, .i i_2), (6, .i k_13), (70, .bool (decide ((x18.length : Int) > 60)))] [] [.done (.opt (qd Tryz.prog 22 (vl qb l) (.i i_2))) (.fptr (l.flatMap qb.c) ((i_2 : Int).toNat * 5 + 0)), .done (qx Tryz.prog 23 (.fptr (l.flatMap qb.c) ((i_2 : Int).toNat * 5 + 2))) (vl encS x16.Names), .done (.opt (qd Tryz.prog 23 (vl encS x16.Names) (.i k_13))) (.fptr (x16.Names.flatMap encS.c) ((k_13 : Int).toNat * 1 + 0)), .done (qx Tryz.prog 9 (.fptr (x16.Names.flatMap encS.c) ((k_13 : Int).toNat * 1 + 0))) (.str x18)] (an (qB yA (E := qb) rfl e_x16) (an (qA qio (E := qb) rfl e_x16 (nl rfl) rfl) (an (qB qaq (E := encS) rfl e_x18) (an (qA ce9 (E := encS) rfl e_x18 (nl rfl) rfl) trivial)))) ?_
                  refine Goes.ifB (b := decide ((x18.length : Int) > 60)) (by kernel_rfl) (fun c19 => ?_) (fun c19 => ?_)
                  · rw [if_pos (ot c19)] at g14
                    refine sq (Goes.rg fol [(4, .bool false)] [] ?_)
                    refine Goes.ret ?_
                    obtain rfl := si g14
                    exact Or.inr (⟨rfl, _, rfl, (Goes.retW (xs := [.bool false]) (by kernel_rfl) (FzW.still tB))⟩)
                  · rw [if_neg (of_ c19)] at g14
                    refine Goes.skip ?_
                    refine Goes.rg fol [(0, vl qb l), (5, .i i_2), (6, .i (w64 (k_13 + 1)))] [] ?_
                    exact ⟨M, (ofG 71 [(0, vl qb l), (5, .i i_2), (6, .i (w64 (k_13 + 1)))], []), Nat.lt_succ_self _, (Sub.refl _), _, rfl, g14⟩
                · rw [if_neg (of_ c17)] at g14
                  refine Goes.exit ?_
                  obtain rfl := si g14
                  exact Or.inl (⟨rfl, rfl, (Sub.keep [0, 5] rfl rfl)⟩)
            rintro x s' (⟨rfl, rfl, hsub⟩ | ⟨rfl, q20, rfl, hret⟩)
            · try dsimp only at g3
              refine Goes.sub hsub ?_
              refine Goes.rg fol [(0, vl qb l), (5, .i (w64 (i_2 + 1)))] [] ?_
              exact ⟨M, (ofG 71 [(0, vl qb l), (5, .i (w64 (i_2 + 1)))], []), Nat.lt_succ_self _, (Sub.refl _), _, rfl, g3⟩
            · try dsimp only at g3
              obtain rfl := si g3
              exact Or.inr (⟨rfl, _, rfl, hret⟩)
        · rw [if_neg (of_ c5)] at g3
          refine Goes.exit ?_
          obtain rfl := si g3
          exact Or.inl (⟨rfl, rfl, (Sub.keep [] rfl rfl)⟩)
    rintro x s' (⟨rfl, rfl, hsub⟩ | ⟨rfl, q21, rfl, hret⟩)
    · try dsimp only at h
      refine Goes.sub hsub ?_
      refine sq (Goes.rg fol [(4, .bool true)] [] ?_)
      refine Goes.ret ?_
      obtain rfl := si h
      exact (Goes.retW (xs := [.bool true]) (by kernel_rfl) (FzW.still tB))
    · try dsimp only at h
      obtain rfl := si h
      exact hret
def jo (l : List Int) : Nat → Int → Option (Unit ⊕ Int)
  | 0, _ => none
  | K + 1, n1 =>
    if n1 < (l.length : Int) then
    (idx l n1).bind fun x5 =>
    if (!decide (x5 = 0)) = true then
    some (.inr x5)
    else
    jo l K (w64 (n1 + 1))
    else
    some (.inl ())
def zf (N : Nat) (l : List Int) : Option Int :=
  (jo l N 0).bind (fun
  | (.inl ()) =>
  some 0
  | (.inr q7) =>
  some q7)
theorem zN (N : Nat) (l : List Int) {res : Int} (h : zf N l = some res) : qy Tryz.prog (.fn 86) [vl encI l] [] (.i res) [] := by
  unfold zf at h
  refine Goes.fnW Tryz.func86 rfl rfl (m := 15) rfl (rs := [.tmp 2]) rfl (l := [(0, vl encI l)]) rfl ?_
  refine sq (Goes.rg fol [(0, vl encI l)] [] ?_)
  refine sq ?_
  refine sq (Goes.rg fol [(5, vl encI l), (6, .i (l.length : Int)), (7, .i 0)] [] ?_)
  refine Goes.block ?_
  obtain ⟨r2, g2, h⟩ := bnd h
  refine Goes.imp (Q := fun x s' => (x = .exit 0 ∧ (.inl ()) = r2 ∧ Sub s' (ofG 15 [], [])) ∨ (x = .ret ∧ ∃ q3, (.inr q3) = r2 ∧ zH Tryz.prog [.tmp 2] (.i q3) .ret s')) ?_ ?_
  · refine Goes.loopS (fun M s => ∃ (n1 : Int), s = (ofG 15 [(5, vl encI l), (6, .i (l.length : Int)), (7, .i n1)], []) ∧ jo l M n1 = some r2) ?_ (m := N) ⟨_, rfl, g2⟩
    rintro M s ⟨n1, rfl, g2⟩
    cases M with
    | zero => simp only [jo] at g2; cases g2
    | succ M =>
      rw [jo] at g2
      refine sq (Goes.rg fol [(5, vl encI l), (6, .i (l.length : Int)), (7, .i n1), (8, .bool (decide (n1 < (l.length : Int))))] [] ?_)
      refine sq ?_
      refine Goes.ifB (b := decide (n1 < (l.length : Int))) (by kernel_rfl) (fun c4 => ?_) (fun c4 => ?_)
      · rw [if_pos (ot c4)] at g2
        refine Goes.skip ?_
        refine sq (Goes.block ?_)
        refine sq ?_
        obtain ⟨x5, e_x5, g2⟩ := bnd g2
        refine Goes.rp fol [0, 1] [(4, .i x5), (5, vl encI l), (6, .i (l.length : Int)), (7, .i n1)] [] [.done (.opt (qd Tryz.prog 218 (vl encI l) (.i n1))) (.fptr (l.flatMap encI.c) ((n1 : Int).toNat * 1 + 0)), .done (qx Tryz.prog 32 (.fptr (l.flatMap encI.c) ((n1 : Int).toNat * 1 + 0))) (.i x5)] (an (qB sl218 (E := encI) rfl e_x5) (an (qA ce32 (E := encI) rfl e_x5 (nl rfl) rfl) trivial)) ?_
        refine sq (Goes.rg fol [(4, .i x5), (5, vl encI l), (6, .i (l.length : Int)), (7, .i n1), (12, .bool (!decide (x5 = 0)))] [] ?_)
        refine Goes.ifB (b := !decide (x5 = 0)) (by kernel_rfl) (fun c6 => ?_) (fun c6 => ?_)
        · rw [if_pos (c6)] at g2
          refine sq (Goes.rg fol [(2, .i x5)] [] ?_)
          refine Goes.ret ?_
          obtain rfl := si g2
          exact Or.inr (⟨rfl, _, rfl, (Goes.retW (xs := [.i x5]) (by kernel_rfl) (FzW.still tI))⟩)
        · rw [if_neg (nb c6)] at g2
          refine Goes.skip ?_
          refine Goes.rg fol [(5, vl encI l), (6, .i (l.length : Int)), (7, .i (w64 (n1 + 1)))] [] ?_
          exact ⟨M, (ofG 15 [(5, vl encI l), (6, .i (l.length : Int)), (7, .i (w64 (n1 + 1)))], []), Nat.lt_succ_self _, (Sub.refl _), _, rfl, g2⟩
      · rw [if_neg (of_ c4)] at g2
        refine Goes.exit ?_
        obtain rfl := si g2
        exact Or.inl (⟨rfl, rfl, (Sub.keep [] rfl rfl)⟩)
  rintro x s' (⟨rfl, rfl, hsub⟩ | ⟨rfl, q7, rfl, hret⟩)
  · try dsimp only at h
    refine Goes.sub hsub ?_
    refine sq (Goes.rg fol [(2, .i 0)] [] ?_)
    refine Goes.ret ?_
    obtain rfl := si h
    exact (Goes.retW (xs := [.i 0]) (by kernel_rfl) (FzW.still tI))
  · try dsimp only at h
    obtain rfl := si h
    exact hret
def kg (holds : Bool) (e : Int) : Option Int :=
  if holds = true then
  some e
  else
  some 0
theorem qN (holds : Bool) (e : Int) {res : Int} (h : kg holds e = some res) : qy Tryz.prog (.fn 88) [.bool holds, .i e] [] (.i res) [] := by
  unfold kg at h
  refine Goes.fnW Tryz.func88 rfl rfl (m := 7) rfl (rs := [.tmp 4]) rfl (l := [(0, .bool holds), (1, .i e)]) rfl ?_
  refine sq (Goes.rg fol [(0, .bool holds), (1, .i e)] [] ?_)
  refine sq ?_
  refine sq (Goes.rg fol [(1, .i e), (5, .bool holds)] [] ?_)
  refine Goes.ifB (b := holds) (by kernel_rfl) (fun c1 => ?_) (fun c1 => ?_)
  · rw [if_pos (c1)] at h
    refine sq (Goes.rg fol [(4, .i e)] [] ?_)
    refine Goes.ret ?_
    obtain rfl := si h
    exact (Goes.retW (xs := [.i e]) (by kernel_rfl) (FzW.still tI))
  · rw [if_neg (nb c1)] at h
    refine Goes.skip ?_
    refine sq (Goes.rg fol [(4, .i 0)] [] ?_)
    refine Goes.ret ?_
    obtain rfl := si h
    exact (Goes.retW (xs := [.i 0]) (by kernel_rfl) (FzW.still tI))
def zC (n : Int) (low : Int) (high : Int) : Option Int :=
  (if n < low then
  (kg true 3).bind fun r2 =>
  some r2
  else
  (kg (decide (n > high)) 3).bind fun r3 =>
  some r3 : Option Int).bind fun n4 =>
  some n4
theorem zT (n : Int) (low : Int) (high : Int) {res : Int} (h : zC n low high = some res) : qy Tryz.prog (.fn 87) [.i n, .i low, .i high] [] (.i res) [] := by
  unfold zC at h
  refine Goes.fnW Tryz.func87 rfl rfl (m := 16) rfl (rs := [.tmp 6]) rfl (l := [(0, .i n), (1, .i low), (2, .i high)]) rfl ?_
  refine sq (Goes.rg fol [(0, .i n), (1, .i low), (2, .i high)] [] ?_)
  refine sq ?_
  obtain ⟨n4, g_v5, h⟩ := bnd h
  refine Goes.cut (s' := (ofG 16 [(6, .i n4)], [])) ?_ ?_
  · rcases Bool.eq_false_or_eq_true (decide (n < low)) with c1 | c1
    · rw [if_pos (ot c1)] at g_v5
      obtain ⟨r2, e_r2, g_v5⟩ := bnd g_v5
      obtain rfl := si g_v5
      exact qm.rp fol [3, 8] [(6, .i r2)] [] [.done (.done (.bool (decide (n < low)))) (.bool true), .call 88 [.bool true, .i 3] [] [] [.bool true, .i 3] (.i r2)] (an (congrArg (fun x => Pg.done (.bool x)) c1) (an (qo (AllST.cons tB (AllST.cons tI AllST.nil)) (qN true 3 e_r2) tI) trivial))
    · rw [if_neg (of_ c1)] at g_v5
      obtain ⟨r3, e_r3, g_v5⟩ := bnd g_v5
      obtain rfl := si g_v5
      exact qm.rp fol [3, 8] [(6, .i r3)] [] [.done (.done (.bool (decide (n < low)))) (.bool false), .call 88 [.bool (decide (n > high)), .i 3] [] [] [.bool (decide (n > high)), .i 3] (.i r3)] (an (congrArg (fun x => Pg.done (.bool x)) c1) (an (qo (AllST.cons tB (AllST.cons tI AllST.nil)) (qN (decide (n > high)) 3 e_r3) tI) trivial))
  refine Goes.ret ?_
  obtain rfl := si h
  exact (Goes.retW (xs := [.i n4]) (by kernel_rfl) (FzW.still tI))
def zF (a0_ : qc) (a1_ : Str) : Option Bool :=
  some (!(ltL a0_.Name a1_))
theorem yX (a0_ : qc) (a1_ : Str) {res : Bool} (h : zF a0_ a1_ = some res) : qy Tryz.prog (.fn 149) [.agg (cS a0_), .fptr [.str a1_] 0] [] (.bool res) [] := by
  unfold zF at h
  refine Goes.fnW Tryz.func149 rfl rfl (m := 8) rfl (rs := [.tmp 3]) rfl (l := [(0, .agg (cS a0_)), (1, .fptr [.str a1_] 0)]) rfl ?_
  refine sq (Goes.rg fol [(1, .fptr [.str a1_] 0), (2, .ptr 0 0)] [.cells (cS a0_)] ?_)
  refine sq (Goes.rg fol [(3, .bool (!(ltL a0_.Name a1_)))] [.cells (cS a0_)] ?_)
  refine Goes.ret ?_
  obtain rfl := si h
  exact (Goes.retW (xs := [.bool (!(ltL a0_.Name a1_))]) (by kernel_rfl) (FzW.still tB))
def qL (a0_ : List qc) (a1_ : Str) : Nat → Int → Option (Unit ⊕ Int)
  | 0, _ => none
  | K + 1, n1 =>
    if n1 < (a0_.length : Int) then
    (idx a0_ n1).bind fun x5 =>
    (zF x5 a1_).bind fun r6 =>
    if r6 = true then
    some (.inr n1)
    else
    qL a0_ a1_ K (w64 (n1 + 1))
    else
    some (.inl ())
def zQ (N : Nat) (a0_ : List qc) (a1_ : Str) : Option Int :=
  (qL a0_ a1_ N 0).bind (fun
  | (.inl ()) =>
  some (-1)
  | (.inr q8) =>
  some q8)
theorem y9 (N : Nat) (a0_ : List qc) (a1_ : Str) {res : Int} (h : zQ N a0_ a1_ = some res) : qy Tryz.prog (.fn 148) [vl qa a0_, .func (.func 149) [] [.fptr [.str a1_] 0]] [] (.i res) [] := by
  unfold zQ at h
  refine Goes.fnW Tryz.func148 rfl rfl (m := 19) rfl (rs := [.tmp 4]) rfl (l := [(0, vl qa a0_), (1, .func (.func 149) [] [.fptr [.str a1_] 0])]) rfl ?_
  refine sq (Goes.rg fol [(0, vl qa a0_), (1, .func (.func 149) [] [.fptr [.str a1_] 0])] [] ?_)
  refine sq ?_
  refine sq (Goes.rg fol [(0, vl qa a0_), (1, .func (.func 149) [] [.fptr [.str a1_] 0]), (7, .i (a0_.length : Int)), (8, .i 0)] [] ?_)
  refine Goes.block ?_
  obtain ⟨r2, g2, h⟩ := bnd h
  refine Goes.imp (Q := fun x s' => (x = .exit 0 ∧ (.inl ()) = r2 ∧ Sub s' (ofG 19 [], [])) ∨ (x = .ret ∧ ∃ q3, (.inr q3) = r2 ∧ zH Tryz.prog [.tmp 4] (.i q3) .ret s')) ?_ ?_
  · refine Goes.loopS (fun M s => ∃ (n1 : Int), s = (ofG 19 [(0, vl qa a0_), (1, .func (.func 149) [] [.fptr [.str a1_] 0]), (7, .i (a0_.length : Int)), (8, .i n1)], []) ∧ qL a0_ a1_ M n1 = some r2) ?_ (m := N) ⟨_, rfl, g2⟩
    rintro M s ⟨n1, rfl, g2⟩
    cases M with
    | zero => simp only [qL] at g2; cases g2
    | succ M =>
      rw [qL] at g2
      refine sq (Goes.rg fol [(0, vl qa a0_), (1, .func (.func 149) [] [.fptr [.str a1_] 0]), (7, .i (a0_.length : Int)), (8, .i n1), (9, .bool (decide (n1 < (a0_.length : Int))))] [] ?_)
      refine sq ?_
      refine Goes.ifB (b := decide (n1 < (a0_.length : Int))) (by kernel_rfl) (fun c4 => ?_) (fun c4 => ?_)
      · rw [if_pos (ot c4)] at g2
        refine Goes.skip ?_
        refine sq (Goes.block ?_)
        refine sq (Goes.rg fol [(0, vl qa a0_), (1, .func (.func 149) [] [.fptr [.str a1_] 0]), (5, .i n1), (7, .i (a0_.length : Int)), (8, .i n1)] [] ?_)
        refine sq ?_
        obtain ⟨x5, e_x5, g2⟩ := bnd g2
        obtain ⟨r6, e_r6, g2⟩ := bnd g2
        refine Goes.rp fol [3, 4, 5] [(0, vl qa a0_), (1, .func (.func 149) [] [.fptr [.str a1_] 0]), (5, .i n1), (7, .i (a0_.length : Int)), (8, .i n1), (16, .bool r6)] [] [.done (.opt (qd Tryz.prog 29 (vl qa a0_) (.i n1))) (.fptr (a0_.flatMap qa.c) ((n1 : Int).toNat * 9 + 0)), .done (qx Tryz.prog 68 (.fptr (a0_.flatMap qa.c) ((n1 : Int).toNat * 9 + 0))) (.agg (cS x5)), .call 149 [.agg (cS x5), .fptr [.str a1_] 0] [] [] [.agg (cS x5), .fptr [.str a1_] 0] (.bool r6)] (an (qB xK (E := qa) rfl e_x5) (an (qaT qhk (E := qa) rfl e_x5) (an (qjV (FzL.cons (Fz.still (Still.agg (AllST.cons tS (AllST.cons tS (AllST.cons tI (AllST.cons tI (AllST.cons tI (AllST.cons tI (AllST.cons tI (AllST.cons tI (AllST.cons tB AllST.nil))))))))))) (FzL.cons (Fz.still (Still.fptr (AllST.cons tS AllST.nil))) FzL.nil)) (yX x5 a1_ e_r6) tB) trivial))) ?_
        refine Goes.ifB (b := r6) (by kernel_rfl) (fun c7 => ?_) (fun c7 => ?_)
        · rw [if_pos (c7)] at g2
          refine sq (Goes.rg fol [(4, .i n1)] [] ?_)
          refine Goes.ret ?_
          obtain rfl := si g2
          exact Or.inr (⟨rfl, _, rfl, (Goes.retW (xs := [.i n1]) (by kernel_rfl) (FzW.still tI))⟩)
        · rw [if_neg (nb c7)] at g2
          refine Goes.skip ?_
          refine Goes.rg fol [(0, vl qa a0_), (1, .func (.func 149) [] [.fptr [.str a1_] 0]), (7, .i (a0_.length : Int)), (8, .i (w64 (n1 + 1)))] [] ?_
          exact ⟨M, (ofG 19 [(0, vl qa a0_), (1, .func (.func 149) [] [.fptr [.str a1_] 0]), (7, .i (a0_.length : Int)), (8, .i (w64 (n1 + 1)))], []), Nat.lt_succ_self _, (Sub.refl _), _, rfl, g2⟩
      · rw [if_neg (of_ c4)] at g2
        refine Goes.exit ?_
        obtain rfl := si g2
        exact Or.inl (⟨rfl, rfl, (Sub.keep [] rfl rfl)⟩)
  rintro x s' (⟨rfl, rfl, hsub⟩ | ⟨rfl, q8, rfl, hret⟩)
  · try dsimp only at h
    refine Goes.sub hsub ?_
    refine sq (Goes.rg fol [(4, .i (-1))] [] ?_)
    refine Goes.ret ?_
    obtain rfl := si h
    exact (Goes.retW (xs := [.i (-1)]) (by kernel_rfl) (FzW.still tI))
  · try dsimp only at h
    obtain rfl := si h
    exact hret
def kX (N : Nat) (r : kU) (name : Str) : Option (Int × Bool) :=
  (zQ N r.Slings name).bind fun r1 =>
  if r1 < 0 then
  some ((r.Slings.length : Int), false)
  else
  (idx r.Slings r1).bind fun x3 =>
  some (r1, x3.Name == name)
theorem jP (N : Nat) (r : kU) (name : Str) {res : Int × Bool} (h : kX N r name = some res) : qy Tryz.prog (.fn 93) [.agg [.i r.Day, vl qa r.Slings], .str name] [] (.tuple [.i res.1, .bool res.2]) [] := by
  unfold kX at h
  refine Goes.fnW Tryz.func93 rfl rfl (m := 25) rfl (rs := [.tmp 4, .tmp 5]) rfl (l := [(0, .agg [.i r.Day, vl qa r.Slings]), (1, .str name)]) rfl ?_
  refine sq (Goes.rg fol [(2, .ptr 0 0), (3, .ptr 1 0)] [.cells [.i r.Day, vl qa r.Slings], .cells [.str name]] ?_)
  refine sq ?_
  obtain ⟨r1, e_r1, h⟩ := bnd h
  refine Goes.rp fol [3] [(2, .ptr 0 0), (3, .ptr 1 0), (6, .i r1)] [.cells [.i r.Day, vl qa r.Slings], .cells [.str name]] [.call 148 [vl qa r.Slings, .func (.func 149) [] [.ptr 1 0]] [.cells [.i r.Day, vl qa r.Slings], .cells [.str name]] [1] [vl qa r.Slings, .func (.func 149) [] [.fptr [.str name] 0]] (.i r1)] (an (xz (FzL.cons (Fz.still (qD qa _ (nl rfl))) (FzL.cons (Fz.func FzL.nil (FzL.cons (Fz.ptr rfl rfl (FzL.cons (Fz.still tS) FzL.nil)) FzL.nil)) FzL.nil)) (y9 N r.Slings name e_r1) tI rfl) trivial) ?_
  refine sq ?_
  refine sq (Goes.rg fol [(2, .ptr 0 0), (3, .ptr 1 0), (6, .i r1), (12, .bool (decide (r1 < 0)))] [.cells [.i r.Day, vl qa r.Slings], .cells [.str name]] ?_)
  refine Goes.ifB (b := decide (r1 < 0)) (by kernel_rfl) (fun c2 => ?_) (fun c2 => ?_)
  · rw [if_pos (ot c2)] at h
    refine sq (Goes.rg fol [(4, .i (r.Slings.length : Int)), (5, .bool false)] [.cells [.i r.Day, vl qa r.Slings], .cells [.str name]] ?_)
    refine Goes.ret ?_
    obtain rfl := si h
    exact (Goes.retW (xs := [.i (r.Slings.length : Int), .bool false]) (by kernel_rfl) (FzW.tuple (qK.cons (FzW.still tI) (qK.cons (FzW.still tB) qK.nil))))
  · rw [if_neg (of_ c2)] at h
    refine Goes.skip ?_
    refine sq ?_
    obtain ⟨x3, e_x3, h⟩ := bnd h
    refine Goes.rp fol [4, 6] [(4, .i r1), (5, .bool (x3.Name == name))] [.cells [.i r.Day, vl qa r.Slings], .cells [.str name]] [.done (.opt (qd Tryz.prog 29 (vl qa r.Slings) (.i r1))) (.fptr (r.Slings.flatMap qa.c) ((r1 : Int).toNat * 9 + 0)), .done (qx Tryz.prog 9 (.fptr (r.Slings.flatMap qa.c) ((r1 : Int).toNat * 9 + 0))) (.str x3.Name)] (an (qB xK (E := qa) rfl e_x3) (an (qA ce9 (E := qa) rfl e_x3 (nl rfl) rfl) trivial)) ?_
    refine Goes.ret ?_
    obtain rfl := si h
    exact (Goes.retW (xs := [.i r1, .bool (x3.Name == name)]) (by kernel_rfl) (FzW.tuple (qK.cons (FzW.still tI) (qK.cons (FzW.still tB) qK.nil))))
def zP (n : Int) : Option Int :=
  (zC n 0 99999).bind fun r1 =>
  some r1
theorem j4 (n : Int) {res : Int} (h : zP n = some res) : qy Tryz.prog (.fn 94) [.i n] [] (.i res) [] := by
  unfold zP at h
  refine Goes.fnW Tryz.func94 rfl rfl (m := 5) rfl (rs := [.tmp 2]) rfl (l := [(0, .i n)]) rfl ?_
  refine sq (Goes.rg fol [(0, .i n)] [] ?_)
  refine sq ?_
  obtain ⟨r1, e_r1, h⟩ := bnd h
  refine Goes.rp fol [1] [(2, .i r1)] [] [.call 87 [.i n, .i 0, .i 99999] [] [] [.i n, .i 0, .i 99999] (.i r1)] (an (qo (AllST.cons tI (AllST.cons tI (AllST.cons tI AllST.nil))) (zT n 0 99999 e_r1) tI) trivial) ?_
  refine Goes.ret ?_
  obtain rfl := si h
  exact (Goes.retW (xs := [.i r1]) (by kernel_rfl) (FzW.still tI))
def kG (s_ : qc) (day : Int) : Option Bool :=
  (if s_.Gone = true then
  some true
  else
  if day > s_.Last then
  some true
  else
  some (decide (s_.Used = s_.Uses)) : Option Bool).bind fun b3 =>
  some b3
theorem jk (s_ : qc) (day : Int) {res : Bool} (h : kG s_ day = some res) : qy Tryz.prog (.fn 95) [.agg (cS s_), .i day] [] (.bool res) [] := by
  unfold kG at h
  refine Goes.fnW Tryz.func95 rfl rfl (m := 20) rfl (rs := [.tmp 4]) rfl (l := [(0, .agg (cS s_)), (1, .i day)]) rfl ?_
  refine sq (Goes.rg fol [(1, .i day), (2, .ptr 0 0)] [.cells (cS s_)] ?_)
  refine sq ?_
  obtain ⟨b3, g_v4, h⟩ := bnd h
  refine Goes.cut (s' := (ofG 20 [(4, .bool b3)], [.cells (cS s_)])) ?_ ?_
  · rcases Bool.eq_false_or_eq_true (s_.Gone) with c1 | c1
    · rw [if_pos (c1)] at g_v4
      obtain rfl := si g_v4
      exact qm.rp fol [2] [(4, .bool true)] [.cells (cS s_)] [.done (.done (.bool s_.Gone)) (.bool true)] (an (congrArg (fun x => Pg.done (.bool x)) c1) trivial)
    · rw [if_neg (nb c1)] at g_v4
      rcases Bool.eq_false_or_eq_true (decide (day > s_.Last)) with c2 | c2
      · rw [if_pos (ot c2)] at g_v4
        obtain rfl := si g_v4
        exact qm.rp fol [2, 8] [(4, .bool true)] [.cells (cS s_)] [.done (.done (.bool s_.Gone)) (.bool false), .done (.done (.bool (decide (day > s_.Last)))) (.bool true)] (an (congrArg (fun x => Pg.done (.bool x)) c1) (an (congrArg (fun x => Pg.done (.bool x)) c2) trivial))
      · rw [if_neg (of_ c2)] at g_v4
        obtain rfl := si g_v4
        exact qm.rp fol [2, 8] [(4, .bool (decide (s_.Used = s_.Uses)))] [.cells (cS s_)] [.done (.done (.bool s_.Gone)) (.bool false), .done (.done (.bool (decide (day > s_.Last)))) (.bool false)] (an (congrArg (fun x => Pg.done (.bool x)) c1) (an (congrArg (fun x => Pg.done (.bool x)) c2) trivial))
  refine Goes.ret ?_
  obtain rfl := si h
  exact (Goes.retW (xs := [.bool b3]) (by kernel_rfl) (FzW.still tB))
def zU (s_ : qc) (day : Int) : Option Bool :=
  (if s_.Limit > 0 then
  some (decide (day ≤ s_.Until))
  else
  some false : Option Bool).bind fun b2 =>
  some b2
theorem yJ (s_ : qc) (day : Int) {res : Bool} (h : zU s_ day = some res) : qy Tryz.prog (.fn 96) [.agg (cS s_), .i day] [] (.bool res) [] := by
  unfold zU at h
  refine Goes.fnW Tryz.func96 rfl rfl (m := 14) rfl (rs := [.tmp 4]) rfl (l := [(0, .agg (cS s_)), (1, .i day)]) rfl ?_
  refine sq (Goes.rg fol [(1, .i day), (2, .ptr 0 0)] [.cells (cS s_)] ?_)
  refine sq ?_
  obtain ⟨b2, g_v3, h⟩ := bnd h
  refine Goes.cut (s' := (ofG 14 [(4, .bool b2)], [.cells (cS s_)])) ?_ ?_
  · rcases Bool.eq_false_or_eq_true (decide (s_.Limit > 0)) with c1 | c1
    · rw [if_pos (ot c1)] at g_v3
      obtain rfl := si g_v3
      exact qm.rp fol [3] [(4, .bool (decide (day ≤ s_.Until)))] [.cells (cS s_)] [.done (.done (.bool (decide (s_.Limit > 0)))) (.bool true)] (an (congrArg (fun x => Pg.done (.bool x)) c1) trivial)
    · rw [if_neg (of_ c1)] at g_v3
      obtain rfl := si g_v3
      exact qm.rp fol [3] [(4, .bool false)] [.cells (cS s_)] [.done (.done (.bool (decide (s_.Limit > 0)))) (.bool false)] (an (congrArg (fun x => Pg.done (.bool x)) c1) trivial)
  refine Goes.ret ?_
  obtain rfl := si h
  exact (Goes.retW (xs := [.bool b2]) (by kernel_rfl) (FzW.still tB))
def zu  : Option Unit :=
  some ()
theorem kC  {res : Unit} (h : zu  = some res) : qy Tryz.prog (.fn 85) [] [] (fm1) [] := by
  unfold zu at h
  refine Goes.fnW Tryz.func85 rfl rfl (m := 9) rfl (rs := [.tmp 0]) rfl (l := []) rfl ?_
  refine sq (Goes.rg fol [] [] ?_)
  refine sq (Goes.rg fol [(0, .map 0)] [.map [.str [109, 97, 107, 101], .str [116, 101, 115, 116], .str [117, 115, 101], .str [102, 97, 105, 108], .str [114, 101, 99, 97, 108, 108], .str [117, 110, 100, 111]] [.agg [.i 2, .i 3, .func (.func 141) [] []], .agg [.i 1, .i 2, .func (.func 142) [] []], .agg [.i 1, .i 2, .func (.func 143) [] []], .agg [.i 1, .i 1, .func (.func 144) [] []], .agg [.i 1, .i 1, .func (.func 145) [] []], .agg [.i 0, .i 0, .nilfunc]]] ?_)
  refine Goes.ret ?_
  obtain rfl := si h
  exact (Goes.retW (xs := [.map 0]) (by kernel_rfl) (FzW.of (by kernel_rfl)))
def jI (c : Int) : Option Bool :=
  (if c ≥ 97 then
  if c ≤ 122 then
  some true
  else
  if c ≥ 65 then
  some (decide (c ≤ 90))
  else
  some false
  else
  if c ≥ 65 then
  some (decide (c ≤ 90))
  else
  some false : Option Bool).bind fun b5 =>
  some b5
theorem jB (c : Int) {res : Bool} (h : jI c = some res) : qy Tryz.prog (.fn 183) [.int .i32 c] [] (.bool res) [] := by
  unfold jI at h
  refine Goes.fnW Tryz.func183 rfl rfl (m := 17) rfl (rs := [.tmp 2]) rfl (l := [(0, .int .i32 c)]) rfl ?_
  refine sq (Goes.rg fol [(0, .int .i32 c)] [] ?_)
  refine sq ?_
  obtain ⟨b5, g_v6, h⟩ := bnd h
  refine Goes.cut (s' := (ofG 17 [(2, .bool b5)], [])) ?_ ?_
  · rcases Bool.eq_false_or_eq_true (decide (c ≥ 97)) with c1 | c1
    · rw [if_pos (ot c1)] at g_v6
      rcases Bool.eq_false_or_eq_true (decide (c ≤ 122)) with c2 | c2
      · rw [if_pos (ot c2)] at g_v6
        obtain rfl := si g_v6
        exact qm.rp fol [2, 6] [(2, .bool true)] [] [.done (.done (.bool (decide (c ≥ 97)))) (.bool true), .done (.done (.bool (decide (c ≤ 122)))) (.bool true)] (an (congrArg (fun x => Pg.done (.bool x)) c1) (an (congrArg (fun x => Pg.done (.bool x)) c2) trivial))
      · rw [if_neg (of_ c2)] at g_v6
        rcases Bool.eq_false_or_eq_true (decide (c ≥ 65)) with c3 | c3
        · rw [if_pos (ot c3)] at g_v6
          obtain rfl := si g_v6
          exact qm.rp fol [2, 6, 9] [(2, .bool (decide (c ≤ 90)))] [] [.done (.done (.bool (decide (c ≥ 97)))) (.bool true), .done (.done (.bool (decide (c ≤ 122)))) (.bool false), .done (.done (.bool (decide (c ≥ 65)))) (.bool true)] (an (congrArg (fun x => Pg.done (.bool x)) c1) (an (congrArg (fun x => Pg.done (.bool x)) c2) (an (congrArg (fun x => Pg.done (.bool x)) c3) trivial)))
        · rw [if_neg (of_ c3)] at g_v6
          obtain rfl := si g_v6
          exact qm.rp fol [2, 6, 9] [(2, .bool false)] [] [.done (.done (.bool (decide (c ≥ 97)))) (.bool true), .done (.done (.bool (decide (c ≤ 122)))) (.bool false), .done (.done (.bool (decide (c ≥ 65)))) (.bool false)] (an (congrArg (fun x => Pg.done (.bool x)) c1) (an (congrArg (fun x => Pg.done (.bool x)) c2) (an (congrArg (fun x => Pg.done (.bool x)) c3) trivial)))
    · rw [if_neg (of_ c1)] at g_v6
      rcases Bool.eq_false_or_eq_true (decide (c ≥ 65)) with c4 | c4
      · rw [if_pos (ot c4)] at g_v6
        obtain rfl := si g_v6
        exact qm.rp fol [2, 9] [(2, .bool (decide (c ≤ 90)))] [] [.done (.done (.bool (decide (c ≥ 97)))) (.bool false), .done (.done (.bool (decide (c ≥ 65)))) (.bool true)] (an (congrArg (fun x => Pg.done (.bool x)) c1) (an (congrArg (fun x => Pg.done (.bool x)) c4) trivial))
      · rw [if_neg (of_ c4)] at g_v6
        obtain rfl := si g_v6
        exact qm.rp fol [2, 9] [(2, .bool false)] [] [.done (.done (.bool (decide (c ≥ 97)))) (.bool false), .done (.done (.bool (decide (c ≥ 65)))) (.bool false)] (an (congrArg (fun x => Pg.done (.bool x)) c1) (an (congrArg (fun x => Pg.done (.bool x)) c4) trivial))
  refine Goes.ret ?_
  obtain rfl := si h
  exact (Goes.retW (xs := [.bool b5]) (by kernel_rfl) (FzW.still tB))
def zY (s_ : Str) : Nat → Nat → Option (Unit ⊕ Bool)
  | 0, _ => none
  | K + 1, k1 =>
    if k1 < s_.length then
    ((jI (kI s_ k1)).bind fun r5 =>
    if (!r5) = true then
    if (k1 : Int) = 0 then
    some true
    else
    if (!decide ((kI s_ k1) = 95)) = true then
    if (kI s_ k1) < 48 then
    some true
    else
    some (decide ((kI s_ k1) > 57))
    else
    some false
    else
    some false : Option Bool).bind fun b10 =>
    if b10 = true then
    some (.inr false)
    else
    zY s_ K (k1 + runeLen s_ k1)
    else
    some (.inl ())
def vU (N : Nat) (s_ : Str) : Option Bool :=
  (zY s_ N 0).bind (fun
  | (.inl ()) =>
  (if (!(s_ == [])) = true then
  some (decide ((s_.length : Int) ≤ 24))
  else
  some false : Option Bool).bind fun b14 =>
  some b14
  | (.inr q16) =>
  some q16)
theorem qci (N : Nat) (s_ : Str) {res : Bool} (h : vU N s_ = some res) : qy Tryz.prog (.fn 146) [.str s_] [] (.bool res) [] := by
  unfold vU at h
  refine Goes.fnW Tryz.func146 rfl rfl (m := 37) rfl (rs := [.tmp 2]) rfl (l := [(0, .str s_)]) rfl ?_
  refine sq (Goes.rg fol [(0, .str s_)] [] ?_)
  refine sq ?_
  refine sq (Goes.rg fol [(0, .str s_), (6, .ptr 0 0)] [.iter s_ 0] ?_)
  refine Goes.block ?_
  obtain ⟨r2, g2, h⟩ := bnd h
  refine Goes.imp (Q := fun x s' => (x = .exit 0 ∧ (.inl ()) = r2 ∧ Sub s' (ofG 37 [(0, .str s_)], [])) ∨ (x = .ret ∧ ∃ q3, (.inr q3) = r2 ∧ zH Tryz.prog [.tmp 2] (.bool q3) .ret s')) ?_ ?_
  · refine Goes.sub (s' := (ofG 37 [(0, .str s_), (6, .ptr 0 0)], [.iter s_ 0])) (Sub.keep [0, 6] rfl rfl) ?_
    refine Goes.loopS (fun M s => ∃ (k1 : Nat), s = (ofG 37 [(0, .str s_), (6, .ptr 0 0)], [.iter s_ k1]) ∧ zY s_ M k1 = some r2) ?_ (m := N) ⟨_, rfl, g2⟩
    rintro M s ⟨k1, rfl, g2⟩
    cases M with
    | zero => simp only [zY] at g2; cases g2
    | succ M =>
      rw [zY] at g2
      refine sq ?_
      rcases Classical.em (k1 < s_.length) with c4 | c4
      · rw [if_pos c4] at g2
        refine Goes.rp fol [0] [(0, .str s_), (6, .ptr 0 0), (7, .tuple [.bool true, .i (k1 : Int), .int .i32 (kI s_ k1)]), (8, .bool true)] [.iter s_ (k1 + runeLen s_ k1)] [.run [0] (qbS (.ptr 0 0) true) [.iter s_ k1] (.tuple [.bool true, .i (k1 : Int), .int .i32 (kI s_ k1)]) [.iter s_ (k1 + runeLen s_ k1)] true] (an (qg1 rfl c4 rfl) trivial) ?_
        refine sq ?_
        refine Goes.ifB (b := true) (by kernel_rfl) (fun _ => ?_) (fun c => (by cases c))
        refine Goes.skip ?_
        refine Goes.block ?_
        refine sq (Goes.rg fol [(0, .str s_), (3, .i (k1 : Int)), (4, .int .i32 (kI s_ k1)), (6, .ptr 0 0)] [.iter s_ (k1 + runeLen s_ k1)] ?_)
        refine sq ?_
        obtain ⟨b10, g_v11, g2⟩ := bnd g2
        refine Goes.cut (s' := (ofG 37 [(0, .str s_), (6, .ptr 0 0), (29, .bool b10)], [.iter s_ (k1 + runeLen s_ k1)])) ?_ ?_
        · obtain ⟨r5, e_r5, g_v11⟩ := bnd g_v11
          rcases Bool.eq_false_or_eq_true (!r5) with c6 | c6
          · rw [if_pos (c6)] at g_v11
            rcases Bool.eq_false_or_eq_true (decide ((k1 : Int) = 0)) with c7 | c7
            · rw [if_pos (ot c7)] at g_v11
              obtain rfl := si g_v11
              exact qm.rp fol [1, 3, 6] [(0, .str s_), (6, .ptr 0 0), (29, .bool true)] [.iter s_ (k1 + runeLen s_ k1)] [.call 183 [.int .i32 (kI s_ k1)] [.iter s_ (k1 + runeLen s_ k1)] [] [.int .i32 (kI s_ k1)] (.bool r5), .done (.done (.bool (!r5))) (.bool true), .done (.done (.bool (decide ((k1 : Int) = 0)))) (.bool true)] (an (qo (AllST.cons tI AllST.nil) (jB (kI s_ k1) e_r5) tB) (an (congrArg (fun x => Pg.done (.bool x)) c6) (an (congrArg (fun x => Pg.done (.bool x)) c7) trivial)))
            · rw [if_neg (of_ c7)] at g_v11
              rcases Bool.eq_false_or_eq_true (!decide ((kI s_ k1) = 95)) with c8 | c8
              · rw [if_pos (c8)] at g_v11
                rcases Bool.eq_false_or_eq_true (decide ((kI s_ k1) < 48)) with c9 | c9
                · rw [if_pos (ot c9)] at g_v11
                  obtain rfl := si g_v11
                  exact qm.rp fol [1, 3, 6, 9, 12] [(0, .str s_), (6, .ptr 0 0), (29, .bool true)] [.iter s_ (k1 + runeLen s_ k1)] [.call 183 [.int .i32 (kI s_ k1)] [.iter s_ (k1 + runeLen s_ k1)] [] [.int .i32 (kI s_ k1)] (.bool r5), .done (.done (.bool (!r5))) (.bool true), .done (.done (.bool (decide ((k1 : Int) = 0)))) (.bool false), .done (.done (.bool (!decide ((kI s_ k1) = 95)))) (.bool true), .done (.done (.bool (decide ((kI s_ k1) < 48)))) (.bool true)] (an (qo (AllST.cons tI AllST.nil) (jB (kI s_ k1) e_r5) tB) (an (congrArg (fun x => Pg.done (.bool x)) c6) (an (congrArg (fun x => Pg.done (.bool x)) c7) (an (congrArg (fun x => Pg.done (.bool x)) c8) (an (congrArg (fun x => Pg.done (.bool x)) c9) trivial)))))
                · rw [if_neg (of_ c9)] at g_v11
                  obtain rfl := si g_v11
                  exact qm.rp fol [1, 3, 6, 9, 12] [(0, .str s_), (6, .ptr 0 0), (29, .bool (decide ((kI s_ k1) > 57)))] [.iter s_ (k1 + runeLen s_ k1)] [.call 183 [.int .i32 (kI s_ k1)] [.iter s_ (k1 + runeLen s_ k1)] [] [.int .i32 (kI s_ k1)] (.bool r5), .done (.done (.bool (!r5))) (.bool true), .done (.done (.bool (decide ((k1 : Int) = 0)))) (.bool false), .done (.done (.bool (!decide ((kI s_ k1) = 95)))) (.bool true), .done (.done (.bool (decide ((kI s_ k1) < 48)))) (.bool false)] (an (qo (AllST.cons tI AllST.nil) (jB (kI s_ k1) e_r5) tB) (an (congrArg (fun x => Pg.done (.bool x)) c6) (an (congrArg (fun x => Pg.done (.bool x)) c7) (an (congrArg (fun x => Pg.done (.bool x)) c8) (an (congrArg (fun x => Pg.done (.bool x)) c9) trivial)))))
              · rw [if_neg (nb c8)] at g_v11
                obtain rfl := si g_v11
                exact qm.rp fol [1, 3, 6, 9] [(0, .str s_), (6, .ptr 0 0), (29, .bool false)] [.iter s_ (k1 + runeLen s_ k1)] [.call 183 [.int .i32 (kI s_ k1)] [.iter s_ (k1 + runeLen s_ k1)] [] [.int .i32 (kI s_ k1)] (.bool r5), .done (.done (.bool (!r5))) (.bool true), .done (.done (.bool (decide ((k1 : Int) = 0)))) (.bool false), .done (.done (.bool (!decide ((kI s_ k1) = 95)))) (.bool false)] (an (qo (AllST.cons tI AllST.nil) (jB (kI s_ k1) e_r5) tB) (an (congrArg (fun x => Pg.done (.bool x)) c6) (an (congrArg (fun x => Pg.done (.bool x)) c7) (an (congrArg (fun x => Pg.done (.bool x)) c8) trivial))))
          · rw [if_neg (nb c6)] at g_v11
            obtain rfl := si g_v11
            exact qm.rp fol [1, 3] [(0, .str s_), (6, .ptr 0 0), (29, .bool false)] [.iter s_ (k1 + runeLen s_ k1)] [.call 183 [.int .i32 (kI s_ k1)] [.iter s_ (k1 + runeLen s_ k1)] [] [.int .i32 (kI s_ k1)] (.bool r5), .done (.done (.bool (!r5))) (.bool false)] (an (qo (AllST.cons tI AllST.nil) (jB (kI s_ k1) e_r5) tB) (an (congrArg (fun x => Pg.done (.bool x)) c6) trivial))
        refine Goes.ifB (b := b10) (by kernel_rfl) (fun c12 => ?_) (fun c12 => ?_)
        · rw [if_pos (c12)] at g2
          refine sq (Goes.rg fol [(2, .bool false)] [.iter s_ (k1 + runeLen s_ k1)] ?_)
          refine Goes.ret ?_
          obtain rfl := si g2
          exact Or.inr (⟨rfl, _, rfl, (Goes.retW (xs := [.bool false]) (by kernel_rfl) (FzW.still tB))⟩)
        · rw [if_neg (nb c12)] at g2
          refine Goes.skip ?_
          exact ⟨M, (ofG 37 [(0, .str s_), (6, .ptr 0 0)], [.iter s_ (k1 + runeLen s_ k1)]), Nat.lt_succ_self _, (Sub.keep [0, 6] rfl rfl), _, rfl, g2⟩
      · rw [if_neg c4] at g2
        refine Goes.rp fol [0] [(0, .str s_), (6, .ptr 0 0), (7, .tuple [.bool false]), (8, .bool false)] [.iter s_ k1] [.run [0] (qbS (.ptr 0 0) true) [.iter s_ k1] (.tuple [.bool false]) [.iter s_ k1] false] (an (qgV rfl c4) trivial) ?_
        refine sq ?_
        refine Goes.ifB (b := false) (by kernel_rfl) (fun c => (by cases c)) (fun _ => ?_)
        refine Goes.exit ?_
        obtain rfl := si g2
        exact Or.inl (⟨rfl, rfl, (Sub.norm [] [] rfl rfl (.keep (.same nS) .nil) .nil)⟩)
  rintro x s' (⟨rfl, rfl, hsub⟩ | ⟨rfl, q16, rfl, hret⟩)
  · try dsimp only at h
    refine Goes.sub hsub ?_
    refine sq ?_
    obtain ⟨b14, g_v15, h⟩ := bnd h
    refine Goes.cut (s' := (ofG 37 [(2, .bool b14)], [])) ?_ ?_
    · rcases Bool.eq_false_or_eq_true (!(s_ == [])) with c13 | c13
      · rw [if_pos (c13)] at g_v15
        obtain rfl := si g_v15
        exact qm.rp fol [2] [(2, .bool (decide ((s_.length : Int) ≤ 24)))] [] [.done (.done (.bool (!(s_ == [])))) (.bool true)] (an (congrArg (fun x => Pg.done (.bool x)) c13) trivial)
      · rw [if_neg (nb c13)] at g_v15
        obtain rfl := si g_v15
        exact qm.rp fol [2] [(2, .bool false)] [] [.done (.done (.bool (!(s_ == [])))) (.bool false)] (an (congrArg (fun x => Pg.done (.bool x)) c13) trivial)
    refine Goes.ret ?_
    obtain rfl := si h
    exact (Goes.retW (xs := [.bool b14]) (by kernel_rfl) (FzW.still tB))
  · try dsimp only at h
    obtain rfl := si h
    exact hret
def vP (N : Nat) (s_ : Str) : Option Int :=
  (vU N s_).bind fun r1 =>
  (kg (!r1) 8).bind fun r2 =>
  some r2
theorem qaD (N : Nat) (s_ : Str) {res : Int} (h : vP N s_ = some res) : qy Tryz.prog (.fn 89) [.str s_] [] (.i res) [] := by
  unfold vP at h
  refine Goes.fnW Tryz.func89 rfl rfl (m := 7) rfl (rs := [.tmp 2]) rfl (l := [(0, .str s_)]) rfl ?_
  refine sq (Goes.rg fol [(0, .str s_)] [] ?_)
  refine sq ?_
  obtain ⟨r1, e_r1, h⟩ := bnd h
  obtain ⟨r2, e_r2, h⟩ := bnd h
  refine Goes.rp fol [1, 3] [(2, .i r2)] [] [.call 146 [.str s_] [] [] [.str s_] (.bool r1), .call 88 [.bool (!r1), .i 8] [] [] [.bool (!r1), .i 8] (.i r2)] (an (qo (AllST.cons tS AllST.nil) (qci N s_ e_r1) tB) (an (qo (AllST.cons tB (AllST.cons tI AllST.nil)) (qN (!r1) 8 e_r2) tI) trivial)) ?_
  refine Goes.ret ?_
  obtain rfl := si h
  exact (Goes.retW (xs := [.i r2]) (by kernel_rfl) (FzW.still tI))
def kY (N : Nat) (e : ql) : Nat → Int → Option (Unit ⊕ Int)
  | 0, _ => none
  | K + 1, n22 =>
    if n22 < (e.Names.length : Int) then
    (idx e.Names n22).bind fun x26 =>
    (vP N x26).bind fun r27 =>
    if (!decide (r27 = 0)) = true then
    some (.inr r27)
    else
    kY N e K (w64 (n22 + 1))
    else
    some (.inl ())
def kV (e : ql) : Nat → Int → Option (Unit ⊕ Int)
  | 0, _ => none
  | K + 1, n29 =>
    if n29 < (e.Values.length : Int) then
    (idx e.Values n29).bind fun x33 =>
    (zC x33 0 999999999).bind fun r34 =>
    if (!decide (r34 = 0)) = true then
    some (.inr r34)
    else
    kV e K (w64 (n29 + 1))
    else
    some (.inl ())
def jK (N : Nat) (e : ql) : Option Int :=
  ((zu).bind fun r1 =>
  if (e.Kind == [109, 97, 107, 101]) = true then
  some (2, 3, true)
  else
  if (e.Kind == [116, 101, 115, 116]) = true then
  some (1, 2, true)
  else
  if (e.Kind == [117, 115, 101]) = true then
  some (1, 2, true)
  else
  if (e.Kind == [102, 97, 105, 108]) = true then
  some (1, 1, true)
  else
  if (e.Kind == [114, 101, 99, 97, 108, 108]) = true then
  some (1, 1, true)
  else
  if (e.Kind == [117, 110, 100, 111]) = true then
  some (0, 0, true)
  else
  some (0, 0, false) : Option (Int × Int × Bool)).bind fun (n8, n9, is_10) =>
  ((zC e.Number 1 1000).bind fun r12 =>
  (kg (!is_10) 13).bind fun r13 =>
  if (!decide ((e.Names.length : Int) = n8)) = true then
  (kg true 2).bind fun r15 =>
  (zf N ([r12, r13, r15] : List Int)).bind fun r16 =>
  some r16
  else
  (kg (!decide ((e.Values.length : Int) = n9)) 2).bind fun r17 =>
  (zf N ([r12, r13, r17] : List Int)).bind fun r18 =>
  some r18 : Option Int).bind fun bad_19 =>
  if (!decide (bad_19 = 0)) = true then
  some bad_19
  else
  (kY N e N 0).bind (fun
  | (.inl ()) =>
  (kV e N 0).bind (fun
  | (.inl ()) =>
  (kg (!(e.Text == [])) 1).bind fun r36 =>
  some r36
  | (.inr q37) =>
  some q37)
  | (.inr q38) =>
  some q38)
theorem qa3 (N : Nat) (e : ql) {res : Int} (h : jK N e = some res) : qy Tryz.prog (.fn 18) [.agg (cE e)] [] (.i res) [] := by
  unfold jK at h
  refine Goes.fnW Tryz.func18 rfl rfl (m := 75) rfl (rs := [.tmp 2]) rfl (l := [(0, .agg (cE e))]) rfl ?_
  refine sq (Goes.rg fol [(1, .ptr 0 0)] [.cells (cE e)] ?_)
  refine sq ?_
  obtain ⟨⟨n8, n9, is_10⟩, g_v11, h⟩ := bnd h
  refine Goes.cutS (s' := (ofG 75 [(1, .ptr 0 0), (3, .ptr 1 0), (4, .bool is_10)], [.cells (cE e), .cells [.i n8, .i n9, .undef]])) ?_ ?_
  · obtain ⟨r1, e_r1, g_v11⟩ := bnd g_v11
    rcases Bool.eq_false_or_eq_true (e.Kind == [109, 97, 107, 101]) with c2 | c2
    · rw [if_pos (c2)] at g_v11
      simp only [Option.some.injEq, Prod.mk.injEq] at g_v11
      obtain ⟨rfl, rfl, rfl⟩ := g_v11
      exact qm.sub (qm.rp fol [0, 3] [(1, .ptr 0 0), (3, .ptr 1 0), (4, .bool true)] [.cells (cE e), .cells [.i 2, .i 3, .func (.func 141) [] []]] [.call 85 [] [.cells (cE e)] [] [] fm1, .done (qp Tryz.prog 154 (fm1) (.str e.Kind) true) (.tuple [.agg [.i 2, .i 3, .func (.func 141) [] []], .bool true])] (an (qo AllST.nil (kC e_r1) (Still.fmap (AllST.cons tS (AllST.cons tS (AllST.cons tS (AllST.cons tS (AllST.cons tS (AllST.cons tS AllST.nil)))))) (AllST.cons (Still.agg (AllST.cons tI (AllST.cons tI (AllST.cons (Still.func AllST.nil AllST.nil) AllST.nil)))) (AllST.cons (Still.agg (AllST.cons tI (AllST.cons tI (AllST.cons (Still.func AllST.nil AllST.nil) AllST.nil)))) (AllST.cons (Still.agg (AllST.cons tI (AllST.cons tI (AllST.cons (Still.func AllST.nil AllST.nil) AllST.nil)))) (AllST.cons (Still.agg (AllST.cons tI (AllST.cons tI (AllST.cons (Still.func AllST.nil AllST.nil) AllST.nil)))) (AllST.cons (Still.agg (AllST.cons tI (AllST.cons tI (AllST.cons (Still.func AllST.nil AllST.nil) AllST.nil)))) (AllST.cons (Still.agg (AllST.cons tI (AllST.cons tI (AllST.cons (Still.nilfunc 9) AllST.nil)))) AllST.nil)))))))) (an (qcs qaF [[109, 97, 107, 101], [116, 101, 115, 116], [117, 115, 101], [102, 97, 105, 108], [114, 101, 99, 97, 108, 108], [117, 110, 100, 111]] (jQ c2) rfl) trivial))) (Sub.norm [] [some 0, some 1] rfl rfl (.keep (.ptr rfl) (.keep (.ptr rfl) (.keep (.same nB) .nil))) (.keep rfl (.same (qg.cons nI (qg.cons nS (qg.cons (qj encS _) (qg.cons (qj encI _) (qg.cons nS qg.nil)))))) rfl rfl (.keep rfl (.cells (qf.cons (.same nI) (qf.cons (.same nI) (qf.cons (.undef) qf.nil)))) rfl rfl .nil)))
    · rw [if_neg (nb c2)] at g_v11
      rcases Bool.eq_false_or_eq_true (e.Kind == [116, 101, 115, 116]) with c3 | c3
      · rw [if_pos (c3)] at g_v11
        simp only [Option.some.injEq, Prod.mk.injEq] at g_v11
        obtain ⟨rfl, rfl, rfl⟩ := g_v11
        exact qm.sub (qm.rp fol [0, 3] [(1, .ptr 0 0), (3, .ptr 1 0), (4, .bool true)] [.cells (cE e), .cells [.i 1, .i 2, .func (.func 142) [] []]] [.call 85 [] [.cells (cE e)] [] [] fm1, .done (qp Tryz.prog 154 (fm1) (.str e.Kind) true) (.tuple [.agg [.i 1, .i 2, .func (.func 142) [] []], .bool true])] (an (qo AllST.nil (kC e_r1) (Still.fmap (AllST.cons tS (AllST.cons tS (AllST.cons tS (AllST.cons tS (AllST.cons tS (AllST.cons tS AllST.nil)))))) (AllST.cons (Still.agg (AllST.cons tI (AllST.cons tI (AllST.cons (Still.func AllST.nil AllST.nil) AllST.nil)))) (AllST.cons (Still.agg (AllST.cons tI (AllST.cons tI (AllST.cons (Still.func AllST.nil AllST.nil) AllST.nil)))) (AllST.cons (Still.agg (AllST.cons tI (AllST.cons tI (AllST.cons (Still.func AllST.nil AllST.nil) AllST.nil)))) (AllST.cons (Still.agg (AllST.cons tI (AllST.cons tI (AllST.cons (Still.func AllST.nil AllST.nil) AllST.nil)))) (AllST.cons (Still.agg (AllST.cons tI (AllST.cons tI (AllST.cons (Still.func AllST.nil AllST.nil) AllST.nil)))) (AllST.cons (Still.agg (AllST.cons tI (AllST.cons tI (AllST.cons (Still.nilfunc 9) AllST.nil)))) AllST.nil)))))))) (an (qcs qaF [[109, 97, 107, 101], [116, 101, 115, 116], [117, 115, 101], [102, 97, 105, 108], [114, 101, 99, 97, 108, 108], [117, 110, 100, 111]] (qF c2 (jQ c3)) rfl) trivial))) (Sub.norm [] [some 0, some 1] rfl rfl (.keep (.ptr rfl) (.keep (.ptr rfl) (.keep (.same nB) .nil))) (.keep rfl (.same (qg.cons nI (qg.cons nS (qg.cons (qj encS _) (qg.cons (qj encI _) (qg.cons nS qg.nil)))))) rfl rfl (.keep rfl (.cells (qf.cons (.same nI) (qf.cons (.same nI) (qf.cons (.undef) qf.nil)))) rfl rfl .nil)))
      · rw [if_neg (nb c3)] at g_v11
        rcases Bool.eq_false_or_eq_true (e.Kind == [117, 115, 101]) with c4 | c4
        · rw [if_pos (c4)] at g_v11
          simp only [Option.some.injEq, Prod.mk.injEq] at g_v11
          obtain ⟨rfl, rfl, rfl⟩ := g_v11
          exact qm.sub (qm.rp fol [0, 3] [(1, .ptr 0 0), (3, .ptr 1 0), (4, .bool true)] [.cells (cE e), .cells [.i 1, .i 2, .func (.func 143) [] []]] [.call 85 [] [.cells (cE e)] [] [] fm1, .done (qp Tryz.prog 154 (fm1) (.str e.Kind) true) (.tuple [.agg [.i 1, .i 2, .func (.func 143) [] []], .bool true])] (an (qo AllST.nil (kC e_r1) (Still.fmap (AllST.cons tS (AllST.cons tS (AllST.cons tS (AllST.cons tS (AllST.cons tS (AllST.cons tS AllST.nil)))))) (AllST.cons (Still.agg (AllST.cons tI (AllST.cons tI (AllST.cons (Still.func AllST.nil AllST.nil) AllST.nil)))) (AllST.cons (Still.agg (AllST.cons tI (AllST.cons tI (AllST.cons (Still.func AllST.nil AllST.nil) AllST.nil)))) (AllST.cons (Still.agg (AllST.cons tI (AllST.cons tI (AllST.cons (Still.func AllST.nil AllST.nil) AllST.nil)))) (AllST.cons (Still.agg (AllST.cons tI (AllST.cons tI (AllST.cons (Still.func AllST.nil AllST.nil) AllST.nil)))) (AllST.cons (Still.agg (AllST.cons tI (AllST.cons tI (AllST.cons (Still.func AllST.nil AllST.nil) AllST.nil)))) (AllST.cons (Still.agg (AllST.cons tI (AllST.cons tI (AllST.cons (Still.nilfunc 9) AllST.nil)))) AllST.nil)))))))) (an (qcs qaF [[109, 97, 107, 101], [116, 101, 115, 116], [117, 115, 101], [102, 97, 105, 108], [114, 101, 99, 97, 108, 108], [117, 110, 100, 111]] (qF c2 (qF c3 (jQ c4))) rfl) trivial))) (Sub.norm [] [some 0, some 1] rfl rfl (.keep (.ptr rfl) (.keep (.ptr rfl) (.keep (.same nB) .nil))) (.keep rfl (.same (qg.cons nI (qg.cons nS (qg.cons (qj encS _) (qg.cons (qj encI _) (qg.cons nS qg.nil)))))) rfl rfl (.keep rfl (.cells (qf.cons (.same nI) (qf.cons (.same nI) (qf.cons (.undef) qf.nil)))) rfl rfl .nil)))
        · rw [if_neg (nb c4)] at g_v11
          rcases Bool.eq_false_or_eq_true (e.Kind == [102, 97, 105, 108]) with c5 | c5
          · rw [if_pos (c5)] at g_v11
            simp only [Option.some.injEq, Prod.mk.injEq] at g_v11
            obtain ⟨rfl, rfl, rfl⟩ := g_v11
            exact qm.sub (qm.rp fol [0, 3] [(1, .ptr 0 0), (3, .ptr 1 0), (4, .bool true)] [.cells (cE e), .cells [.i 1, .i 1, .func (.func 144) [] []]] [.call 85 [] [.cells (cE e)] [] [] fm1, .done (qp Tryz.prog 154 (fm1) (.str e.Kind) true) (.tuple [.agg [.i 1, .i 1, .func (.func 144) [] []], .bool true])] (an (qo AllST.nil (kC e_r1) (Still.fmap (AllST.cons tS (AllST.cons tS (AllST.cons tS (AllST.cons tS (AllST.cons tS (AllST.cons tS AllST.nil)))))) (AllST.cons (Still.agg (AllST.cons tI (AllST.cons tI (AllST.cons (Still.func AllST.nil AllST.nil) AllST.nil)))) (AllST.cons (Still.agg (AllST.cons tI (AllST.cons tI (AllST.cons (Still.func AllST.nil AllST.nil) AllST.nil)))) (AllST.cons (Still.agg (AllST.cons tI (AllST.cons tI (AllST.cons (Still.func AllST.nil AllST.nil) AllST.nil)))) (AllST.cons (Still.agg (AllST.cons tI (AllST.cons tI (AllST.cons (Still.func AllST.nil AllST.nil) AllST.nil)))) (AllST.cons (Still.agg (AllST.cons tI (AllST.cons tI (AllST.cons (Still.func AllST.nil AllST.nil) AllST.nil)))) (AllST.cons (Still.agg (AllST.cons tI (AllST.cons tI (AllST.cons (Still.nilfunc 9) AllST.nil)))) AllST.nil)))))))) (an (qcs qaF [[109, 97, 107, 101], [116, 101, 115, 116], [117, 115, 101], [102, 97, 105, 108], [114, 101, 99, 97, 108, 108], [117, 110, 100, 111]] (qF c2 (qF c3 (qF c4 (jQ c5)))) rfl) trivial))) (Sub.norm [] [some 0, some 1] rfl rfl (.keep (.ptr rfl) (.keep (.ptr rfl) (.keep (.same nB) .nil))) (.keep rfl (.same (qg.cons nI (qg.cons nS (qg.cons (qj encS _) (qg.cons (qj encI _) (qg.cons nS qg.nil)))))) rfl rfl (.keep rfl (.cells (qf.cons (.same nI) (qf.cons (.same nI) (qf.cons (.undef) qf.nil)))) rfl rfl .nil)))
          · rw [if_neg (nb c5)] at g_v11
            rcases Bool.eq_false_or_eq_true (e.Kind == [114, 101, 99, 97, 108, 108]) with c6 | c6
            · rw [if_pos (c6)] at g_v11
              simp only [Option.some.injEq, Prod.mk.injEq] at g_v11
              obtain ⟨rfl, rfl, rfl⟩ := g_v11
              exact qm.sub (qm.rp fol [0, 3] [(1, .ptr 0 0), (3, .ptr 1 0), (4, .bool true)] [.cells (cE e), .cells [.i 1, .i 1, .func (.func 145) [] []]] [.call 85 [] [.cells (cE e)] [] [] fm1, .done (qp Tryz.prog 154 (fm1) (.str e.Kind) true) (.tuple [.agg [.i 1, .i 1, .func (.func 145) [] []], .bool true])] (an (qo AllST.nil (kC e_r1) (Still.fmap (AllST.cons tS (AllST.cons tS (AllST.cons tS (AllST.cons tS (AllST.cons tS (AllST.cons tS AllST.nil)))))) (AllST.cons (Still.agg (AllST.cons tI (AllST.cons tI (AllST.cons (Still.func AllST.nil AllST.nil) AllST.nil)))) (AllST.cons (Still.agg (AllST.cons tI (AllST.cons tI (AllST.cons (Still.func AllST.nil AllST.nil) AllST.nil)))) (AllST.cons (Still.agg (AllST.cons tI (AllST.cons tI (AllST.cons (Still.func AllST.nil AllST.nil) AllST.nil)))) (AllST.cons (Still.agg (AllST.cons tI (AllST.cons tI (AllST.cons (Still.func AllST.nil AllST.nil) AllST.nil)))) (AllST.cons (Still.agg (AllST.cons tI (AllST.cons tI (AllST.cons (Still.func AllST.nil AllST.nil) AllST.nil)))) (AllST.cons (Still.agg (AllST.cons tI (AllST.cons tI (AllST.cons (Still.nilfunc 9) AllST.nil)))) AllST.nil)))))))) (an (qcs qaF [[109, 97, 107, 101], [116, 101, 115, 116], [117, 115, 101], [102, 97, 105, 108], [114, 101, 99, 97, 108, 108], [117, 110, 100, 111]] (qF c2 (qF c3 (qF c4 (qF c5 (jQ c6))))) rfl) trivial))) (Sub.norm [] [some 0, some 1] rfl rfl (.keep (.ptr rfl) (.keep (.ptr rfl) (.keep (.same nB) .nil))) (.keep rfl (.same (qg.cons nI (qg.cons nS (qg.cons (qj encS _) (qg.cons (qj encI _) (qg.cons nS qg.nil)))))) rfl rfl (.keep rfl (.cells (qf.cons (.same nI) (qf.cons (.same nI) (qf.cons (.undef) qf.nil)))) rfl rfl .nil)))
            · rw [if_neg (nb c6)] at g_v11
              rcases Bool.eq_false_or_eq_true (e.Kind == [117, 110, 100, 111]) with c7 | c7
              · rw [if_pos (c7)] at g_v11
                simp only [Option.some.injEq, Prod.mk.injEq] at g_v11
                obtain ⟨rfl, rfl, rfl⟩ := g_v11
                exact qm.sub (qm.rp fol [0, 3] [(1, .ptr 0 0), (3, .ptr 1 0), (4, .bool true)] [.cells (cE e), .cells [.i 0, .i 0, .nilfunc]] [.call 85 [] [.cells (cE e)] [] [] fm1, .done (qp Tryz.prog 154 (fm1) (.str e.Kind) true) (.tuple [.agg [.i 0, .i 0, .nilfunc], .bool true])] (an (qo AllST.nil (kC e_r1) (Still.fmap (AllST.cons tS (AllST.cons tS (AllST.cons tS (AllST.cons tS (AllST.cons tS (AllST.cons tS AllST.nil)))))) (AllST.cons (Still.agg (AllST.cons tI (AllST.cons tI (AllST.cons (Still.func AllST.nil AllST.nil) AllST.nil)))) (AllST.cons (Still.agg (AllST.cons tI (AllST.cons tI (AllST.cons (Still.func AllST.nil AllST.nil) AllST.nil)))) (AllST.cons (Still.agg (AllST.cons tI (AllST.cons tI (AllST.cons (Still.func AllST.nil AllST.nil) AllST.nil)))) (AllST.cons (Still.agg (AllST.cons tI (AllST.cons tI (AllST.cons (Still.func AllST.nil AllST.nil) AllST.nil)))) (AllST.cons (Still.agg (AllST.cons tI (AllST.cons tI (AllST.cons (Still.func AllST.nil AllST.nil) AllST.nil)))) (AllST.cons (Still.agg (AllST.cons tI (AllST.cons tI (AllST.cons (Still.nilfunc 9) AllST.nil)))) AllST.nil)))))))) (an (qcs qaF [[109, 97, 107, 101], [116, 101, 115, 116], [117, 115, 101], [102, 97, 105, 108], [114, 101, 99, 97, 108, 108], [117, 110, 100, 111]] (qF c2 (qF c3 (qF c4 (qF c5 (qF c6 (jQ c7)))))) rfl) trivial))) (Sub.norm [] [some 0, some 1] rfl rfl (.keep (.ptr rfl) (.keep (.ptr rfl) (.keep (.same nB) .nil))) (.keep rfl (.same (qg.cons nI (qg.cons nS (qg.cons (qj encS _) (qg.cons (qj encI _) (qg.cons nS qg.nil)))))) rfl rfl (.keep rfl (.cells (qf.cons (.same nI) (qf.cons (.same nI) (qf.cons (.undef) qf.nil)))) rfl rfl .nil)))
              · rw [if_neg (nb c7)] at g_v11
                simp only [Option.some.injEq, Prod.mk.injEq] at g_v11
                obtain ⟨rfl, rfl, rfl⟩ := g_v11
                exact qm.sub (qm.rp fol [0, 3] [(1, .ptr 0 0), (3, .ptr 1 0), (4, .bool false)] [.cells (cE e), .cells [.i 0, .i 0, .nilfunc]] [.call 85 [] [.cells (cE e)] [] [] fm1, .done (qp Tryz.prog 154 (fm1) (.str e.Kind) true) (.tuple [.agg [.i 0, .i 0, .nilfunc], .bool false])] (an (qo AllST.nil (kC e_r1) (Still.fmap (AllST.cons tS (AllST.cons tS (AllST.cons tS (AllST.cons tS (AllST.cons tS (AllST.cons tS AllST.nil)))))) (AllST.cons (Still.agg (AllST.cons tI (AllST.cons tI (AllST.cons (Still.func AllST.nil AllST.nil) AllST.nil)))) (AllST.cons (Still.agg (AllST.cons tI (AllST.cons tI (AllST.cons (Still.func AllST.nil AllST.nil) AllST.nil)))) (AllST.cons (Still.agg (AllST.cons tI (AllST.cons tI (AllST.cons (Still.func AllST.nil AllST.nil) AllST.nil)))) (AllST.cons (Still.agg (AllST.cons tI (AllST.cons tI (AllST.cons (Still.func AllST.nil AllST.nil) AllST.nil)))) (AllST.cons (Still.agg (AllST.cons tI (AllST.cons tI (AllST.cons (Still.func AllST.nil AllST.nil) AllST.nil)))) (AllST.cons (Still.agg (AllST.cons tI (AllST.cons tI (AllST.cons (Still.nilfunc 9) AllST.nil)))) AllST.nil)))))))) (an (qi6 qaF [[109, 97, 107, 101], [116, 101, 115, 116], [117, 115, 101], [102, 97, 105, 108], [114, 101, 99, 97, 108, 108], [117, 110, 100, 111]] (qF c2 (qF c3 (qF c4 (qF c5 (qF c6 (qF c7 (rfl)))))))) trivial))) (Sub.norm [] [some 0, some 1] rfl rfl (.keep (.ptr rfl) (.keep (.ptr rfl) (.keep (.same nB) .nil))) (.keep rfl (.same (qg.cons nI (qg.cons nS (qg.cons (qj encS _) (qg.cons (qj encI _) (qg.cons nS qg.nil)))))) rfl rfl (.keep rfl (.cells (qf.cons (.same nI) (qf.cons (.same nI) (qf.cons (.undef) qf.nil)))) rfl rfl .nil)))
  intro _ hsub
  try dsimp only at h
  refine Goes.sub hsub ?_
  refine sq ?_
  refine sq ?_
  obtain ⟨bad_19, g_v20, h⟩ := bnd h
  refine Goes.cutS (s' := (ofG 75 [(1, .ptr 0 0), (5, .i bad_19)], [.cells (cE e)])) ?_ ?_
  · obtain ⟨r12, e_r12, g_v20⟩ := bnd g_v20
    obtain ⟨r13, e_r13, g_v20⟩ := bnd g_v20
    rcases Bool.eq_false_or_eq_true (!decide ((e.Names.length : Int) = n8)) with c14 | c14
    · rw [if_pos (c14)] at g_v20
      obtain ⟨r15, e_r15, g_v20⟩ := bnd g_v20
      obtain ⟨r16, e_r16, g_v20⟩ := bnd g_v20
      obtain rfl := si g_v20
      exact qm.sub (qm.rp fol [2, 5, 12, 20, 22] [(1, .ptr 0 0), (5, .i r16)] [.cells (cE e), .cells [.i n8, .i n9, .undef], .cells [.i r12, .i r13, .i r15]] [.call 87 [.i e.Number, .i 1, .i 1000] [.cells (cE e), .cells [.i n8, .i n9, .undef]] [] [.i e.Number, .i 1, .i 1000] (.i r12), .call 88 [.bool (!is_10), .i 13] [.cells (cE e), .cells [.i n8, .i n9, .undef]] [] [.bool (!is_10), .i 13] (.i r13), .done (.done (.bool (!decide ((e.Names.length : Int) = n8)))) (.bool true), .call 88 [.bool true, .i 2] [.cells (cE e), .cells [.i n8, .i n9, .undef]] [] [.bool true, .i 2] (.i r15), .call 86 [.slice 2 0 3 3 1] [.cells (cE e), .cells [.i n8, .i n9, .undef], .cells [.i r12, .i r13, .i r15]] [2] [vl encI ([r12, r13, r15] : List Int)] (.i r16)] (an (qo (AllST.cons tI (AllST.cons tI (AllST.cons tI AllST.nil))) (zT e.Number 1 1000 e_r12) tI) (an (qo (AllST.cons tB (AllST.cons tI AllST.nil)) (qN (!is_10) 13 e_r13) tI) (an (congrArg (fun x => Pg.done (.bool x)) c14) (an (qo (AllST.cons tB (AllST.cons tI AllST.nil)) (qN true 2 e_r15) tI) (an (xz (FzL.cons (Fz.lit rfl rfl (FzL.still (AllST.cons tI (AllST.cons tI (AllST.cons tI AllST.nil))))) FzL.nil) (zN N ([r12, r13, r15] : List Int) e_r16) tI rfl) trivial)))))) (Sub.norm [] [some 0] rfl rfl (.keep (.ptr rfl) (.keep (.same nI) .nil)) (.keep rfl (.same (qg.cons nI (qg.cons nS (qg.cons (qj encS _) (qg.cons (qj encI _) (qg.cons nS qg.nil)))))) rfl rfl .nil))
    · rw [if_neg (nb c14)] at g_v20
      obtain ⟨r17, e_r17, g_v20⟩ := bnd g_v20
      obtain ⟨r18, e_r18, g_v20⟩ := bnd g_v20
      obtain rfl := si g_v20
      exact qm.sub (qm.rp fol [2, 5, 12, 20, 22] [(1, .ptr 0 0), (5, .i r18)] [.cells (cE e), .cells [.i n8, .i n9, .undef], .cells [.i r12, .i r13, .i r17]] [.call 87 [.i e.Number, .i 1, .i 1000] [.cells (cE e), .cells [.i n8, .i n9, .undef]] [] [.i e.Number, .i 1, .i 1000] (.i r12), .call 88 [.bool (!is_10), .i 13] [.cells (cE e), .cells [.i n8, .i n9, .undef]] [] [.bool (!is_10), .i 13] (.i r13), .done (.done (.bool (!decide ((e.Names.length : Int) = n8)))) (.bool false), .call 88 [.bool (!decide ((e.Values.length : Int) = n9)), .i 2] [.cells (cE e), .cells [.i n8, .i n9, .undef]] [] [.bool (!decide ((e.Values.length : Int) = n9)), .i 2] (.i r17), .call 86 [.slice 2 0 3 3 1] [.cells (cE e), .cells [.i n8, .i n9, .undef], .cells [.i r12, .i r13, .i r17]] [2] [vl encI ([r12, r13, r17] : List Int)] (.i r18)] (an (qo (AllST.cons tI (AllST.cons tI (AllST.cons tI AllST.nil))) (zT e.Number 1 1000 e_r12) tI) (an (qo (AllST.cons tB (AllST.cons tI AllST.nil)) (qN (!is_10) 13 e_r13) tI) (an (congrArg (fun x => Pg.done (.bool x)) c14) (an (qo (AllST.cons tB (AllST.cons tI AllST.nil)) (qN (!decide ((e.Values.length : Int) = n9)) 2 e_r17) tI) (an (xz (FzL.cons (Fz.lit rfl rfl (FzL.still (AllST.cons tI (AllST.cons tI (AllST.cons tI AllST.nil))))) FzL.nil) (zN N ([r12, r13, r17] : List Int) e_r18) tI rfl) trivial)))))) (Sub.norm [] [some 0] rfl rfl (.keep (.ptr rfl) (.keep (.same nI) .nil)) (.keep rfl (.same (qg.cons nI (qg.cons nS (qg.cons (qj encS _) (qg.cons (qj encI _) (qg.cons nS qg.nil)))))) rfl rfl .nil))
  intro _ hsub
  refine Goes.sub hsub ?_
  refine sq (Goes.rg fol [(1, .ptr 0 0), (5, .i bad_19), (43, .bool (!decide (bad_19 = 0)))] [.cells (cE e)] ?_)
  refine Goes.ifB (b := !decide (bad_19 = 0)) (by kernel_rfl) (fun c21 => ?_) (fun c21 => ?_)
  · rw [if_pos (c21)] at h
    refine sq (Goes.rg fol [(2, .i bad_19)] [.cells (cE e)] ?_)
    refine Goes.ret ?_
    obtain rfl := si h
    exact (Goes.retW (xs := [.i bad_19]) (by kernel_rfl) (FzW.still tI))
  · rw [if_neg (nb c21)] at h
    refine Goes.skip ?_
    refine sq ?_
    refine sq (Goes.rg fol [(1, .ptr 0 0), (46, vl encS e.Names), (47, .i (e.Names.length : Int)), (48, .i 0)] [.cells (cE e)] ?_)
    refine Goes.block ?_
    obtain ⟨r23, g23, h⟩ := bnd h
    refine Goes.imp (Q := fun x s' => (x = .exit 0 ∧ (.inl ()) = r23 ∧ Sub s' (ofG 75 [(1, .ptr 0 0)], [.cells (cE e)])) ∨ (x = .ret ∧ ∃ q24, (.inr q24) = r23 ∧ zH Tryz.prog [.tmp 2] (.i q24) .ret s')) ?_ ?_
    · refine Goes.loopS (fun M s => ∃ (n22 : Int), s = (ofG 75 [(1, .ptr 0 0), (46, vl encS e.Names), (47, .i (e.Names.length : Int)), (48, .i n22)], [.cells (cE e)]) ∧ kY N e M n22 = some r23) ?_ (m := N) ⟨_, rfl, g23⟩
      rintro M s ⟨n22, rfl, g23⟩
      cases M with
      | zero => simp only [kY] at g23; cases g23
      | succ M =>
        rw [kY] at g23
        refine sq (Goes.rg fol [(1, .ptr 0 0), (46, vl encS e.Names), (47, .i (e.Names.length : Int)), (48, .i n22), (49, .bool (decide (n22 < (e.Names.length : Int))))] [.cells (cE e)] ?_)
        refine sq ?_
        refine Goes.ifB (b := decide (n22 < (e.Names.length : Int))) (by kernel_rfl) (fun c25 => ?_) (fun c25 => ?_)
        · rw [if_pos (ot c25)] at g23
          refine Goes.skip ?_
          refine sq (Goes.block ?_)
          refine sq ?_
          obtain ⟨x26, e_x26, g23⟩ := bnd g23
          refine Goes.rp fol [0, 1] [(1, .ptr 0 0), (7, .str x26), (46, vl encS e.Names), (47, .i (e.Names.length : Int)), (48, .i n22)] [.cells (cE e)] [.done (.opt (qd Tryz.prog 23 (vl encS e.Names) (.i n22))) (.fptr (e.Names.flatMap encS.c) ((n22 : Int).toNat * 1 + 0)), .done (qx Tryz.prog 9 (.fptr (e.Names.flatMap encS.c) ((n22 : Int).toNat * 1 + 0))) (.str x26)] (an (qB qaq (E := encS) rfl e_x26) (an (qA ce9 (E := encS) rfl e_x26 (nl rfl) rfl) trivial)) ?_
          refine sq ?_
          obtain ⟨r27, e_r27, g23⟩ := bnd g23
          refine Goes.rp fol [1] [(1, .ptr 0 0), (8, .i r27), (46, vl encS e.Names), (47, .i (e.Names.length : Int)), (48, .i n22)] [.cells (cE e)] [.call 89 [.str x26] [.cells (cE e)] [] [.str x26] (.i r27)] (an (qo (AllST.cons tS AllST.nil) (qaD N x26 e_r27) tI) trivial) ?_
          refine sq (Goes.rg fol [(1, .ptr 0 0), (8, .i r27), (46, vl encS e.Names), (47, .i (e.Names.length : Int)), (48, .i n22), (55, .bool (!decide (r27 = 0)))] [.cells (cE e)] ?_)
          refine Goes.ifB (b := !decide (r27 = 0)) (by kernel_rfl) (fun c28 => ?_) (fun c28 => ?_)
          · rw [if_pos (c28)] at g23
            refine sq (Goes.rg fol [(2, .i r27)] [.cells (cE e)] ?_)
            refine Goes.ret ?_
            obtain rfl := si g23
            exact Or.inr (⟨rfl, _, rfl, (Goes.retW (xs := [.i r27]) (by kernel_rfl) (FzW.still tI))⟩)
          · rw [if_neg (nb c28)] at g23
            refine Goes.skip ?_
            refine Goes.rg fol [(1, .ptr 0 0), (46, vl encS e.Names), (47, .i (e.Names.length : Int)), (48, .i (w64 (n22 + 1)))] [.cells (cE e)] ?_
            exact ⟨M, (ofG 75 [(1, .ptr 0 0), (46, vl encS e.Names), (47, .i (e.Names.length : Int)), (48, .i (w64 (n22 + 1)))], [.cells (cE e)]), Nat.lt_succ_self _, (Sub.refl _), _, rfl, g23⟩
        · rw [if_neg (of_ c25)] at g23
          refine Goes.exit ?_
          obtain rfl := si g23
          exact Or.inl (⟨rfl, rfl, (Sub.keep [1] rfl rfl)⟩)
    rintro x s' (⟨rfl, rfl, hsub⟩ | ⟨rfl, q38, rfl, hret⟩)
    · try dsimp only at h
      refine Goes.sub hsub ?_
      refine sq ?_
      refine sq (Goes.rg fol [(1, .ptr 0 0), (59, vl encI e.Values), (60, .i (e.Values.length : Int)), (61, .i 0)] [.cells (cE e)] ?_)
      refine Goes.block ?_
      obtain ⟨r30, g30, h⟩ := bnd h
      refine Goes.imp (Q := fun x s' => (x = .exit 2 ∧ (.inl ()) = r30 ∧ Sub s' (ofG 75 [(1, .ptr 0 0)], [.cells (cE e)])) ∨ (x = .ret ∧ ∃ q31, (.inr q31) = r30 ∧ zH Tryz.prog [.tmp 2] (.i q31) .ret s')) ?_ ?_
      · refine Goes.loopS (fun M s => ∃ (n29 : Int), s = (ofG 75 [(1, .ptr 0 0), (59, vl encI e.Values), (60, .i (e.Values.length : Int)), (61, .i n29)], [.cells (cE e)]) ∧ kV e M n29 = some r30) ?_ (m := N) ⟨_, rfl, g30⟩
        rintro M s ⟨n29, rfl, g30⟩
        cases M with
        | zero => simp only [kV] at g30; cases g30
        | succ M =>
          rw [kV] at g30
          refine sq (Goes.rg fol [(1, .ptr 0 0), (59, vl encI e.Values), (60, .i (e.Values.length : Int)), (61, .i n29), (62, .bool (decide (n29 < (e.Values.length : Int))))] [.cells (cE e)] ?_)
          refine sq ?_
          refine Goes.ifB (b := decide (n29 < (e.Values.length : Int))) (by kernel_rfl) (fun c32 => ?_) (fun c32 => ?_)
          · rw [if_pos (ot c32)] at g30
            refine Goes.skip ?_
            refine sq (Goes.block ?_)
            refine sq ?_
            obtain ⟨x33, e_x33, g30⟩ := bnd g30
            refine Goes.rp fol [0, 1] [(1, .ptr 0 0), (10, .i x33), (59, vl encI e.Values), (60, .i (e.Values.length : Int)), (61, .i n29)] [.cells (cE e)] [.done (.opt (qd Tryz.prog 24 (vl encI e.Values) (.i n29))) (.fptr (e.Values.flatMap encI.c) ((n29 : Int).toNat * 1 + 0)), .done (qx Tryz.prog 3 (.fptr (e.Values.flatMap encI.c) ((n29 : Int).toNat * 1 + 0))) (.i x33)] (an (qB zA (E := encI) rfl e_x33) (an (qA ce3 (E := encI) rfl e_x33 (nl rfl) rfl) trivial)) ?_
            refine sq ?_
            obtain ⟨r34, e_r34, g30⟩ := bnd g30
            refine Goes.rp fol [1] [(1, .ptr 0 0), (11, .i r34), (59, vl encI e.Values), (60, .i (e.Values.length : Int)), (61, .i n29)] [.cells (cE e)] [.call 87 [.i x33, .i 0, .i 999999999] [.cells (cE e)] [] [.i x33, .i 0, .i 999999999] (.i r34)] (an (qo (AllST.cons tI (AllST.cons tI (AllST.cons tI AllST.nil))) (zT x33 0 999999999 e_r34) tI) trivial) ?_
            refine sq (Goes.rg fol [(1, .ptr 0 0), (11, .i r34), (59, vl encI e.Values), (60, .i (e.Values.length : Int)), (61, .i n29), (68, .bool (!decide (r34 = 0)))] [.cells (cE e)] ?_)
            refine Goes.ifB (b := !decide (r34 = 0)) (by kernel_rfl) (fun c35 => ?_) (fun c35 => ?_)
            · rw [if_pos (c35)] at g30
              refine sq (Goes.rg fol [(2, .i r34)] [.cells (cE e)] ?_)
              refine Goes.ret ?_
              obtain rfl := si g30
              exact Or.inr (⟨rfl, _, rfl, (Goes.retW (xs := [.i r34]) (by kernel_rfl) (FzW.still tI))⟩)
            · rw [if_neg (nb c35)] at g30
              refine Goes.skip ?_
              refine Goes.rg fol [(1, .ptr 0 0), (59, vl encI e.Values), (60, .i (e.Values.length : Int)), (61, .i (w64 (n29 + 1)))] [.cells (cE e)] ?_
              exact ⟨M, (ofG 75 [(1, .ptr 0 0), (59, vl encI e.Values), (60, .i (e.Values.length : Int)), (61, .i (w64 (n29 + 1)))], [.cells (cE e)]), Nat.lt_succ_self _, (Sub.refl _), _, rfl, g30⟩
          · rw [if_neg (of_ c32)] at g30
            refine Goes.exit ?_
            obtain rfl := si g30
            exact Or.inl (⟨rfl, rfl, (Sub.keep [1] rfl rfl)⟩)
      rintro x s' (⟨rfl, rfl, hsub⟩ | ⟨rfl, q37, rfl, hret⟩)
      · try dsimp only at h
        refine Goes.sub hsub ?_
        refine sq ?_
        obtain ⟨r36, e_r36, h⟩ := bnd h
        refine Goes.rp fol [3] [(2, .i r36)] [.cells (cE e)] [.call 88 [.bool (!(e.Text == [])), .i 1] [.cells (cE e)] [] [.bool (!(e.Text == [])), .i 1] (.i r36)] (an (qo (AllST.cons tB (AllST.cons tI AllST.nil)) (qN (!(e.Text == [])) 1 e_r36) tI) trivial) ?_
        refine Goes.ret ?_
        obtain rfl := si h
        exact (Goes.retW (xs := [.i r36]) (by kernel_rfl) (FzW.still tI))
      · try dsimp only at h
        obtain rfl := si h
        exact hret
    · try dsimp only at h
      obtain rfl := si h
      exact hret
def jH  : Option (List Str) :=
  qeb (some []) ((app 16 ([] : List Str) ([] : List Str)).bind fun l1 =>
  some l1)
theorem xY  {res : List Str} (h : jH  = some res) : qy Tryz.prog (.fn 165) [vl encS ([] : List Str)] [] (vl encS res) [] := by
  unfold jH at h
  refine Goes.fnW Tryz.func165 rfl rfl (m := 8) rfl (rs := [.tmp 2]) rfl (l := [(0, vl encS ([] : List Str))]) rfl ?_
  refine sq (Goes.rg fol [(0, vl encS ([] : List Str))] [] ?_)
  refine sq ?_
  refine sq (Goes.rg fol [(0, vl encS ([] : List Str)), (4, .anyb)] [] ?_)
  refine Goes.condAny (by kernel_rfl) ?_ ?_
  · replace h := (qaw h).1
    refine sq (Goes.rg fol [(2, .nilslice)] [] ?_)
    refine Goes.ret ?_
    obtain rfl := si h
    exact (Goes.retW (xs := [.nilslice]) (by kernel_rfl) (FzW.nilv (E := encS)))
  · replace h := (qaw h).2
    refine Goes.skip ?_
    refine sq ?_
    obtain ⟨l1, e_l1, h⟩ := bnd h
    refine Goes.rp fol [2] [(2, .oslice 1 l1.length 1)] [.dead, .cells (l1.flatMap encS.c)] [.run [0] (zz Tryz.prog [23, 23] (.slice 0 0 0 0 1) (vl encS ([] : List Str))) [.cells []] (.oslice 1 l1.length 1) [.dead, .cells (l1.flatMap encS.c)] true] (an (vO qaq (E := encS) rfl (qbV (E := encS) rfl _) (qdf (E := encS) rfl rfl rfl e_l1 rfl)) trivial) ?_
    refine Goes.ret ?_
    obtain rfl := si h
    exact (Goes.retW (xs := [.oslice 1 l1.length 1]) (by kernel_rfl) (FzW.fz (Fz.os (E := encS) rfl rfl (nl rfl))))
def jG (x : Str) (xs : List Str) : Option (List Str) :=
  (app 16 ([] : List Str) (x :: xs)).bind fun l1 =>
  some l1
theorem xZ (x : Str) (xs : List Str) {res : List Str} (h : jG x xs = some res) : qy Tryz.prog (.fn 165) [vl encS (x :: xs)] [] (vl encS res) [] := by
  unfold jG at h
  refine Goes.fnW Tryz.func165 rfl rfl (m := 8) rfl (rs := [.tmp 2]) rfl (l := [(0, vl encS (x :: xs))]) rfl ?_
  refine sq (Goes.rg fol [(0, vl encS (x :: xs))] [] ?_)
  refine sq ?_
  refine sq (Goes.rg fol [(0, vl encS (x :: xs)), (4, .bool false)] [] ?_)
  refine Goes.ifB (b := false) (by kernel_rfl) (fun c => (by cases c)) (fun _ => ?_)
  refine Goes.skip ?_
  refine sq ?_
  obtain ⟨l1, e_l1, h⟩ := bnd h
  refine Goes.rp fol [2] [(2, .oslice 1 l1.length 1)] [.dead, .cells (l1.flatMap encS.c)] [.run [0] (zz Tryz.prog [23, 23] (.slice 0 0 0 0 1) (vl encS (x :: xs))) [.cells []] (.oslice 1 l1.length 1) [.dead, .cells (l1.flatMap encS.c)] true] (an (vO qaq (E := encS) rfl (qbV (E := encS) rfl _) (qdf (E := encS) rfl rfl rfl e_l1 rfl)) trivial) ?_
  refine Goes.ret ?_
  obtain rfl := si h
  exact (Goes.retW (xs := [.oslice 1 l1.length 1]) (by kernel_rfl) (FzW.fz (Fz.os (E := encS) rfl rfl (nl rfl))))
def slices_Clone_string : List Str → Option (List Str)
  | [] => jH
  | x :: xs => jG x xs
theorem qao (l : List Str) {res : List Str} (h : slices_Clone_string l = some res) : qy Tryz.prog (.fn 165) [vl encS l] [] (vl encS res) [] := by
  cases l with
  | nil => exact xY h
  | cons x xs => exact xZ x xs h
def vg  : Option (List Int) :=
  qeb (some []) ((app 8 ([] : List Int) ([] : List Int)).bind fun l1 =>
  some l1)
theorem qaH  {res : List Int} (h : vg  = some res) : qy Tryz.prog (.fn 166) [vl encI ([] : List Int)] [] (vl encI res) [] := by
  unfold vg at h
  refine Goes.fnW Tryz.func166 rfl rfl (m := 8) rfl (rs := [.tmp 2]) rfl (l := [(0, vl encI ([] : List Int))]) rfl ?_
  refine sq (Goes.rg fol [(0, vl encI ([] : List Int))] [] ?_)
  refine sq ?_
  refine sq (Goes.rg fol [(0, vl encI ([] : List Int)), (4, .anyb)] [] ?_)
  refine Goes.condAny (by kernel_rfl) ?_ ?_
  · replace h := (qaw h).1
    refine sq (Goes.rg fol [(2, .nilslice)] [] ?_)
    refine Goes.ret ?_
    obtain rfl := si h
    exact (Goes.retW (xs := [.nilslice]) (by kernel_rfl) (FzW.nilv (E := encI)))
  · replace h := (qaw h).2
    refine Goes.skip ?_
    refine sq ?_
    obtain ⟨l1, e_l1, h⟩ := bnd h
    refine Goes.rp fol [2] [(2, .oslice 1 l1.length 1)] [.dead, .cells (l1.flatMap encI.c)] [.run [0] (zz Tryz.prog [24, 24] (.slice 0 0 0 0 1) (vl encI ([] : List Int))) [.cells []] (.oslice 1 l1.length 1) [.dead, .cells (l1.flatMap encI.c)] true] (an (vO zA (E := encI) rfl (qbV (E := encI) rfl _) (qdf (E := encI) rfl rfl rfl e_l1 rfl)) trivial) ?_
    refine Goes.ret ?_
    obtain rfl := si h
    exact (Goes.retW (xs := [.oslice 1 l1.length 1]) (by kernel_rfl) (FzW.fz (Fz.os (E := encI) rfl rfl (nl rfl))))
def ve (x : Int) (xs : List Int) : Option (List Int) :=
  (app 8 ([] : List Int) (x :: xs)).bind fun l1 =>
  some l1
theorem qaK (x : Int) (xs : List Int) {res : List Int} (h : ve x xs = some res) : qy Tryz.prog (.fn 166) [vl encI (x :: xs)] [] (vl encI res) [] := by
  unfold ve at h
  refine Goes.fnW Tryz.func166 rfl rfl (m := 8) rfl (rs := [.tmp 2]) rfl (l := [(0, vl encI (x :: xs))]) rfl ?_
  refine sq (Goes.rg fol [(0, vl encI (x :: xs))] [] ?_)
  refine sq ?_
  refine sq (Goes.rg fol [(0, vl encI (x :: xs)), (4, .bool false)] [] ?_)
  refine Goes.ifB (b := false) (by kernel_rfl) (fun c => (by cases c)) (fun _ => ?_)
  refine Goes.skip ?_
  refine sq ?_
  obtain ⟨l1, e_l1, h⟩ := bnd h
  refine Goes.rp fol [2] [(2, .oslice 1 l1.length 1)] [.dead, .cells (l1.flatMap encI.c)] [.run [0] (zz Tryz.prog [24, 24] (.slice 0 0 0 0 1) (vl encI (x :: xs))) [.cells []] (.oslice 1 l1.length 1) [.dead, .cells (l1.flatMap encI.c)] true] (an (vO zA (E := encI) rfl (qbV (E := encI) rfl _) (qdf (E := encI) rfl rfl rfl e_l1 rfl)) trivial) ?_
  refine Goes.ret ?_
  obtain rfl := si h
  exact (Goes.retW (xs := [.oslice 1 l1.length 1]) (by kernel_rfl) (FzW.fz (Fz.os (E := encI) rfl rfl (nl rfl))))
def slices_Clone_int : List Int → Option (List Int)
  | [] => vg
  | x :: xs => ve x xs
theorem qbl (l : List Int) {res : List Int} (h : slices_Clone_int l = some res) : qy Tryz.prog (.fn 166) [vl encI l] [] (vl encI res) [] := by
  cases l with
  | nil => exact qaH h
  | cons x xs => exact qaK x xs h
def zw (e : ql) : Option ql :=
  (slices_Clone_string e.Names).bind fun r1 =>
  (slices_Clone_int e.Values).bind fun r2 =>
  some (⟨e.Number, e.Kind, r1, r2, e.Text⟩ : ql)
theorem yH (e : ql) {res : ql} (h : zw e = some res) : qy Tryz.prog (.fn 115) [.agg (cE e)] [] (.agg (cE res)) [] := by
  unfold zw at h
  refine Goes.fnW Tryz.func115 rfl rfl (m := 12) rfl (rs := [.cell 2 26]) rfl (l := [(0, .agg (cE e))]) rfl ?_
  refine sq (Goes.rg fol [(1, .ptr 0 0), (2, .ptr 1 0)] [.cells (cE e), .cells [.i 0, .str [], .nilslice, .nilslice, .str []]] ?_)
  refine sq ?_
  obtain ⟨r1, e_r1, h⟩ := bnd h
  obtain ⟨r2, e_r2, h⟩ := bnd h
  refine Goes.rp fol [2, 5] [(1, .ptr 0 0), (2, .ptr 1 0)] [.cells [.i e.Number, .str e.Kind, vl encS r1, vl encI r2, .str e.Text], .cells [.i 0, .str [], .nilslice, .nilslice, .str []]] [.call 165 [vl encS e.Names] [.cells (cE e), .cells [.i 0, .str [], .nilslice, .nilslice, .str []]] [] [vl encS e.Names] (vl encS r1), .call 166 [vl encI e.Values] [.cells (cE e), .cells [.i 0, .str [], .nilslice, .nilslice, .str []]] [] [vl encI e.Values] (vl encI r2)] (an (qo (AllST.cons (qD encS _ (nl rfl)) AllST.nil) (qao e.Names e_r1) (qD encS _ (nl rfl))) (an (qo (AllST.cons (qD encI _ (nl rfl)) AllST.nil) (qbl e.Values e_r2) (qD encI _ (nl rfl))) trivial)) ?_
  refine sq (Goes.rg fol [(2, .ptr 1 0)] [.cells [.i e.Number, .str e.Kind, vl encS r1, vl encI r2, .str e.Text], .cells [.i e.Number, .str e.Kind, vl encS r1, vl encI r2, .str e.Text]] ?_)
  refine Goes.ret ?_
  obtain rfl := si h
  exact (Goes.retW (xs := [.agg [.i e.Number, .str e.Kind, vl encS r1, vl encI r2, .str e.Text]]) (by kernel_rfl) (FzW.agg (qK.cons (FzW.still tI) (qK.cons (FzW.still tS) (qK.cons (FzW.still (qD encS _ (nl rfl))) (qK.cons (FzW.still (qD encI _ (nl rfl))) (qK.cons (FzW.still tS) qK.nil)))))))
end Go.Av
