/-
  Walks of functions: what each computes, as a plain function.
-/
import Derived.Test.YtjflombnfhlkaaaGreatDoorQGenW2
noncomputable section
namespace Go.Av
open Go.Proofs Go.RowKit
set_option linter.unusedSectionVars false
set_option linter.unusedVariables false
set_option linter.unusedSimpArgs false
set_option maxRecDepth 100000
variable [Glob]
def zI (l2 : List qc) (x4 : Str) : Nat → Int → Int → Option (Int × Int)
  | 0, _, _ => none
  | K + 1, n8, at__9 =>
    (if at__9 < (l2.length : Int) then
    (idx l2 at__9).bind fun x14 =>
    some (ltL x14.Name x4)
    else
    some false : Option Bool).bind fun b15 =>
    if b15 = true then
    zI l2 x4 K n8 (w64 (at__9 + 1))
    else
    some (n8, at__9)
def zq (e : ql) (x1 : Int) : Nat → (List qc) → Int → Option (List qc)
  | 0, _, _ => none
  | K + 1, l23, i_24 =>
    if i_24 < (l23.length : Int) then
    (((idx l23 i_24).bind fun x30 =>
    (idx e.Names 0).bind fun x31 =>
    (if (e.Kind == [116, 101, 115, 116]) = true then
    some (x30.Name == x31)
    else
    some false : Option Bool).bind fun b33 =>
    if b33 = true then
    (idx e.Values 1).bind fun x36 =>
    (put l23 i_24 (⟨x30.Name, x30.Batch, x30.Born, x30.Last, x30.Uses, x30.Used, w64 (x36.tdiv 2), x30.Until, x30.Gone⟩ : qc)).bind fun l37 =>
    (idx l37 i_24).bind fun x38 =>
    (put l37 i_24 (⟨x38.Name, x38.Batch, x38.Born, x38.Last, x38.Uses, x38.Used, x38.Limit, (if x38.Last < (w64 (x1 + 365)) then x38.Last else (w64 (x1 + 365))), x38.Gone⟩ : qc)).bind fun l39 =>
    some l39
    else
    (if (e.Kind == [117, 115, 101]) = true then
    some (x30.Name == x31)
    else
    some false : Option Bool).bind fun b41 =>
    if b41 = true then
    (put l23 i_24 (⟨x30.Name, x30.Batch, x30.Born, x30.Last, x30.Uses, w64 (x30.Used + 1), x30.Limit, x30.Until, x30.Gone⟩ : qc)).bind fun l44 =>
    some l44
    else
    (if (e.Kind == [102, 97, 105, 108]) = true then
    some (x30.Name == x31)
    else
    some false : Option Bool).bind fun b46 =>
    ((if b46 = true then
    some b46
    else
    (if (e.Kind == [114, 101, 99, 97, 108, 108]) = true then
    some (x30.Batch == x31)
    else
    some false : Option Bool).bind fun b52 =>
    some b52 : Option Bool)).bind fun b48 =>
    if b48 = true then
    (put l23 i_24 (⟨x30.Name, x30.Batch, x30.Born, x30.Last, x30.Uses, x30.Used, x30.Limit, x30.Until, true⟩ : qc)).bind fun l55 =>
    some l55
    else
    some l23 : Option (List qc))).bind fun l28 =>
    zq e x1 K l28 (w64 (i_24 + 1))
    else
    some l23
def kW (N : Nat) (r : qI) (e : ql) : Option qI :=
  (idx e.Values 0).bind fun x1 =>
  (app 88 ([] : List qc) r.Slings).bind fun l2 =>
  if (e.Kind == [109, 97, 107, 101]) = true then
  (idx e.Names 0).bind fun x4 =>
  (idx e.Names 1).bind fun x5 =>
  (idx e.Values 1).bind fun x6 =>
  (idx e.Values 2).bind fun x7 =>
  (zI l2 x4 N (w64 (x1 + x6)) 0).bind fun (n10, at__11) =>
  (cut l2 0 at__11).bind fun s18 =>
  (app 88 ([] : List qc) s18).bind fun l19 =>
  (app 88 l19 [(⟨x4, x5, x1, n10, x7, 0, 0, 0, false⟩ : qc)]).bind fun l20 =>
  (cut l2 at__11 (l2.length : Int)).bind fun s21 =>
  (app 88 l20 s21).bind fun l22 =>
  some (⟨x1, l22⟩ : qI)
  else
  (zq e x1 N l2 0).bind fun l25 =>
  some (⟨x1, l25⟩ : qI)
theorem qdU (N : Nat) (r : qI) (e : ql) {res : qI} (h : kW N r e = some res) : qy Tryz.prog (.fn 140) [.agg [.i r.Day, vl qa r.Slings], .agg (cE e)] [] (.agg [.i res.Day, vl qa res.Slings]) [] := by
  unfold kW at h
  refine Goes.fnW Tryz.func140 rfl rfl (m := 162) rfl (rs := [.cell 4 37]) rfl (l := [(0, .agg [.i r.Day, vl qa r.Slings]), (1, .agg (cE e))]) rfl ?_
  refine sq (Goes.rg fol [(2, .ptr 0 0), (3, .ptr 1 0), (4, .ptr 2 0)] [.cells [.i r.Day, vl qa r.Slings], .cells (cE e), bZ] ?_)
  refine sq ?_
  obtain ⟨x1, e_x1, h⟩ := bnd h
  refine Goes.rp fol [2, 3] [(2, .ptr 0 0), (3, .ptr 1 0), (4, .ptr 2 0), (5, .i x1)] [.cells [.i r.Day, vl qa r.Slings], .cells (cE e), bZ] [.done (.opt (qd Tryz.prog 24 (vl encI e.Values) (.i 0))) (.fptr (e.Values.flatMap encI.c) ((0 : Int).toNat * 1 + 0)), .done (qx Tryz.prog 3 (.fptr (e.Values.flatMap encI.c) ((0 : Int).toNat * 1 + 0))) (.i x1)] (an (qB zA (E := encI) rfl e_x1) (an (qA ce3 (E := encI) rfl e_x1 (nl rfl) rfl) trivial)) ?_
  refine sq (Goes.rg fol [(2, .ptr 0 0), (3, .ptr 1 0), (4, .ptr 2 0), (5, .i x1)] [.cells [.i x1, vl qa r.Slings], .cells (cE e), bZ] ?_)
  refine sq ?_
  obtain ⟨l2, e_l2, h⟩ := bnd h
  refine Goes.rp fol [3] [(2, .ptr 0 0), (3, .ptr 1 0), (4, .ptr 2 0), (5, .i x1), (6, .oslice 4 l2.length 9)] [.cells [.i x1, vl qa r.Slings], .cells (cE e), bZ, .dead, bS l2] [.run [3] (zz Tryz.prog [35, 35] (.slice 3 0 0 0 9) (vl qa r.Slings)) [.cells [.i x1, vl qa r.Slings], .cells (cE e), bZ, .cells []] (.oslice 4 l2.length 9) [.cells [.i x1, vl qa r.Slings], .cells (cE e), bZ, .dead, bS l2] true] (an (vO qal (E := qa) rfl (qbV (E := qa) rfl _) (qdf (E := qa) rfl rfl rfl e_l2 rfl)) trivial) ?_
  refine sq ?_
  refine sq (Goes.rg fol [(2, .ptr 0 0), (3, .ptr 1 0), (4, .ptr 2 0), (5, .i x1), (6, .oslice 4 l2.length 9), (23, .bool (e.Kind == [109, 97, 107, 101]))] [.cells [.i x1, vl qa r.Slings], .cells (cE e), bZ, .dead, bS l2] ?_)
  refine Goes.ifB (b := e.Kind == [109, 97, 107, 101]) (by kernel_rfl) (fun c3 => ?_) (fun c3 => ?_)
  · rw [if_pos (c3)] at h
    refine sq ?_
    obtain ⟨x4, e_x4, h⟩ := bnd h
    obtain ⟨x5, e_x5, h⟩ := bnd h
    obtain ⟨x6, e_x6, h⟩ := bnd h
    obtain ⟨x7, e_x7, h⟩ := bnd h
    refine Goes.rp fol [2, 3, 6, 7, 12, 13, 17, 18] [(2, .ptr 0 0), (4, .ptr 2 0), (6, .oslice 4 l2.length 9), (7, .ptr 5 0)] [.cells [.i x1, vl qa r.Slings], .cells (cE e), bZ, .dead, bS l2, .cells [.str x4, .str x5, .i x1, .i (w64 (x1 + x6)), .i x7, .i 0, .i 0, .i 0, .bool false]] [.done (.opt (qd Tryz.prog 23 (vl encS e.Names) (.i 0))) (.fptr (e.Names.flatMap encS.c) ((0 : Int).toNat * 1 + 0)), .done (qx Tryz.prog 9 (.fptr (e.Names.flatMap encS.c) ((0 : Int).toNat * 1 + 0))) (.str x4), .done (.opt (qd Tryz.prog 23 (vl encS e.Names) (.i 1))) (.fptr (e.Names.flatMap encS.c) ((1 : Int).toNat * 1 + 0)), .done (qx Tryz.prog 9 (.fptr (e.Names.flatMap encS.c) ((1 : Int).toNat * 1 + 0))) (.str x5), .done (.opt (qd Tryz.prog 24 (vl encI e.Values) (.i 1))) (.fptr (e.Values.flatMap encI.c) ((1 : Int).toNat * 1 + 0)), .done (qx Tryz.prog 3 (.fptr (e.Values.flatMap encI.c) ((1 : Int).toNat * 1 + 0))) (.i x6), .done (.opt (qd Tryz.prog 24 (vl encI e.Values) (.i 2))) (.fptr (e.Values.flatMap encI.c) ((2 : Int).toNat * 1 + 0)), .done (qx Tryz.prog 3 (.fptr (e.Values.flatMap encI.c) ((2 : Int).toNat * 1 + 0))) (.i x7)] (an (qB qaq (E := encS) rfl e_x4) (an (qA ce9 (E := encS) rfl e_x4 (nl rfl) rfl) (an (qB qaq (E := encS) rfl e_x5) (an (qA ce9 (E := encS) rfl e_x5 (nl rfl) rfl) (an (qB zA (E := encI) rfl e_x6) (an (qA ce3 (E := encI) rfl e_x6 (nl rfl) rfl) (an (qB zA (E := encI) rfl e_x7) (an (qA ce3 (E := encI) rfl e_x7 (nl rfl) rfl) trivial)))))))) ?_
    refine sq (Goes.rg fol [(2, .ptr 0 0), (4, .ptr 2 0), (6, .oslice 4 l2.length 9), (7, .ptr 5 0), (8, .i 0)] [.cells [.i x1, vl qa r.Slings], .cells (cE e), bZ, .dead, bS l2, .cells [.str x4, .str x5, .i x1, .i (w64 (x1 + x6)), .i x7, .i 0, .i 0, .i 0, .bool false]] ?_)
    refine sq (Goes.block ?_)
    obtain ⟨r12, g12, h⟩ := bnd h
    refine Goes.imp (Q := fun x s' => (x = .exit 0 ∧ ∃ n10 at__11, (n10, at__11) = r12 ∧ Sub s' (ofG 162 [(2, .ptr 0 0), (4, .ptr 1 0), (6, .oslice 2 l2.length 9), (7, .ptr 3 0), (8, .i at__11)], [.cells [.i x1, vl qa r.Slings], bZ, bS l2, .cells (cT x4 x5 x1 n10 x7 0 0 0 false)]))) ?_ ?_
    · refine Goes.sub (s' := (ofG 162 [(2, .ptr 0 0), (4, .ptr 1 0), (6, .oslice 2 l2.length 9), (7, .ptr 3 0), (8, .i 0)], [.cells [.i x1, vl qa r.Slings], bZ, bS l2, .cells [.str x4, .str x5, .i x1, .i (w64 (x1 + x6)), .i x7, .i 0, .i 0, .i 0, .bool false]])) (Sub.norm [] [some 0, some 2, some 4, some 5] rfl rfl (.keep (.ptr rfl) (.keep (.ptr rfl) (.keep (.oslice rfl) (.keep (.ptr rfl) (.keep (.same nI) .nil))))) (.keep rfl (.same (qg.cons nI (qg.cons (qj qa _) qg.nil))) rfl rfl (.keep rfl (.same (qg.cons nI (qg.cons (qC.nilslice) qg.nil))) rfl rfl (.keep rfl (.same fa) rfl rfl (.keep rfl (.same (qg.cons nS (qg.cons nS (qg.cons nI (qg.cons nI (qg.cons nI (qg.cons nI (qg.cons nI (qg.cons nI (qg.cons nB qg.nil)))))))))) rfl rfl .nil))))) ?_
      refine Goes.loopS (fun M s => ∃ (n8 : Int) (at__9 : Int), s = (ofG 162 [(2, .ptr 0 0), (4, .ptr 1 0), (6, .oslice 2 l2.length 9), (7, .ptr 3 0), (8, .i at__9)], [.cells [.i x1, vl qa r.Slings], bZ, bS l2, .cells (cT x4 x5 x1 n8 x7 0 0 0 false)]) ∧ zI l2 x4 M n8 at__9 = some r12) ?_ (m := N) ⟨_, _, rfl, g12⟩
      rintro M s ⟨n8, at__9, rfl, g12⟩
      cases M with
      | zero => simp only [zI] at g12; cases g12
      | succ M =>
        rw [zI] at g12
        refine sq ?_
        refine sq ?_
        obtain ⟨b15, g_v16, g12⟩ := bnd g12
        refine Goes.cut (s' := (ofG 162 [(2, .ptr 0 0), (4, .ptr 1 0), (6, .oslice 2 l2.length 9), (7, .ptr 3 0), (8, .i at__9), (57, .bool b15)], [.cells [.i x1, vl qa r.Slings], bZ, bS l2, .cells (cT x4 x5 x1 n8 x7 0 0 0 false)])) ?_ ?_
        · rcases Bool.eq_false_or_eq_true (decide (at__9 < (l2.length : Int))) with c13 | c13
          · rw [if_pos (ot c13)] at g_v16
            obtain ⟨x14, e_x14, g_v16⟩ := bnd g_v16
            obtain rfl := si g_v16
            exact qm.rp fol [4, 7, 9] [(2, .ptr 0 0), (4, .ptr 1 0), (6, .oslice 2 l2.length 9), (7, .ptr 3 0), (8, .i at__9), (57, .bool (ltL x14.Name x4))] [.cells [.i x1, vl qa r.Slings], bZ, bS l2, .cells (cT x4 x5 x1 n8 x7 0 0 0 false)] [.done (.done (.bool (decide (at__9 < (l2.length : Int))))) (.bool true), .done (.opt (qd Tryz.prog 35 (.oslice 2 l2.length 9) (.i at__9))) (.ptr 2 ((at__9 : Int).toNat * 9 + 0)), .run [2] (qx Tryz.prog 9 (.ptr 2 ((at__9 : Int).toNat * 9 + 0))) [.cells [.i x1, vl qa r.Slings], bZ, bS l2, .cells (cT x4 x5 x1 n8 x7 0 0 0 false)] (.str x14.Name) [.cells [.i x1, vl qa r.Slings], bZ, bS l2, .cells (cT x4 x5 x1 n8 x7 0 0 0 false)] false] (an (congrArg (fun x => Pg.done (.bool x)) c13) (an (qbo qal e_x14) (an (qeI ce9 (E := qa) (l := l2) rfl rfl e_x14 (nl rfl) rfl) trivial)))
          · rw [if_neg (of_ c13)] at g_v16
            obtain rfl := si g_v16
            exact qm.rp fol [4] [(2, .ptr 0 0), (4, .ptr 1 0), (6, .oslice 2 l2.length 9), (7, .ptr 3 0), (8, .i at__9), (57, .bool false)] [.cells [.i x1, vl qa r.Slings], bZ, bS l2, .cells (cT x4 x5 x1 n8 x7 0 0 0 false)] [.done (.done (.bool (decide (at__9 < (l2.length : Int))))) (.bool false)] (an (congrArg (fun x => Pg.done (.bool x)) c13) trivial)
        refine Goes.ifB (b := b15) (by kernel_rfl) (fun c17 => ?_) (fun c17 => ?_)
        · rw [if_pos (c17)] at g12
          refine Goes.skip ?_
          refine Goes.block ?_
          refine Goes.rg fol [(2, .ptr 0 0), (4, .ptr 1 0), (6, .oslice 2 l2.length 9), (7, .ptr 3 0), (8, .i (w64 (at__9 + 1)))] [.cells [.i x1, vl qa r.Slings], bZ, bS l2, .cells (cT x4 x5 x1 n8 x7 0 0 0 false)] ?_
          exact ⟨M, (ofG 162 [(2, .ptr 0 0), (4, .ptr 1 0), (6, .oslice 2 l2.length 9), (7, .ptr 3 0), (8, .i (w64 (at__9 + 1)))], [.cells [.i x1, vl qa r.Slings], bZ, bS l2, .cells (cT x4 x5 x1 n8 x7 0 0 0 false)]), Nat.lt_succ_self _, (Sub.refl _), _, _, rfl, g12⟩
        · rw [if_neg (nb c17)] at g12
          refine Goes.exit ?_
          obtain rfl := si g12
          exact ⟨rfl, _, _, rfl, (Sub.keep [2, 4, 6, 7, 8] rfl rfl)⟩
    rintro x s' ⟨rfl, n10, at__11, rfl, hsub⟩
    try dsimp only at h
    refine Goes.sub hsub ?_
    refine sq (Goes.sub (s' := (ofG 162 [(2, .ptr 0 0), (4, .ptr 1 0), (6, vl qa l2), (7, .ptr 2 0), (8, .i at__11)], [.cells [.i x1, vl qa r.Slings], bZ, .cells (cT x4 x5 x1 n10 x7 0 0 0 false)])) (Sub.norm [2] [some 0, some 1, some 3] rfl rfl (.keep (.ptr rfl) (.keep (.ptr rfl) (.keep (.frz (Fz.os (E := qa) rfl rfl (nl rfl)) (qj qa _)) (.keep (.ptr rfl) (.keep (.same nI) .nil))))) (.keep rfl (.same (qg.cons nI (qg.cons (qj qa _) qg.nil))) rfl rfl (.keep rfl (.same (qg.cons nI (qg.cons (qC.nilslice) qg.nil))) rfl rfl (.keep rfl (.same (qg.cons nS (qg.cons nS (qg.cons nI (qg.cons nI (qg.cons nI (qg.cons nI (qg.cons nI (qg.cons nI (qg.cons nB qg.nil)))))))))) rfl rfl .nil)))) ?_)
    obtain ⟨s18, e_s18, h⟩ := bnd h
    obtain ⟨l19, e_l19, h⟩ := bnd h
    obtain ⟨l20, e_l20, h⟩ := bnd h
    obtain ⟨s21, e_s21, h⟩ := bnd h
    obtain ⟨l22, e_l22, h⟩ := bnd h
    refine Goes.rp fol [3, 4, 7, 10, 11] [(2, .ptr 0 0), (4, .ptr 1 0)] [.cells [.i x1, .oslice 7 l22.length 9], bZ, .cells (cT x4 x5 x1 n10 x7 0 0 0 false), .dead, .dead, .cells (cT x4 x5 x1 n10 x7 0 0 0 false), .dead, bS l22] [.done (.opt (zg Tryz.prog 35 (vl qa l2) none (some (.i at__11)) none)) (vl qa s18), .run [3] (zz Tryz.prog [35, 35] (.slice 3 0 0 0 9) (vl qa s18)) [.cells [.i x1, vl qa r.Slings], bZ, .cells (cT x4 x5 x1 n10 x7 0 0 0 false), .cells []] (.oslice 4 l19.length 9) [.cells [.i x1, vl qa r.Slings], bZ, .cells (cT x4 x5 x1 n10 x7 0 0 0 false), .dead, bS l19] true, .run [4, 5] (zz Tryz.prog [35, 35] (.oslice 4 l19.length 9) (.slice 5 0 1 1 9)) [.cells [.i x1, vl qa r.Slings], bZ, .cells (cT x4 x5 x1 n10 x7 0 0 0 false), .dead, bS l19, .cells (cT x4 x5 x1 n10 x7 0 0 0 false)] (.oslice 6 l20.length 9) [.cells [.i x1, vl qa r.Slings], bZ, .cells (cT x4 x5 x1 n10 x7 0 0 0 false), .dead, .dead, .cells (cT x4 x5 x1 n10 x7 0 0 0 false), bS l20] true, .done (.opt (zg Tryz.prog 35 (vl qa l2) (some (.i at__11)) none none)) (vl qa s21), .run [6] (zz Tryz.prog [35, 35] (.oslice 6 l20.length 9) (vl qa s21)) [.cells [.i x1, vl qa r.Slings], bZ, .cells (cT x4 x5 x1 n10 x7 0 0 0 false), .dead, .dead, .cells (cT x4 x5 x1 n10 x7 0 0 0 false), bS l20] (.oslice 7 l22.length 9) [.cells [.i x1, vl qa r.Slings], bZ, .cells (cT x4 x5 x1 n10 x7 0 0 0 false), .dead, .dead, .cells (cT x4 x5 x1 n10 x7 0 0 0 false), .dead, bS l22] true] (an (qdy qal (E := qa) rfl none (some at__11) e_s18) (an (vO qal (E := qa) rfl (qbV (E := qa) rfl _) (qdf (E := qa) rfl rfl rfl e_l19 rfl)) (an (vO qal (E := qa) rfl (qdg (E := qa) (ys := [(⟨x4, x5, x1, n10, x7, 0, 0, 0, false⟩ : qc)]) rfl rfl rfl rfl) (qgz (E := qa) (l := l19) rfl rfl rfl e_l20 rfl)) (an (qdy qal (E := qa) rfl (some at__11) none e_s21) (an (vO qal (E := qa) rfl (qbV (E := qa) rfl _) (qgz (E := qa) (l := l20) rfl rfl rfl e_l22 rfl)) trivial))))) ?_
    refine sq (Goes.rg fol [(4, .ptr 1 0)] [.cells [.i x1, .oslice 7 l22.length 9], .cells [.i x1, .oslice 7 l22.length 9], .cells (cT x4 x5 x1 n10 x7 0 0 0 false), .dead, .dead, .cells (cT x4 x5 x1 n10 x7 0 0 0 false), .dead, bS l22] ?_)
    refine Goes.ret ?_
    obtain rfl := si h
    exact (Goes.retW (xs := [.agg [.i x1, .oslice 7 l22.length 9]]) (by kernel_rfl) (FzW.agg (qK.cons (FzW.still tI) (qK.cons (FzW.fz (Fz.os (E := qa) rfl rfl (nl rfl))) qK.nil))))
  · rw [if_neg (nb c3)] at h
    refine Goes.skip ?_
    refine sq ?_
    refine sq (Goes.rg fol [(2, .ptr 0 0), (3, .ptr 1 0), (4, .ptr 2 0), (5, .i x1), (6, .oslice 4 l2.length 9), (9, .i 0)] [.cells [.i x1, vl qa r.Slings], .cells (cE e), bZ, .dead, bS l2] ?_)
    refine Goes.block ?_
    obtain ⟨r26, g26, h⟩ := bnd h
    refine Goes.imp (Q := fun x s' => (x = .exit 2 ∧ ∃ l25, l25 = r26 ∧ Sub s' (ofG 162 [(2, .ptr 0 0), (4, .ptr 1 0), (6, .oslice 2 l25.length 9)], [.cells [.i x1, vl qa r.Slings], bZ, bS l25]))) ?_ ?_
    · refine Goes.sub (s' := (ofG 162 [(2, .ptr 0 0), (3, .ptr 1 0), (4, .ptr 2 0), (5, .i x1), (6, .oslice 3 l2.length 9), (9, .i 0)], [.cells [.i x1, vl qa r.Slings], .cells (cE e), bZ, bS l2])) (Sub.norm [] [some 0, some 1, some 2, some 4] rfl rfl (.keep (.ptr rfl) (.keep (.ptr rfl) (.keep (.ptr rfl) (.keep (.same nI) (.keep (.oslice rfl) (.keep (.same nI) .nil)))))) (.keep rfl (.same (qg.cons nI (qg.cons (qj qa _) qg.nil))) rfl rfl (.keep rfl (.same (qg.cons nI (qg.cons nS (qg.cons (qj encS _) (qg.cons (qj encI _) (qg.cons nS qg.nil)))))) rfl rfl (.keep rfl (.same (qg.cons nI (qg.cons (qC.nilslice) qg.nil))) rfl rfl (.keep rfl (.same fa) rfl rfl .nil))))) ?_
      refine Goes.loopS (fun M s => ∃ (l23 : List qc) (i_24 : Int), s = (ofG 162 [(2, .ptr 0 0), (3, .ptr 1 0), (4, .ptr 2 0), (5, .i x1), (6, .oslice 3 l23.length 9), (9, .i i_24)], [.cells [.i x1, vl qa r.Slings], .cells (cE e), bZ, bS l23]) ∧ zq e x1 M l23 i_24 = some r26) ?_ (m := N) ⟨_, _, rfl, g26⟩
      rintro M s ⟨l23, i_24, rfl, g26⟩
      cases M with
      | zero => simp only [zq] at g26; cases g26
      | succ M =>
        rw [zq] at g26
        refine sq ?_
        refine sq (Goes.rg fol [(2, .ptr 0 0), (3, .ptr 1 0), (4, .ptr 2 0), (5, .i x1), (6, .oslice 3 l23.length 9), (9, .i i_24), (77, .bool (decide (i_24 < (l23.length : Int))))] [.cells [.i x1, vl qa r.Slings], .cells (cE e), bZ, bS l23] ?_)
        refine Goes.ifB (b := decide (i_24 < (l23.length : Int))) (by kernel_rfl) (fun c27 => ?_) (fun c27 => ?_)
        · rw [if_pos (ot c27)] at g26
          refine Goes.skip ?_
          refine sq ?_
          obtain ⟨r29, g29, g26⟩ := bnd g26
          refine Goes.imp (Q := fun x s' => (x = .normal ∧ ∃ l28, l28 = r29 ∧ Sub s' (ofG 162 [(2, .ptr 0 0), (3, .ptr 1 0), (4, .ptr 2 0), (5, .i x1), (6, .oslice 3 l28.length 9), (9, .i i_24)], [.cells [.i x1, vl qa r.Slings], .cells (cE e), bZ, bS l28]))) ?_ ?_
          · refine Goes.block ?_
            refine sq ?_
            obtain ⟨x30, e_x30, g29⟩ := bnd g29
            obtain ⟨x31, e_x31, g29⟩ := bnd g29
            refine Goes.rp fol [2, 4, 7, 8] [(2, .ptr 0 0), (3, .ptr 1 0), (4, .ptr 2 0), (5, .i x1), (6, .oslice 3 l23.length 9), (9, .i i_24), (10, .bool (x30.Name == x31))] [.cells [.i x1, vl qa r.Slings], .cells (cE e), bZ, bS l23] [.done (.opt (qd Tryz.prog 35 (.oslice 3 l23.length 9) (.i i_24))) (.ptr 3 ((i_24 : Int).toNat * 9 + 0)), .run [3] (qx Tryz.prog 9 (.ptr 3 ((i_24 : Int).toNat * 9 + 0))) [.cells [.i x1, vl qa r.Slings], .cells (cE e), bZ, bS l23] (.str x30.Name) [.cells [.i x1, vl qa r.Slings], .cells (cE e), bZ, bS l23] false, .done (.opt (qd Tryz.prog 23 (vl encS e.Names) (.i 0))) (.fptr (e.Names.flatMap encS.c) ((0 : Int).toNat * 1 + 0)), .done (qx Tryz.prog 9 (.fptr (e.Names.flatMap encS.c) ((0 : Int).toNat * 1 + 0))) (.str x31)] (an (qbo qal e_x30) (an (qeI ce9 (E := qa) (l := l23) rfl rfl e_x30 (nl rfl) rfl) (an (qB qaq (E := encS) rfl e_x31) (an (qA ce9 (E := encS) rfl e_x31 (nl rfl) rfl) trivial)))) ?_
            refine Goes.block ?_
            refine sq ?_
            obtain ⟨b33, g_v34, g29⟩ := bnd g29
            refine Goes.cut (s' := (ofG 162 [(2, .ptr 0 0), (3, .ptr 1 0), (4, .ptr 2 0), (5, .i x1), (6, .oslice 3 l23.length 9), (9, .i i_24), (10, .bool (x30.Name == x31)), (90, .bool b33)], [.cells [.i x1, vl qa r.Slings], .cells (cE e), bZ, bS l23])) ?_ ?_
            · rcases Bool.eq_false_or_eq_true (e.Kind == [116, 101, 115, 116]) with c32 | c32
              · rw [if_pos (c32)] at g_v34
                obtain rfl := si g_v34
                exact qm.rp fol [3] [(2, .ptr 0 0), (3, .ptr 1 0), (4, .ptr 2 0), (5, .i x1), (6, .oslice 3 l23.length 9), (9, .i i_24), (10, .bool (x30.Name == x31)), (90, .bool (x30.Name == x31))] [.cells [.i x1, vl qa r.Slings], .cells (cE e), bZ, bS l23] [.done (.done (.bool (e.Kind == [116, 101, 115, 116]))) (.bool true)] (an (congrArg (fun x => Pg.done (.bool x)) c32) trivial)
              · rw [if_neg (nb c32)] at g_v34
                obtain rfl := si g_v34
                exact qm.rp fol [3] [(2, .ptr 0 0), (3, .ptr 1 0), (4, .ptr 2 0), (5, .i x1), (6, .oslice 3 l23.length 9), (9, .i i_24), (10, .bool (x30.Name == x31)), (90, .bool false)] [.cells [.i x1, vl qa r.Slings], .cells (cE e), bZ, bS l23] [.done (.done (.bool (e.Kind == [116, 101, 115, 116]))) (.bool false)] (an (congrArg (fun x => Pg.done (.bool x)) c32) trivial)
            refine Goes.ifB (b := b33) (by kernel_rfl) (fun c35 => ?_) (fun c35 => ?_)
            · rw [if_pos (c35)] at g29
              refine sq ?_
              obtain ⟨x36, e_x36, g29⟩ := bnd g29
              obtain ⟨l37, e_l37, g29⟩ := bnd g29
              refine Goes.rp fol [4, 5, 7, 9] [(2, .ptr 0 0), (3, .ptr 1 0), (4, .ptr 2 0), (5, .i x1), (6, .oslice 3 l23.length 9), (9, .i i_24)] [.cells [.i x1, vl qa r.Slings], .cells (cE e), bZ, bS l37] [.done (.opt (qd Tryz.prog 24 (vl encI e.Values) (.i 1))) (.fptr (e.Values.flatMap encI.c) ((1 : Int).toNat * 1 + 0)), .done (qx Tryz.prog 3 (.fptr (e.Values.flatMap encI.c) ((1 : Int).toNat * 1 + 0))) (.i x36), .done (.opt (qd Tryz.prog 35 (.oslice 3 l23.length 9) (.i i_24))) (.ptr 3 ((i_24 : Int).toNat * 9 + 0)), .run [3] (yw Tryz.prog 3 (.ptr 3 ((i_24 : Int).toNat * 9 + 6)) (.i (w64 (x36.tdiv 2)))) [.cells [.i x1, vl qa r.Slings], .cells (cE e), bZ, bS l23] .undef [.cells [.i x1, vl qa r.Slings], .cells (cE e), bZ, bS l37] true] (an (qB zA (E := encI) rfl e_x36) (an (qA ce3 (E := encI) rfl e_x36 (nl rfl) rfl) (an (qbo qal e_x30) (an (qb3 (E := qa) (l := l23) (y := (⟨x30.Name, x30.Batch, x30.Born, x30.Last, x30.Uses, x30.Used, w64 (x36.tdiv 2), x30.Until, x30.Gone⟩ : qc)) rfl (show _ = some 1 by kernel_rfl) rfl e_x30 rfl rfl rfl rfl rfl e_l37 rfl) trivial)))) ?_
              refine Goes.sub (show Sub (ofG 162 [(2, .ptr 0 0), (3, .ptr 1 0), (4, .ptr 2 0), (5, .i x1), (6, .oslice 3 l23.length 9), (9, .i i_24)], [.cells [.i x1, vl qa r.Slings], .cells (cE e), bZ, bS l37]) (ofG 162 [(2, .ptr 0 0), (3, .ptr 1 0), (4, .ptr 2 0), (5, .i x1), (6, .oslice 3 l37.length 9), (9, .i i_24)], [.cells [.i x1, vl qa r.Slings], .cells (cE e), bZ, bS l37]) from (Sub.norm [] [some 0, some 1, some 2, some 3] rfl rfl (.keep (.ptr rfl) (.keep (.ptr rfl) (.keep (.ptr rfl) (.keep (.same nI) (.keep (.osliceE rfl (xk e_l37)) (.keep (.same nI) .nil)))))) (.keep rfl (.same (qg.cons nI (qg.cons (qj qa _) qg.nil))) rfl rfl (.keep rfl (.same (qg.cons nI (qg.cons nS (qg.cons (qj encS _) (qg.cons (qj encI _) (qg.cons nS qg.nil)))))) rfl rfl (.keep rfl (.same (qg.cons nI (qg.cons (qC.nilslice) qg.nil))) rfl rfl (.keep rfl (.same fa) rfl rfl .nil)))))) ?_
              obtain ⟨x38, e_x38, g29⟩ := bnd g29
              obtain ⟨l39, e_l39, g29⟩ := bnd g29
              refine Goes.rp fol [6, 8, 10, 12] [(2, .ptr 0 0), (3, .ptr 1 0), (4, .ptr 2 0), (5, .i x1), (6, .oslice 3 l37.length 9), (9, .i i_24)] [.cells [.i x1, vl qa r.Slings], .cells (cE e), bZ, bS l39] [.done (.opt (qd Tryz.prog 35 (.oslice 3 l37.length 9) (.i i_24))) (.ptr 3 ((i_24 : Int).toNat * 9 + 0)), .run [3] (qx Tryz.prog 3 (.ptr 3 ((i_24 : Int).toNat * 9 + 3))) [.cells [.i x1, vl qa r.Slings], .cells (cE e), bZ, bS l37] (.i x38.Last) [.cells [.i x1, vl qa r.Slings], .cells (cE e), bZ, bS l37] false, .done (.opt (qd Tryz.prog 35 (.oslice 3 l37.length 9) (.i i_24))) (.ptr 3 ((i_24 : Int).toNat * 9 + 0)), .run [3] (yw Tryz.prog 3 (.ptr 3 ((i_24 : Int).toNat * 9 + 7)) (.i (if x38.Last < (w64 (x1 + 365)) then x38.Last else (w64 (x1 + 365))))) [.cells [.i x1, vl qa r.Slings], .cells (cE e), bZ, bS l37] .undef [.cells [.i x1, vl qa r.Slings], .cells (cE e), bZ, bS l39] true] (an (qbo qal e_x38) (an (qeI ce3 (E := qa) (l := l37) rfl rfl e_x38 (nl rfl) rfl) (an (qbo qal e_x38) (an (qb3 (E := qa) (l := l37) (y := (⟨x38.Name, x38.Batch, x38.Born, x38.Last, x38.Uses, x38.Used, x38.Limit, (if x38.Last < (w64 (x1 + 365)) then x38.Last else (w64 (x1 + 365))), x38.Gone⟩ : qc)) rfl (show _ = some 1 by kernel_rfl) rfl e_x38 rfl rfl rfl rfl rfl e_l39 rfl) trivial)))) ?_
              obtain rfl := si g29
              exact ⟨rfl, _, rfl, ((show Sub (ofG 162 [(2, .ptr 0 0), (3, .ptr 1 0), (4, .ptr 2 0), (5, .i x1), (6, .oslice 3 l37.length 9), (9, .i i_24)], [.cells [.i x1, vl qa r.Slings], .cells (cE e), bZ, bS l39]) (ofG 162 [(2, .ptr 0 0), (3, .ptr 1 0), (4, .ptr 2 0), (5, .i x1), (6, .oslice 3 l39.length 9), (9, .i i_24)], [.cells [.i x1, vl qa r.Slings], .cells (cE e), bZ, bS l39]) from (Sub.norm [] [some 0, some 1, some 2, some 3] rfl rfl (.keep (.ptr rfl) (.keep (.ptr rfl) (.keep (.ptr rfl) (.keep (.same nI) (.keep (.osliceE rfl (xk e_l39)) (.keep (.same nI) .nil)))))) (.keep rfl (.same (qg.cons nI (qg.cons (qj qa _) qg.nil))) rfl rfl (.keep rfl (.same (qg.cons nI (qg.cons nS (qg.cons (qj encS _) (qg.cons (qj encI _) (qg.cons nS qg.nil)))))) rfl rfl (.keep rfl (.same (qg.cons nI (qg.cons (qC.nilslice) qg.nil))) rfl rfl (.keep rfl (.same fa) rfl rfl .nil)))))).trans (Sub.refl _))⟩
            · rw [if_neg (nb c35)] at g29
              refine sq ?_
              obtain ⟨b41, g_v42, g29⟩ := bnd g29
              refine Goes.cut (s' := (ofG 162 [(2, .ptr 0 0), (3, .ptr 1 0), (4, .ptr 2 0), (5, .i x1), (6, .oslice 3 l23.length 9), (9, .i i_24), (10, .bool (x30.Name == x31)), (118, .bool b41)], [.cells [.i x1, vl qa r.Slings], .cells (cE e), bZ, bS l23])) ?_ ?_
              · rcases Bool.eq_false_or_eq_true (e.Kind == [117, 115, 101]) with c40 | c40
                · rw [if_pos (c40)] at g_v42
                  obtain rfl := si g_v42
                  exact qm.rp fol [3] [(2, .ptr 0 0), (3, .ptr 1 0), (4, .ptr 2 0), (5, .i x1), (6, .oslice 3 l23.length 9), (9, .i i_24), (10, .bool (x30.Name == x31)), (118, .bool (x30.Name == x31))] [.cells [.i x1, vl qa r.Slings], .cells (cE e), bZ, bS l23] [.done (.done (.bool (e.Kind == [117, 115, 101]))) (.bool true)] (an (congrArg (fun x => Pg.done (.bool x)) c40) trivial)
                · rw [if_neg (nb c40)] at g_v42
                  obtain rfl := si g_v42
                  exact qm.rp fol [3] [(2, .ptr 0 0), (3, .ptr 1 0), (4, .ptr 2 0), (5, .i x1), (6, .oslice 3 l23.length 9), (9, .i i_24), (10, .bool (x30.Name == x31)), (118, .bool false)] [.cells [.i x1, vl qa r.Slings], .cells (cE e), bZ, bS l23] [.done (.done (.bool (e.Kind == [117, 115, 101]))) (.bool false)] (an (congrArg (fun x => Pg.done (.bool x)) c40) trivial)
              refine Goes.ifB (b := b41) (by kernel_rfl) (fun c43 => ?_) (fun c43 => ?_)
              · rw [if_pos (c43)] at g29
                obtain ⟨l44, e_l44, g29⟩ := bnd g29
                refine Goes.rp fol [2, 4, 6, 8] [(2, .ptr 0 0), (3, .ptr 1 0), (4, .ptr 2 0), (5, .i x1), (6, .oslice 3 l23.length 9), (9, .i i_24)] [.cells [.i x1, vl qa r.Slings], .cells (cE e), bZ, bS l44] [.done (.opt (qd Tryz.prog 35 (.oslice 3 l23.length 9) (.i i_24))) (.ptr 3 ((i_24 : Int).toNat * 9 + 0)), .run [3] (qx Tryz.prog 3 (.ptr 3 ((i_24 : Int).toNat * 9 + 5))) [.cells [.i x1, vl qa r.Slings], .cells (cE e), bZ, bS l23] (.i x30.Used) [.cells [.i x1, vl qa r.Slings], .cells (cE e), bZ, bS l23] false, .done (.opt (qd Tryz.prog 35 (.oslice 3 l23.length 9) (.i i_24))) (.ptr 3 ((i_24 : Int).toNat * 9 + 0)), .run [3] (yw Tryz.prog 3 (.ptr 3 ((i_24 : Int).toNat * 9 + 5)) (.i (w64 (x30.Used + 1)))) [.cells [.i x1, vl qa r.Slings], .cells (cE e), bZ, bS l23] .undef [.cells [.i x1, vl qa r.Slings], .cells (cE e), bZ, bS l44] true] (an (qbo qal e_x30) (an (qeI ce3 (E := qa) (l := l23) rfl rfl e_x30 (nl rfl) rfl) (an (qbo qal e_x30) (an (qb3 (E := qa) (l := l23) (y := (⟨x30.Name, x30.Batch, x30.Born, x30.Last, x30.Uses, w64 (x30.Used + 1), x30.Limit, x30.Until, x30.Gone⟩ : qc)) rfl (show _ = some 1 by kernel_rfl) rfl e_x30 rfl rfl rfl rfl rfl e_l44 rfl) trivial)))) ?_
                obtain rfl := si g29
                exact ⟨rfl, _, rfl, ((show Sub (ofG 162 [(2, .ptr 0 0), (3, .ptr 1 0), (4, .ptr 2 0), (5, .i x1), (6, .oslice 3 l23.length 9), (9, .i i_24)], [.cells [.i x1, vl qa r.Slings], .cells (cE e), bZ, bS l44]) (ofG 162 [(2, .ptr 0 0), (3, .ptr 1 0), (4, .ptr 2 0), (5, .i x1), (6, .oslice 3 l44.length 9), (9, .i i_24)], [.cells [.i x1, vl qa r.Slings], .cells (cE e), bZ, bS l44]) from (Sub.norm [] [some 0, some 1, some 2, some 3] rfl rfl (.keep (.ptr rfl) (.keep (.ptr rfl) (.keep (.ptr rfl) (.keep (.same nI) (.keep (.osliceE rfl (xk e_l44)) (.keep (.same nI) .nil)))))) (.keep rfl (.same (qg.cons nI (qg.cons (qj qa _) qg.nil))) rfl rfl (.keep rfl (.same (qg.cons nI (qg.cons nS (qg.cons (qj encS _) (qg.cons (qj encI _) (qg.cons nS qg.nil)))))) rfl rfl (.keep rfl (.same (qg.cons nI (qg.cons (qC.nilslice) qg.nil))) rfl rfl (.keep rfl (.same fa) rfl rfl .nil)))))).trans (Sub.refl _))⟩
              · rw [if_neg (nb c43)] at g29
                refine sq ?_
                refine sq ?_
                obtain ⟨b46, g_v47, g29⟩ := bnd g29
                refine Goes.cut (s' := (ofG 162 [(2, .ptr 0 0), (3, .ptr 1 0), (4, .ptr 2 0), (5, .i x1), (6, .oslice 3 l23.length 9), (9, .i i_24), (133, .bool b46)], [.cells [.i x1, vl qa r.Slings], .cells (cE e), bZ, bS l23])) ?_ ?_
                · rcases Bool.eq_false_or_eq_true (e.Kind == [102, 97, 105, 108]) with c45 | c45
                  · rw [if_pos (c45)] at g_v47
                    obtain rfl := si g_v47
                    exact qm.rp fol [3] [(2, .ptr 0 0), (3, .ptr 1 0), (4, .ptr 2 0), (5, .i x1), (6, .oslice 3 l23.length 9), (9, .i i_24), (133, .bool (x30.Name == x31))] [.cells [.i x1, vl qa r.Slings], .cells (cE e), bZ, bS l23] [.done (.done (.bool (e.Kind == [102, 97, 105, 108]))) (.bool true)] (an (congrArg (fun x => Pg.done (.bool x)) c45) trivial)
                  · rw [if_neg (nb c45)] at g_v47
                    obtain rfl := si g_v47
                    exact qm.rp fol [3] [(2, .ptr 0 0), (3, .ptr 1 0), (4, .ptr 2 0), (5, .i x1), (6, .oslice 3 l23.length 9), (9, .i i_24), (133, .bool false)] [.cells [.i x1, vl qa r.Slings], .cells (cE e), bZ, bS l23] [.done (.done (.bool (e.Kind == [102, 97, 105, 108]))) (.bool false)] (an (congrArg (fun x => Pg.done (.bool x)) c45) trivial)
                obtain ⟨r49, g49, g29⟩ := bnd g29
                refine Goes.imp (Q := fun x s' => (x = .normal ∧ ∃ b48, b48 = r49 ∧ Sub s' (ofG 162 [(2, .ptr 0 0), (3, .ptr 1 0), (4, .ptr 2 0), (5, .i x1), (6, .oslice 3 l23.length 9), (9, .i i_24), (133, .bool b48)], [.cells [.i x1, vl qa r.Slings], .cells (cE e), bZ, bS l23]))) ?_ ?_
                · refine Goes.ifB (b := b46) (by kernel_rfl) (fun c50 => ?_) (fun c50 => ?_)
                  · rw [if_pos (c50)] at g49
                    refine Goes.skip ?_
                    obtain rfl := si g49
                    exact ⟨rfl, _, rfl, (Sub.refl _)⟩
                  · rw [if_neg (nb c50)] at g49
                    obtain ⟨b52, g_v53, g49⟩ := bnd g49
                    refine Goes.cut (s' := (ofG 162 [(2, .ptr 0 0), (3, .ptr 1 0), (4, .ptr 2 0), (5, .i x1), (6, .oslice 3 l23.length 9), (9, .i i_24), (133, .bool b52)], [.cells [.i x1, vl qa r.Slings], .cells (cE e), bZ, bS l23])) ?_ ?_
                    · rcases Bool.eq_false_or_eq_true (e.Kind == [114, 101, 99, 97, 108, 108]) with c51 | c51
                      · rw [if_pos (c51)] at g_v53
                        obtain rfl := si g_v53
                        exact qm.rp fol [3, 6, 8, 11, 12] [(2, .ptr 0 0), (3, .ptr 1 0), (4, .ptr 2 0), (5, .i x1), (6, .oslice 3 l23.length 9), (9, .i i_24), (133, .bool (x30.Batch == x31))] [.cells [.i x1, vl qa r.Slings], .cells (cE e), bZ, bS l23] [.done (.done (.bool (e.Kind == [114, 101, 99, 97, 108, 108]))) (.bool true), .done (.opt (qd Tryz.prog 35 (.oslice 3 l23.length 9) (.i i_24))) (.ptr 3 ((i_24 : Int).toNat * 9 + 0)), .run [3] (qx Tryz.prog 9 (.ptr 3 ((i_24 : Int).toNat * 9 + 1))) [.cells [.i x1, vl qa r.Slings], .cells (cE e), bZ, bS l23] (.str x30.Batch) [.cells [.i x1, vl qa r.Slings], .cells (cE e), bZ, bS l23] false, .done (.opt (qd Tryz.prog 23 (vl encS e.Names) (.i 0))) (.fptr (e.Names.flatMap encS.c) ((0 : Int).toNat * 1 + 0)), .done (qx Tryz.prog 9 (.fptr (e.Names.flatMap encS.c) ((0 : Int).toNat * 1 + 0))) (.str x31)] (an (congrArg (fun x => Pg.done (.bool x)) c51) (an (qbo qal e_x30) (an (qeI ce9 (E := qa) (l := l23) rfl rfl e_x30 (nl rfl) rfl) (an (qB qaq (E := encS) rfl e_x31) (an (qA ce9 (E := encS) rfl e_x31 (nl rfl) rfl) trivial)))))
                      · rw [if_neg (nb c51)] at g_v53
                        obtain rfl := si g_v53
                        exact qm.rp fol [3] [(2, .ptr 0 0), (3, .ptr 1 0), (4, .ptr 2 0), (5, .i x1), (6, .oslice 3 l23.length 9), (9, .i i_24), (133, .bool false)] [.cells [.i x1, vl qa r.Slings], .cells (cE e), bZ, bS l23] [.done (.done (.bool (e.Kind == [114, 101, 99, 97, 108, 108]))) (.bool false)] (an (congrArg (fun x => Pg.done (.bool x)) c51) trivial)
                    obtain rfl := si g49
                    exact ⟨rfl, _, rfl, (Sub.refl _)⟩
                rintro x s' ⟨rfl, b48, rfl, hsub⟩
                refine Goes.sub hsub ?_
                refine Goes.ifB (b := b48) (by kernel_rfl) (fun c54 => ?_) (fun c54 => ?_)
                · rw [if_pos (c54)] at g29
                  obtain ⟨l55, e_l55, g29⟩ := bnd g29
                  refine Goes.rp fol [2, 4] [(2, .ptr 0 0), (3, .ptr 1 0), (4, .ptr 2 0), (5, .i x1), (6, .oslice 3 l23.length 9), (9, .i i_24)] [.cells [.i x1, vl qa r.Slings], .cells (cE e), bZ, bS l55] [.done (.opt (qd Tryz.prog 35 (.oslice 3 l23.length 9) (.i i_24))) (.ptr 3 ((i_24 : Int).toNat * 9 + 0)), .run [3] (yw Tryz.prog 4 (.ptr 3 ((i_24 : Int).toNat * 9 + 8)) (.bool true)) [.cells [.i x1, vl qa r.Slings], .cells (cE e), bZ, bS l23] .undef [.cells [.i x1, vl qa r.Slings], .cells (cE e), bZ, bS l55] true] (an (qbo qal e_x30) (an (qb3 (E := qa) (l := l23) (y := (⟨x30.Name, x30.Batch, x30.Born, x30.Last, x30.Uses, x30.Used, x30.Limit, x30.Until, true⟩ : qc)) rfl (show _ = some 1 by kernel_rfl) rfl e_x30 rfl rfl rfl rfl rfl e_l55 rfl) trivial)) ?_
                  obtain rfl := si g29
                  exact ⟨rfl, _, rfl, ((show Sub (ofG 162 [(2, .ptr 0 0), (3, .ptr 1 0), (4, .ptr 2 0), (5, .i x1), (6, .oslice 3 l23.length 9), (9, .i i_24)], [.cells [.i x1, vl qa r.Slings], .cells (cE e), bZ, bS l55]) (ofG 162 [(2, .ptr 0 0), (3, .ptr 1 0), (4, .ptr 2 0), (5, .i x1), (6, .oslice 3 l55.length 9), (9, .i i_24)], [.cells [.i x1, vl qa r.Slings], .cells (cE e), bZ, bS l55]) from (Sub.norm [] [some 0, some 1, some 2, some 3] rfl rfl (.keep (.ptr rfl) (.keep (.ptr rfl) (.keep (.ptr rfl) (.keep (.same nI) (.keep (.osliceE rfl (xk e_l55)) (.keep (.same nI) .nil)))))) (.keep rfl (.same (qg.cons nI (qg.cons (qj qa _) qg.nil))) rfl rfl (.keep rfl (.same (qg.cons nI (qg.cons nS (qg.cons (qj encS _) (qg.cons (qj encI _) (qg.cons nS qg.nil)))))) rfl rfl (.keep rfl (.same (qg.cons nI (qg.cons (qC.nilslice) qg.nil))) rfl rfl (.keep rfl (.same fa) rfl rfl .nil)))))).trans (Sub.refl _))⟩
                · rw [if_neg (nb c54)] at g29
                  refine Goes.skip ?_
                  obtain rfl := si g29
                  exact ⟨rfl, _, rfl, (Sub.keep [2, 3, 4, 5, 6, 9] rfl rfl)⟩
          rintro x s' ⟨rfl, l28, rfl, hsub⟩
          refine Goes.sub hsub ?_
          refine Goes.rg fol [(2, .ptr 0 0), (3, .ptr 1 0), (4, .ptr 2 0), (5, .i x1), (6, .oslice 3 l28.length 9), (9, .i (w64 (i_24 + 1)))] [.cells [.i x1, vl qa r.Slings], .cells (cE e), bZ, bS l28] ?_
          exact ⟨M, (ofG 162 [(2, .ptr 0 0), (3, .ptr 1 0), (4, .ptr 2 0), (5, .i x1), (6, .oslice 3 l28.length 9), (9, .i (w64 (i_24 + 1)))], [.cells [.i x1, vl qa r.Slings], .cells (cE e), bZ, bS l28]), Nat.lt_succ_self _, (Sub.refl _), _, _, rfl, g26⟩
        · rw [if_neg (of_ c27)] at g26
          refine Goes.exit ?_
          obtain rfl := si g26
          exact ⟨rfl, _, rfl, (Sub.norm [] [some 0, some 2, some 3] rfl rfl (.keep (.ptr rfl) (.drop (.keep (.ptr rfl) (.drop (.keep (.oslice rfl) .nil))))) (.keep rfl (.same (qg.cons nI (qg.cons (qj qa _) qg.nil))) rfl rfl (.keep rfl (.same (qg.cons nI (qg.cons (qC.nilslice) qg.nil))) rfl rfl (.keep rfl (.same fa) rfl rfl .nil))))⟩
    rintro x s' ⟨rfl, l25, rfl, hsub⟩
    refine Goes.sub hsub ?_
    refine sq (Goes.rg fol [(2, .ptr 0 0), (4, .ptr 1 0)] [.cells [.i x1, .oslice 2 l25.length 9], bZ, bS l25] ?_)
    refine sq (Goes.rg fol [(4, .ptr 1 0)] [.cells [.i x1, .oslice 2 l25.length 9], .cells [.i x1, .oslice 2 l25.length 9], bS l25] ?_)
    refine Goes.ret ?_
    obtain rfl := si h
    exact (Goes.retW (xs := [.agg [.i x1, .oslice 2 l25.length 9]]) (by kernel_rfl) (FzW.agg (qK.cons (FzW.still tI) (qK.cons (FzW.fz (Fz.os (E := qa) rfl rfl (nl rfl))) qK.nil))))
def kR (N : Nat) (l : List ql) : Nat → Int → (List qc) → Int → Option (Int × (List qc))
  | 0, _, _, _ => none
  | K + 1, n1, l2, i_3 =>
    if i_3 < (l.length : Int) then
    (idx l i_3).bind fun x8 =>
    (kW N (⟨n1, l2⟩ : qI) x8).bind fun r9 =>
    kR N l K r9.Day r9.Slings (w64 (i_3 + 1))
    else
    some (n1, l2)
def kr (N : Nat) (l : List ql) : Option qI :=
  (kR N l N 0 ([] : List qc) 0).bind fun (n4, l5) =>
  some (⟨n4, l5⟩ : qI)
theorem xS (N : Nat) (l : List ql) {res : qI} (h : kr N l = some res) : qy Tryz.prog (.fn 84) [vl qb l] [] (.agg [.i res.Day, vl qa res.Slings]) [] := by
  unfold kr at h
  refine Goes.fnW Tryz.func84 rfl rfl (m := 18) rfl (rs := [.cell 2 37]) rfl (l := [(0, vl qb l)]) rfl ?_
  refine sq (Goes.rg fol [(0, vl qb l), (2, .ptr 0 0)] [bZ] ?_)
  refine sq (Goes.rg fol [(0, vl qb l), (2, .ptr 0 0), (3, .ptr 1 0)] [bZ, bZ] ?_)
  refine sq ?_
  refine sq (Goes.rg fol [(0, vl qb l), (2, .ptr 0 0), (3, .ptr 1 0), (4, .i 0)] [bZ, bZ] ?_)
  refine Goes.block ?_
  obtain ⟨r6, g6, h⟩ := bnd h
  refine Goes.imp (Q := fun x s' => (x = .exit 0 ∧ ∃ n4 l5, (n4, l5) = r6 ∧ Sub s' (ofG 18 [(2, .ptr 0 0), (3, .ptr 1 0)], [bZ, .cells [.i n4, vl qa l5]]))) ?_ ?_
  · refine Goes.sub (s' := (ofG 18 [(0, vl qb l), (2, .ptr 0 0), (3, .ptr 1 0), (4, .i 0)], [bZ, .cells [.i 0, vl qa ([] : List qc)]])) (Sub.norm [] [some 0, some 1] rfl rfl (.keep (.same (qj qb _)) (.keep (.ptr rfl) (.keep (.ptr rfl) (.keep (.same nI) .nil)))) (.keep rfl (.same (qg.cons nI (qg.cons (qC.nilslice) qg.nil))) rfl rfl (.keep rfl (.cells (qf.cons (.same nI) (qf.cons (.nilv) qf.nil))) rfl rfl .nil))) ?_
    refine Goes.loopS (fun M s => ∃ (n1 : Int) (l2 : List qc) (i_3 : Int), s = (ofG 18 [(0, vl qb l), (2, .ptr 0 0), (3, .ptr 1 0), (4, .i i_3)], [bZ, .cells [.i n1, vl qa l2]]) ∧ kR N l M n1 l2 i_3 = some r6) ?_ (m := N) ⟨_, _, _, rfl, g6⟩
    rintro M s ⟨n1, l2, i_3, rfl, g6⟩
    cases M with
    | zero => simp only [kR] at g6; cases g6
    | succ M =>
      rw [kR] at g6
      refine sq ?_
      refine sq (Goes.rg fol [(0, vl qb l), (2, .ptr 0 0), (3, .ptr 1 0), (4, .i i_3), (8, .bool (decide (i_3 < (l.length : Int))))] [bZ, .cells [.i n1, vl qa l2]] ?_)
      refine Goes.ifB (b := decide (i_3 < (l.length : Int))) (by kernel_rfl) (fun c7 => ?_) (fun c7 => ?_)
      · rw [if_pos (ot c7)] at g6
        refine Goes.skip ?_
        refine sq (Goes.block ?_)
        obtain ⟨x8, e_x8, g6⟩ := bnd g6
        obtain ⟨r9, e_r9, g6⟩ := bnd g6
        refine Goes.rp fol [3, 4, 5] [(0, vl qb l), (2, .ptr 0 0), (3, .ptr 1 0), (4, .i i_3)] [bZ, .cells [.i r9.Day, vl qa r9.Slings]] [.done (.opt (qd Tryz.prog 22 (vl qb l) (.i i_3))) (.fptr (l.flatMap qb.c) ((i_3 : Int).toNat * 5 + 0)), .done (qx Tryz.prog 26 (.fptr (l.flatMap qb.c) ((i_3 : Int).toNat * 5 + 0))) (.agg (cE x8)), .call 140 [.agg [.i n1, vl qa l2], .agg (cE x8)] [bZ, .cells [.i n1, vl qa l2]] [] [.agg [.i n1, vl qa l2], .agg (cE x8)] (.agg [.i r9.Day, vl qa r9.Slings])] (an (qB yA (E := qb) rfl e_x8) (an (qaT qhi (E := qb) rfl e_x8) (an (qo (AllST.cons (Still.agg (AllST.cons tI (AllST.cons (qD qa _ (nl rfl)) AllST.nil))) (AllST.cons (Still.agg (AllST.cons tI (AllST.cons tS (AllST.cons (qD encS _ (nl rfl)) (AllST.cons (qD encI _ (nl rfl)) (AllST.cons tS AllST.nil)))))) AllST.nil)) (qdU N (⟨n1, l2⟩ : qI) x8 e_r9) (Still.agg (AllST.cons tI (AllST.cons (qD qa _ (nl rfl)) AllST.nil)))) trivial))) ?_
        refine Goes.rg fol [(0, vl qb l), (2, .ptr 0 0), (3, .ptr 1 0), (4, .i (w64 (i_3 + 1)))] [bZ, .cells [.i r9.Day, vl qa r9.Slings]] ?_
        exact ⟨M, (ofG 18 [(0, vl qb l), (2, .ptr 0 0), (3, .ptr 1 0), (4, .i (w64 (i_3 + 1)))], [bZ, .cells [.i r9.Day, vl qa r9.Slings]]), Nat.lt_succ_self _, (Sub.refl _), _, _, _, rfl, g6⟩
      · rw [if_neg (of_ c7)] at g6
        refine Goes.exit ?_
        obtain rfl := si g6
        exact ⟨rfl, _, _, rfl, (Sub.keep [2, 3] rfl rfl)⟩
  rintro x s' ⟨rfl, n4, l5, rfl, hsub⟩
  try dsimp only at h
  refine Goes.sub hsub ?_
  refine sq (Goes.rg fol [(2, .ptr 0 0)] [.cells [.i n4, vl qa l5], .cells [.i n4, vl qa l5]] ?_)
  refine Goes.ret ?_
  obtain rfl := si h
  exact (Goes.retW (xs := [.agg [.i n4, vl qa l5]]) (by kernel_rfl) (FzW.agg (qK.cons (FzW.still tI) (qK.cons (FzW.still (qD qa _ (nl rfl))) qK.nil))))
def vH (r : qI) (name : Str) : Nat → Int → Option (Unit ⊕ Int)
  | 0, _ => none
  | K + 1, i_1 =>
    if i_1 < (r.Slings.length : Int) then
    (idx r.Slings i_1).bind fun x5 =>
    if (x5.Name == name) = true then
    some (.inr i_1)
    else
    vH r name K (w64 (i_1 + 1))
    else
    some (.inl ())
def qaO (N : Nat) (r : qI) (name : Str) : Option Int :=
  (vH r name N 0).bind (fun
  | (.inl ()) =>
  some (-1)
  | (.inr q7) =>
  some q7)
theorem qfB (N : Nat) (r : qI) (name : Str) {res : Int} (h : qaO N r name = some res) : qy Tryz.prog (.fn 27) [.agg [.i r.Day, vl qa r.Slings], .str name] [] (.i res) [] := by
  unfold qaO at h
  refine Goes.fnW Tryz.func27 rfl rfl (m := 22) rfl (rs := [.tmp 4]) rfl (l := [(0, .agg [.i r.Day, vl qa r.Slings]), (1, .str name)]) rfl ?_
  refine sq (Goes.rg fol [(1, .str name), (2, .ptr 0 0)] [.cells [.i r.Day, vl qa r.Slings]] ?_)
  refine sq ?_
  refine sq (Goes.rg fol [(1, .str name), (2, .ptr 0 0), (5, .i 0)] [.cells [.i r.Day, vl qa r.Slings]] ?_)
  refine Goes.block ?_
  obtain ⟨r2, g2, h⟩ := bnd h
  refine Goes.imp (Q := fun x s' => (x = .exit 0 ∧ (.inl ()) = r2 ∧ Sub s' (ofG 22 [], [])) ∨ (x = .ret ∧ ∃ q3, (.inr q3) = r2 ∧ zH Tryz.prog [.tmp 4] (.i q3) .ret s')) ?_ ?_
  · refine Goes.loopS (fun M s => ∃ (i_1 : Int), s = (ofG 22 [(1, .str name), (2, .ptr 0 0), (5, .i i_1)], [.cells [.i r.Day, vl qa r.Slings]]) ∧ vH r name M i_1 = some r2) ?_ (m := N) ⟨_, rfl, g2⟩
    rintro M s ⟨i_1, rfl, g2⟩
    cases M with
    | zero => simp only [vH] at g2; cases g2
    | succ M =>
      rw [vH] at g2
      refine sq ?_
      refine sq (Goes.rg fol [(1, .str name), (2, .ptr 0 0), (5, .i i_1), (10, .bool (decide (i_1 < (r.Slings.length : Int))))] [.cells [.i r.Day, vl qa r.Slings]] ?_)
      refine Goes.ifB (b := decide (i_1 < (r.Slings.length : Int))) (by kernel_rfl) (fun c4 => ?_) (fun c4 => ?_)
      · rw [if_pos (ot c4)] at g2
        refine Goes.skip ?_
        refine sq (Goes.block ?_)
        refine sq ?_
        obtain ⟨x5, e_x5, g2⟩ := bnd g2
        refine Goes.rp fol [3, 5] [(1, .str name), (2, .ptr 0 0), (5, .i i_1), (20, .bool (x5.Name == name))] [.cells [.i r.Day, vl qa r.Slings]] [.done (.opt (qd Tryz.prog 35 (vl qa r.Slings) (.i i_1))) (.fptr (r.Slings.flatMap qa.c) ((i_1 : Int).toNat * 9 + 0)), .done (qx Tryz.prog 9 (.fptr (r.Slings.flatMap qa.c) ((i_1 : Int).toNat * 9 + 0))) (.str x5.Name)] (an (qB qal (E := qa) rfl e_x5) (an (qA ce9 (E := qa) rfl e_x5 (nl rfl) rfl) trivial)) ?_
        refine Goes.ifB (b := x5.Name == name) (by kernel_rfl) (fun c6 => ?_) (fun c6 => ?_)
        · rw [if_pos (c6)] at g2
          refine sq (Goes.rg fol [(4, .i i_1)] [.cells [.i r.Day, vl qa r.Slings]] ?_)
          refine Goes.ret ?_
          obtain rfl := si g2
          exact Or.inr (⟨rfl, _, rfl, (Goes.retW (xs := [.i i_1]) (by kernel_rfl) (FzW.still tI))⟩)
        · rw [if_neg (nb c6)] at g2
          refine Goes.skip ?_
          refine Goes.rg fol [(1, .str name), (2, .ptr 0 0), (5, .i (w64 (i_1 + 1)))] [.cells [.i r.Day, vl qa r.Slings]] ?_
          exact ⟨M, (ofG 22 [(1, .str name), (2, .ptr 0 0), (5, .i (w64 (i_1 + 1)))], [.cells [.i r.Day, vl qa r.Slings]]), Nat.lt_succ_self _, (Sub.refl _), _, rfl, g2⟩
      · rw [if_neg (of_ c4)] at g2
        refine Goes.exit ?_
        obtain rfl := si g2
        exact Or.inl (⟨rfl, rfl, (Sub.norm [] [] rfl rfl .nil .nil)⟩)
  rintro x s' (⟨rfl, rfl, hsub⟩ | ⟨rfl, q7, rfl, hret⟩)
  · try dsimp only at h
    refine Goes.sub hsub ?_
    refine sq (Goes.rg fol [(4, .i (-1))] [] ?_)
    refine Goes.ret ?_
    obtain rfl := si h
    exact (Goes.retW (xs := [.i (-1)]) (by kernel_rfl) (FzW.still tI))
  · try dsimp only at h
    obtain rfl := si h
    exact hret
def vC (s_ : qc) (day : Int) : Option Bool :=
  (if s_.Gone = true then
  some true
  else
  if day > s_.Last then
  some true
  else
  some (decide (s_.Used = s_.Uses)) : Option Bool).bind fun b3 =>
  some b3
theorem qai (s_ : qc) (day : Int) {res : Bool} (h : vC s_ day = some res) : qy Tryz.prog (.fn 33) [.agg (cS s_), .i day] [] (.bool res) [] := by
  unfold vC at h
  refine Goes.fnW Tryz.func33 rfl rfl (m := 20) rfl (rs := [.tmp 4]) rfl (l := [(0, .agg (cS s_)), (1, .i day)]) rfl ?_
  refine sq (Goes.rg fol [(1, .i day), (2, .ptr 0 0)] [.cells (cS s_)] ?_)
  refine sq ?_
  obtain ⟨b3, g_v4, h⟩ := bnd h
  refine Goes.cut (s' := (ofG 20 [(4, .bool b3)], [.cells (cS s_)])) ?_ ?_
  · rcases Bool.eq_false_or_eq_true (s_.Gone) with c1 | c1
    · rw [if_pos (c1)] at g_v4
      obtain rfl := si g_v4
      exact qm.rp fol [2] [(4, .bool true)] [.cells (cS s_)] [.done (.done (.bool s_.Gone)) (.bool true)] (an (congrArg (fun x => Pg.done (.bool x)) c1) trivial)
    · rw [if_neg (nb c1)] at g_v4
      rcases Bool.eq_false_or_eq_true (decide (day > s_.Last)) with c2 | c2
      · rw [if_pos (ot c2)] at g_v4
        obtain rfl := si g_v4
        exact qm.rp fol [2, 8] [(4, .bool true)] [.cells (cS s_)] [.done (.done (.bool s_.Gone)) (.bool false), .done (.done (.bool (decide (day > s_.Last)))) (.bool true)] (an (congrArg (fun x => Pg.done (.bool x)) c1) (an (congrArg (fun x => Pg.done (.bool x)) c2) trivial))
      · rw [if_neg (of_ c2)] at g_v4
        obtain rfl := si g_v4
        exact qm.rp fol [2, 8] [(4, .bool (decide (s_.Used = s_.Uses)))] [.cells (cS s_)] [.done (.done (.bool s_.Gone)) (.bool false), .done (.done (.bool (decide (day > s_.Last)))) (.bool false)] (an (congrArg (fun x => Pg.done (.bool x)) c1) (an (congrArg (fun x => Pg.done (.bool x)) c2) trivial))
  refine Goes.ret ?_
  obtain rfl := si h
  exact (Goes.retW (xs := [.bool b3]) (by kernel_rfl) (FzW.still tB))
def yj (s_ : qc) (day : Int) : Option Bool :=
  (if s_.Limit > 0 then
  some (decide (day ≤ s_.Until))
  else
  some false : Option Bool).bind fun b2 =>
  some b2
theorem qc9 (s_ : qc) (day : Int) {res : Bool} (h : yj s_ day = some res) : qy Tryz.prog (.fn 34) [.agg (cS s_), .i day] [] (.bool res) [] := by
  unfold yj at h
  refine Goes.fnW Tryz.func34 rfl rfl (m := 14) rfl (rs := [.tmp 4]) rfl (l := [(0, .agg (cS s_)), (1, .i day)]) rfl ?_
  refine sq (Goes.rg fol [(1, .i day), (2, .ptr 0 0)] [.cells (cS s_)] ?_)
  refine sq ?_
  obtain ⟨b2, g_v3, h⟩ := bnd h
  refine Goes.cut (s' := (ofG 14 [(4, .bool b2)], [.cells (cS s_)])) ?_ ?_
  · rcases Bool.eq_false_or_eq_true (decide (s_.Limit > 0)) with c1 | c1
    · rw [if_pos (ot c1)] at g_v3
      obtain rfl := si g_v3
      exact qm.rp fol [3] [(4, .bool (decide (day ≤ s_.Until)))] [.cells (cS s_)] [.done (.done (.bool (decide (s_.Limit > 0)))) (.bool true)] (an (congrArg (fun x => Pg.done (.bool x)) c1) trivial)
    · rw [if_neg (of_ c1)] at g_v3
      obtain rfl := si g_v3
      exact qm.rp fol [3] [(4, .bool false)] [.cells (cS s_)] [.done (.done (.bool (decide (s_.Limit > 0)))) (.bool false)] (an (congrArg (fun x => Pg.done (.bool x)) c1) trivial)
  refine Goes.ret ?_
  obtain rfl := si h
  exact (Goes.retW (xs := [.bool b2]) (by kernel_rfl) (FzW.still tB))
def zb (r : qI) (e : ql) (x1 : Int) : Nat → Bool → Bool → Int → Option (Bool × Bool)
  | 0, _, _, _ => none
  | K + 1, some_19, open__20, i_21 =>
    if i_21 < (r.Slings.length : Int) then
    (((idx r.Slings i_21).bind fun x29 =>
    (idx e.Names 0).bind fun x30 =>
    if (x29.Batch == x30) = true then
    (if open__20 = true then
    some true
    else
    (vC x29 x1).bind fun r33 =>
    some (!r33) : Option Bool).bind fun open__34 =>
    some (true, open__34)
    else
    some (some_19, open__20) : Option (Bool × Bool))).bind fun (some_26, open__27) =>
    zb r e x1 K some_26 open__27 (w64 (i_21 + 1))
    else
    some (some_19, open__20)
def qV (N : Nat) (r : qI) (e : ql) : Option Int :=
  (idx e.Values 0).bind fun x1 =>
  if x1 > 99999 then
  some 3
  else
  if x1 < r.Day then
  some 19
  else
  (idx e.Names 0).bind fun x4 =>
  (qaO N r x4).bind fun r5 =>
  if (e.Kind == [109, 97, 107, 101]) = true then
  if r5 ≥ 0 then
  some 9
  else
  ((idx e.Values 1).bind fun x8 =>
  (kZ x8 1 9999).bind fun r9 =>
  if r9 = true then
  some true
  else
  (idx e.Values 2).bind fun x11 =>
  (kZ x11 1 9999).bind fun r12 =>
  if r12 = true then
  some true
  else
  some (decide ((w64 (x1 + x8)) > 99999)) : Option Bool).bind fun b14 =>
  if b14 = true then
  some 3
  else
  if (r.Slings.length : Int) ≥ 256 then
  some 5
  else
  some 0
  else
  if (e.Kind == [114, 101, 99, 97, 108, 108]) = true then
  (zb r e x1 N false false 0).bind fun (some_22, open__23) =>
  if (!some_22) = true then
  some 10
  else
  if (!open__23) = true then
  some 20
  else
  some 0
  else
  if r5 < 0 then
  some 10
  else
  (idx r.Slings r5).bind fun x39 =>
  (vC x39 x1).bind fun r40 =>
  if r40 = true then
  some 20
  else
  (if (e.Kind == [116, 101, 115, 116]) = true then
  (idx e.Values 1).bind fun x43 =>
  (kZ x43 2 999999999).bind fun r44 =>
  some r44
  else
  some false : Option Bool).bind fun b45 =>
  if b45 = true then
  some 3
  else
  ((if (e.Kind == [117, 115, 101]) = true then
  (yj x39 x1).bind fun r51 =>
  if (!r51) = true then
  some (.inr 24)
  else
  (idx e.Values 1).bind fun x53 =>
  if x53 > x39.Limit then
  some (.inr 31)
  else
  some (.inl ())
  else
  some (.inl ()) : Option (Unit ⊕ Int))).bind (fun
  | (.inl ()) =>
  some 0
  | (.inr q55) =>
  some q55)
theorem qcr (N : Nat) (r : qI) (e : ql) {res : Int} (h : qV N r e = some res) : qy Tryz.prog (.fn 139) [.agg [.i r.Day, vl qa r.Slings], .agg (cE e)] [] (.i res) [] := by
  unfold qV at h
  refine Goes.fnW Tryz.func139 rfl rfl (m := 127) rfl (rs := [.tmp 4]) rfl (l := [(0, .agg [.i r.Day, vl qa r.Slings]), (1, .agg (cE e))]) rfl ?_
  refine sq (Goes.rg fol [(2, .ptr 0 0), (3, .ptr 1 0)] [.cells [.i r.Day, vl qa r.Slings], .cells (cE e)] ?_)
  refine sq ?_
  obtain ⟨x1, e_x1, h⟩ := bnd h
  refine Goes.rp fol [2, 3] [(2, .ptr 0 0), (3, .ptr 1 0), (5, .i x1)] [.cells [.i r.Day, vl qa r.Slings], .cells (cE e)] [.done (.opt (qd Tryz.prog 24 (vl encI e.Values) (.i 0))) (.fptr (e.Values.flatMap encI.c) ((0 : Int).toNat * 1 + 0)), .done (qx Tryz.prog 3 (.fptr (e.Values.flatMap encI.c) ((0 : Int).toNat * 1 + 0))) (.i x1)] (an (qB zA (E := encI) rfl e_x1) (an (qA ce3 (E := encI) rfl e_x1 (nl rfl) rfl) trivial)) ?_
  refine sq ?_
  refine sq (Goes.rg fol [(2, .ptr 0 0), (3, .ptr 1 0), (5, .i x1), (16, .bool (decide (x1 > 99999)))] [.cells [.i r.Day, vl qa r.Slings], .cells (cE e)] ?_)
  refine Goes.ifB (b := decide (x1 > 99999)) (by kernel_rfl) (fun c2 => ?_) (fun c2 => ?_)
  · rw [if_pos (ot c2)] at h
    refine sq (Goes.rg fol [(4, .i 3)] [.cells [.i r.Day, vl qa r.Slings], .cells (cE e)] ?_)
    refine Goes.ret ?_
    obtain rfl := si h
    exact (Goes.retW (xs := [.i 3]) (by kernel_rfl) (FzW.still tI))
  · rw [if_neg (of_ c2)] at h
    refine Goes.skip ?_
    refine sq ?_
    refine sq (Goes.rg fol [(2, .ptr 0 0), (3, .ptr 1 0), (5, .i x1), (20, .bool (decide (x1 < r.Day)))] [.cells [.i r.Day, vl qa r.Slings], .cells (cE e)] ?_)
    refine Goes.ifB (b := decide (x1 < r.Day)) (by kernel_rfl) (fun c3 => ?_) (fun c3 => ?_)
    · rw [if_pos (ot c3)] at h
      refine sq (Goes.rg fol [(4, .i 19)] [.cells [.i r.Day, vl qa r.Slings], .cells (cE e)] ?_)
      refine Goes.ret ?_
      obtain rfl := si h
      exact (Goes.retW (xs := [.i 19]) (by kernel_rfl) (FzW.still tI))
    · rw [if_neg (of_ c3)] at h
      refine Goes.skip ?_
      refine sq ?_
      obtain ⟨x4, e_x4, h⟩ := bnd h
      obtain ⟨r5, e_r5, h⟩ := bnd h
      refine Goes.rp fol [3, 4, 5] [(2, .ptr 0 0), (3, .ptr 1 0), (5, .i x1), (6, .i r5)] [.cells [.i r.Day, vl qa r.Slings], .cells (cE e)] [.done (.opt (qd Tryz.prog 23 (vl encS e.Names) (.i 0))) (.fptr (e.Names.flatMap encS.c) ((0 : Int).toNat * 1 + 0)), .done (qx Tryz.prog 9 (.fptr (e.Names.flatMap encS.c) ((0 : Int).toNat * 1 + 0))) (.str x4), .call 27 [.agg [.i r.Day, vl qa r.Slings], .str x4] [.cells [.i r.Day, vl qa r.Slings], .cells (cE e)] [] [.agg [.i r.Day, vl qa r.Slings], .str x4] (.i r5)] (an (qB qaq (E := encS) rfl e_x4) (an (qA ce9 (E := encS) rfl e_x4 (nl rfl) rfl) (an (qo (AllST.cons (Still.agg (AllST.cons tI (AllST.cons (qD qa _ (nl rfl)) AllST.nil))) (AllST.cons tS AllST.nil)) (qfB N r x4 e_r5) tI) trivial))) ?_
      refine sq ?_
      refine sq (Goes.rg fol [(2, .ptr 0 0), (3, .ptr 1 0), (5, .i x1), (6, .i r5), (28, .str e.Kind)] [.cells [.i r.Day, vl qa r.Slings], .cells (cE e)] ?_)
      refine Goes.block ?_
      refine sq (Goes.rg fol [(2, .ptr 0 0), (3, .ptr 1 0), (5, .i x1), (6, .i r5), (28, .str e.Kind), (29, .bool (e.Kind == [109, 97, 107, 101]))] [.cells [.i r.Day, vl qa r.Slings], .cells (cE e)] ?_)
      refine Goes.ifB (b := e.Kind == [109, 97, 107, 101]) (by kernel_rfl) (fun c6 => ?_) (fun c6 => ?_)
      · rw [if_pos (c6)] at h
        refine sq ?_
        refine sq (Goes.rg fol [(2, .ptr 0 0), (3, .ptr 1 0), (5, .i x1), (32, .bool (decide (r5 ≥ 0)))] [.cells [.i r.Day, vl qa r.Slings], .cells (cE e)] ?_)
        refine Goes.ifB (b := decide (r5 ≥ 0)) (by kernel_rfl) (fun c7 => ?_) (fun c7 => ?_)
        · rw [if_pos (ot c7)] at h
          refine sq (Goes.rg fol [(4, .i 9)] [.cells [.i r.Day, vl qa r.Slings], .cells (cE e)] ?_)
          refine Goes.ret ?_
          obtain rfl := si h
          exact (Goes.retW (xs := [.i 9]) (by kernel_rfl) (FzW.still tI))
        · rw [if_neg (of_ c7)] at h
          refine Goes.skip ?_
          refine sq ?_
          refine sq ?_
          obtain ⟨b14, g_v15, h⟩ := bnd h
          refine Goes.cut (s' := (ofG 127 [(2, .ptr 0 0), (53, .bool b14)], [.cells [.i r.Day, vl qa r.Slings], .cells (cE e)])) ?_ ?_
          · obtain ⟨x8, e_x8, g_v15⟩ := bnd g_v15
            obtain ⟨r9, e_r9, g_v15⟩ := bnd g_v15
            rcases Bool.eq_false_or_eq_true (r9) with c10 | c10
            · rw [if_pos (c10)] at g_v15
              obtain rfl := si g_v15
              exact qm.rp fol [2, 3, 4, 5] [(2, .ptr 0 0), (53, .bool true)] [.cells [.i r.Day, vl qa r.Slings], .cells (cE e)] [.done (.opt (qd Tryz.prog 24 (vl encI e.Values) (.i 1))) (.fptr (e.Values.flatMap encI.c) ((1 : Int).toNat * 1 + 0)), .done (qx Tryz.prog 3 (.fptr (e.Values.flatMap encI.c) ((1 : Int).toNat * 1 + 0))) (.i x8), .call 36 [.i x8, .i 1, .i 9999] [.cells [.i r.Day, vl qa r.Slings], .cells (cE e)] [] [.i x8, .i 1, .i 9999] (.bool r9), .done (.done (.bool r9)) (.bool true)] (an (qB zA (E := encI) rfl e_x8) (an (qA ce3 (E := encI) rfl e_x8 (nl rfl) rfl) (an (qo (AllST.cons tI (AllST.cons tI (AllST.cons tI AllST.nil))) (kN x8 1 9999 e_r9) tB) (an (congrArg (fun x => Pg.done (.bool x)) c10) trivial))))
            · rw [if_neg (nb c10)] at g_v15
              obtain ⟨x11, e_x11, g_v15⟩ := bnd g_v15
              obtain ⟨r12, e_r12, g_v15⟩ := bnd g_v15
              rcases Bool.eq_false_or_eq_true (r12) with c13 | c13
              · rw [if_pos (c13)] at g_v15
                obtain rfl := si g_v15
                exact qm.rp fol [2, 3, 4, 5, 8, 9, 10, 12] [(2, .ptr 0 0), (53, .bool true)] [.cells [.i r.Day, vl qa r.Slings], .cells (cE e)] [.done (.opt (qd Tryz.prog 24 (vl encI e.Values) (.i 1))) (.fptr (e.Values.flatMap encI.c) ((1 : Int).toNat * 1 + 0)), .done (qx Tryz.prog 3 (.fptr (e.Values.flatMap encI.c) ((1 : Int).toNat * 1 + 0))) (.i x8), .call 36 [.i x8, .i 1, .i 9999] [.cells [.i r.Day, vl qa r.Slings], .cells (cE e)] [] [.i x8, .i 1, .i 9999] (.bool r9), .done (.done (.bool r9)) (.bool false), .done (.opt (qd Tryz.prog 24 (vl encI e.Values) (.i 2))) (.fptr (e.Values.flatMap encI.c) ((2 : Int).toNat * 1 + 0)), .done (qx Tryz.prog 3 (.fptr (e.Values.flatMap encI.c) ((2 : Int).toNat * 1 + 0))) (.i x11), .call 36 [.i x11, .i 1, .i 9999] [.cells [.i r.Day, vl qa r.Slings], .cells (cE e)] [] [.i x11, .i 1, .i 9999] (.bool r12), .done (.done (.bool r12)) (.bool true)] (an (qB zA (E := encI) rfl e_x8) (an (qA ce3 (E := encI) rfl e_x8 (nl rfl) rfl) (an (qo (AllST.cons tI (AllST.cons tI (AllST.cons tI AllST.nil))) (kN x8 1 9999 e_r9) tB) (an (congrArg (fun x => Pg.done (.bool x)) c10) (an (qB zA (E := encI) rfl e_x11) (an (qA ce3 (E := encI) rfl e_x11 (nl rfl) rfl) (an (qo (AllST.cons tI (AllST.cons tI (AllST.cons tI AllST.nil))) (kN x11 1 9999 e_r12) tB) (an (congrArg (fun x => Pg.done (.bool x)) c13) trivial))))))))
              · rw [if_neg (nb c13)] at g_v15
                obtain rfl := si g_v15
                exact qm.rp fol [2, 3, 4, 5, 8, 9, 10, 12, 16, 17] [(2, .ptr 0 0), (53, .bool (decide ((w64 (x1 + x8)) > 99999)))] [.cells [.i r.Day, vl qa r.Slings], .cells (cE e)] [.done (.opt (qd Tryz.prog 24 (vl encI e.Values) (.i 1))) (.fptr (e.Values.flatMap encI.c) ((1 : Int).toNat * 1 + 0)), .done (qx Tryz.prog 3 (.fptr (e.Values.flatMap encI.c) ((1 : Int).toNat * 1 + 0))) (.i x8), .call 36 [.i x8, .i 1, .i 9999] [.cells [.i r.Day, vl qa r.Slings], .cells (cE e)] [] [.i x8, .i 1, .i 9999] (.bool r9), .done (.done (.bool r9)) (.bool false), .done (.opt (qd Tryz.prog 24 (vl encI e.Values) (.i 2))) (.fptr (e.Values.flatMap encI.c) ((2 : Int).toNat * 1 + 0)), .done (qx Tryz.prog 3 (.fptr (e.Values.flatMap encI.c) ((2 : Int).toNat * 1 + 0))) (.i x11), .call 36 [.i x11, .i 1, .i 9999] [.cells [.i r.Day, vl qa r.Slings], .cells (cE e)] [] [.i x11, .i 1, .i 9999] (.bool r12), .done (.done (.bool r12)) (.bool false), .done (.opt (qd Tryz.prog 24 (vl encI e.Values) (.i 1))) (.fptr (e.Values.flatMap encI.c) ((1 : Int).toNat * 1 + 0)), .done (qx Tryz.prog 3 (.fptr (e.Values.flatMap encI.c) ((1 : Int).toNat * 1 + 0))) (.i x8)] (an (qB zA (E := encI) rfl e_x8) (an (qA ce3 (E := encI) rfl e_x8 (nl rfl) rfl) (an (qo (AllST.cons tI (AllST.cons tI (AllST.cons tI AllST.nil))) (kN x8 1 9999 e_r9) tB) (an (congrArg (fun x => Pg.done (.bool x)) c10) (an (qB zA (E := encI) rfl e_x11) (an (qA ce3 (E := encI) rfl e_x11 (nl rfl) rfl) (an (qo (AllST.cons tI (AllST.cons tI (AllST.cons tI AllST.nil))) (kN x11 1 9999 e_r12) tB) (an (congrArg (fun x => Pg.done (.bool x)) c13) (an (qB zA (E := encI) rfl e_x8) (an (qA ce3 (E := encI) rfl e_x8 (nl rfl) rfl) trivial))))))))))
          refine Goes.ifB (b := b14) (by kernel_rfl) (fun c16 => ?_) (fun c16 => ?_)
          · rw [if_pos (c16)] at h
            refine sq (Goes.rg fol [(4, .i 3)] [.cells [.i r.Day, vl qa r.Slings], .cells (cE e)] ?_)
            refine Goes.ret ?_
            obtain rfl := si h
            exact (Goes.retW (xs := [.i 3]) (by kernel_rfl) (FzW.still tI))
          · rw [if_neg (nb c16)] at h
            refine Goes.skip ?_
            refine sq ?_
            refine sq (Goes.rg fol [(57, .bool (decide ((r.Slings.length : Int) ≥ 256)))] [.cells [.i r.Day, vl qa r.Slings], .cells (cE e)] ?_)
            refine Goes.ifB (b := decide ((r.Slings.length : Int) ≥ 256)) (by kernel_rfl) (fun c17 => ?_) (fun c17 => ?_)
            · rw [if_pos (ot c17)] at h
              refine sq (Goes.rg fol [(4, .i 5)] [.cells [.i r.Day, vl qa r.Slings], .cells (cE e)] ?_)
              refine Goes.ret ?_
              obtain rfl := si h
              exact (Goes.retW (xs := [.i 5]) (by kernel_rfl) (FzW.still tI))
            · rw [if_neg (of_ c17)] at h
              refine Goes.skip ?_
              refine sq (Goes.rg fol [(4, .i 0)] [.cells [.i r.Day, vl qa r.Slings], .cells (cE e)] ?_)
              refine Goes.ret ?_
              obtain rfl := si h
              exact (Goes.retW (xs := [.i 0]) (by kernel_rfl) (FzW.still tI))
      · rw [if_neg (nb c6)] at h
        refine sq (Goes.rg fol [(2, .ptr 0 0), (3, .ptr 1 0), (5, .i x1), (6, .i r5), (58, .bool (e.Kind == [114, 101, 99, 97, 108, 108]))] [.cells [.i r.Day, vl qa r.Slings], .cells (cE e)] ?_)
        refine Goes.ifB (b := e.Kind == [114, 101, 99, 97, 108, 108]) (by kernel_rfl) (fun c18 => ?_) (fun c18 => ?_)
        · rw [if_pos (c18)] at h
          refine sq (Goes.rg fol [(2, .ptr 0 0), (3, .ptr 1 0), (5, .i x1), (7, .bool false), (8, .bool false)] [.cells [.i r.Day, vl qa r.Slings], .cells (cE e)] ?_)
          refine sq ?_
          refine sq (Goes.rg fol [(2, .ptr 0 0), (3, .ptr 1 0), (5, .i x1), (7, .bool false), (8, .bool false), (9, .i 0)] [.cells [.i r.Day, vl qa r.Slings], .cells (cE e)] ?_)
          refine Goes.block ?_
          obtain ⟨r24, g24, h⟩ := bnd h
          refine Goes.imp (Q := fun x s' => (x = .exit 1 ∧ ∃ some_22 open__23, (some_22, open__23) = r24 ∧ Sub s' (ofG 127 [(7, .bool some_22), (8, .bool open__23)], []))) ?_ ?_
          · refine Goes.loopS (fun M s => ∃ (some_19 : Bool) (open__20 : Bool) (i_21 : Int), s = (ofG 127 [(2, .ptr 0 0), (3, .ptr 1 0), (5, .i x1), (7, .bool some_19), (8, .bool open__20), (9, .i i_21)], [.cells [.i r.Day, vl qa r.Slings], .cells (cE e)]) ∧ zb r e x1 M some_19 open__20 i_21 = some r24) ?_ (m := N) ⟨_, _, _, rfl, g24⟩
            rintro M s ⟨some_19, open__20, i_21, rfl, g24⟩
            cases M with
            | zero => simp only [zb] at g24; cases g24
            | succ M =>
              rw [zb] at g24
              refine sq ?_
              refine sq (Goes.rg fol [(2, .ptr 0 0), (3, .ptr 1 0), (5, .i x1), (7, .bool some_19), (8, .bool open__20), (9, .i i_21), (64, .bool (decide (i_21 < (r.Slings.length : Int))))] [.cells [.i r.Day, vl qa r.Slings], .cells (cE e)] ?_)
              refine Goes.ifB (b := decide (i_21 < (r.Slings.length : Int))) (by kernel_rfl) (fun c25 => ?_) (fun c25 => ?_)
              · rw [if_pos (ot c25)] at g24
                refine Goes.skip ?_
                refine sq ?_
                obtain ⟨r28, g28, g24⟩ := bnd g24
                refine Goes.imp (Q := fun x s' => (x = .normal ∧ ∃ some_26 open__27, (some_26, open__27) = r28 ∧ Sub s' (ofG 127 [(2, .ptr 0 0), (3, .ptr 1 0), (5, .i x1), (7, .bool some_26), (8, .bool open__27), (9, .i i_21)], [.cells [.i r.Day, vl qa r.Slings], .cells (cE e)]))) ?_ ?_
                · refine Goes.block ?_
                  refine sq ?_
                  obtain ⟨x29, e_x29, g28⟩ := bnd g28
                  obtain ⟨x30, e_x30, g28⟩ := bnd g28
                  refine Goes.rp fol [3, 5, 8, 9] [(2, .ptr 0 0), (3, .ptr 1 0), (5, .i x1), (7, .bool some_19), (8, .bool open__20), (9, .i i_21), (77, .bool (x29.Batch == x30))] [.cells [.i r.Day, vl qa r.Slings], .cells (cE e)] [.done (.opt (qd Tryz.prog 35 (vl qa r.Slings) (.i i_21))) (.fptr (r.Slings.flatMap qa.c) ((i_21 : Int).toNat * 9 + 0)), .done (qx Tryz.prog 9 (.fptr (r.Slings.flatMap qa.c) ((i_21 : Int).toNat * 9 + 1))) (.str x29.Batch), .done (.opt (qd Tryz.prog 23 (vl encS e.Names) (.i 0))) (.fptr (e.Names.flatMap encS.c) ((0 : Int).toNat * 1 + 0)), .done (qx Tryz.prog 9 (.fptr (e.Names.flatMap encS.c) ((0 : Int).toNat * 1 + 0))) (.str x30)] (an (qB qal (E := qa) rfl e_x29) (an (qA ce9 (E := qa) rfl e_x29 (nl rfl) rfl) (an (qB qaq (E := encS) rfl e_x30) (an (qA ce9 (E := encS) rfl e_x30 (nl rfl) rfl) trivial)))) ?_
                  refine Goes.ifB (b := x29.Batch == x30) (by kernel_rfl) (fun c31 => ?_) (fun c31 => ?_)
                  · rw [if_pos (c31)] at g28
                    refine sq (Goes.rg fol [(2, .ptr 0 0), (3, .ptr 1 0), (5, .i x1), (7, .bool true), (8, .bool open__20), (9, .i i_21)] [.cells [.i r.Day, vl qa r.Slings], .cells (cE e)] ?_)
                    obtain ⟨open__34, g_v35, g28⟩ := bnd g28
                    refine Goes.cut (s' := (ofG 127 [(2, .ptr 0 0), (3, .ptr 1 0), (5, .i x1), (7, .bool true), (8, .bool open__34), (9, .i i_21)], [.cells [.i r.Day, vl qa r.Slings], .cells (cE e)])) ?_ ?_
                    · rcases Bool.eq_false_or_eq_true (open__20) with c32 | c32
                      · rw [if_pos (c32)] at g_v35
                        obtain rfl := si g_v35
                        exact qm.rp fol [1] [(2, .ptr 0 0), (3, .ptr 1 0), (5, .i x1), (7, .bool true), (8, .bool true), (9, .i i_21)] [.cells [.i r.Day, vl qa r.Slings], .cells (cE e)] [.done (.done (.bool open__20)) (.bool true)] (an (congrArg (fun x => Pg.done (.bool x)) c32) trivial)
                      · rw [if_neg (nb c32)] at g_v35
                        obtain ⟨r33, e_r33, g_v35⟩ := bnd g_v35
                        obtain rfl := si g_v35
                        exact qm.rp fol [1, 5, 6, 8] [(2, .ptr 0 0), (3, .ptr 1 0), (5, .i x1), (7, .bool true), (8, .bool (!r33)), (9, .i i_21)] [.cells [.i r.Day, vl qa r.Slings], .cells (cE e)] [.done (.done (.bool open__20)) (.bool false), .done (.opt (qd Tryz.prog 35 (vl qa r.Slings) (.i i_21))) (.fptr (r.Slings.flatMap qa.c) ((i_21 : Int).toNat * 9 + 0)), .done (qx Tryz.prog 60 (.fptr (r.Slings.flatMap qa.c) ((i_21 : Int).toNat * 9 + 0))) (.agg (cS x29)), .call 33 [.agg (cS x29), .i x1] [.cells [.i r.Day, vl qa r.Slings], .cells (cE e)] [] [.agg (cS x29), .i x1] (.bool r33)] (an (congrArg (fun x => Pg.done (.bool x)) c32) (an (qB qal (E := qa) rfl e_x29) (an (qaT ag60 (E := qa) rfl e_x29) (an (qo (AllST.cons (Still.agg (AllST.cons tS (AllST.cons tS (AllST.cons tI (AllST.cons tI (AllST.cons tI (AllST.cons tI (AllST.cons tI (AllST.cons tI (AllST.cons tB AllST.nil)))))))))) (AllST.cons tI AllST.nil)) (qai x29 x1 e_r33) tB) trivial))))
                    obtain rfl := si g28
                    exact ⟨rfl, _, _, rfl, (Sub.refl _)⟩
                  · rw [if_neg (nb c31)] at g28
                    refine Goes.skip ?_
                    obtain rfl := si g28
                    exact ⟨rfl, _, _, rfl, (Sub.keep [2, 3, 5, 7, 8, 9] rfl rfl)⟩
                rintro x s' ⟨rfl, some_26, open__27, rfl, hsub⟩
                try dsimp only at g24
                refine Goes.sub hsub ?_
                refine Goes.rg fol [(2, .ptr 0 0), (3, .ptr 1 0), (5, .i x1), (7, .bool some_26), (8, .bool open__27), (9, .i (w64 (i_21 + 1)))] [.cells [.i r.Day, vl qa r.Slings], .cells (cE e)] ?_
                exact ⟨M, (ofG 127 [(2, .ptr 0 0), (3, .ptr 1 0), (5, .i x1), (7, .bool some_26), (8, .bool open__27), (9, .i (w64 (i_21 + 1)))], [.cells [.i r.Day, vl qa r.Slings], .cells (cE e)]), Nat.lt_succ_self _, (Sub.refl _), _, _, _, rfl, g24⟩
              · rw [if_neg (of_ c25)] at g24
                refine Goes.exit ?_
                obtain rfl := si g24
                exact ⟨rfl, _, _, rfl, (Sub.norm [] [] rfl rfl (.drop (.drop (.drop (.keep (.same nB) (.keep (.same nB) .nil))))) .nil)⟩
          rintro x s' ⟨rfl, some_22, open__23, rfl, hsub⟩
          try dsimp only at h
          refine Goes.sub hsub ?_
          refine sq ?_
          refine sq (Goes.rg fol [(8, .bool open__23), (90, .bool (!some_22))] [] ?_)
          refine Goes.ifB (b := !some_22) (by kernel_rfl) (fun c36 => ?_) (fun c36 => ?_)
          · rw [if_pos (c36)] at h
            refine sq (Goes.rg fol [(4, .i 10)] [] ?_)
            refine Goes.ret ?_
            obtain rfl := si h
            exact (Goes.retW (xs := [.i 10]) (by kernel_rfl) (FzW.still tI))
          · rw [if_neg (nb c36)] at h
            refine Goes.skip ?_
            refine sq ?_
            refine sq (Goes.rg fol [(92, .bool (!open__23))] [] ?_)
            refine Goes.ifB (b := !open__23) (by kernel_rfl) (fun c37 => ?_) (fun c37 => ?_)
            · rw [if_pos (c37)] at h
              refine sq (Goes.rg fol [(4, .i 20)] [] ?_)
              refine Goes.ret ?_
              obtain rfl := si h
              exact (Goes.retW (xs := [.i 20]) (by kernel_rfl) (FzW.still tI))
            · rw [if_neg (nb c37)] at h
              refine Goes.skip ?_
              refine sq (Goes.rg fol [(4, .i 0)] [] ?_)
              refine Goes.ret ?_
              obtain rfl := si h
              exact (Goes.retW (xs := [.i 0]) (by kernel_rfl) (FzW.still tI))
        · rw [if_neg (nb c18)] at h
          refine Goes.skip ?_
          refine sq ?_
          refine sq (Goes.rg fol [(2, .ptr 0 0), (3, .ptr 1 0), (5, .i x1), (6, .i r5), (94, .bool (decide (r5 < 0)))] [.cells [.i r.Day, vl qa r.Slings], .cells (cE e)] ?_)
          refine Goes.ifB (b := decide (r5 < 0)) (by kernel_rfl) (fun c38 => ?_) (fun c38 => ?_)
          · rw [if_pos (ot c38)] at h
            refine sq (Goes.rg fol [(4, .i 10)] [.cells [.i r.Day, vl qa r.Slings], .cells (cE e)] ?_)
            refine Goes.ret ?_
            obtain rfl := si h
            exact (Goes.retW (xs := [.i 10]) (by kernel_rfl) (FzW.still tI))
          · rw [if_neg (of_ c38)] at h
            refine Goes.skip ?_
            refine sq ?_
            obtain ⟨x39, e_x39, h⟩ := bnd h
            refine Goes.rp fol [3, 4] [(3, .ptr 1 0), (5, .i x1), (10, .ptr 2 0)] [.cells [.i r.Day, vl qa r.Slings], .cells (cE e), .cells (cS x39)] [.done (.opt (qd Tryz.prog 35 (vl qa r.Slings) (.i r5))) (.fptr (r.Slings.flatMap qa.c) ((r5 : Int).toNat * 9 + 0)), .done (qx Tryz.prog 60 (.fptr (r.Slings.flatMap qa.c) ((r5 : Int).toNat * 9 + 0))) (.agg (cS x39))] (an (qB qal (E := qa) rfl e_x39) (an (qaT ag60 (E := qa) rfl e_x39) trivial)) ?_
            refine sq ?_
            refine sq ?_
            obtain ⟨r40, e_r40, h⟩ := bnd h
            refine Goes.rp fol [2] [(3, .ptr 1 0), (5, .i x1), (10, .ptr 2 0), (102, .bool r40)] [.cells [.i r.Day, vl qa r.Slings], .cells (cE e), .cells (cS x39)] [.call 33 [.agg (cS x39), .i x1] [.cells [.i r.Day, vl qa r.Slings], .cells (cE e), .cells (cS x39)] [] [.agg (cS x39), .i x1] (.bool r40)] (an (qo (AllST.cons (Still.agg (AllST.cons tS (AllST.cons tS (AllST.cons tI (AllST.cons tI (AllST.cons tI (AllST.cons tI (AllST.cons tI (AllST.cons tI (AllST.cons tB AllST.nil)))))))))) (AllST.cons tI AllST.nil)) (qai x39 x1 e_r40) tB) trivial) ?_
            refine Goes.ifB (b := r40) (by kernel_rfl) (fun c41 => ?_) (fun c41 => ?_)
            · rw [if_pos (c41)] at h
              refine sq (Goes.rg fol [(4, .i 20)] [.cells [.i r.Day, vl qa r.Slings], .cells (cE e), .cells (cS x39)] ?_)
              refine Goes.ret ?_
              obtain rfl := si h
              exact (Goes.retW (xs := [.i 20]) (by kernel_rfl) (FzW.still tI))
            · rw [if_neg (nb c41)] at h
              refine Goes.skip ?_
              refine sq ?_
              refine sq ?_
              obtain ⟨b45, g_v46, h⟩ := bnd h
              refine Goes.cut (s' := (ofG 127 [(3, .ptr 1 0), (5, .i x1), (10, .ptr 2 0), (112, .bool b45)], [.cells [.i r.Day, vl qa r.Slings], .cells (cE e), .cells (cS x39)])) ?_ ?_
              · rcases Bool.eq_false_or_eq_true (e.Kind == [116, 101, 115, 116]) with c42 | c42
                · rw [if_pos (c42)] at g_v46
                  obtain ⟨x43, e_x43, g_v46⟩ := bnd g_v46
                  obtain ⟨r44, e_r44, g_v46⟩ := bnd g_v46
                  obtain rfl := si g_v46
                  exact qm.rp fol [3, 6, 7, 8] [(3, .ptr 1 0), (5, .i x1), (10, .ptr 2 0), (112, .bool r44)] [.cells [.i r.Day, vl qa r.Slings], .cells (cE e), .cells (cS x39)] [.done (.done (.bool (e.Kind == [116, 101, 115, 116]))) (.bool true), .done (.opt (qd Tryz.prog 24 (vl encI e.Values) (.i 1))) (.fptr (e.Values.flatMap encI.c) ((1 : Int).toNat * 1 + 0)), .done (qx Tryz.prog 3 (.fptr (e.Values.flatMap encI.c) ((1 : Int).toNat * 1 + 0))) (.i x43), .call 36 [.i x43, .i 2, .i 999999999] [.cells [.i r.Day, vl qa r.Slings], .cells (cE e), .cells (cS x39)] [] [.i x43, .i 2, .i 999999999] (.bool r44)] (an (congrArg (fun x => Pg.done (.bool x)) c42) (an (qB zA (E := encI) rfl e_x43) (an (qA ce3 (E := encI) rfl e_x43 (nl rfl) rfl) (an (qo (AllST.cons tI (AllST.cons tI (AllST.cons tI AllST.nil))) (kN x43 2 999999999 e_r44) tB) trivial))))
                · rw [if_neg (nb c42)] at g_v46
                  obtain rfl := si g_v46
                  exact qm.rp fol [3] [(3, .ptr 1 0), (5, .i x1), (10, .ptr 2 0), (112, .bool false)] [.cells [.i r.Day, vl qa r.Slings], .cells (cE e), .cells (cS x39)] [.done (.done (.bool (e.Kind == [116, 101, 115, 116]))) (.bool false)] (an (congrArg (fun x => Pg.done (.bool x)) c42) trivial)
              refine Goes.ifB (b := b45) (by kernel_rfl) (fun c47 => ?_) (fun c47 => ?_)
              · rw [if_pos (c47)] at h
                refine sq (Goes.rg fol [(4, .i 3)] [.cells [.i r.Day, vl qa r.Slings], .cells (cE e), .cells (cS x39)] ?_)
                refine Goes.ret ?_
                obtain rfl := si h
                exact (Goes.retW (xs := [.i 3]) (by kernel_rfl) (FzW.still tI))
              · rw [if_neg (nb c47)] at h
                refine Goes.skip ?_
                refine sq ?_
                refine sq (Goes.rg fol [(3, .ptr 1 0), (5, .i x1), (10, .ptr 2 0), (115, .bool (e.Kind == [117, 115, 101]))] [.cells [.i r.Day, vl qa r.Slings], .cells (cE e), .cells (cS x39)] ?_)
                obtain ⟨r48, g48, h⟩ := bnd h
                refine Goes.imp (Q := fun x s' => (x = .normal ∧ (.inl ()) = r48 ∧ Sub s' (ofG 127 [], [])) ∨ (x = .ret ∧ ∃ q49, (.inr q49) = r48 ∧ zH Tryz.prog [.tmp 4] (.i q49) .ret s')) ?_ ?_
                · refine Goes.ifB (b := e.Kind == [117, 115, 101]) (by kernel_rfl) (fun c50 => ?_) (fun c50 => ?_)
                  · rw [if_pos (c50)] at g48
                    refine sq ?_
                    refine sq ?_
                    obtain ⟨r51, e_r51, g48⟩ := bnd g48
                    refine Goes.rp fol [2] [(3, .ptr 1 0), (10, .ptr 2 0), (119, .bool (!r51))] [.cells [.i r.Day, vl qa r.Slings], .cells (cE e), .cells (cS x39)] [.call 34 [.agg (cS x39), .i x1] [.cells [.i r.Day, vl qa r.Slings], .cells (cE e), .cells (cS x39)] [] [.agg (cS x39), .i x1] (.bool r51)] (an (qo (AllST.cons (Still.agg (AllST.cons tS (AllST.cons tS (AllST.cons tI (AllST.cons tI (AllST.cons tI (AllST.cons tI (AllST.cons tI (AllST.cons tI (AllST.cons tB AllST.nil)))))))))) (AllST.cons tI AllST.nil)) (qc9 x39 x1 e_r51) tB) trivial) ?_
                    refine Goes.ifB (b := !r51) (by kernel_rfl) (fun c52 => ?_) (fun c52 => ?_)
                    · rw [if_pos (c52)] at g48
                      refine sq (Goes.rg fol [(4, .i 24)] [.cells [.i r.Day, vl qa r.Slings], .cells (cE e), .cells (cS x39)] ?_)
                      refine Goes.ret ?_
                      obtain rfl := si g48
                      exact Or.inr (⟨rfl, _, rfl, (Goes.retW (xs := [.i 24]) (by kernel_rfl) (FzW.still tI))⟩)
                    · rw [if_neg (nb c52)] at g48
                      refine Goes.skip ?_
                      refine sq ?_
                      obtain ⟨x53, e_x53, g48⟩ := bnd g48
                      refine Goes.rp fol [2, 3] [(126, .bool (decide (x53 > x39.Limit)))] [.cells [.i r.Day, vl qa r.Slings], .cells (cE e), .cells (cS x39)] [.done (.opt (qd Tryz.prog 24 (vl encI e.Values) (.i 1))) (.fptr (e.Values.flatMap encI.c) ((1 : Int).toNat * 1 + 0)), .done (qx Tryz.prog 3 (.fptr (e.Values.flatMap encI.c) ((1 : Int).toNat * 1 + 0))) (.i x53)] (an (qB zA (E := encI) rfl e_x53) (an (qA ce3 (E := encI) rfl e_x53 (nl rfl) rfl) trivial)) ?_
                      refine Goes.ifB (b := decide (x53 > x39.Limit)) (by kernel_rfl) (fun c54 => ?_) (fun c54 => ?_)
                      · rw [if_pos (ot c54)] at g48
                        refine sq (Goes.rg fol [(4, .i 31)] [.cells [.i r.Day, vl qa r.Slings], .cells (cE e), .cells (cS x39)] ?_)
                        refine Goes.ret ?_
                        obtain rfl := si g48
                        exact Or.inr (⟨rfl, _, rfl, (Goes.retW (xs := [.i 31]) (by kernel_rfl) (FzW.still tI))⟩)
                      · rw [if_neg (of_ c54)] at g48
                        refine Goes.skip ?_
                        obtain rfl := si g48
                        exact Or.inl (⟨rfl, rfl, (Sub.norm [] [] rfl rfl .nil .nil)⟩)
                  · rw [if_neg (nb c50)] at g48
                    refine Goes.skip ?_
                    obtain rfl := si g48
                    exact Or.inl (⟨rfl, rfl, (Sub.norm [] [] rfl rfl .nil .nil)⟩)
                rintro x s' (⟨rfl, rfl, hsub⟩ | ⟨rfl, q55, rfl, hret⟩)
                · try dsimp only at h
                  refine Goes.sub hsub ?_
                  refine sq (Goes.rg fol [(4, .i 0)] [] ?_)
                  refine Goes.ret ?_
                  obtain rfl := si h
                  exact (Goes.retW (xs := [.i 0]) (by kernel_rfl) (FzW.still tI))
                · try dsimp only at h
                  obtain rfl := si h
                  exact hret
def zi (N : Nat) (l : List ql) : Nat → (List ql) → Int → Option ((List ql) ⊕ ((List ql) × Int × Int))
  | 0, _, _ => none
  | K + 1, counted_1, i_2 =>
    if i_2 < (l.length : Int) then
    (((idx l i_2).bind fun x10 =>
    (jV N x10).bind fun r11 =>
    (if r11 = 0 then
    some (!decide (x10.Number = (w64 (i_2 + 1))))
    else
    some false : Option Bool).bind fun b13 =>
    ((if b13 = true then
    some 11
    else
    some r11 : Option Int)).bind fun e_15 =>
    (if e_15 = 0 then
    if (x10.Kind == [117, 110, 100, 111]) = true then
    some (decide ((counted_1.length : Int) = 0))
    else
    some false
    else
    some false : Option Bool).bind fun b20 =>
    ((if b20 = true then
    some 12
    else
    some e_15 : Option Int)).bind fun e_22 =>
    (if e_22 = 0 then
    some (!(x10.Kind == [117, 110, 100, 111]))
    else
    some false : Option Bool).bind fun b26 =>
    ((if b26 = true then
    (kr N counted_1).bind fun r31 =>
    (qV N r31 x10).bind fun r32 =>
    some r32
    else
    some e_22 : Option Int)).bind fun e_28 =>
    if (!decide (e_28 = 0)) = true then
    some (.inr ([], w64 (i_2 + 1), e_28))
    else
    if (x10.Kind == [117, 110, 100, 111]) = true then
    (cut counted_1 0 (w64 ((counted_1.length : Int) - 1))).bind fun s35 =>
    some (.inl s35)
    else
    (app 88 ([] : List ql) counted_1).bind fun l36 =>
    (app 88 l36 [x10]).bind fun l37 =>
    some (.inl l37) : Option ((List ql) ⊕ ((List ql) × Int × Int)))).bind (fun
    | (.inl counted_7) =>
    zi N l K counted_7 (w64 (i_2 + 1))
    | (.inr q38) =>
    some (.inr q38))
    else
    some (.inl counted_1)
def vz (N : Nat) (l : List ql) : Option ((List ql) × Int × Int) :=
  (zi N l N ([] : List ql) 0).bind (fun
  | (.inl counted_3) =>
  some (counted_3, 0, 0)
  | (.inr q39) =>
  some q39)
theorem qcn (N : Nat) (l : List ql) {res : (List ql) × Int × Int} (h : vz N l = some res) : qy Tryz.prog (.fn 83) [vl qb l] [] (.tuple [vl qb res.1, .i res.2.1, .i res.2.2]) [] := by
  unfold vz at h
  refine Goes.fnW Tryz.func83 rfl rfl (m := 82) rfl (rs := [.tmp 2, .tmp 3, .tmp 4]) rfl (l := [(0, vl qb l)]) rfl ?_
  refine sq (Goes.rg fol [(0, vl qb l)] [] ?_)
  refine sq (Goes.rg fol [(0, vl qb l), (5, .nilslice)] [] ?_)
  refine sq ?_
  refine sq (Goes.rg fol [(0, vl qb l), (5, .nilslice), (6, .i 0)] [] ?_)
  refine Goes.block ?_
  obtain ⟨r4, g4, h⟩ := bnd h
  refine Goes.imp (Q := fun x s' => (x = .exit 0 ∧ ∃ counted_3, (.inl counted_3) = r4 ∧ Sub s' (ofG 82 [(5, vl qb counted_3)], [])) ∨ (x = .ret ∧ ∃ q5, (.inr q5) = r4 ∧ zH Tryz.prog [.tmp 2, .tmp 3, .tmp 4] (.tuple [vl qb q5.1, .i q5.2.1, .i q5.2.2]) .ret s')) ?_ ?_
  · refine Goes.sub (s' := (ofG 82 [(0, vl qb l), (5, vl qb ([] : List ql)), (6, .i 0)], [])) (Sub.norm [] [] rfl rfl (.keep (.same (qj qb _)) (.keep .nilv (.keep (.same nI) .nil))) .nil) ?_
    refine Goes.loopS (fun M s => ∃ (counted_1 : List ql) (i_2 : Int), s = (ofG 82 [(0, vl qb l), (5, vl qb counted_1), (6, .i i_2)], []) ∧ zi N l M counted_1 i_2 = some r4) ?_ (m := N) ⟨_, _, rfl, g4⟩
    rintro M s ⟨counted_1, i_2, rfl, g4⟩
    cases M with
    | zero => simp only [zi] at g4; cases g4
    | succ M =>
      rw [zi] at g4
      refine sq ?_
      refine sq (Goes.rg fol [(0, vl qb l), (5, vl qb counted_1), (6, .i i_2), (12, .bool (decide (i_2 < (l.length : Int))))] [] ?_)
      refine Goes.ifB (b := decide (i_2 < (l.length : Int))) (by kernel_rfl) (fun c6 => ?_) (fun c6 => ?_)
      · rw [if_pos (ot c6)] at g4
        refine Goes.skip ?_
        refine sq ?_
        obtain ⟨r8, g8, g4⟩ := bnd g4
        refine Goes.imp (Q := fun x s' => (x = .normal ∧ ∃ counted_7, (.inl counted_7) = r8 ∧ Sub s' (ofG 82 [(0, vl qb l), (5, vl qb counted_7), (6, .i i_2)], [])) ∨ (x = .ret ∧ ∃ q9, (.inr q9) = r8 ∧ zH Tryz.prog [.tmp 2, .tmp 3, .tmp 4] (.tuple [vl qb q9.1, .i q9.2.1, .i q9.2.2]) .ret s')) ?_ ?_
        · refine Goes.block ?_
          refine sq ?_
          obtain ⟨x10, e_x10, g8⟩ := bnd g8
          obtain ⟨r11, e_r11, g8⟩ := bnd g8
          refine Goes.rp fol [2, 3, 4] [(0, vl qb l), (5, vl qb counted_1), (6, .i i_2), (7, .i r11)] [] [.done (.opt (qd Tryz.prog 22 (vl qb l) (.i i_2))) (.fptr (l.flatMap qb.c) ((i_2 : Int).toNat * 5 + 0)), .done (qx Tryz.prog 26 (.fptr (l.flatMap qb.c) ((i_2 : Int).toNat * 5 + 0))) (.agg (cE x10)), .call 19 [.agg (cE x10)] [] [] [.agg (cE x10)] (.i r11)] (an (qB yA (E := qb) rfl e_x10) (an (qaT qhi (E := qb) rfl e_x10) (an (qo (AllST.cons (Still.agg (AllST.cons tI (AllST.cons tS (AllST.cons (qD encS _ (nl rfl)) (AllST.cons (qD encI _ (nl rfl)) (AllST.cons tS AllST.nil)))))) AllST.nil) (qbm N x10 e_r11) tI) trivial))) ?_
          refine sq ?_
          refine sq ?_
          obtain ⟨b13, g_v14, g8⟩ := bnd g8
          refine Goes.cut (s' := (ofG 82 [(0, vl qb l), (5, vl qb counted_1), (6, .i i_2), (7, .i r11), (31, .bool b13)], [])) ?_ ?_
          · rcases Bool.eq_false_or_eq_true (decide (r11 = 0)) with c12 | c12
            · rw [if_pos (ot c12)] at g_v14
              obtain rfl := si g_v14
              exact qm.rp fol [2, 5, 7] [(0, vl qb l), (5, vl qb counted_1), (6, .i i_2), (7, .i r11), (31, .bool (!decide (x10.Number = (w64 (i_2 + 1)))))] [] [.done (.done (.bool (decide (r11 = 0)))) (.bool true), .done (.opt (qd Tryz.prog 22 (vl qb l) (.i i_2))) (.fptr (l.flatMap qb.c) ((i_2 : Int).toNat * 5 + 0)), .done (qx Tryz.prog 3 (.fptr (l.flatMap qb.c) ((i_2 : Int).toNat * 5 + 0))) (.i x10.Number)] (an (congrArg (fun x => Pg.done (.bool x)) c12) (an (qB yA (E := qb) rfl e_x10) (an (qA ce3 (E := qb) rfl e_x10 (nl rfl) rfl) trivial)))
            · rw [if_neg (of_ c12)] at g_v14
              obtain rfl := si g_v14
              exact qm.rp fol [2] [(0, vl qb l), (5, vl qb counted_1), (6, .i i_2), (7, .i r11), (31, .bool false)] [] [.done (.done (.bool (decide (r11 = 0)))) (.bool false)] (an (congrArg (fun x => Pg.done (.bool x)) c12) trivial)
          obtain ⟨r16, g16, g8⟩ := bnd g8
          refine Goes.imp (Q := fun x s' => (x = .normal ∧ ∃ e_15, e_15 = r16 ∧ Sub s' (ofG 82 [(0, vl qb l), (5, vl qb counted_1), (6, .i i_2), (7, .i e_15)], []))) ?_ ?_
          · refine Goes.ifB (b := b13) (by kernel_rfl) (fun c17 => ?_) (fun c17 => ?_)
            · rw [if_pos (c17)] at g16
              refine Goes.rg fol [(0, vl qb l), (5, vl qb counted_1), (6, .i i_2), (7, .i 11)] [] ?_
              obtain rfl := si g16
              exact ⟨rfl, _, rfl, (Sub.refl _)⟩
            · rw [if_neg (nb c17)] at g16
              refine Goes.skip ?_
              obtain rfl := si g16
              exact ⟨rfl, _, rfl, (Sub.keep [0, 5, 6, 7] rfl rfl)⟩
          rintro x s' ⟨rfl, e_15, rfl, hsub⟩
          refine Goes.sub hsub ?_
          refine sq (Goes.rp fol [2, 4] [(0, vl qb l), (5, vl qb counted_1), (6, .i i_2), (7, .i e_15), (8, .bool (x10.Kind == [117, 110, 100, 111]))] [] [.done (.opt (qd Tryz.prog 22 (vl qb l) (.i i_2))) (.fptr (l.flatMap qb.c) ((i_2 : Int).toNat * 5 + 0)), .done (qx Tryz.prog 9 (.fptr (l.flatMap qb.c) ((i_2 : Int).toNat * 5 + 1))) (.str x10.Kind)] (an (qB yA (E := qb) rfl e_x10) (an (qA ce9 (E := qb) rfl e_x10 (nl rfl) rfl) trivial)) ?_)
          refine sq ?_
          refine sq ?_
          obtain ⟨b20, g_v21, g8⟩ := bnd g8
          refine Goes.cut (s' := (ofG 82 [(0, vl qb l), (5, vl qb counted_1), (6, .i i_2), (7, .i e_15), (8, .bool (x10.Kind == [117, 110, 100, 111])), (47, .bool b20)], [])) ?_ ?_
          · rcases Bool.eq_false_or_eq_true (decide (e_15 = 0)) with c18 | c18
            · rw [if_pos (ot c18)] at g_v21
              rcases Bool.eq_false_or_eq_true (x10.Kind == [117, 110, 100, 111]) with c19 | c19
              · rw [if_pos (c19)] at g_v21
                obtain rfl := si g_v21
                exact qm.rp fol [2, 5] [(0, vl qb l), (5, vl qb counted_1), (6, .i i_2), (7, .i e_15), (8, .bool (x10.Kind == [117, 110, 100, 111])), (47, .bool (decide ((counted_1.length : Int) = 0)))] [] [.done (.done (.bool (decide (e_15 = 0)))) (.bool true), .done (.done (.bool (x10.Kind == [117, 110, 100, 111]))) (.bool true)] (an (congrArg (fun x => Pg.done (.bool x)) c18) (an (congrArg (fun x => Pg.done (.bool x)) c19) trivial))
              · rw [if_neg (nb c19)] at g_v21
                obtain rfl := si g_v21
                exact qm.rp fol [2, 5] [(0, vl qb l), (5, vl qb counted_1), (6, .i i_2), (7, .i e_15), (8, .bool (x10.Kind == [117, 110, 100, 111])), (47, .bool false)] [] [.done (.done (.bool (decide (e_15 = 0)))) (.bool true), .done (.done (.bool (x10.Kind == [117, 110, 100, 111]))) (.bool false)] (an (congrArg (fun x => Pg.done (.bool x)) c18) (an (congrArg (fun x => Pg.done (.bool x)) c19) trivial))
            · rw [if_neg (of_ c18)] at g_v21
              obtain rfl := si g_v21
              exact qm.rp fol [2] [(0, vl qb l), (5, vl qb counted_1), (6, .i i_2), (7, .i e_15), (8, .bool (x10.Kind == [117, 110, 100, 111])), (47, .bool false)] [] [.done (.done (.bool (decide (e_15 = 0)))) (.bool false)] (an (congrArg (fun x => Pg.done (.bool x)) c18) trivial)
          obtain ⟨r23, g23, g8⟩ := bnd g8
          refine Goes.imp (Q := fun x s' => (x = .normal ∧ ∃ e_22, e_22 = r23 ∧ Sub s' (ofG 82 [(0, vl qb l), (5, vl qb counted_1), (6, .i i_2), (7, .i e_22), (8, .bool (x10.Kind == [117, 110, 100, 111]))], []))) ?_ ?_
          · refine Goes.ifB (b := b20) (by kernel_rfl) (fun c24 => ?_) (fun c24 => ?_)
            · rw [if_pos (c24)] at g23
              refine Goes.rg fol [(0, vl qb l), (5, vl qb counted_1), (6, .i i_2), (7, .i 12), (8, .bool (x10.Kind == [117, 110, 100, 111]))] [] ?_
              obtain rfl := si g23
              exact ⟨rfl, _, rfl, (Sub.refl _)⟩
            · rw [if_neg (nb c24)] at g23
              refine Goes.skip ?_
              obtain rfl := si g23
              exact ⟨rfl, _, rfl, (Sub.keep [0, 5, 6, 7, 8] rfl rfl)⟩
          rintro x s' ⟨rfl, e_22, rfl, hsub⟩
          refine Goes.sub hsub ?_
          refine sq ?_
          refine sq ?_
          obtain ⟨b26, g_v27, g8⟩ := bnd g8
          refine Goes.cut (s' := (ofG 82 [(0, vl qb l), (5, vl qb counted_1), (6, .i i_2), (7, .i e_22), (8, .bool (x10.Kind == [117, 110, 100, 111])), (53, .bool b26)], [])) ?_ ?_
          · rcases Bool.eq_false_or_eq_true (decide (e_22 = 0)) with c25 | c25
            · rw [if_pos (ot c25)] at g_v27
              obtain rfl := si g_v27
              exact qm.rp fol [2] [(0, vl qb l), (5, vl qb counted_1), (6, .i i_2), (7, .i e_22), (8, .bool (x10.Kind == [117, 110, 100, 111])), (53, .bool (!(x10.Kind == [117, 110, 100, 111])))] [] [.done (.done (.bool (decide (e_22 = 0)))) (.bool true)] (an (congrArg (fun x => Pg.done (.bool x)) c25) trivial)
            · rw [if_neg (of_ c25)] at g_v27
              obtain rfl := si g_v27
              exact qm.rp fol [2] [(0, vl qb l), (5, vl qb counted_1), (6, .i i_2), (7, .i e_22), (8, .bool (x10.Kind == [117, 110, 100, 111])), (53, .bool false)] [] [.done (.done (.bool (decide (e_22 = 0)))) (.bool false)] (an (congrArg (fun x => Pg.done (.bool x)) c25) trivial)
          obtain ⟨r29, g29, g8⟩ := bnd g8
          refine Goes.imp (Q := fun x s' => (x = .normal ∧ ∃ e_28, e_28 = r29 ∧ Sub s' (ofG 82 [(0, vl qb l), (5, vl qb counted_1), (6, .i i_2), (7, .i e_28), (8, .bool (x10.Kind == [117, 110, 100, 111]))], []))) ?_ ?_
          · refine Goes.ifB (b := b26) (by kernel_rfl) (fun c30 => ?_) (fun c30 => ?_)
            · rw [if_pos (c30)] at g29
              obtain ⟨r31, e_r31, g29⟩ := bnd g29
              obtain ⟨r32, e_r32, g29⟩ := bnd g29
              refine Goes.rp fol [1, 4, 5, 6] [(0, vl qb l), (5, vl qb counted_1), (6, .i i_2), (7, .i r32), (8, .bool (x10.Kind == [117, 110, 100, 111]))] [] [.call 84 [vl qb counted_1] [] [] [vl qb counted_1] (.agg [.i r31.Day, vl qa r31.Slings]), .done (.opt (qd Tryz.prog 22 (vl qb l) (.i i_2))) (.fptr (l.flatMap qb.c) ((i_2 : Int).toNat * 5 + 0)), .done (qx Tryz.prog 26 (.fptr (l.flatMap qb.c) ((i_2 : Int).toNat * 5 + 0))) (.agg (cE x10)), .call 139 [.agg [.i r31.Day, vl qa r31.Slings], .agg (cE x10)] [] [] [.agg [.i r31.Day, vl qa r31.Slings], .agg (cE x10)] (.i r32)] (an (qo (AllST.cons (qD qb _ (nl rfl)) AllST.nil) (xS N counted_1 e_r31) (Still.agg (AllST.cons tI (AllST.cons (qD qa _ (nl rfl)) AllST.nil)))) (an (qB yA (E := qb) rfl e_x10) (an (qaT qhi (E := qb) rfl e_x10) (an (qo (AllST.cons (Still.agg (AllST.cons tI (AllST.cons (qD qa _ (nl rfl)) AllST.nil))) (AllST.cons (Still.agg (AllST.cons tI (AllST.cons tS (AllST.cons (qD encS _ (nl rfl)) (AllST.cons (qD encI _ (nl rfl)) (AllST.cons tS AllST.nil)))))) AllST.nil)) (qcr N r31 x10 e_r32) tI) trivial)))) ?_
              obtain rfl := si g29
              exact ⟨rfl, _, rfl, (Sub.refl _)⟩
            · rw [if_neg (nb c30)] at g29
              refine Goes.skip ?_
              obtain rfl := si g29
              exact ⟨rfl, _, rfl, (Sub.keep [0, 5, 6, 7, 8] rfl rfl)⟩
          rintro x s' ⟨rfl, e_28, rfl, hsub⟩
          refine Goes.sub hsub ?_
          refine sq ?_
          refine sq (Goes.rg fol [(0, vl qb l), (5, vl qb counted_1), (6, .i i_2), (7, .i e_28), (8, .bool (x10.Kind == [117, 110, 100, 111])), (62, .bool (!decide (e_28 = 0)))] [] ?_)
          refine Goes.ifB (b := !decide (e_28 = 0)) (by kernel_rfl) (fun c33 => ?_) (fun c33 => ?_)
          · rw [if_pos (c33)] at g8
            refine sq (Goes.rg fol [(2, .nilslice), (3, .i (w64 (i_2 + 1))), (4, .i e_28)] [] ?_)
            refine Goes.ret ?_
            obtain rfl := si g8
            exact Or.inr (⟨rfl, _, rfl, (Goes.retW (xs := [.nilslice, .i (w64 (i_2 + 1)), .i e_28]) (by kernel_rfl) (FzW.tuple (qK.cons (FzW.nilv (E := qb)) (qK.cons (FzW.still tI) (qK.cons (FzW.still tI) qK.nil)))))⟩)
          · rw [if_neg (nb c33)] at g8
            refine Goes.skip ?_
            refine sq (Goes.rg fol [(0, vl qb l), (5, vl qb counted_1), (6, .i i_2), (66, .bool (x10.Kind == [117, 110, 100, 111]))] [] ?_)
            refine Goes.ifB (b := x10.Kind == [117, 110, 100, 111]) (by kernel_rfl) (fun c34 => ?_) (fun c34 => ?_)
            · rw [if_pos (c34)] at g8
              obtain ⟨s35, e_s35, g8⟩ := bnd g8
              refine Goes.rp fol [4] [(0, vl qb l), (5, vl qb s35), (6, .i i_2)] [] [.done (.opt (zg Tryz.prog 22 (vl qb counted_1) none (some (.i (w64 ((counted_1.length : Int) - 1)))) none)) (vl qb s35)] (an (qdy yA (E := qb) rfl none (some (w64 ((counted_1.length : Int) - 1))) e_s35) trivial) ?_
              obtain rfl := si g8
              exact Or.inl (⟨rfl, _, rfl, (Sub.refl _)⟩)
            · rw [if_neg (nb c34)] at g8
              obtain ⟨l36, e_l36, g8⟩ := bnd g8
              obtain ⟨l37, e_l37, g8⟩ := bnd g8
              refine Goes.rp fol [2, 5, 6, 8] [(0, vl qb l), (5, .oslice 3 l37.length 5), (6, .i i_2)] [.dead, .dead, .cells (cE x10), .cells (l37.flatMap qb.c)] [.run [0] (zz Tryz.prog [22, 22] (.slice 0 0 0 0 5) (vl qb counted_1)) [.cells []] (.oslice 1 l36.length 5) [.dead, .cells (l36.flatMap qb.c)] true, .done (.opt (qd Tryz.prog 22 (vl qb l) (.i i_2))) (.fptr (l.flatMap qb.c) ((i_2 : Int).toNat * 5 + 0)), .done (qx Tryz.prog 26 (.fptr (l.flatMap qb.c) ((i_2 : Int).toNat * 5 + 0))) (.agg (cE x10)), .run [1, 2] (zz Tryz.prog [22, 22] (.oslice 1 l36.length 5) (.slice 2 0 1 1 5)) [.dead, .cells (l36.flatMap qb.c), .cells (cE x10)] (.oslice 3 l37.length 5) [.dead, .dead, .cells (cE x10), .cells (l37.flatMap qb.c)] true] (an (vO yA (E := qb) rfl (qbV (E := qb) rfl _) (qdf (E := qb) rfl rfl rfl e_l36 rfl)) (an (qB yA (E := qb) rfl e_x10) (an (qaT qhi (E := qb) rfl e_x10) (an (vO yA (E := qb) rfl (qdg (E := qb) (ys := [x10]) rfl rfl rfl rfl) (qgz (E := qb) (l := l36) rfl rfl rfl e_l37 rfl)) trivial)))) ?_
              obtain rfl := si g8
              exact Or.inl (⟨rfl, _, rfl, (Sub.norm [3] [] rfl rfl (.keep (.same (qj qb _)) (.keep (.frz (Fz.os (E := qb) rfl rfl (nl rfl)) (qj qb _)) (.keep (.same nI) .nil))) .nil)⟩)
        rintro x s' (⟨rfl, counted_7, rfl, hsub⟩ | ⟨rfl, q38, rfl, hret⟩)
        · try dsimp only at g4
          refine Goes.sub hsub ?_
          refine Goes.rg fol [(0, vl qb l), (5, vl qb counted_7), (6, .i (w64 (i_2 + 1)))] [] ?_
          exact ⟨M, (ofG 82 [(0, vl qb l), (5, vl qb counted_7), (6, .i (w64 (i_2 + 1)))], []), Nat.lt_succ_self _, (Sub.refl _), _, _, rfl, g4⟩
        · try dsimp only at g4
          obtain rfl := si g4
          exact Or.inr (⟨rfl, _, rfl, hret⟩)
      · rw [if_neg (of_ c6)] at g4
        refine Goes.exit ?_
        obtain rfl := si g4
        exact Or.inl (⟨rfl, _, rfl, (Sub.keep [5] rfl rfl)⟩)
  rintro x s' (⟨rfl, counted_3, rfl, hsub⟩ | ⟨rfl, q39, rfl, hret⟩)
  · try dsimp only at h
    refine Goes.sub hsub ?_
    refine sq (Goes.rg fol [(2, vl qb counted_3), (3, .i 0), (4, .i 0)] [] ?_)
    refine Goes.ret ?_
    obtain rfl := si h
    exact (Goes.retW (xs := [vl qb counted_3, .i 0, .i 0]) (by kernel_rfl) (FzW.tuple (qK.cons (FzW.still (qD qb _ (nl rfl))) (qK.cons (FzW.still tI) (qK.cons (FzW.still tI) qK.nil)))))
  · try dsimp only at h
    obtain rfl := si h
    exact hret
def vQ (N : Nat) (l : List ql) : Option (qI × Int × Int) :=
  if (l.length : Int) > 1000 then
  some ((⟨0, []⟩ : qI), 0, 5)
  else
  (vz N l).bind fun r2 =>
  if (!decide (r2.2.2 = 0)) = true then
  some ((⟨0, []⟩ : qI), r2.2.1, r2.2.2)
  else
  (kr N r2.1).bind fun r4 =>
  some (r4, 0, 0)
theorem qcK (N : Nat) (l : List ql) {res : qI × Int × Int} (h : vQ N l = some res) : qy Tryz.prog (.fn 17) [vl qb l] [] (.tuple [.agg [.i res.1.Day, vl qa res.1.Slings], .i res.2.1, .i res.2.2]) [] := by
  unfold vQ at h
  refine Goes.fnW Tryz.func17 rfl rfl (m := 25) rfl (rs := [.cell 2 37, .tmp 3, .tmp 4]) rfl (l := [(0, vl qb l)]) rfl ?_
  refine sq (Goes.rg fol [(0, vl qb l), (2, .ptr 0 0)] [bZ] ?_)
  refine sq ?_
  refine sq (Goes.rg fol [(0, vl qb l), (2, .ptr 0 0), (10, .bool (decide ((l.length : Int) > 1000)))] [bZ] ?_)
  refine Goes.ifB (b := decide ((l.length : Int) > 1000)) (by kernel_rfl) (fun c1 => ?_) (fun c1 => ?_)
  · rw [if_pos (ot c1)] at h
    refine sq (Goes.rg fol [(2, .ptr 0 0), (3, .i 0), (4, .i 5)] [bZ] ?_)
    refine Goes.ret ?_
    obtain rfl := si h
    exact (Goes.retW (xs := [.agg [.i 0, .nilslice], .i 0, .i 5]) (by kernel_rfl) (FzW.tuple (qK.cons (FzW.agg (qK.cons (FzW.still tI) (qK.cons (FzW.nilv (E := qa)) qK.nil))) (qK.cons (FzW.still tI) (qK.cons (FzW.still tI) qK.nil)))))
  · rw [if_neg (of_ c1)] at h
    refine Goes.skip ?_
    refine sq ?_
    obtain ⟨r2, e_r2, h⟩ := bnd h
    refine Goes.rp fol [1] [(2, .ptr 0 0), (5, vl qb r2.1), (6, .i r2.2.1), (7, .i r2.2.2)] [bZ] [.call 83 [vl qb l] [bZ] [] [vl qb l] (.tuple [vl qb r2.1, .i r2.2.1, .i r2.2.2])] (an (qo (AllST.cons (qD qb _ (nl rfl)) AllST.nil) (qcn N l e_r2) (Still.tuple (AllST.cons (qD qb _ (nl rfl)) (AllST.cons tI (AllST.cons tI AllST.nil))))) trivial) ?_
    refine sq ?_
    refine sq (Goes.rg fol [(2, .ptr 0 0), (5, vl qb r2.1), (6, .i r2.2.1), (7, .i r2.2.2), (19, .bool (!decide (r2.2.2 = 0)))] [bZ] ?_)
    refine Goes.ifB (b := !decide (r2.2.2 = 0)) (by kernel_rfl) (fun c3 => ?_) (fun c3 => ?_)
    · rw [if_pos (c3)] at h
      refine sq (Goes.rg fol [(2, .ptr 0 0), (3, .i r2.2.1), (4, .i r2.2.2)] [bZ] ?_)
      refine Goes.ret ?_
      obtain rfl := si h
      exact (Goes.retW (xs := [.agg [.i 0, .nilslice], .i r2.2.1, .i r2.2.2]) (by kernel_rfl) (FzW.tuple (qK.cons (FzW.agg (qK.cons (FzW.still tI) (qK.cons (FzW.nilv (E := qa)) qK.nil))) (qK.cons (FzW.still tI) (qK.cons (FzW.still tI) qK.nil)))))
    · rw [if_neg (nb c3)] at h
      refine Goes.skip ?_
      refine sq ?_
      obtain ⟨r4, e_r4, h⟩ := bnd h
      refine Goes.rp fol [1] [(2, .ptr 0 0), (3, .i 0), (4, .i 0)] [.cells [.i r4.Day, vl qa r4.Slings]] [.call 84 [vl qb r2.1] [bZ] [] [vl qb r2.1] (.agg [.i r4.Day, vl qa r4.Slings])] (an (qo (AllST.cons (qD qb _ (nl rfl)) AllST.nil) (xS N r2.1 e_r4) (Still.agg (AllST.cons tI (AllST.cons (qD qa _ (nl rfl)) AllST.nil)))) trivial) ?_
      refine Goes.ret ?_
      obtain rfl := si h
      exact (Goes.retW (xs := [.agg [.i r4.Day, vl qa r4.Slings], .i 0, .i 0]) (by kernel_rfl) (FzW.tuple (qK.cons (FzW.agg (qK.cons (FzW.still tI) (qK.cons (FzW.still (qD qa _ (nl rfl))) qK.nil))) (qK.cons (FzW.still tI) (qK.cons (FzW.still tI) qK.nil)))))
def za (N : Nat) (a0_ : List ql) (a1_ : Str) (a2_ : Int) : Option ((List ql) × (Option (List StateT)) × Bool × Str × Str × Int × Int × Int × Int × Int × Int × Bool × Int) :=
  (zh N a0_).bind fun (l15, o16, ok17, l_18, n19) =>
  (vP N a1_).bind fun r20 =>
  (zf N ([n19, r20, a2_] : List Int)).bind fun r21 =>
  if (!decide (r21 = 0)) = true then
  some (([] : List ql), (none : Option (List StateT)), false, [], [], 0, 0, 0, 0, 0, 0, false, r21)
  else
  ((match ok17 with
  | false =>
  none
  | true =>
  (qH l15 o16).bind fun (o24, n25, l26) =>
  (kX N (⟨n25, l26⟩ : kU) a1_).bind fun r27 =>
  some (o24, r27.1, r27.2)) : Option ((Option (List StateT)) × Int × Bool)).bind fun (o28, at__29, is_30) =>
  if (!is_30) = true then
  some (([] : List ql), (none : Option (List StateT)), false, [], [], 0, 0, 0, 0, 0, 0, false, 10)
  else
  (qH l15 o28).bind fun (o34, n35, l36) =>
  (idx l36 at__29).bind fun x37 =>
  some (l15, o34, true, x37.Name, x37.Batch, x37.Born, x37.Last, x37.Uses, x37.Used, x37.Limit, x37.Until, x37.Gone, 0)
theorem xI (N : Nat) (a0_ : List ql) (a1_ : Str) (a2_ : Int) {l1 : List ql} {o2 : Option (List StateT)} {ok3 : Bool} {s4 : Str} {s5 : Str} {n6 : Int} {n7 : Int} {n8 : Int} {n9 : Int} {n10 : Int} {n11 : Int} {b12 : Bool} {other_13 : Int} (h : za N a0_ a1_ a2_ = some (l1, o2, ok3, s4, s5, n6, n7, n8, n9, n10, n11, b12, other_13)) : qy Tryz.prog (.fn 92) [vl qb a0_, .str a1_, .i a2_] [] (.tuple [pz ok3 0 0, .agg (cT s4 s5 n6 n7 n8 n9 n10 n11 b12), .i other_13]) [.cells [.gslice 1 l1.length 5, hsl 2 3 o2], .cells (l1.flatMap qb.c), .cells ((hof o2).flatMap qh.c)] := by
  unfold za at h
  refine Goes.fnH Tryz.func92 rfl rfl (m := 47) rfl (rs := [.tmp 6, .cell 7 68, .tmp 8]) rfl (l := [(0, vl qb a0_), (1, .str a1_), (2, .i a2_)]) rfl ?_
  intro B hB
  refine sq (Goes.rg fol [(0, vl qb a0_), (1, .str a1_), (2, .i a2_), (7, .ptr 0 0)] [.cells [.str [], .str [], .i 0, .i 0, .i 0, .i 0, .i 0, .i 0, .bool false]] ?_)
  refine sq ?_
  obtain ⟨⟨l15, o16, ok17, l_18, n19⟩, e_r14, h⟩ := bnd h
  try dsimp only at h
  refine Goes.rp fol [1] [(1, .str a1_), (2, .i a2_), (7, .ptr 0 0), (9, pz ok17 1 0), (11, .i n19)] [.cells [.str [], .str [], .i 0, .i 0, .i 0, .i 0, .i 0, .i 0, .bool false], .cells [.gslice 2 l15.length 5, hsl 3 3 o16], .cells (l15.flatMap qb.c), .cells ((hof o16).flatMap qh.c)] [.callH 80 [vl qb a0_] [.cells [.str [], .str [], .i 0, .i 0, .i 0, .i 0, .i 0, .i 0, .bool false]] [] (.tuple [pz ok17 1 0, .i l_18, .i n19]) [.cells [.str [], .str [], .i 0, .i 0, .i 0, .i 0, .i 0, .i 0, .bool false], .cells [.gslice 2 l15.length 5, hsl 3 3 o16], .cells (l15.flatMap qb.c), .cells ((hof o16).flatMap qh.c)]] (an (je [] [none, some 0, some 1, some 2] (xe N a0_ e_r14) .nil rfl rfl (.old rfl rfl (.new rfl rfl (.cells (qf.cons (.gslice rfl) (qf.cons ((qM.hs rfl)) qf.nil))) rfl (.new rfl rfl (.same fa) rfl (.new rfl rfl (.same fa) rfl .nil)))) (qf.cons (.same (qj qb _)) qf.nil) (.tupleL (qf.cons ((qM.pz rfl)) (qf.cons (.same nI) (qf.cons (.same nI) qf.nil)))) rfl) trivial) ?_
  refine sq ?_
  refine sq ?_
  obtain ⟨r20, e_r20, h⟩ := bnd h
  obtain ⟨r21, e_r21, h⟩ := bnd h
  refine Goes.rp fol [2, 5] [(1, .str a1_), (7, .ptr 0 0), (9, pz ok17 1 0), (11, .i r21)] [.cells [.str [], .str [], .i 0, .i 0, .i 0, .i 0, .i 0, .i 0, .bool false], .cells [.gslice 2 l15.length 5, hsl 3 3 o16], .cells (l15.flatMap qb.c), .cells ((hof o16).flatMap qh.c), .cells [.i n19, .i r20, .i a2_]] [.call 89 [.str a1_] [.cells [.str [], .str [], .i 0, .i 0, .i 0, .i 0, .i 0, .i 0, .bool false], .cells [.gslice 2 l15.length 5, hsl 3 3 o16], .cells (l15.flatMap qb.c), .cells ((hof o16).flatMap qh.c)] [] [.str a1_] (.i r20), .call 86 [.slice 4 0 3 3 1] [.cells [.str [], .str [], .i 0, .i 0, .i 0, .i 0, .i 0, .i 0, .bool false], .cells [.gslice 2 l15.length 5, hsl 3 3 o16], .cells (l15.flatMap qb.c), .cells ((hof o16).flatMap qh.c), .cells [.i n19, .i r20, .i a2_]] [4] [vl encI ([n19, r20, a2_] : List Int)] (.i r21)] (an (qo (AllST.cons tS AllST.nil) (qaD N a1_ e_r20) tI) (an (xz (FzL.cons (Fz.lit rfl rfl (FzL.still (AllST.cons tI (AllST.cons tI (AllST.cons tI AllST.nil))))) FzL.nil) (zN N ([n19, r20, a2_] : List Int) e_r21) tI rfl) trivial)) ?_
  refine sq (Goes.rg fol [(1, .str a1_), (7, .ptr 0 0), (9, pz ok17 1 0), (11, .i r21), (27, .bool (!decide (r21 = 0)))] [.cells [.str [], .str [], .i 0, .i 0, .i 0, .i 0, .i 0, .i 0, .bool false], .cells [.gslice 2 l15.length 5, hsl 3 3 o16], .cells (l15.flatMap qb.c), .cells ((hof o16).flatMap qh.c), .cells [.i n19, .i r20, .i a2_]] ?_)
  refine Goes.ifB (b := !decide (r21 = 0)) (by kernel_rfl) (fun c22 => ?_) (fun c22 => ?_)
  · rw [if_pos (c22)] at h
    refine sq (Goes.rg fol [(6, .nilptr), (7, .ptr 0 0), (8, .i r21)] [.cells [.str [], .str [], .i 0, .i 0, .i 0, .i 0, .i 0, .i 0, .bool false], .cells [.gslice 2 l15.length 5, hsl 3 3 o16], .cells (l15.flatMap qb.c), .cells ((hof o16).flatMap qh.c), .cells [.i n19, .i r20, .i a2_]] ?_)
    refine Goes.ret ?_
    simp only [Option.some.injEq, Prod.mk.injEq] at h
    obtain ⟨rfl, rfl, rfl, rfl, rfl, rfl, rfl, rfl, rfl, rfl, rfl, rfl, rfl⟩ := h
    exact (Goes.retH (xs := [.nilptr, .agg [.str [], .str [], .i 0, .i 0, .i 0, .i 0, .i 0, .i 0, .bool false], .i r21]) (by kernel_rfl) (Sub.norm [] [none, none, none] (by rw [hB]; rfl) rfl (.keep (.tupleL (qf.cons (qM.pz0) (qf.cons (.aggL (qf.cons (.same nS) (qf.cons (.same nS) (qf.cons (.same nI) (qf.cons (.same nI) (qf.cons (.same nI) (qf.cons (.same nI) (qf.cons (.same nI) (qf.cons (.same nI) (qf.cons (.same nB) qf.nil)))))))))) (qf.cons (.same nI) qf.nil)))) .nil) (.fresh (.fresh (.fresh .nil)))))
  · rw [if_neg (nb c22)] at h
    refine Goes.skip ?_
    refine sq ?_
    obtain ⟨⟨o28, at__29, is_30⟩, g_v31, h⟩ := bnd h
    refine Goes.cut (s' := (ofG 47 [(7, .ptr 0 0), (9, .ptr 1 0), (12, .i at__29), (13, .bool is_30)], [.cells [.str [], .str [], .i 0, .i 0, .i 0, .i 0, .i 0, .i 0, .bool false], .cells [.gslice 2 l15.length 5, hsl 3 3 o28], .cells (l15.flatMap qb.c), .cells ((hof o28).flatMap qh.c), .cells [.i n19, .i r20, .i a2_]])) ?_ ?_
    · rcases ok17 with _ | _
      · try dsimp only at g_v31
        cases g_v31
      · try dsimp only at g_v31
        obtain ⟨⟨o24, n25, l26⟩, e_r23, g_v31⟩ := bnd g_v31
        try dsimp only at g_v31
        obtain ⟨r27, e_r27, g_v31⟩ := bnd g_v31
        simp only [Option.some.injEq, Prod.mk.injEq] at g_v31
        obtain ⟨rfl, rfl, rfl⟩ := g_v31
        exact qm.rp fol [1, 3] [(7, .ptr 0 0), (9, .ptr 1 0), (12, .i r27.1), (13, .bool r27.2)] [.cells [.str [], .str [], .i 0, .i 0, .i 0, .i 0, .i 0, .i 0, .bool false], .cells [.gslice 2 l15.length 5, hsl 3 3 o24], .cells (l15.flatMap qb.c), .cells ((hof o24).flatMap qh.c), .cells [.i n19, .i r20, .i a2_]] [.callH 81 [.ptr 1 0] [.cells [.str [], .str [], .i 0, .i 0, .i 0, .i 0, .i 0, .i 0, .bool false], .cells [.gslice 2 l15.length 5, hsl 3 3 o16], .cells (l15.flatMap qb.c), .cells ((hof o16).flatMap qh.c), .cells [.i n19, .i r20, .i a2_]] [1, 2, 3] (.agg [.i n25, vl qa l26]) [.cells [.str [], .str [], .i 0, .i 0, .i 0, .i 0, .i 0, .i 0, .bool false], .cells [.gslice 2 l15.length 5, hsl 3 3 o24], .cells (l15.flatMap qb.c), .cells ((hof o24).flatMap qh.c), .cells [.i n19, .i r20, .i a2_]], .call 93 [.agg [.i n25, vl qa l26], .str a1_] [.cells [.str [], .str [], .i 0, .i 0, .i 0, .i 0, .i 0, .i 0, .bool false], .cells [.gslice 2 l15.length 5, hsl 3 3 o24], .cells (l15.flatMap qb.c), .cells ((hof o24).flatMap qh.c), .cells [.i n19, .i r20, .i a2_]] [] [.agg [.i n25, vl qa l26], .str a1_] (.tuple [.i r27.1, .bool r27.2])] (an (je [some 1, some 2, some 3] [none, some 0, some 1, some 2, none] (zy l15 o16 e_r23) (.keep rfl (.cells (qf.cons (.gslice rfl) (qf.cons ((qM.hs rfl)) qf.nil))) rfl rfl (.keep rfl (.same fa) rfl rfl (.keep rfl (.same fa) rfl rfl .nil))) rfl rfl (.old rfl rfl (.back rfl rfl (.cells (qf.cons (.gslice rfl) (qf.cons ((qM.hs rfl)) qf.nil))) rfl (.back rfl rfl (.same fa) rfl (.back rfl rfl (.same fa) rfl (.old rfl rfl .nil))))) (qf.cons (.ptr rfl) qf.nil) (.same (qC.agg (qg.cons nI (qg.cons (qj qa _) qg.nil)))) rfl) (an (qo (AllST.cons (Still.agg (AllST.cons tI (AllST.cons (qD qa _ (nl rfl)) AllST.nil))) (AllST.cons tS AllST.nil)) (jP N (⟨n25, l26⟩ : kU) a1_ e_r27) (Still.tuple (AllST.cons tI (AllST.cons tB AllST.nil)))) trivial))
    try dsimp only at h
    refine sq ?_
    refine sq (Goes.rg fol [(7, .ptr 0 0), (9, .ptr 1 0), (12, .i at__29), (38, .bool (!is_30))] [.cells [.str [], .str [], .i 0, .i 0, .i 0, .i 0, .i 0, .i 0, .bool false], .cells [.gslice 2 l15.length 5, hsl 3 3 o28], .cells (l15.flatMap qb.c), .cells ((hof o28).flatMap qh.c), .cells [.i n19, .i r20, .i a2_]] ?_)
    refine Goes.ifB (b := !is_30) (by kernel_rfl) (fun c32 => ?_) (fun c32 => ?_)
    · rw [if_pos (c32)] at h
      refine sq (Goes.rg fol [(6, .nilptr), (7, .ptr 0 0), (8, .i 10)] [.cells [.str [], .str [], .i 0, .i 0, .i 0, .i 0, .i 0, .i 0, .bool false], .cells [.gslice 2 l15.length 5, hsl 3 3 o28], .cells (l15.flatMap qb.c), .cells ((hof o28).flatMap qh.c), .cells [.i n19, .i r20, .i a2_]] ?_)
      refine Goes.ret ?_
      simp only [Option.some.injEq, Prod.mk.injEq] at h
      obtain ⟨rfl, rfl, rfl, rfl, rfl, rfl, rfl, rfl, rfl, rfl, rfl, rfl, rfl⟩ := h
      exact (Goes.retH (xs := [.nilptr, .agg [.str [], .str [], .i 0, .i 0, .i 0, .i 0, .i 0, .i 0, .bool false], .i 10]) (by kernel_rfl) (Sub.norm [] [none, none, none] (by rw [hB]; rfl) rfl (.keep (.tupleL (qf.cons (qM.pz0) (qf.cons (.aggL (qf.cons (.same nS) (qf.cons (.same nS) (qf.cons (.same nI) (qf.cons (.same nI) (qf.cons (.same nI) (qf.cons (.same nI) (qf.cons (.same nI) (qf.cons (.same nI) (qf.cons (.same nB) qf.nil)))))))))) (qf.cons (.same nI) qf.nil)))) .nil) (.fresh (.fresh (.fresh .nil)))))
    · rw [if_neg (nb c32)] at h
      refine Goes.skip ?_
      refine sq ?_
      obtain ⟨⟨o34, n35, l36⟩, e_r33, h⟩ := bnd h
      try dsimp only at h
      obtain ⟨x37, e_x37, h⟩ := bnd h
      refine Goes.rp fol [2, 5, 6] [(6, .ptr 1 0), (7, .ptr 0 0), (8, .i 0)] [.cells (cS x37), .cells [.gslice 2 l15.length 5, hsl 3 3 o34], .cells (l15.flatMap qb.c), .cells ((hof o34).flatMap qh.c), .cells [.i n19, .i r20, .i a2_]] [.callH 81 [.ptr 1 0] [.cells [.str [], .str [], .i 0, .i 0, .i 0, .i 0, .i 0, .i 0, .bool false], .cells [.gslice 2 l15.length 5, hsl 3 3 o28], .cells (l15.flatMap qb.c), .cells ((hof o28).flatMap qh.c), .cells [.i n19, .i r20, .i a2_]] [1, 2, 3] (.agg [.i n35, vl qa l36]) [.cells [.str [], .str [], .i 0, .i 0, .i 0, .i 0, .i 0, .i 0, .bool false], .cells [.gslice 2 l15.length 5, hsl 3 3 o34], .cells (l15.flatMap qb.c), .cells ((hof o34).flatMap qh.c), .cells [.i n19, .i r20, .i a2_]], .done (.opt (qd Tryz.prog 29 (vl qa l36) (.i at__29))) (.fptr (l36.flatMap qa.c) ((at__29 : Int).toNat * 9 + 0)), .done (qx Tryz.prog 68 (.fptr (l36.flatMap qa.c) ((at__29 : Int).toNat * 9 + 0))) (.agg (cS x37))] (an (je [some 1, some 2, some 3] [none, some 0, some 1, some 2, none] (zy l15 o28 e_r33) (.keep rfl (.cells (qf.cons (.gslice rfl) (qf.cons ((qM.hs rfl)) qf.nil))) rfl rfl (.keep rfl (.same fa) rfl rfl (.keep rfl (.same fa) rfl rfl .nil))) rfl rfl (.old rfl rfl (.back rfl rfl (.cells (qf.cons (.gslice rfl) (qf.cons ((qM.hs rfl)) qf.nil))) rfl (.back rfl rfl (.same fa) rfl (.back rfl rfl (.same fa) rfl (.old rfl rfl .nil))))) (qf.cons (.ptr rfl) qf.nil) (.same (qC.agg (qg.cons nI (qg.cons (qj qa _) qg.nil)))) rfl) (an (qB xK (E := qa) rfl e_x37) (an (qaT qhk (E := qa) rfl e_x37) trivial))) ?_
      refine Goes.ret ?_
      simp only [Option.some.injEq, Prod.mk.injEq] at h
      obtain ⟨rfl, rfl, rfl, rfl, rfl, rfl, rfl, rfl, rfl, rfl, rfl, rfl, rfl⟩ := h
      exact (Goes.retH (xs := [.ptr 1 0, .agg (cS x37), .i 0]) (by kernel_rfl) (Sub.norm [] [some 1, some 2, some 3] (by rw [hB]; rfl) rfl (.keep (.tupleL (qf.cons ((qM.pz1 rfl)) (qf.cons (.aggL (qf.cons (.same nS) (qf.cons (.same nS) (qf.cons (.same nI) (qf.cons (.same nI) (qf.cons (.same nI) (qf.cons (.same nI) (qf.cons (.same nI) (qf.cons (.same nI) (qf.cons (.same nB) qf.nil)))))))))) (qf.cons (.same nI) qf.nil)))) .nil) (.keep rfl (.cells (qf.cons (.gslice rfl) (qf.cons ((qM.hs rfl)) qf.nil))) rfl rfl (.keep rfl (.same fa) rfl rfl (.keep rfl (.same fa) rfl rfl .nil)))))
def jT (N : Nat) (l : List ql) (sling : Str) (day : Int) : Option (Bool × Int) :=
  (zP day).bind fun r1 =>
  (za N l sling r1).bind fun (l3, o4, ok5, s6, s7, n8, n9, n10, n11, n12, n13, b14, other_15) =>
  if (!decide (other_15 = 0)) = true then
  some (false, other_15)
  else
  (kG (⟨s6, s7, n8, n9, n10, n11, n12, n13, b14⟩ : qc) day).bind fun r17 =>
  some (r17, 0)
theorem xR (N : Nat) (l : List ql) (sling : Str) (day : Int) {res : Bool × Int} (h : jT N l sling day = some res) : qy Tryz.prog (.fn 25) [vl qb l, .str sling, .i day] [] (.tuple [.bool res.1, .i res.2]) [] := by
  unfold jT at h
  refine Goes.fnW Tryz.func25 rfl rfl (m := 26) rfl (rs := [.tmp 6, .tmp 7]) rfl (l := [(0, vl qb l), (1, .str sling), (2, .i day)]) rfl ?_
  refine sq (Goes.rg fol [(0, vl qb l), (1, .str sling), (2, .i day)] [] ?_)
  refine sq ?_
  obtain ⟨r1, e_r1, h⟩ := bnd h
  obtain ⟨⟨l3, o4, ok5, s6, s7, n8, n9, n10, n11, n12, n13, b14, other_15⟩, e_r2, h⟩ := bnd h
  try dsimp only at h
  refine Goes.rp fol [3, 4] [(2, .i day), (9, .ptr 3 0), (10, .i other_15)] [.cells [.gslice 1 l3.length 5, hsl 2 3 o4], .cells (l3.flatMap qb.c), .cells ((hof o4).flatMap qh.c), .cells (cT s6 s7 n8 n9 n10 n11 n12 n13 b14)] [.call 94 [.i day] [] [] [.i day] (.i r1), .callH 92 [vl qb l, .str sling, .i r1] [] [] (.tuple [pz ok5 0 0, .agg (cT s6 s7 n8 n9 n10 n11 n12 n13 b14), .i other_15]) [.cells [.gslice 1 l3.length 5, hsl 2 3 o4], .cells (l3.flatMap qb.c), .cells ((hof o4).flatMap qh.c)]] (an (qo (AllST.cons tI AllST.nil) (j4 day e_r1) tI) (an (je [] [some 0, some 1, some 2] (xI N l sling r1 e_r2) .nil rfl rfl (.new rfl rfl (.cells (qf.cons (.gslice rfl) (qf.cons ((qM.hs rfl)) qf.nil))) rfl (.new rfl rfl (.same fa) rfl (.new rfl rfl (.same fa) rfl .nil))) (qf.cons (.same (qj qb _)) (qf.cons (.same nS) (qf.cons (.same nI) qf.nil))) (.tupleL (qf.cons ((qM.pz rfl)) (qf.cons (.same (qC.agg (qg.cons nS (qg.cons nS (qg.cons nI (qg.cons nI (qg.cons nI (qg.cons nI (qg.cons nI (qg.cons nI (qg.cons nB qg.nil))))))))))) (qf.cons (.same nI) qf.nil)))) rfl) trivial)) ?_
  refine sq ?_
  refine sq (Goes.rg fol [(2, .i day), (9, .ptr 3 0), (10, .i other_15), (21, .bool (!decide (other_15 = 0)))] [.cells [.gslice 1 l3.length 5, hsl 2 3 o4], .cells (l3.flatMap qb.c), .cells ((hof o4).flatMap qh.c), .cells (cT s6 s7 n8 n9 n10 n11 n12 n13 b14)] ?_)
  refine Goes.ifB (b := !decide (other_15 = 0)) (by kernel_rfl) (fun c16 => ?_) (fun c16 => ?_)
  · rw [if_pos (c16)] at h
    refine sq (Goes.rg fol [(6, .bool false), (7, .i other_15)] [.cells [.gslice 1 l3.length 5, hsl 2 3 o4], .cells (l3.flatMap qb.c), .cells ((hof o4).flatMap qh.c), .cells (cT s6 s7 n8 n9 n10 n11 n12 n13 b14)] ?_)
    refine Goes.ret ?_
    obtain rfl := si h
    exact (Goes.retW (xs := [.bool false, .i other_15]) (by kernel_rfl) (FzW.tuple (qK.cons (FzW.still tB) (qK.cons (FzW.still tI) qK.nil))))
  · rw [if_neg (nb c16)] at h
    refine Goes.skip ?_
    refine sq ?_
    obtain ⟨r17, e_r17, h⟩ := bnd h
    refine Goes.rp fol [2] [(6, .bool r17), (7, .i 0)] [.cells [.gslice 1 l3.length 5, hsl 2 3 o4], .cells (l3.flatMap qb.c), .cells ((hof o4).flatMap qh.c), .cells (cT s6 s7 n8 n9 n10 n11 n12 n13 b14)] [.call 95 [.agg (cT s6 s7 n8 n9 n10 n11 n12 n13 b14), .i day] [.cells [.gslice 1 l3.length 5, hsl 2 3 o4], .cells (l3.flatMap qb.c), .cells ((hof o4).flatMap qh.c), .cells (cT s6 s7 n8 n9 n10 n11 n12 n13 b14)] [] [.agg (cT s6 s7 n8 n9 n10 n11 n12 n13 b14), .i day] (.bool r17)] (an (qo (AllST.cons (Still.agg (AllST.cons tS (AllST.cons tS (AllST.cons tI (AllST.cons tI (AllST.cons tI (AllST.cons tI (AllST.cons tI (AllST.cons tI (AllST.cons tB AllST.nil)))))))))) (AllST.cons tI AllST.nil)) (jk (⟨s6, s7, n8, n9, n10, n11, n12, n13, b14⟩ : qc) day e_r17) tB) trivial) ?_
    refine Goes.ret ?_
    obtain rfl := si h
    exact (Goes.retW (xs := [.bool r17, .i 0]) (by kernel_rfl) (FzW.tuple (qK.cons (FzW.still tB) (qK.cons (FzW.still tI) qK.nil))))
def jE (N : Nat) (l : List ql) (sling : Str) (day : Int) : Option (Int × Int) :=
  (zP day).bind fun r1 =>
  (za N l sling r1).bind fun (l3, o4, ok5, s6, s7, n8, n9, n10, n11, n12, n13, b14, other_15) =>
  (kG (⟨s6, s7, n8, n9, n10, n11, n12, n13, b14⟩ : qc) day).bind fun r16 =>
  (kg r16 20).bind fun r17 =>
  (zU (⟨s6, s7, n8, n9, n10, n11, n12, n13, b14⟩ : qc) day).bind fun r18 =>
  (kg (!r18) 24).bind fun r19 =>
  (zf N ([other_15, r17, r19] : List Int)).bind fun r20 =>
  if (!decide (r20 = 0)) = true then
  some (0, r20)
  else
  some (n12, 0)
theorem qaI (N : Nat) (l : List ql) (sling : Str) (day : Int) {res : Int × Int} (h : jE N l sling day = some res) : qy Tryz.prog (.fn 26) [vl qb l, .str sling, .i day] [] (.tuple [.i res.1, .i res.2]) [] := by
  unfold jE at h
  refine Goes.fnW Tryz.func26 rfl rfl (m := 37) rfl (rs := [.tmp 6, .tmp 7]) rfl (l := [(0, vl qb l), (1, .str sling), (2, .i day)]) rfl ?_
  refine sq (Goes.rg fol [(0, vl qb l), (1, .str sling), (2, .i day)] [] ?_)
  refine sq ?_
  obtain ⟨r1, e_r1, h⟩ := bnd h
  obtain ⟨⟨l3, o4, ok5, s6, s7, n8, n9, n10, n11, n12, n13, b14, other_15⟩, e_r2, h⟩ := bnd h
  try dsimp only at h
  refine Goes.rp fol [3, 4] [(2, .i day), (9, .ptr 3 0), (10, .i other_15)] [.cells [.gslice 1 l3.length 5, hsl 2 3 o4], .cells (l3.flatMap qb.c), .cells ((hof o4).flatMap qh.c), .cells (cT s6 s7 n8 n9 n10 n11 n12 n13 b14)] [.call 94 [.i day] [] [] [.i day] (.i r1), .callH 92 [vl qb l, .str sling, .i r1] [] [] (.tuple [pz ok5 0 0, .agg (cT s6 s7 n8 n9 n10 n11 n12 n13 b14), .i other_15]) [.cells [.gslice 1 l3.length 5, hsl 2 3 o4], .cells (l3.flatMap qb.c), .cells ((hof o4).flatMap qh.c)]] (an (qo (AllST.cons tI AllST.nil) (j4 day e_r1) tI) (an (je [] [some 0, some 1, some 2] (xI N l sling r1 e_r2) .nil rfl rfl (.new rfl rfl (.cells (qf.cons (.gslice rfl) (qf.cons ((qM.hs rfl)) qf.nil))) rfl (.new rfl rfl (.same fa) rfl (.new rfl rfl (.same fa) rfl .nil))) (qf.cons (.same (qj qb _)) (qf.cons (.same nS) (qf.cons (.same nI) qf.nil))) (.tupleL (qf.cons ((qM.pz rfl)) (qf.cons (.same (qC.agg (qg.cons nS (qg.cons nS (qg.cons nI (qg.cons nI (qg.cons nI (qg.cons nI (qg.cons nI (qg.cons nI (qg.cons nB qg.nil))))))))))) (qf.cons (.same nI) qf.nil)))) rfl) trivial)) ?_
  refine sq ?_
  refine sq ?_
  obtain ⟨r16, e_r16, h⟩ := bnd h
  obtain ⟨r17, e_r17, h⟩ := bnd h
  obtain ⟨r18, e_r18, h⟩ := bnd h
  obtain ⟨r19, e_r19, h⟩ := bnd h
  obtain ⟨r20, e_r20, h⟩ := bnd h
  refine Goes.rp fol [3, 4, 7, 9, 11] [(9, .ptr 3 0), (10, .i r20)] [.cells [.gslice 1 l3.length 5, hsl 2 3 o4], .cells (l3.flatMap qb.c), .cells ((hof o4).flatMap qh.c), .cells (cT s6 s7 n8 n9 n10 n11 n12 n13 b14), .cells [.i other_15, .i r17, .i r19]] [.call 95 [.agg (cT s6 s7 n8 n9 n10 n11 n12 n13 b14), .i day] [.cells [.gslice 1 l3.length 5, hsl 2 3 o4], .cells (l3.flatMap qb.c), .cells ((hof o4).flatMap qh.c), .cells (cT s6 s7 n8 n9 n10 n11 n12 n13 b14)] [] [.agg (cT s6 s7 n8 n9 n10 n11 n12 n13 b14), .i day] (.bool r16), .call 88 [.bool r16, .i 20] [.cells [.gslice 1 l3.length 5, hsl 2 3 o4], .cells (l3.flatMap qb.c), .cells ((hof o4).flatMap qh.c), .cells (cT s6 s7 n8 n9 n10 n11 n12 n13 b14)] [] [.bool r16, .i 20] (.i r17), .call 96 [.agg (cT s6 s7 n8 n9 n10 n11 n12 n13 b14), .i day] [.cells [.gslice 1 l3.length 5, hsl 2 3 o4], .cells (l3.flatMap qb.c), .cells ((hof o4).flatMap qh.c), .cells (cT s6 s7 n8 n9 n10 n11 n12 n13 b14)] [] [.agg (cT s6 s7 n8 n9 n10 n11 n12 n13 b14), .i day] (.bool r18), .call 88 [.bool (!r18), .i 24] [.cells [.gslice 1 l3.length 5, hsl 2 3 o4], .cells (l3.flatMap qb.c), .cells ((hof o4).flatMap qh.c), .cells (cT s6 s7 n8 n9 n10 n11 n12 n13 b14)] [] [.bool (!r18), .i 24] (.i r19), .call 86 [.slice 4 0 3 3 1] [.cells [.gslice 1 l3.length 5, hsl 2 3 o4], .cells (l3.flatMap qb.c), .cells ((hof o4).flatMap qh.c), .cells (cT s6 s7 n8 n9 n10 n11 n12 n13 b14), .cells [.i other_15, .i r17, .i r19]] [4] [vl encI ([other_15, r17, r19] : List Int)] (.i r20)] (an (qo (AllST.cons (Still.agg (AllST.cons tS (AllST.cons tS (AllST.cons tI (AllST.cons tI (AllST.cons tI (AllST.cons tI (AllST.cons tI (AllST.cons tI (AllST.cons tB AllST.nil)))))))))) (AllST.cons tI AllST.nil)) (jk (⟨s6, s7, n8, n9, n10, n11, n12, n13, b14⟩ : qc) day e_r16) tB) (an (qo (AllST.cons tB (AllST.cons tI AllST.nil)) (qN r16 20 e_r17) tI) (an (qo (AllST.cons (Still.agg (AllST.cons tS (AllST.cons tS (AllST.cons tI (AllST.cons tI (AllST.cons tI (AllST.cons tI (AllST.cons tI (AllST.cons tI (AllST.cons tB AllST.nil)))))))))) (AllST.cons tI AllST.nil)) (yJ (⟨s6, s7, n8, n9, n10, n11, n12, n13, b14⟩ : qc) day e_r18) tB) (an (qo (AllST.cons tB (AllST.cons tI AllST.nil)) (qN (!r18) 24 e_r19) tI) (an (xz (FzL.cons (Fz.lit rfl rfl (FzL.still (AllST.cons tI (AllST.cons tI (AllST.cons tI AllST.nil))))) FzL.nil) (zN N ([other_15, r17, r19] : List Int) e_r20) tI rfl) trivial))))) ?_
  refine sq (Goes.rg fol [(9, .ptr 3 0), (10, .i r20), (33, .bool (!decide (r20 = 0)))] [.cells [.gslice 1 l3.length 5, hsl 2 3 o4], .cells (l3.flatMap qb.c), .cells ((hof o4).flatMap qh.c), .cells (cT s6 s7 n8 n9 n10 n11 n12 n13 b14), .cells [.i other_15, .i r17, .i r19]] ?_)
  refine Goes.ifB (b := !decide (r20 = 0)) (by kernel_rfl) (fun c21 => ?_) (fun c21 => ?_)
  · rw [if_pos (c21)] at h
    refine sq (Goes.rg fol [(6, .i 0), (7, .i r20)] [.cells [.gslice 1 l3.length 5, hsl 2 3 o4], .cells (l3.flatMap qb.c), .cells ((hof o4).flatMap qh.c), .cells (cT s6 s7 n8 n9 n10 n11 n12 n13 b14), .cells [.i other_15, .i r17, .i r19]] ?_)
    refine Goes.ret ?_
    obtain rfl := si h
    exact (Goes.retW (xs := [.i 0, .i r20]) (by kernel_rfl) (FzW.tuple (qK.cons (FzW.still tI) (qK.cons (FzW.still tI) qK.nil))))
  · rw [if_neg (nb c21)] at h
    refine Goes.skip ?_
    refine sq (Goes.rg fol [(6, .i n12), (7, .i 0)] [.cells [.gslice 1 l3.length 5, hsl 2 3 o4], .cells (l3.flatMap qb.c), .cells ((hof o4).flatMap qh.c), .cells (cT s6 s7 n8 n9 n10 n11 n12 n13 b14), .cells [.i other_15, .i r17, .i r19]] ?_)
    refine Goes.ret ?_
    obtain rfl := si h
    exact (Goes.retW (xs := [.i n12, .i 0]) (by kernel_rfl) (FzW.tuple (qK.cons (FzW.still tI) (qK.cons (FzW.still tI) qK.nil))))
end Go.Av
