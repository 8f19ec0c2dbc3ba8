/-
  Walks of functions: what each computes, as a plain function.
-/
import Derived.Test.YtjflombnfhlkaaaGreatDoorGenS1
noncomputable section
namespace Go.Av
open Go.Proofs Go.RowKit
set_option linter.unusedSectionVars false
set_option linter.unusedVariables false
set_option linter.unusedSimpArgs false
set_option maxRecDepth 100000
variable [Glob]
def kS (N : Nat) (e : qm) : Nat → Int → Option (Unit ⊕ Int)
  | 0, _ => none
  | K + 1, n22 =>
    if n22 < (e.Names.length : Int) then
    (idx e.Names n22).bind fun x26 =>
    (vL N x26).bind fun r27 =>
    if (!decide (r27 = 0)) = true then
    some (.inr r27)
    else
    kS N e K (w64 (n22 + 1))
    else
    some (.inl ())
def kT (e : qm) : Nat → Int → Option (Unit ⊕ Int)
  | 0, _ => none
  | K + 1, n29 =>
    if n29 < (e.Values.length : Int) then
    (idx e.Values n29).bind fun x33 =>
    (zq x33 0 999999999).bind fun r34 =>
    if (!decide (r34 = 0)) = true then
    some (.inr r34)
    else
    kT e K (w64 (n29 + 1))
    else
    some (.inl ())
def jF (N : Nat) (e : qm) : Option Int :=
  ((zk).bind fun r1 =>
  if (e.Kind == [109, 97, 107, 101]) = true then
  some (2, 3, true)
  else
  if (e.Kind == [116, 101, 115, 116]) = true then
  some (1, 2, true)
  else
  if (e.Kind == [117, 115, 101]) = true then
  some (1, 2, true)
  else
  if (e.Kind == [102, 97, 105, 108]) = true then
  some (1, 1, true)
  else
  if (e.Kind == [114, 101, 99, 97, 108, 108]) = true then
  some (1, 1, true)
  else
  if (e.Kind == [117, 110, 100, 111]) = true then
  some (0, 0, true)
  else
  some (0, 0, false) : Option (Int × Int × Bool)).bind fun (n8, n9, is_10) =>
  ((zq e.Number 1 1000).bind fun r12 =>
  (qZ (!is_10) 13).bind fun r13 =>
  if (!decide ((e.Names.length : Int) = n8)) = true then
  (qZ true 2).bind fun r15 =>
  (kY N ([r12, r13, r15] : List Int)).bind fun r16 =>
  some r16
  else
  (qZ (!decide ((e.Values.length : Int) = n9)) 2).bind fun r17 =>
  (kY N ([r12, r13, r17] : List Int)).bind fun r18 =>
  some r18 : Option Int).bind fun bad_19 =>
  if (!decide (bad_19 = 0)) = true then
  some bad_19
  else
  (kS N e N 0).bind (fun
  | (.inl ()) =>
  (kT e N 0).bind (fun
  | (.inl ()) =>
  (qZ (!(e.Text == [])) 1).bind fun r36 =>
  some r36
  | (.inr q37) =>
  some q37)
  | (.inr q38) =>
  some q38)
theorem qaW (N : Nat) (e : qm) {res : Int} (h : jF N e = some res) : qw Tryz.prog (.fn 18) [.agg [.i e.Number, .str e.Kind, vl encS e.Names, vl encI e.Values, .str e.Text]] [] (.i res) [] := by
  unfold jF at h
  refine Goes.fnW Tryz.func18 rfl rfl (m := 75) rfl (rs := [.tmp 2]) rfl (l := [(0, .agg [.i e.Number, .str e.Kind, vl encS e.Names, vl encI e.Values, .str e.Text])]) rfl ?_
  refine sq ?_
  refine Goes.rg fol [(1, .ptr 0 0)] [.cells [.i e.Number, .str e.Kind, vl encS e.Names, vl encI e.Values, .str e.Text]] ?_
  refine sq ?_
  obtain ⟨⟨n8, n9, is_10⟩, g_v11, h⟩ := bnd h
  refine Goes.cutS (s' := (ofG 75 [(1, .ptr 0 0), (3, .ptr 1 0), (4, .bool is_10)], [.cells [.i e.Number, .str e.Kind, vl encS e.Names, vl encI e.Values, .str e.Text], .cells [.i n8, .i n9, .undef]])) ?_ ?_
  · obtain ⟨r1, e_r1, g_v11⟩ := bnd g_v11
    rcases Bool.eq_false_or_eq_true (e.Kind == [109, 97, 107, 101]) with c2 | c2
    · rw [if_pos (c2)] at g_v11
      simp only [Option.some.injEq, Prod.mk.injEq] at g_v11
      obtain ⟨rfl, rfl, rfl⟩ := g_v11
      exact qp.sub (qp.ro fol [(0, (.call [] [] fm1)), (3, (.done (.tuple [.agg [.i 2, .i 3, .func (.func 141) [] []], .bool true])))] [(1, .ptr 0 0), (3, .ptr 1 0), (4, .bool true)] [.cells [.i e.Number, .str e.Kind, vl encS e.Names, vl encI e.Values, .str e.Text], .cells [.i 2, .i 3, .func (.func 141) [] []]] [.call 85 [] [.cells [.i e.Number, .str e.Kind, vl encS e.Names, vl encI e.Values, .str e.Text]] [] [] fm1, .done (zQ Tryz.prog 154 (fm1) (.str e.Kind) true) (.tuple [.agg [.i 2, .i 3, .func (.func 141) [] []], .bool true])] (And.intro (qo AllST.nil (kw e_r1) (Still.fmap (AllST.cons (Still.str 10 _) (AllST.cons (Still.str 10 _) (AllST.cons (Still.str 10 _) (AllST.cons (Still.str 10 _) (AllST.cons (Still.str 10 _) (AllST.cons (Still.str 10 _) AllST.nil)))))) (AllST.cons (Still.agg (AllST.cons (Still.int 9 _ _) (AllST.cons (Still.int 9 _ _) (AllST.cons (Still.func AllST.nil AllST.nil) AllST.nil)))) (AllST.cons (Still.agg (AllST.cons (Still.int 9 _ _) (AllST.cons (Still.int 9 _ _) (AllST.cons (Still.func AllST.nil AllST.nil) AllST.nil)))) (AllST.cons (Still.agg (AllST.cons (Still.int 9 _ _) (AllST.cons (Still.int 9 _ _) (AllST.cons (Still.func AllST.nil AllST.nil) AllST.nil)))) (AllST.cons (Still.agg (AllST.cons (Still.int 9 _ _) (AllST.cons (Still.int 9 _ _) (AllST.cons (Still.func AllST.nil AllST.nil) AllST.nil)))) (AllST.cons (Still.agg (AllST.cons (Still.int 9 _ _) (AllST.cons (Still.int 9 _ _) (AllST.cons (Still.func AllST.nil AllST.nil) AllST.nil)))) (AllST.cons (Still.agg (AllST.cons (Still.int 9 _ _) (AllST.cons (Still.int 9 _ _) (AllST.cons (Still.nilfunc 9) AllST.nil)))) AllST.nil)))))))) (And.intro (qcj qaw [[109, 97, 107, 101], [116, 101, 115, 116], [117, 115, 101], [102, 97, 105, 108], [114, 101, 99, 97, 108, 108], [117, 110, 100, 111]] (jL c2) rfl) trivial))) (Sub.norm [] [some 0, some 1] rfl rfl (.keep (.ptr rfl) (.keep (.ptr rfl) (.keep (.same (qc.bool _)) .nil))) (.keep rfl (.same (qf.cons (qc.int _ _) (qf.cons (qc.str _) (qf.cons (ql encS _) (qf.cons (ql encI _) (qf.cons (qc.str _) qf.nil)))))) rfl rfl (.keep rfl (.cells (qg.cons (.same (qc.int _ _)) (qg.cons (.same (qc.int _ _)) (qg.cons (.undef) qg.nil)))) rfl rfl .nil)))
    · rw [if_neg (by rw [c2]; exact Bool.false_ne_true)] at g_v11
      rcases Bool.eq_false_or_eq_true (e.Kind == [116, 101, 115, 116]) with c3 | c3
      · rw [if_pos (c3)] at g_v11
        simp only [Option.some.injEq, Prod.mk.injEq] at g_v11
        obtain ⟨rfl, rfl, rfl⟩ := g_v11
        exact qp.sub (qp.ro fol [(0, (.call [] [] fm1)), (3, (.done (.tuple [.agg [.i 1, .i 2, .func (.func 142) [] []], .bool true])))] [(1, .ptr 0 0), (3, .ptr 1 0), (4, .bool true)] [.cells [.i e.Number, .str e.Kind, vl encS e.Names, vl encI e.Values, .str e.Text], .cells [.i 1, .i 2, .func (.func 142) [] []]] [.call 85 [] [.cells [.i e.Number, .str e.Kind, vl encS e.Names, vl encI e.Values, .str e.Text]] [] [] fm1, .done (zQ Tryz.prog 154 (fm1) (.str e.Kind) true) (.tuple [.agg [.i 1, .i 2, .func (.func 142) [] []], .bool true])] (And.intro (qo AllST.nil (kw e_r1) (Still.fmap (AllST.cons (Still.str 10 _) (AllST.cons (Still.str 10 _) (AllST.cons (Still.str 10 _) (AllST.cons (Still.str 10 _) (AllST.cons (Still.str 10 _) (AllST.cons (Still.str 10 _) AllST.nil)))))) (AllST.cons (Still.agg (AllST.cons (Still.int 9 _ _) (AllST.cons (Still.int 9 _ _) (AllST.cons (Still.func AllST.nil AllST.nil) AllST.nil)))) (AllST.cons (Still.agg (AllST.cons (Still.int 9 _ _) (AllST.cons (Still.int 9 _ _) (AllST.cons (Still.func AllST.nil AllST.nil) AllST.nil)))) (AllST.cons (Still.agg (AllST.cons (Still.int 9 _ _) (AllST.cons (Still.int 9 _ _) (AllST.cons (Still.func AllST.nil AllST.nil) AllST.nil)))) (AllST.cons (Still.agg (AllST.cons (Still.int 9 _ _) (AllST.cons (Still.int 9 _ _) (AllST.cons (Still.func AllST.nil AllST.nil) AllST.nil)))) (AllST.cons (Still.agg (AllST.cons (Still.int 9 _ _) (AllST.cons (Still.int 9 _ _) (AllST.cons (Still.func AllST.nil AllST.nil) AllST.nil)))) (AllST.cons (Still.agg (AllST.cons (Still.int 9 _ _) (AllST.cons (Still.int 9 _ _) (AllST.cons (Still.nilfunc 9) AllST.nil)))) AllST.nil)))))))) (And.intro (qcj qaw [[109, 97, 107, 101], [116, 101, 115, 116], [117, 115, 101], [102, 97, 105, 108], [114, 101, 99, 97, 108, 108], [117, 110, 100, 111]] (qB c2 (jL c3)) rfl) trivial))) (Sub.norm [] [some 0, some 1] rfl rfl (.keep (.ptr rfl) (.keep (.ptr rfl) (.keep (.same (qc.bool _)) .nil))) (.keep rfl (.same (qf.cons (qc.int _ _) (qf.cons (qc.str _) (qf.cons (ql encS _) (qf.cons (ql encI _) (qf.cons (qc.str _) qf.nil)))))) rfl rfl (.keep rfl (.cells (qg.cons (.same (qc.int _ _)) (qg.cons (.same (qc.int _ _)) (qg.cons (.undef) qg.nil)))) rfl rfl .nil)))
      · rw [if_neg (by rw [c3]; exact Bool.false_ne_true)] at g_v11
        rcases Bool.eq_false_or_eq_true (e.Kind == [117, 115, 101]) with c4 | c4
        · rw [if_pos (c4)] at g_v11
          simp only [Option.some.injEq, Prod.mk.injEq] at g_v11
          obtain ⟨rfl, rfl, rfl⟩ := g_v11
          exact qp.sub (qp.ro fol [(0, (.call [] [] fm1)), (3, (.done (.tuple [.agg [.i 1, .i 2, .func (.func 143) [] []], .bool true])))] [(1, .ptr 0 0), (3, .ptr 1 0), (4, .bool true)] [.cells [.i e.Number, .str e.Kind, vl encS e.Names, vl encI e.Values, .str e.Text], .cells [.i 1, .i 2, .func (.func 143) [] []]] [.call 85 [] [.cells [.i e.Number, .str e.Kind, vl encS e.Names, vl encI e.Values, .str e.Text]] [] [] fm1, .done (zQ Tryz.prog 154 (fm1) (.str e.Kind) true) (.tuple [.agg [.i 1, .i 2, .func (.func 143) [] []], .bool true])] (And.intro (qo AllST.nil (kw e_r1) (Still.fmap (AllST.cons (Still.str 10 _) (AllST.cons (Still.str 10 _) (AllST.cons (Still.str 10 _) (AllST.cons (Still.str 10 _) (AllST.cons (Still.str 10 _) (AllST.cons (Still.str 10 _) AllST.nil)))))) (AllST.cons (Still.agg (AllST.cons (Still.int 9 _ _) (AllST.cons (Still.int 9 _ _) (AllST.cons (Still.func AllST.nil AllST.nil) AllST.nil)))) (AllST.cons (Still.agg (AllST.cons (Still.int 9 _ _) (AllST.cons (Still.int 9 _ _) (AllST.cons (Still.func AllST.nil AllST.nil) AllST.nil)))) (AllST.cons (Still.agg (AllST.cons (Still.int 9 _ _) (AllST.cons (Still.int 9 _ _) (AllST.cons (Still.func AllST.nil AllST.nil) AllST.nil)))) (AllST.cons (Still.agg (AllST.cons (Still.int 9 _ _) (AllST.cons (Still.int 9 _ _) (AllST.cons (Still.func AllST.nil AllST.nil) AllST.nil)))) (AllST.cons (Still.agg (AllST.cons (Still.int 9 _ _) (AllST.cons (Still.int 9 _ _) (AllST.cons (Still.func AllST.nil AllST.nil) AllST.nil)))) (AllST.cons (Still.agg (AllST.cons (Still.int 9 _ _) (AllST.cons (Still.int 9 _ _) (AllST.cons (Still.nilfunc 9) AllST.nil)))) AllST.nil)))))))) (And.intro (qcj qaw [[109, 97, 107, 101], [116, 101, 115, 116], [117, 115, 101], [102, 97, 105, 108], [114, 101, 99, 97, 108, 108], [117, 110, 100, 111]] (qB c2 (qB c3 (jL c4))) rfl) trivial))) (Sub.norm [] [some 0, some 1] rfl rfl (.keep (.ptr rfl) (.keep (.ptr rfl) (.keep (.same (qc.bool _)) .nil))) (.keep rfl (.same (qf.cons (qc.int _ _) (qf.cons (qc.str _) (qf.cons (ql encS _) (qf.cons (ql encI _) (qf.cons (qc.str _) qf.nil)))))) rfl rfl (.keep rfl (.cells (qg.cons (.same (qc.int _ _)) (qg.cons (.same (qc.int _ _)) (qg.cons (.undef) qg.nil)))) rfl rfl .nil)))
        · rw [if_neg (by rw [c4]; exact Bool.false_ne_true)] at g_v11
          rcases Bool.eq_false_or_eq_true (e.Kind == [102, 97, 105, 108]) with c5 | c5
          · rw [if_pos (c5)] at g_v11
            simp only [Option.some.injEq, Prod.mk.injEq] at g_v11
            obtain ⟨rfl, rfl, rfl⟩ := g_v11
            exact qp.sub (qp.ro fol [(0, (.call [] [] fm1)), (3, (.done (.tuple [.agg [.i 1, .i 1, .func (.func 144) [] []], .bool true])))] [(1, .ptr 0 0), (3, .ptr 1 0), (4, .bool true)] [.cells [.i e.Number, .str e.Kind, vl encS e.Names, vl encI e.Values, .str e.Text], .cells [.i 1, .i 1, .func (.func 144) [] []]] [.call 85 [] [.cells [.i e.Number, .str e.Kind, vl encS e.Names, vl encI e.Values, .str e.Text]] [] [] fm1, .done (zQ Tryz.prog 154 (fm1) (.str e.Kind) true) (.tuple [.agg [.i 1, .i 1, .func (.func 144) [] []], .bool true])] (And.intro (qo AllST.nil (kw e_r1) (Still.fmap (AllST.cons (Still.str 10 _) (AllST.cons (Still.str 10 _) (AllST.cons (Still.str 10 _) (AllST.cons (Still.str 10 _) (AllST.cons (Still.str 10 _) (AllST.cons (Still.str 10 _) AllST.nil)))))) (AllST.cons (Still.agg (AllST.cons (Still.int 9 _ _) (AllST.cons (Still.int 9 _ _) (AllST.cons (Still.func AllST.nil AllST.nil) AllST.nil)))) (AllST.cons (Still.agg (AllST.cons (Still.int 9 _ _) (AllST.cons (Still.int 9 _ _) (AllST.cons (Still.func AllST.nil AllST.nil) AllST.nil)))) (AllST.cons (Still.agg (AllST.cons (Still.int 9 _ _) (AllST.cons (Still.int 9 _ _) (AllST.cons (Still.func AllST.nil AllST.nil) AllST.nil)))) (AllST.cons (Still.agg (AllST.cons (Still.int 9 _ _) (AllST.cons (Still.int 9 _ _) (AllST.cons (Still.func AllST.nil AllST.nil) AllST.nil)))) (AllST.cons (Still.agg (AllST.cons (Still.int 9 _ _) (AllST.cons (Still.int 9 _ _) (AllST.cons (Still.func AllST.nil AllST.nil) AllST.nil)))) (AllST.cons (Still.agg (AllST.cons (Still.int 9 _ _) (AllST.cons (Still.int 9 _ _) (AllST.cons (Still.nilfunc 9) AllST.nil)))) AllST.nil)))))))) (And.intro (qcj qaw [[109, 97, 107, 101], [116, 101, 115, 116], [117, 115, 101], [102, 97, 105, 108], [114, 101, 99, 97, 108, 108], [117, 110, 100, 111]] (qB c2 (qB c3 (qB c4 (jL c5)))) rfl) trivial))) (Sub.norm [] [some 0, some 1] rfl rfl (.keep (.ptr rfl) (.keep (.ptr rfl) (.keep (.same (qc.bool _)) .nil))) (.keep rfl (.same (qf.cons (qc.int _ _) (qf.cons (qc.str _) (qf.cons (ql encS _) (qf.cons (ql encI _) (qf.cons (qc.str _) qf.nil)))))) rfl rfl (.keep rfl (.cells (qg.cons (.same (qc.int _ _)) (qg.cons (.same (qc.int _ _)) (qg.cons (.undef) qg.nil)))) rfl rfl .nil)))
          · rw [if_neg (by rw [c5]; exact Bool.false_ne_true)] at g_v11
            rcases Bool.eq_false_or_eq_true (e.Kind == [114, 101, 99, 97, 108, 108]) with c6 | c6
            · rw [if_pos (c6)] at g_v11
              simp only [Option.some.injEq, Prod.mk.injEq] at g_v11
              obtain ⟨rfl, rfl, rfl⟩ := g_v11
              exact qp.sub (qp.ro fol [(0, (.call [] [] fm1)), (3, (.done (.tuple [.agg [.i 1, .i 1, .func (.func 145) [] []], .bool true])))] [(1, .ptr 0 0), (3, .ptr 1 0), (4, .bool true)] [.cells [.i e.Number, .str e.Kind, vl encS e.Names, vl encI e.Values, .str e.Text], .cells [.i 1, .i 1, .func (.func 145) [] []]] [.call 85 [] [.cells [.i e.Number, .str e.Kind, vl encS e.Names, vl encI e.Values, .str e.Text]] [] [] fm1, .done (zQ Tryz.prog 154 (fm1) (.str e.Kind) true) (.tuple [.agg [.i 1, .i 1, .func (.func 145) [] []], .bool true])] (And.intro (qo AllST.nil (kw e_r1) (Still.fmap (AllST.cons (Still.str 10 _) (AllST.cons (Still.str 10 _) (AllST.cons (Still.str 10 _) (AllST.cons (Still.str 10 _) (AllST.cons (Still.str 10 _) (AllST.cons (Still.str 10 _) AllST.nil)))))) (AllST.cons (Still.agg (AllST.cons (Still.int 9 _ _) (AllST.cons (Still.int 9 _ _) (AllST.cons (Still.func AllST.nil AllST.nil) AllST.nil)))) (AllST.cons (Still.agg (AllST.cons (Still.int 9 _ _) (AllST.cons (Still.int 9 _ _) (AllST.cons (Still.func AllST.nil AllST.nil) AllST.nil)))) (AllST.cons (Still.agg (AllST.cons (Still.int 9 _ _) (AllST.cons (Still.int 9 _ _) (AllST.cons (Still.func AllST.nil AllST.nil) AllST.nil)))) (AllST.cons (Still.agg (AllST.cons (Still.int 9 _ _) (AllST.cons (Still.int 9 _ _) (AllST.cons (Still.func AllST.nil AllST.nil) AllST.nil)))) (AllST.cons (Still.agg (AllST.cons (Still.int 9 _ _) (AllST.cons (Still.int 9 _ _) (AllST.cons (Still.func AllST.nil AllST.nil) AllST.nil)))) (AllST.cons (Still.agg (AllST.cons (Still.int 9 _ _) (AllST.cons (Still.int 9 _ _) (AllST.cons (Still.nilfunc 9) AllST.nil)))) AllST.nil)))))))) (And.intro (qcj qaw [[109, 97, 107, 101], [116, 101, 115, 116], [117, 115, 101], [102, 97, 105, 108], [114, 101, 99, 97, 108, 108], [117, 110, 100, 111]] (qB c2 (qB c3 (qB c4 (qB c5 (jL c6))))) rfl) trivial))) (Sub.norm [] [some 0, some 1] rfl rfl (.keep (.ptr rfl) (.keep (.ptr rfl) (.keep (.same (qc.bool _)) .nil))) (.keep rfl (.same (qf.cons (qc.int _ _) (qf.cons (qc.str _) (qf.cons (ql encS _) (qf.cons (ql encI _) (qf.cons (qc.str _) qf.nil)))))) rfl rfl (.keep rfl (.cells (qg.cons (.same (qc.int _ _)) (qg.cons (.same (qc.int _ _)) (qg.cons (.undef) qg.nil)))) rfl rfl .nil)))
            · rw [if_neg (by rw [c6]; exact Bool.false_ne_true)] at g_v11
              rcases Bool.eq_false_or_eq_true (e.Kind == [117, 110, 100, 111]) with c7 | c7
              · rw [if_pos (c7)] at g_v11
                simp only [Option.some.injEq, Prod.mk.injEq] at g_v11
                obtain ⟨rfl, rfl, rfl⟩ := g_v11
                exact qp.sub (qp.ro fol [(0, (.call [] [] fm1)), (3, (.done (.tuple [.agg [.i 0, .i 0, .nilfunc], .bool true])))] [(1, .ptr 0 0), (3, .ptr 1 0), (4, .bool true)] [.cells [.i e.Number, .str e.Kind, vl encS e.Names, vl encI e.Values, .str e.Text], .cells [.i 0, .i 0, .nilfunc]] [.call 85 [] [.cells [.i e.Number, .str e.Kind, vl encS e.Names, vl encI e.Values, .str e.Text]] [] [] fm1, .done (zQ Tryz.prog 154 (fm1) (.str e.Kind) true) (.tuple [.agg [.i 0, .i 0, .nilfunc], .bool true])] (And.intro (qo AllST.nil (kw e_r1) (Still.fmap (AllST.cons (Still.str 10 _) (AllST.cons (Still.str 10 _) (AllST.cons (Still.str 10 _) (AllST.cons (Still.str 10 _) (AllST.cons (Still.str 10 _) (AllST.cons (Still.str 10 _) AllST.nil)))))) (AllST.cons (Still.agg (AllST.cons (Still.int 9 _ _) (AllST.cons (Still.int 9 _ _) (AllST.cons (Still.func AllST.nil AllST.nil) AllST.nil)))) (AllST.cons (Still.agg (AllST.cons (Still.int 9 _ _) (AllST.cons (Still.int 9 _ _) (AllST.cons (Still.func AllST.nil AllST.nil) AllST.nil)))) (AllST.cons (Still.agg (AllST.cons (Still.int 9 _ _) (AllST.cons (Still.int 9 _ _) (AllST.cons (Still.func AllST.nil AllST.nil) AllST.nil)))) (AllST.cons (Still.agg (AllST.cons (Still.int 9 _ _) (AllST.cons (Still.int 9 _ _) (AllST.cons (Still.func AllST.nil AllST.nil) AllST.nil)))) (AllST.cons (Still.agg (AllST.cons (Still.int 9 _ _) (AllST.cons (Still.int 9 _ _) (AllST.cons (Still.func AllST.nil AllST.nil) AllST.nil)))) (AllST.cons (Still.agg (AllST.cons (Still.int 9 _ _) (AllST.cons (Still.int 9 _ _) (AllST.cons (Still.nilfunc 9) AllST.nil)))) AllST.nil)))))))) (And.intro (qcj qaw [[109, 97, 107, 101], [116, 101, 115, 116], [117, 115, 101], [102, 97, 105, 108], [114, 101, 99, 97, 108, 108], [117, 110, 100, 111]] (qB c2 (qB c3 (qB c4 (qB c5 (qB c6 (jL c7)))))) rfl) trivial))) (Sub.norm [] [some 0, some 1] rfl rfl (.keep (.ptr rfl) (.keep (.ptr rfl) (.keep (.same (qc.bool _)) .nil))) (.keep rfl (.same (qf.cons (qc.int _ _) (qf.cons (qc.str _) (qf.cons (ql encS _) (qf.cons (ql encI _) (qf.cons (qc.str _) qf.nil)))))) rfl rfl (.keep rfl (.cells (qg.cons (.same (qc.int _ _)) (qg.cons (.same (qc.int _ _)) (qg.cons (.undef) qg.nil)))) rfl rfl .nil)))
              · rw [if_neg (by rw [c7]; exact Bool.false_ne_true)] at g_v11
                simp only [Option.some.injEq, Prod.mk.injEq] at g_v11
                obtain ⟨rfl, rfl, rfl⟩ := g_v11
                exact qp.sub (qp.ro fol [(0, (.call [] [] fm1)), (3, (.done (.tuple [.agg [.i 0, .i 0, .nilfunc], .bool false])))] [(1, .ptr 0 0), (3, .ptr 1 0), (4, .bool false)] [.cells [.i e.Number, .str e.Kind, vl encS e.Names, vl encI e.Values, .str e.Text], .cells [.i 0, .i 0, .nilfunc]] [.call 85 [] [.cells [.i e.Number, .str e.Kind, vl encS e.Names, vl encI e.Values, .str e.Text]] [] [] fm1, .done (zQ Tryz.prog 154 (fm1) (.str e.Kind) true) (.tuple [.agg [.i 0, .i 0, .nilfunc], .bool false])] (And.intro (qo AllST.nil (kw e_r1) (Still.fmap (AllST.cons (Still.str 10 _) (AllST.cons (Still.str 10 _) (AllST.cons (Still.str 10 _) (AllST.cons (Still.str 10 _) (AllST.cons (Still.str 10 _) (AllST.cons (Still.str 10 _) AllST.nil)))))) (AllST.cons (Still.agg (AllST.cons (Still.int 9 _ _) (AllST.cons (Still.int 9 _ _) (AllST.cons (Still.func AllST.nil AllST.nil) AllST.nil)))) (AllST.cons (Still.agg (AllST.cons (Still.int 9 _ _) (AllST.cons (Still.int 9 _ _) (AllST.cons (Still.func AllST.nil AllST.nil) AllST.nil)))) (AllST.cons (Still.agg (AllST.cons (Still.int 9 _ _) (AllST.cons (Still.int 9 _ _) (AllST.cons (Still.func AllST.nil AllST.nil) AllST.nil)))) (AllST.cons (Still.agg (AllST.cons (Still.int 9 _ _) (AllST.cons (Still.int 9 _ _) (AllST.cons (Still.func AllST.nil AllST.nil) AllST.nil)))) (AllST.cons (Still.agg (AllST.cons (Still.int 9 _ _) (AllST.cons (Still.int 9 _ _) (AllST.cons (Still.func AllST.nil AllST.nil) AllST.nil)))) (AllST.cons (Still.agg (AllST.cons (Still.int 9 _ _) (AllST.cons (Still.int 9 _ _) (AllST.cons (Still.nilfunc 9) AllST.nil)))) AllST.nil)))))))) (And.intro (qiw qaw [[109, 97, 107, 101], [116, 101, 115, 116], [117, 115, 101], [102, 97, 105, 108], [114, 101, 99, 97, 108, 108], [117, 110, 100, 111]] (qB c2 (qB c3 (qB c4 (qB c5 (qB c6 (qB c7 (rfl)))))))) trivial))) (Sub.norm [] [some 0, some 1] rfl rfl (.keep (.ptr rfl) (.keep (.ptr rfl) (.keep (.same (qc.bool _)) .nil))) (.keep rfl (.same (qf.cons (qc.int _ _) (qf.cons (qc.str _) (qf.cons (ql encS _) (qf.cons (ql encI _) (qf.cons (qc.str _) qf.nil)))))) rfl rfl (.keep rfl (.cells (qg.cons (.same (qc.int _ _)) (qg.cons (.same (qc.int _ _)) (qg.cons (.undef) qg.nil)))) rfl rfl .nil)))
  intro _ hsub
  try dsimp only at h
  refine Goes.sub hsub ?_
  refine sq ?_
  refine sq ?_
  obtain ⟨bad_19, g_v20, h⟩ := bnd h
  refine Goes.cutS (s' := (ofG 75 [(1, .ptr 0 0), (5, .i bad_19)], [.cells [.i e.Number, .str e.Kind, vl encS e.Names, vl encI e.Values, .str e.Text]])) ?_ ?_
  · obtain ⟨r12, e_r12, g_v20⟩ := bnd g_v20
    obtain ⟨r13, e_r13, g_v20⟩ := bnd g_v20
    rcases Bool.eq_false_or_eq_true (!decide ((e.Names.length : Int) = n8)) with c14 | c14
    · rw [if_pos (c14)] at g_v20
      obtain ⟨r15, e_r15, g_v20⟩ := bnd g_v20
      obtain ⟨r16, e_r16, g_v20⟩ := bnd g_v20
      obtain rfl := Option.some.inj g_v20
      exact qp.sub (qp.ro fol [(2, (.call [] [.i e.Number, .i 1, .i 1000] (.i r12))), (5, (.call [] [.bool (!is_10), .i 13] (.i r13))), (12, (.done (.bool true))), (20, (.call [] [.bool true, .i 2] (.i r15))), (22, (.call [2] [vl encI ([r12, r13, r15] : List Int)] (.i r16)))] [(1, .ptr 0 0), (5, .i r16)] [.cells [.i e.Number, .str e.Kind, vl encS e.Names, vl encI e.Values, .str e.Text], .cells [.i n8, .i n9, .undef], .cells [.i r12, .i r13, .i r15]] [.call 87 [.i e.Number, .i 1, .i 1000] [.cells [.i e.Number, .str e.Kind, vl encS e.Names, vl encI e.Values, .str e.Text], .cells [.i n8, .i n9, .undef]] [] [.i e.Number, .i 1, .i 1000] (.i r12), .call 88 [.bool (!is_10), .i 13] [.cells [.i e.Number, .str e.Kind, vl encS e.Names, vl encI e.Values, .str e.Text], .cells [.i n8, .i n9, .undef]] [] [.bool (!is_10), .i 13] (.i r13), .done (.done (.bool (!decide ((e.Names.length : Int) = n8)))) (.bool true), .call 88 [.bool true, .i 2] [.cells [.i e.Number, .str e.Kind, vl encS e.Names, vl encI e.Values, .str e.Text], .cells [.i n8, .i n9, .undef]] [] [.bool true, .i 2] (.i r15), .call 86 [.slice 2 0 3 3 1] [.cells [.i e.Number, .str e.Kind, vl encS e.Names, vl encI e.Values, .str e.Text], .cells [.i n8, .i n9, .undef], .cells [.i r12, .i r13, .i r15]] [2] [vl encI ([r12, r13, r15] : List Int)] (.i r16)] (And.intro (qo (AllST.cons (Still.int 11 _ _) (AllST.cons (Still.int 11 _ _) (AllST.cons (Still.int 11 _ _) AllST.nil))) (zM e.Number 1 1000 e_r12) (Still.int 11 _ _)) (And.intro (qo (AllST.cons (Still.bool 11 _) (AllST.cons (Still.int 11 _ _) AllST.nil)) (qI (!is_10) 13 e_r13) (Still.int 11 _ _)) (And.intro (congrArg (fun x => Pg.done (.bool x)) c14) (And.intro (qo (AllST.cons (Still.bool 11 _) (AllST.cons (Still.int 11 _ _) AllST.nil)) (qI true 2 e_r15) (Still.int 11 _ _)) (And.intro (yg (FzL.cons (Fz.lit rfl rfl (FzL.still (AllST.cons (Still.int 10 _ _) (AllST.cons (Still.int 10 _ _) (AllST.cons (Still.int 10 _ _) AllST.nil))))) FzL.nil) (zC N ([r12, r13, r15] : List Int) e_r16) (Still.int 11 _ _) rfl) trivial)))))) (Sub.norm [] [some 0] rfl rfl (.keep (.ptr rfl) (.keep (.same (qc.int _ _)) .nil)) (.keep rfl (.same (qf.cons (qc.int _ _) (qf.cons (qc.str _) (qf.cons (ql encS _) (qf.cons (ql encI _) (qf.cons (qc.str _) qf.nil)))))) rfl rfl .nil))
    · rw [if_neg (by rw [c14]; exact Bool.false_ne_true)] at g_v20
      obtain ⟨r17, e_r17, g_v20⟩ := bnd g_v20
      obtain ⟨r18, e_r18, g_v20⟩ := bnd g_v20
      obtain rfl := Option.some.inj g_v20
      exact qp.sub (qp.ro fol [(2, (.call [] [.i e.Number, .i 1, .i 1000] (.i r12))), (5, (.call [] [.bool (!is_10), .i 13] (.i r13))), (12, (.done (.bool false))), (20, (.call [] [.bool (!decide ((e.Values.length : Int) = n9)), .i 2] (.i r17))), (22, (.call [2] [vl encI ([r12, r13, r17] : List Int)] (.i r18)))] [(1, .ptr 0 0), (5, .i r18)] [.cells [.i e.Number, .str e.Kind, vl encS e.Names, vl encI e.Values, .str e.Text], .cells [.i n8, .i n9, .undef], .cells [.i r12, .i r13, .i r17]] [.call 87 [.i e.Number, .i 1, .i 1000] [.cells [.i e.Number, .str e.Kind, vl encS e.Names, vl encI e.Values, .str e.Text], .cells [.i n8, .i n9, .undef]] [] [.i e.Number, .i 1, .i 1000] (.i r12), .call 88 [.bool (!is_10), .i 13] [.cells [.i e.Number, .str e.Kind, vl encS e.Names, vl encI e.Values, .str e.Text], .cells [.i n8, .i n9, .undef]] [] [.bool (!is_10), .i 13] (.i r13), .done (.done (.bool (!decide ((e.Names.length : Int) = n8)))) (.bool false), .call 88 [.bool (!decide ((e.Values.length : Int) = n9)), .i 2] [.cells [.i e.Number, .str e.Kind, vl encS e.Names, vl encI e.Values, .str e.Text], .cells [.i n8, .i n9, .undef]] [] [.bool (!decide ((e.Values.length : Int) = n9)), .i 2] (.i r17), .call 86 [.slice 2 0 3 3 1] [.cells [.i e.Number, .str e.Kind, vl encS e.Names, vl encI e.Values, .str e.Text], .cells [.i n8, .i n9, .undef], .cells [.i r12, .i r13, .i r17]] [2] [vl encI ([r12, r13, r17] : List Int)] (.i r18)] (And.intro (qo (AllST.cons (Still.int 11 _ _) (AllST.cons (Still.int 11 _ _) (AllST.cons (Still.int 11 _ _) AllST.nil))) (zM e.Number 1 1000 e_r12) (Still.int 11 _ _)) (And.intro (qo (AllST.cons (Still.bool 11 _) (AllST.cons (Still.int 11 _ _) AllST.nil)) (qI (!is_10) 13 e_r13) (Still.int 11 _ _)) (And.intro (congrArg (fun x => Pg.done (.bool x)) c14) (And.intro (qo (AllST.cons (Still.bool 11 _) (AllST.cons (Still.int 11 _ _) AllST.nil)) (qI (!decide ((e.Values.length : Int) = n9)) 2 e_r17) (Still.int 11 _ _)) (And.intro (yg (FzL.cons (Fz.lit rfl rfl (FzL.still (AllST.cons (Still.int 10 _ _) (AllST.cons (Still.int 10 _ _) (AllST.cons (Still.int 10 _ _) AllST.nil))))) FzL.nil) (zC N ([r12, r13, r17] : List Int) e_r18) (Still.int 11 _ _) rfl) trivial)))))) (Sub.norm [] [some 0] rfl rfl (.keep (.ptr rfl) (.keep (.same (qc.int _ _)) .nil)) (.keep rfl (.same (qf.cons (qc.int _ _) (qf.cons (qc.str _) (qf.cons (ql encS _) (qf.cons (ql encI _) (qf.cons (qc.str _) qf.nil)))))) rfl rfl .nil))
  intro _ hsub
  refine Goes.sub hsub ?_
  refine sq ?_
  refine Goes.rg fol [(1, .ptr 0 0), (5, .i bad_19), (43, .bool (!decide (bad_19 = 0)))] [.cells [.i e.Number, .str e.Kind, vl encS e.Names, vl encI e.Values, .str e.Text]] ?_
  refine Goes.ifB (b := !decide (bad_19 = 0)) (by kernel_rfl) (fun c21 => ?_) (fun c21 => ?_)
  · rw [if_pos (c21)] at h
    refine sq ?_
    refine Goes.rg fol [(2, .i bad_19)] [.cells [.i e.Number, .str e.Kind, vl encS e.Names, vl encI e.Values, .str e.Text]] ?_
    refine Goes.ret ?_
    obtain rfl := Option.some.inj h
    exact (Goes.retW (xs := [.i bad_19]) (by kernel_rfl) (FzW.still (Still.int 11 _ _)))
  · rw [if_neg (by rw [c21]; exact Bool.false_ne_true)] at h
    refine Goes.skip ?_
    refine sq ?_
    refine sq ?_
    refine Goes.rg fol [(1, .ptr 0 0), (46, vl encS e.Names), (47, .i (e.Names.length : Int)), (48, .i 0)] [.cells [.i e.Number, .str e.Kind, vl encS e.Names, vl encI e.Values, .str e.Text]] ?_
    refine Goes.block ?_
    obtain ⟨r23, g23, h⟩ := bnd h
    refine Goes.imp (Q := fun x s' => (x = .exit 0 ∧ (.inl ()) = r23 ∧ Sub s' (ofG 75 [(1, .ptr 0 0)], [.cells [.i e.Number, .str e.Kind, vl encS e.Names, vl encI e.Values, .str e.Text]])) ∨ (x = .ret ∧ ∃ q24, (.inr q24) = r23 ∧ zG Tryz.prog [.tmp 2] (.i q24) .ret s')) ?_ ?_
    · refine Goes.loopS (fun M s => ∃ (n22 : Int), s = (ofG 75 [(1, .ptr 0 0), (46, vl encS e.Names), (47, .i (e.Names.length : Int)), (48, .i n22)], [.cells [.i e.Number, .str e.Kind, vl encS e.Names, vl encI e.Values, .str e.Text]]) ∧ kS N e M n22 = some r23) ?_ (m := N) ⟨_, rfl, g23⟩
      rintro M s ⟨n22, rfl, g23⟩
      cases M with
      | zero => simp only [kS] at g23; cases g23
      | succ M =>
        rw [kS] at g23
        refine sq ?_
        refine Goes.rg fol [(1, .ptr 0 0), (46, vl encS e.Names), (47, .i (e.Names.length : Int)), (48, .i n22), (49, .bool (decide (n22 < (e.Names.length : Int))))] [.cells [.i e.Number, .str e.Kind, vl encS e.Names, vl encI e.Values, .str e.Text]] ?_
        refine sq ?_
        refine Goes.ifB (b := decide (n22 < (e.Names.length : Int))) (by kernel_rfl) (fun c25 => ?_) (fun c25 => ?_)
        · rw [if_pos (ot c25)] at g23
          refine Goes.skip ?_
          refine sq ?_
          refine Goes.block ?_
          refine sq ?_
          obtain ⟨x26, e_x26, g23⟩ := bnd g23
          refine Goes.ro fol [(0, (.done (.fptr (e.Names.flatMap encS.c) ((n22 : Int).toNat * 1 + 0)))), (1, (.done (.str x26)))] [(1, .ptr 0 0), (7, .str x26), (46, vl encS e.Names), (47, .i (e.Names.length : Int)), (48, .i n22)] [.cells [.i e.Number, .str e.Kind, vl encS e.Names, vl encI e.Values, .str e.Text]] [.done (.opt (qj Tryz.prog 23 (vl encS e.Names) (.i n22))) (.fptr (e.Names.flatMap encS.c) ((n22 : Int).toNat * 1 + 0)), .done (qz Tryz.prog 9 (.fptr (e.Names.flatMap encS.c) ((n22 : Int).toNat * 1 + 0))) (.str x26)] (And.intro (qF xe (E := encS) rfl e_x26) (And.intro (qJ ce9 (E := encS) rfl e_x26 (Nat.le_of_ble_eq_true rfl) rfl) trivial)) ?_
          refine sq ?_
          obtain ⟨r27, e_r27, g23⟩ := bnd g23
          refine Goes.ro fol [(1, (.call [] [.str x26] (.i r27)))] [(1, .ptr 0 0), (8, .i r27), (46, vl encS e.Names), (47, .i (e.Names.length : Int)), (48, .i n22)] [.cells [.i e.Number, .str e.Kind, vl encS e.Names, vl encI e.Values, .str e.Text]] [.call 89 [.str x26] [.cells [.i e.Number, .str e.Kind, vl encS e.Names, vl encI e.Values, .str e.Text]] [] [.str x26] (.i r27)] (And.intro (qo (AllST.cons (Still.str 11 _) AllST.nil) (qaA N x26 e_r27) (Still.int 11 _ _)) trivial) ?_
          refine sq ?_
          refine Goes.rg fol [(1, .ptr 0 0), (8, .i r27), (46, vl encS e.Names), (47, .i (e.Names.length : Int)), (48, .i n22), (55, .bool (!decide (r27 = 0)))] [.cells [.i e.Number, .str e.Kind, vl encS e.Names, vl encI e.Values, .str e.Text]] ?_
          refine Goes.ifB (b := !decide (r27 = 0)) (by kernel_rfl) (fun c28 => ?_) (fun c28 => ?_)
          · rw [if_pos (c28)] at g23
            refine sq ?_
            refine Goes.rg fol [(2, .i r27)] [.cells [.i e.Number, .str e.Kind, vl encS e.Names, vl encI e.Values, .str e.Text]] ?_
            refine Goes.ret ?_
            obtain rfl := Option.some.inj g23
            exact Or.inr (⟨rfl, _, rfl, (Goes.retW (xs := [.i r27]) (by kernel_rfl) (FzW.still (Still.int 11 _ _)))⟩)
          · rw [if_neg (by rw [c28]; exact Bool.false_ne_true)] at g23
            refine Goes.skip ?_
            refine Goes.rg fol [(1, .ptr 0 0), (46, vl encS e.Names), (47, .i (e.Names.length : Int)), (48, .i (w64 (n22 + 1)))] [.cells [.i e.Number, .str e.Kind, vl encS e.Names, vl encI e.Values, .str e.Text]] ?_
            exact ⟨M, (ofG 75 [(1, .ptr 0 0), (46, vl encS e.Names), (47, .i (e.Names.length : Int)), (48, .i (w64 (n22 + 1)))], [.cells [.i e.Number, .str e.Kind, vl encS e.Names, vl encI e.Values, .str e.Text]]), Nat.lt_succ_self _, (Sub.refl _), _, rfl, g23⟩
        · rw [if_neg (of_ c25)] at g23
          refine Goes.exit ?_
          obtain rfl := Option.some.inj g23
          exact Or.inl (⟨rfl, rfl, (Sub.keep [1] rfl rfl)⟩)
    rintro x s' (⟨rfl, rfl, hsub⟩ | ⟨rfl, q38, rfl, hret⟩)
    · try dsimp only at h
      refine Goes.sub hsub ?_
      refine sq ?_
      refine sq ?_
      refine Goes.rg fol [(1, .ptr 0 0), (59, vl encI e.Values), (60, .i (e.Values.length : Int)), (61, .i 0)] [.cells [.i e.Number, .str e.Kind, vl encS e.Names, vl encI e.Values, .str e.Text]] ?_
      refine Goes.block ?_
      obtain ⟨r30, g30, h⟩ := bnd h
      refine Goes.imp (Q := fun x s' => (x = .exit 2 ∧ (.inl ()) = r30 ∧ Sub s' (ofG 75 [(1, .ptr 0 0)], [.cells [.i e.Number, .str e.Kind, vl encS e.Names, vl encI e.Values, .str e.Text]])) ∨ (x = .ret ∧ ∃ q31, (.inr q31) = r30 ∧ zG Tryz.prog [.tmp 2] (.i q31) .ret s')) ?_ ?_
      · refine Goes.loopS (fun M s => ∃ (n29 : Int), s = (ofG 75 [(1, .ptr 0 0), (59, vl encI e.Values), (60, .i (e.Values.length : Int)), (61, .i n29)], [.cells [.i e.Number, .str e.Kind, vl encS e.Names, vl encI e.Values, .str e.Text]]) ∧ kT e M n29 = some r30) ?_ (m := N) ⟨_, rfl, g30⟩
        rintro M s ⟨n29, rfl, g30⟩
        cases M with
        | zero => simp only [kT] at g30; cases g30
        | succ M =>
          rw [kT] at g30
          refine sq ?_
          refine Goes.rg fol [(1, .ptr 0 0), (59, vl encI e.Values), (60, .i (e.Values.length : Int)), (61, .i n29), (62, .bool (decide (n29 < (e.Values.length : Int))))] [.cells [.i e.Number, .str e.Kind, vl encS e.Names, vl encI e.Values, .str e.Text]] ?_
          refine sq ?_
          refine Goes.ifB (b := decide (n29 < (e.Values.length : Int))) (by kernel_rfl) (fun c32 => ?_) (fun c32 => ?_)
          · rw [if_pos (ot c32)] at g30
            refine Goes.skip ?_
            refine sq ?_
            refine Goes.block ?_
            refine sq ?_
            obtain ⟨x33, e_x33, g30⟩ := bnd g30
            refine Goes.ro fol [(0, (.done (.fptr (e.Values.flatMap encI.c) ((n29 : Int).toNat * 1 + 0)))), (1, (.done (.i x33)))] [(1, .ptr 0 0), (10, .i x33), (59, vl encI e.Values), (60, .i (e.Values.length : Int)), (61, .i n29)] [.cells [.i e.Number, .str e.Kind, vl encS e.Names, vl encI e.Values, .str e.Text]] [.done (.opt (qj Tryz.prog 24 (vl encI e.Values) (.i n29))) (.fptr (e.Values.flatMap encI.c) ((n29 : Int).toNat * 1 + 0)), .done (qz Tryz.prog 3 (.fptr (e.Values.flatMap encI.c) ((n29 : Int).toNat * 1 + 0))) (.i x33)] (And.intro (qF vN (E := encI) rfl e_x33) (And.intro (qJ ce3 (E := encI) rfl e_x33 (Nat.le_of_ble_eq_true rfl) rfl) trivial)) ?_
            refine sq ?_
            obtain ⟨r34, e_r34, g30⟩ := bnd g30
            refine Goes.ro fol [(1, (.call [] [.i x33, .i 0, .i 999999999] (.i r34)))] [(1, .ptr 0 0), (11, .i r34), (59, vl encI e.Values), (60, .i (e.Values.length : Int)), (61, .i n29)] [.cells [.i e.Number, .str e.Kind, vl encS e.Names, vl encI e.Values, .str e.Text]] [.call 87 [.i x33, .i 0, .i 999999999] [.cells [.i e.Number, .str e.Kind, vl encS e.Names, vl encI e.Values, .str e.Text]] [] [.i x33, .i 0, .i 999999999] (.i r34)] (And.intro (qo (AllST.cons (Still.int 11 _ _) (AllST.cons (Still.int 11 _ _) (AllST.cons (Still.int 11 _ _) AllST.nil))) (zM x33 0 999999999 e_r34) (Still.int 11 _ _)) trivial) ?_
            refine sq ?_
            refine Goes.rg fol [(1, .ptr 0 0), (11, .i r34), (59, vl encI e.Values), (60, .i (e.Values.length : Int)), (61, .i n29), (68, .bool (!decide (r34 = 0)))] [.cells [.i e.Number, .str e.Kind, vl encS e.Names, vl encI e.Values, .str e.Text]] ?_
            refine Goes.ifB (b := !decide (r34 = 0)) (by kernel_rfl) (fun c35 => ?_) (fun c35 => ?_)
            · rw [if_pos (c35)] at g30
              refine sq ?_
              refine Goes.rg fol [(2, .i r34)] [.cells [.i e.Number, .str e.Kind, vl encS e.Names, vl encI e.Values, .str e.Text]] ?_
              refine Goes.ret ?_
              obtain rfl := Option.some.inj g30
              exact Or.inr (⟨rfl, _, rfl, (Goes.retW (xs := [.i r34]) (by kernel_rfl) (FzW.still (Still.int 11 _ _)))⟩)
            · rw [if_neg (by rw [c35]; exact Bool.false_ne_true)] at g30
              refine Goes.skip ?_
              refine Goes.rg fol [(1, .ptr 0 0), (59, vl encI e.Values), (60, .i (e.Values.length : Int)), (61, .i (w64 (n29 + 1)))] [.cells [.i e.Number, .str e.Kind, vl encS e.Names, vl encI e.Values, .str e.Text]] ?_
              exact ⟨M, (ofG 75 [(1, .ptr 0 0), (59, vl encI e.Values), (60, .i (e.Values.length : Int)), (61, .i (w64 (n29 + 1)))], [.cells [.i e.Number, .str e.Kind, vl encS e.Names, vl encI e.Values, .str e.Text]]), Nat.lt_succ_self _, (Sub.refl _), _, rfl, g30⟩
          · rw [if_neg (of_ c32)] at g30
            refine Goes.exit ?_
            obtain rfl := Option.some.inj g30
            exact Or.inl (⟨rfl, rfl, (Sub.keep [1] rfl rfl)⟩)
      rintro x s' (⟨rfl, rfl, hsub⟩ | ⟨rfl, q37, rfl, hret⟩)
      · try dsimp only at h
        refine Goes.sub hsub ?_
        refine sq ?_
        obtain ⟨r36, e_r36, h⟩ := bnd h
        refine Goes.ro fol [(3, (.call [] [.bool (!(e.Text == [])), .i 1] (.i r36)))] [(2, .i r36)] [.cells [.i e.Number, .str e.Kind, vl encS e.Names, vl encI e.Values, .str e.Text]] [.call 88 [.bool (!(e.Text == [])), .i 1] [.cells [.i e.Number, .str e.Kind, vl encS e.Names, vl encI e.Values, .str e.Text]] [] [.bool (!(e.Text == [])), .i 1] (.i r36)] (And.intro (qo (AllST.cons (Still.bool 11 _) (AllST.cons (Still.int 11 _ _) AllST.nil)) (qI (!(e.Text == [])) 1 e_r36) (Still.int 11 _ _)) trivial) ?_
        refine Goes.ret ?_
        obtain rfl := Option.some.inj h
        exact (Goes.retW (xs := [.i r36]) (by kernel_rfl) (FzW.still (Still.int 11 _ _)))
      · try dsimp only at h
        obtain rfl := Option.some.inj h
        exact hret
    · try dsimp only at h
      obtain rfl := Option.some.inj h
      exact hret
def jy  : Option (List Str) :=
  qek (some []) ((app 16 ([] : List Str) ([] : List Str)).bind fun l1 =>
  some l1)
theorem xQ  {res : List Str} (h : jy  = some res) : qw Tryz.prog (.fn 165) [vl encS ([] : List Str)] [] (vl encS res) [] := by
  unfold jy at h
  refine Goes.fnW Tryz.func165 rfl rfl (m := 8) rfl (rs := [.tmp 2]) rfl (l := [(0, vl encS ([] : List Str))]) rfl ?_
  refine sq ?_
  refine Goes.rg fol [(0, vl encS ([] : List Str))] [] ?_
  refine sq ?_
  refine sq ?_
  refine Goes.rg fol [(0, vl encS ([] : List Str)), (4, .anyb)] [] ?_
  refine Goes.condAny (by kernel_rfl) ?_ ?_
  · replace h := (qaq h).1
    refine sq ?_
    refine Goes.rg fol [(2, .nilslice)] [] ?_
    refine Goes.ret ?_
    obtain rfl := Option.some.inj h
    exact (Goes.retW (xs := [.nilslice]) (by kernel_rfl) (FzW.nilv (E := encS)))
  · replace h := (qaq h).2
    refine Goes.skip ?_
    refine sq ?_
    obtain ⟨l1, e_l1, h⟩ := bnd h
    refine Goes.ro fol [(2, (.run (.oslice 1 l1.length 1) [.dead, .cells (l1.flatMap encS.c)] true))] [(2, .oslice 1 l1.length 1)] [.dead, .cells (l1.flatMap encS.c)] [.run [0] (kV Tryz.prog [23, 23] (.slice 0 0 0 0 1) (vl encS ([] : List Str))) [.cells []] (.oslice 1 l1.length 1) [.dead, .cells (l1.flatMap encS.c)] true] (And.intro (jI xe (E := encS) rfl (qcb (E := encS) rfl _) (qdf (E := encS) rfl rfl rfl e_l1 rfl)) trivial) ?_
    refine Goes.ret ?_
    obtain rfl := Option.some.inj h
    exact (Goes.retW (xs := [.oslice 1 l1.length 1]) (by kernel_rfl) (FzW.fz (Fz.os (E := encS) rfl rfl (Nat.le_of_ble_eq_true rfl))))
def jw (x : Str) (xs : List Str) : Option (List Str) :=
  (app 16 ([] : List Str) (x :: xs)).bind fun l1 =>
  some l1
theorem xR (x : Str) (xs : List Str) {res : List Str} (h : jw x xs = some res) : qw Tryz.prog (.fn 165) [vl encS (x :: xs)] [] (vl encS res) [] := by
  unfold jw at h
  refine Goes.fnW Tryz.func165 rfl rfl (m := 8) rfl (rs := [.tmp 2]) rfl (l := [(0, vl encS (x :: xs))]) rfl ?_
  refine sq ?_
  refine Goes.rg fol [(0, vl encS (x :: xs))] [] ?_
  refine sq ?_
  refine sq ?_
  refine Goes.rg fol [(0, vl encS (x :: xs)), (4, .bool false)] [] ?_
  refine Goes.ifB (b := false) (by kernel_rfl) (fun c => (by cases c)) (fun _ => ?_)
  refine Goes.skip ?_
  refine sq ?_
  obtain ⟨l1, e_l1, h⟩ := bnd h
  refine Goes.ro fol [(2, (.run (.oslice 1 l1.length 1) [.dead, .cells (l1.flatMap encS.c)] true))] [(2, .oslice 1 l1.length 1)] [.dead, .cells (l1.flatMap encS.c)] [.run [0] (kV Tryz.prog [23, 23] (.slice 0 0 0 0 1) (vl encS (x :: xs))) [.cells []] (.oslice 1 l1.length 1) [.dead, .cells (l1.flatMap encS.c)] true] (And.intro (jI xe (E := encS) rfl (qcb (E := encS) rfl _) (qdf (E := encS) rfl rfl rfl e_l1 rfl)) trivial) ?_
  refine Goes.ret ?_
  obtain rfl := Option.some.inj h
  exact (Goes.retW (xs := [.oslice 1 l1.length 1]) (by kernel_rfl) (FzW.fz (Fz.os (E := encS) rfl rfl (Nat.le_of_ble_eq_true rfl))))
def slices_Clone_string : List Str → Option (List Str)
  | [] => jy
  | x :: xs => jw x xs
theorem qag (l : List Str) {res : List Str} (h : slices_Clone_string l = some res) : qw Tryz.prog (.fn 165) [vl encS l] [] (vl encS res) [] := by
  cases l with
  | nil => exact xQ h
  | cons x xs => exact xR x xs h
def j4  : Option (List Int) :=
  qek (some []) ((app 8 ([] : List Int) ([] : List Int)).bind fun l1 =>
  some l1)
theorem qaG  {res : List Int} (h : j4  = some res) : qw Tryz.prog (.fn 166) [vl encI ([] : List Int)] [] (vl encI res) [] := by
  unfold j4 at h
  refine Goes.fnW Tryz.func166 rfl rfl (m := 8) rfl (rs := [.tmp 2]) rfl (l := [(0, vl encI ([] : List Int))]) rfl ?_
  refine sq ?_
  refine Goes.rg fol [(0, vl encI ([] : List Int))] [] ?_
  refine sq ?_
  refine sq ?_
  refine Goes.rg fol [(0, vl encI ([] : List Int)), (4, .anyb)] [] ?_
  refine Goes.condAny (by kernel_rfl) ?_ ?_
  · replace h := (qaq h).1
    refine sq ?_
    refine Goes.rg fol [(2, .nilslice)] [] ?_
    refine Goes.ret ?_
    obtain rfl := Option.some.inj h
    exact (Goes.retW (xs := [.nilslice]) (by kernel_rfl) (FzW.nilv (E := encI)))
  · replace h := (qaq h).2
    refine Goes.skip ?_
    refine sq ?_
    obtain ⟨l1, e_l1, h⟩ := bnd h
    refine Goes.ro fol [(2, (.run (.oslice 1 l1.length 1) [.dead, .cells (l1.flatMap encI.c)] true))] [(2, .oslice 1 l1.length 1)] [.dead, .cells (l1.flatMap encI.c)] [.run [0] (kV Tryz.prog [24, 24] (.slice 0 0 0 0 1) (vl encI ([] : List Int))) [.cells []] (.oslice 1 l1.length 1) [.dead, .cells (l1.flatMap encI.c)] true] (And.intro (jI vN (E := encI) rfl (qcb (E := encI) rfl _) (qdf (E := encI) rfl rfl rfl e_l1 rfl)) trivial) ?_
    refine Goes.ret ?_
    obtain rfl := Option.some.inj h
    exact (Goes.retW (xs := [.oslice 1 l1.length 1]) (by kernel_rfl) (FzW.fz (Fz.os (E := encI) rfl rfl (Nat.le_of_ble_eq_true rfl))))
def j5 (x : Int) (xs : List Int) : Option (List Int) :=
  (app 8 ([] : List Int) (x :: xs)).bind fun l1 =>
  some l1
theorem qaE (x : Int) (xs : List Int) {res : List Int} (h : j5 x xs = some res) : qw Tryz.prog (.fn 166) [vl encI (x :: xs)] [] (vl encI res) [] := by
  unfold j5 at h
  refine Goes.fnW Tryz.func166 rfl rfl (m := 8) rfl (rs := [.tmp 2]) rfl (l := [(0, vl encI (x :: xs))]) rfl ?_
  refine sq ?_
  refine Goes.rg fol [(0, vl encI (x :: xs))] [] ?_
  refine sq ?_
  refine sq ?_
  refine Goes.rg fol [(0, vl encI (x :: xs)), (4, .bool false)] [] ?_
  refine Goes.ifB (b := false) (by kernel_rfl) (fun c => (by cases c)) (fun _ => ?_)
  refine Goes.skip ?_
  refine sq ?_
  obtain ⟨l1, e_l1, h⟩ := bnd h
  refine Goes.ro fol [(2, (.run (.oslice 1 l1.length 1) [.dead, .cells (l1.flatMap encI.c)] true))] [(2, .oslice 1 l1.length 1)] [.dead, .cells (l1.flatMap encI.c)] [.run [0] (kV Tryz.prog [24, 24] (.slice 0 0 0 0 1) (vl encI (x :: xs))) [.cells []] (.oslice 1 l1.length 1) [.dead, .cells (l1.flatMap encI.c)] true] (And.intro (jI vN (E := encI) rfl (qcb (E := encI) rfl _) (qdf (E := encI) rfl rfl rfl e_l1 rfl)) trivial) ?_
  refine Goes.ret ?_
  obtain rfl := Option.some.inj h
  exact (Goes.retW (xs := [.oslice 1 l1.length 1]) (by kernel_rfl) (FzW.fz (Fz.os (E := encI) rfl rfl (Nat.le_of_ble_eq_true rfl))))
def slices_Clone_int : List Int → Option (List Int)
  | [] => j4
  | x :: xs => j5 x xs
theorem qbf (l : List Int) {res : List Int} (h : slices_Clone_int l = some res) : qw Tryz.prog (.fn 166) [vl encI l] [] (vl encI res) [] := by
  cases l with
  | nil => exact qaG h
  | cons x xs => exact qaE x xs h
def zm (e : qm) : Option qm :=
  (slices_Clone_string e.Names).bind fun r1 =>
  (slices_Clone_int e.Values).bind fun r2 =>
  some (⟨e.Number, e.Kind, r1, r2, e.Text⟩ : qm)
theorem yz (e : qm) {res : qm} (h : zm e = some res) : qw Tryz.prog (.fn 115) [.agg [.i e.Number, .str e.Kind, vl encS e.Names, vl encI e.Values, .str e.Text]] [] (.agg [.i res.Number, .str res.Kind, vl encS res.Names, vl encI res.Values, .str res.Text]) [] := by
  unfold zm at h
  refine Goes.fnW Tryz.func115 rfl rfl (m := 12) rfl (rs := [.cell 2 26]) rfl (l := [(0, .agg [.i e.Number, .str e.Kind, vl encS e.Names, vl encI e.Values, .str e.Text])]) rfl ?_
  refine sq ?_
  refine Goes.rg fol [(1, .ptr 0 0), (2, .ptr 1 0)] [.cells [.i e.Number, .str e.Kind, vl encS e.Names, vl encI e.Values, .str e.Text], .cells [.i 0, .str [], .nilslice, .nilslice, .str []]] ?_
  refine sq ?_
  obtain ⟨r1, e_r1, h⟩ := bnd h
  obtain ⟨r2, e_r2, h⟩ := bnd h
  refine Goes.ro fol [(2, (.call [] [vl encS e.Names] (vl encS r1))), (5, (.call [] [vl encI e.Values] (vl encI r2)))] [(1, .ptr 0 0), (2, .ptr 1 0)] [.cells [.i e.Number, .str e.Kind, vl encS r1, vl encI r2, .str e.Text], .cells [.i 0, .str [], .nilslice, .nilslice, .str []]] [.call 165 [vl encS e.Names] [.cells [.i e.Number, .str e.Kind, vl encS e.Names, vl encI e.Values, .str e.Text], .cells [.i 0, .str [], .nilslice, .nilslice, .str []]] [] [vl encS e.Names] (vl encS r1), .call 166 [vl encI e.Values] [.cells [.i e.Number, .str e.Kind, vl encS e.Names, vl encI e.Values, .str e.Text], .cells [.i 0, .str [], .nilslice, .nilslice, .str []]] [] [vl encI e.Values] (vl encI r2)] (And.intro (qo (AllST.cons (qx encS _ (Nat.le_of_ble_eq_true rfl)) AllST.nil) (qag e.Names e_r1) (qx encS _ (Nat.le_of_ble_eq_true rfl))) (And.intro (qo (AllST.cons (qx encI _ (Nat.le_of_ble_eq_true rfl)) AllST.nil) (qbf e.Values e_r2) (qx encI _ (Nat.le_of_ble_eq_true rfl))) trivial)) ?_
  refine sq ?_
  refine Goes.rg fol [(2, .ptr 1 0)] [.cells [.i e.Number, .str e.Kind, vl encS r1, vl encI r2, .str e.Text], .cells [.i e.Number, .str e.Kind, vl encS r1, vl encI r2, .str e.Text]] ?_
  refine Goes.ret ?_
  obtain rfl := Option.some.inj h
  exact (Goes.retW (xs := [.agg [.i e.Number, .str e.Kind, vl encS r1, vl encI r2, .str e.Text]]) (by kernel_rfl) (FzW.agg (qN.cons (FzW.still (Still.int 10 _ _)) (qN.cons (FzW.still (Still.str 10 _)) (qN.cons (FzW.still (qx encS _ (Nat.le_of_ble_eq_true rfl))) (qN.cons (FzW.still (qx encI _ (Nat.le_of_ble_eq_true rfl))) (qN.cons (FzW.still (Still.str 10 _)) qN.nil)))))))
end Go.Av
