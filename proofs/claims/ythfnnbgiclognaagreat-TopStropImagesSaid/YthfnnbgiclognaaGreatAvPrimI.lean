/-
  What functions of Go's library do that the evaluator does not run, told by value: nothing here.
-/
import Derived.Test.YthfnnbgiclognaaGreatAvFk
import Derived.Test.YthfnnbgiclognaaGreatAvWb
import Derived.Test.YthfnnbgiclognaaGreatAvLayI
import Derived.Test.YthfnnbgiclognaaGreatChecked
import Derived.KernelRfl
noncomputable section
namespace Go.Av
open Go.Proofs Go.RowKit Go.Shelf
set_option linter.unusedSectionVars false
set_option maxRecDepth 100000
instance tabGlob:Glob where
 G _ _:=True
 gl _:= .undef
 mono:=fun _ _ _=>trivial
 val _ _:= .undef _
def qh2:qW:=fun _ _ _=>none
theorem qgy:qC Tryz.prog qh2:=by
 intro c args A v A' h
 cases h
end Go.Av
