/-
  What functions of Go's library do that the evaluator does not run, told by value: nothing here.
-/
import Derived.Test.YtjilgbgaeeielaaGreatAvFk
import Derived.Test.YtjilgbgaeeielaaGreatAvWb
import Derived.Test.YtjilgbgaeeielaaGreatAvLayW2
import Derived.Test.YtjilgbgaeeielaaGreatChecked
import Derived.KernelRfl
noncomputable section
namespace Go.Av
open Go.Proofs Go.RowKit Go.Shelf
set_option linter.unusedSectionVars false
set_option maxRecDepth 100000
instance tabGlob:Glob where
 G _ _:=True
 gl _:= .undef
 mono:=fun _ _ _=>trivial
 val _ _:= .undef _
def qnj:zm:=fun _ _ _=>none
theorem qlJ:qL Tryz.prog qnj:=by
 intro c args A v A' h
 cases h
end Go.Av
