/-
  What functions of Go's library do that the evaluator does not run, told by value: nothing here.
-/
import Derived.Test.YtbpkolibdibmeaaGreatAvFk
import Derived.Test.YtbpkolibdibmeaaGreatAvWb
import Derived.Test.YtbpkolibdibmeaaGreatAvLayA1
import Derived.Test.YtbpkolibdibmeaaGreatChecked
import Derived.KernelRfl
noncomputable section
namespace Go.Av
open Go.Proofs Go.RowKit Go.Shelf
set_option linter.unusedSectionVars false
set_option maxRecDepth 100000
instance tabGlob:Glob where
 G _ _:=True
 gl _:= .undef
 mono:=fun _ _ _=>trivial
 val _ _:= .undef _
def quQ:jh:=fun _ _ _=>none
theorem qrG:zI Tryz.prog quQ:=by
 intro c args A v A' h;cases h
end Go.Av
