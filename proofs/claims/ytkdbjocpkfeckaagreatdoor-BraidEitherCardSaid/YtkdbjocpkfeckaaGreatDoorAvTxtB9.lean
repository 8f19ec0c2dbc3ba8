/-
  Functions of Go's library on texts and words, told by plain functions.
-/
import Derived.Test.YtkdbjocpkfeckaaGreatDoorAvPrimB9
import Derived.Test.YtkdbjocpkfeckaaGreatDoorAvWb
import Derived.Test.YtkdbjocpkfeckaaGreatDoorAvWa
import Derived.Test.YtkdbjocpkfeckaaGreatDoorAvPt
import Derived.Lib.AppendIntMem
noncomputable section
namespace Go.Av
open Go.Proofs Go.RowKit Go.Shelf Go.Sort
set_option linter.unusedSectionVars false
set_option linter.unusedVariables false
set_option maxRecDepth 100000
end Go.Av
