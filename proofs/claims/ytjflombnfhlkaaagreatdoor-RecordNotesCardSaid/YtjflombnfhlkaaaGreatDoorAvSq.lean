/-
  A state in another guise at the end of a piece of code.
-/
import Derived.Test.YtjflombnfhlkaaaGreatDoorAvMp
noncomputable section
namespace Go.Av
set_option linter.unusedSectionVars false
variable [Glob]
theorem qgZ {a b:Nat} {u:Unit} (h:(if a=b then some ()else none:Option Unit)=some u):a=b:=by
 split at h
 ·assumption
 ·cases h
end Go.Av
