/-
  The methods that are called through an interface.
-/
import Derived.Test.YthgioiakbbhonaaGreatDoorAvPrimE2
noncomputable section
namespace Go.Av
open Go.Proofs
set_option linter.unusedSectionVars false
set_option maxRecDepth 100000
def mtT (t:TypeId) (m:String):Option FuncId:=
 if t=76 then(if m= "Sign" then some 42 else if m= "Mul" then some 52 else if m= "Sub" then some 77 else if m= "Inv" then some 78 else none)else none
theorem qh1: ∀t m f,mtT t m=some f->Enters Tryz.prog f/\qqv Tryz.prog t m f:=by
 intro t m f h;unfold mtT at h;split at h
 ·rename_i e;subst e;split at h
  ·rename_i e;subst e;injection h with h;subst h;exact⟨enters_of (by kernel_rfl),λx vs w=>by kernel_rfl⟩
  split at h
  ·rename_i e;subst e;injection h with h;subst h;exact⟨enters_of (by kernel_rfl),λx vs w=>by kernel_rfl⟩
  split at h
  ·rename_i e;subst e;injection h with h;subst h;exact⟨enters_of (by kernel_rfl),λx vs w=>by kernel_rfl⟩
  split at h
  ·rename_i e;subst e;injection h with h;subst h;exact⟨enters_of (by kernel_rfl),λx vs w=>by kernel_rfl⟩
  cases h
 cases h
end Go.Av
