/-
  The methods that are called through an interface.
-/
import Derived.Test.YtbpkolibdibmeaaGreatAvPrimA1
noncomputable section
namespace Go.Av
open Go.Proofs
set_option linter.unusedSectionVars false
set_option maxRecDepth 100000
def mtT (t:TypeId) (m:String):Option FuncId:=
 if t=93 then(if m= "Mul" then some 87 else if m= "Sub" then some 115 else if m= "Inv" then some 116 else none)else none
theorem mt_ok: ∀t m f,mtT t m=some f->Enters Tryz.prog f/\MtOK Tryz.prog t m f:=by
 intro t m f h;unfold mtT at h;split at h
 ·rename_i e;subst e;split at h
  ·rename_i e;subst e;injection h with h;subst h;exact⟨enters_of (by kernel_rfl),fun x vs w=>by kernel_rfl⟩
  split at h
  ·rename_i e;subst e;injection h with h;subst h;exact⟨enters_of (by kernel_rfl),fun x vs w=>by kernel_rfl⟩
  split at h
  ·rename_i e;subst e;injection h with h;subst h;exact⟨enters_of (by kernel_rfl),fun x vs w=>by kernel_rfl⟩
  cases h
 cases h
end Go.Av
