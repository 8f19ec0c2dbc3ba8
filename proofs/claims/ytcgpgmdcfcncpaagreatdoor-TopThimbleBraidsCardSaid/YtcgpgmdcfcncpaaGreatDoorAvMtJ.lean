/-
  The methods that are called through an interface.
-/
import Derived.Test.YtcgpgmdcfcncpaaGreatDoorAvPrimJ
noncomputable section
namespace Go.Av
open Go.Proofs
set_option linter.unusedSectionVars false
set_option maxRecDepth 100000
def mtT (_:TypeId) (_:String):Option FuncId:=none
theorem mt_ok: ∀t m f,mtT t m=some f->Enters Tryz.prog f/\MtOK Tryz.prog t m f:=by
 intro t m f h
 cases h
end Go.Av
