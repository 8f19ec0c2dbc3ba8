/-
  What the walks of this seat import.
-/
import Derived.Test.YtlhmomppjidoiaaGreatDoorAvTxtY
import Derived.Test.YtlhmomppjidoiaaGreatDoorAvWa
noncomputable section
