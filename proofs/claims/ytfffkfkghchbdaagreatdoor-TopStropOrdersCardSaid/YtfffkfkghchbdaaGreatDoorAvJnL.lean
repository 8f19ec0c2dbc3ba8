/-
  What the walks of this seat import.
-/
import Derived.Test.YtfffkfkghchbdaaGreatDoorAvTxtL
import Derived.Test.YtfffkfkghchbdaaGreatDoorAvWa
noncomputable section
