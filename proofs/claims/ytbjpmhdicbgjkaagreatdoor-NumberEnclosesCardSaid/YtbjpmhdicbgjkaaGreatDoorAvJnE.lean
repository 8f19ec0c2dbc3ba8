/-
  What the walks of this seat import.
-/
import Derived.Test.YtbjpmhdicbgjkaaGreatDoorAvTxtE
import Derived.Test.YtbjpmhdicbgjkaaGreatDoorAvWa
noncomputable section
