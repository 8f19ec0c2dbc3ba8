/-
  What the walks of this seat import.
-/
import Derived.Test.YtppehbboaidbgaaGreatDoorAvTxtP
import Derived.Test.YtppehbboaidbgaaGreatDoorAvWa
noncomputable section
