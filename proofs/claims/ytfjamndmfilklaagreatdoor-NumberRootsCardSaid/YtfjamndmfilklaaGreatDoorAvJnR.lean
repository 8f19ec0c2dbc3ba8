/-
  What the walks of this seat import.
-/
import Derived.Test.YtfjamndmfilklaaGreatDoorAvTxtR
import Derived.Test.YtfjamndmfilklaaGreatDoorAvWa
noncomputable section
