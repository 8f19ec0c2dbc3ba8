/-
  What the walks of this seat import.
-/
import Derived.Test.YtjecjkbpopmhjaaGreatDoorAvTxtV
import Derived.Test.YtjecjkbpopmhjaaGreatDoorAvWa
noncomputable section
