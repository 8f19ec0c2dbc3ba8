/-
  What the walks of this seat import.
-/
import Derived.Test.YtillneeejbbcfaaGreatDoorAvTxtB6
import Derived.Test.YtillneeejbbcfaaGreatDoorAvWa
import Derived.Test.YtillneeejbbcfaaGreatDoorAvRp
noncomputable section
