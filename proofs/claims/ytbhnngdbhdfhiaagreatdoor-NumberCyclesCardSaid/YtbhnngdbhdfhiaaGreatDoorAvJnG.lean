/-
  What the walks of this seat import.
-/
import Derived.Test.YtbhnngdbhdfhiaaGreatDoorAvTxtG
import Derived.Test.YtbhnngdbhdfhiaaGreatDoorAvWa
noncomputable section
