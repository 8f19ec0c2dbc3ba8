/-
  What the walks of this seat import.
-/
import Derived.Test.YtcnioemfifogeaaGreatDoorAvTxtQ3
import Derived.Test.YtcnioemfifogeaaGreatDoorAvWa
import Derived.Test.YtcnioemfifogeaaGreatDoorAvYt
noncomputable section
