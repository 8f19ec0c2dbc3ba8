/-
  What the walks of this seat import.
-/
import Derived.Test.YtmblkadpanineaaGreatDoorAvTxtN1
import Derived.Test.YtmblkadpanineaaGreatDoorAvWa
import Derived.Test.YtmblkadpanineaaGreatDoorAvIh
noncomputable section
