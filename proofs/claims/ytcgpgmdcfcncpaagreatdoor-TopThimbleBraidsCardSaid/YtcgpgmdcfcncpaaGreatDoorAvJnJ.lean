/-
  What the walks of this seat import.
-/
import Derived.Test.YtcgpgmdcfcncpaaGreatDoorAvTxtJ
import Derived.Test.YtcgpgmdcfcncpaaGreatDoorAvWa
import Derived.Test.YtcgpgmdcfcncpaaGreatDoorAvRp
noncomputable section
