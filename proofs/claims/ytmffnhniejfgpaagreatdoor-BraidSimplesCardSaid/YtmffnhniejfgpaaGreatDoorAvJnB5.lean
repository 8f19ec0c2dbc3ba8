/-
  What the walks of this seat import.
-/
import Derived.Test.YtmffnhniejfgpaaGreatDoorAvTxtB5
import Derived.Test.YtmffnhniejfgpaaGreatDoorAvWa
import Derived.Test.YtmffnhniejfgpaaGreatDoorAvRp
noncomputable section
