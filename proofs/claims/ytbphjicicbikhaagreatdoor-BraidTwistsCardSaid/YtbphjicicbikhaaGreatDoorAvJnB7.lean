/-
  What the walks of this seat import.
-/
import Derived.Test.YtbphjicicbikhaaGreatDoorAvTxtB7
import Derived.Test.YtbphjicicbikhaaGreatDoorAvWa
import Derived.Test.YtbphjicicbikhaaGreatDoorAvRp
noncomputable section
