/-
  What the walks of this seat import.
-/
import Derived.Test.YtmjcpcnaaolliaaGreatDoorAvTxtM
import Derived.Test.YtmjcpcnaaolliaaGreatDoorAvWa
noncomputable section
