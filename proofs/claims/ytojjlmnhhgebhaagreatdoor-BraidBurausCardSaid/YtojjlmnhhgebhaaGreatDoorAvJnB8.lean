/-
  What the walks of this seat import.
-/
import Derived.Test.YtojjlmnhhgebhaaGreatDoorAvTxtB8
import Derived.Test.YtojjlmnhhgebhaaGreatDoorAvWa
import Derived.Test.YtojjlmnhhgebhaaGreatDoorAvRp
noncomputable section
