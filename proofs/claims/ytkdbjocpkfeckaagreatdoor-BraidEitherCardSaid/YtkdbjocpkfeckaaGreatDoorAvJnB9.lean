/-
  What the walks of this seat import.
-/
import Derived.Test.YtkdbjocpkfeckaaGreatDoorAvTxtB9
import Derived.Test.YtkdbjocpkfeckaaGreatDoorAvWa
import Derived.Test.YtkdbjocpkfeckaaGreatDoorAvRp
noncomputable section
