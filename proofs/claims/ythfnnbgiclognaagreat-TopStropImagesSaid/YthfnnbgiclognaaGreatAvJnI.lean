/-
  What the walks of this seat import.
-/
import Derived.Test.YthfnnbgiclognaaGreatAvPrimI
import Derived.Test.YthfnnbgiclognaaGreatAvWa
import Derived.Test.YthfnnbgiclognaaGreatAvPt
import Derived.Test.YthfnnbgiclognaaGreatAvRp
noncomputable section
