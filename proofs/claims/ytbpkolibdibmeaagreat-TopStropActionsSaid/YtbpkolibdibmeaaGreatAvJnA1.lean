/-
  What the walks of this seat import.
-/
import Derived.Test.YtbpkolibdibmeaaGreatAvPrimA1
import Derived.Test.YtbpkolibdibmeaaGreatAvWa
import Derived.Test.YtbpkolibdibmeaaGreatAvPt
import Derived.Test.YtbpkolibdibmeaaGreatAvRp
noncomputable section
