/-
  What the walks of this seat import.
-/
import Derived.Test.YtjilgbgaeeielaaGreatAvPrimW2
import Derived.Test.YtjilgbgaeeielaaGreatAvWa
import Derived.Test.YtjilgbgaeeielaaGreatAvPt
import Derived.Test.YtjilgbgaeeielaaGreatAvRp
noncomputable section
