/-
  What the walks of this seat import.
-/
import Derived.Test.YthgioiakbbhonaaGreatDoorAvTxtE2
import Derived.Test.YthgioiakbbhonaaGreatDoorAvWa
import Derived.Test.YthgioiakbbhonaaGreatDoorAvWb
import Derived.Test.YthgioiakbbhonaaGreatDoorAvBh
import Derived.Test.YthgioiakbbhonaaGreatDoorAvMtE2
noncomputable section
