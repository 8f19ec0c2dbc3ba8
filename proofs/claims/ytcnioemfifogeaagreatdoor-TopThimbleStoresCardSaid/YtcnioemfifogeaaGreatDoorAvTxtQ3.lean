/-
  Functions of Go's library on texts and words, told by plain functions.
-/
import Derived.Test.YtcnioemfifogeaaGreatDoorAvPrimQ3
import Derived.Test.YtcnioemfifogeaaGreatDoorAvWb
import Derived.Test.YtcnioemfifogeaaGreatDoorAvWa
import Derived.Test.YtcnioemfifogeaaGreatDoorAvPt
import Derived.Lib.AppendIntMem
noncomputable section
namespace Go.Av
open Go.Proofs Go.RowKit Go.Shelf Go.Sort
set_option linter.unusedSectionVars false
set_option linter.unusedVariables false
set_option maxRecDepth 100000
set_option maxHeartbeats 6400000 in
def tCmp (a b:Str):Option Int:=some (Lib.compareBytes a b)
theorem qCn (a b:Str) {res:Int} (h:tCmp a b=some res):zu Tryz.prog (.fn 129) [.str a,.str b] [] (.i res) []:=by
 obtain rfl:=Ye h
 exact qBf a b
end Go.Av
