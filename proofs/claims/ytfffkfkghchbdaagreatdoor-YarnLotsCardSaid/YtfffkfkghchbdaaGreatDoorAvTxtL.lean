/-
  Functions of Go's library on texts and words, told by plain functions.
-/
import Derived.Test.YtfffkfkghchbdaaGreatDoorAvPrimL
import Derived.Test.YtfffkfkghchbdaaGreatDoorAvWb
import Derived.Test.YtfffkfkghchbdaaGreatDoorAvWa
import Derived.Test.YtfffkfkghchbdaaGreatDoorAvPt
import Derived.Lib.AppendIntMem
noncomputable section
namespace Go.Av
open Go.Proofs Go.RowKit Go.Shelf Go.Sort
set_option linter.unusedSectionVars false
set_option linter.unusedVariables false
set_option maxRecDepth 100000
set_option maxHeartbeats 6400000 in
def qeY (a b:Str):Option Int:=some (Lib.compareBytes a b)
theorem qdQ (a b:Str) {res:Int} (h:qeY a b=some res):qd Tryz.prog (.fn 117) [.str a,.str b] [] (.i res) []:=by
 obtain rfl:=Ye h
 exact qcN a b
end Go.Av
