/-
  strings.Join, told by typed lists.
-/
import Derived.Test.YtjflombnfhlkaaaGreatDoorAvTxt
import Derived.Test.YtjflombnfhlkaaaGreatDoorAvSq
import Derived.Test.YtjflombnfhlkaaaGreatDoorAvRg
noncomputable section
namespace Go.Av
open Go.Proofs Go.RowKit
set_option linter.unusedSectionVars false
def tJoin (xs:List Str) (sep:Str):Option Str:=if xs.length≤1000000∧(Lib.join xs sep).length≤140737488355328 then some (Lib.join xs sep)else none
end Go.Av
