/-
  strings.Join, told by typed lists.
-/
import Derived.Test.YtjflombnfhlkaaaGreatDoorAvTxt
import Derived.Test.YtjflombnfhlkaaaGreatDoorAvSq
import Derived.Test.YtjflombnfhlkaaaGreatDoorAvRg
noncomputable section
namespace Go.Av
open Go.Proofs Go.RowKit
set_option linter.unusedSectionVars false
def qgf (xs:List Str) (sep:Str):Option Str:=if xs.length≤1000000∧(Lib.join xs sep).length≤140737488355328 then some (Lib.join xs sep)else none
theorem qkj (xs:List Str):strsOf (xs.flatMap encS.c)=some xs:=by
 induction xs with
 |nil=>rfl
 |cons x xs ih=>
  rw[List.flatMap_cons]
  show ob (some x) (fun s=>ob (strsOf (xs.flatMap encS.c)) fun ss=>some (s::ss))=_
  rw[ih];rfl
theorem qkb (xs:List Str) (sep:Str) {res:Str} (h:qgf xs sep=some res):qg Tryz.prog (.fn 116) [vl encS xs,.str sep] [] (.str res) []:=by
 unfold qgf at h
 split at h
 ·rename_i hc
  obtain rfl:=Option.some.inj h
  refine qln (n:=xs.length) (cs:=xs.flatMap encS.c) ?_
  unfold qnf
  rw[qkj]
  show zW (Nat.beq xs.length xs.length&&Nat.ble xs.length 1000000&&Nat.ble (qf9 sep xs).length 140737488355328) (some (AV.str (qf9 sep xs))) none=_
  rw[qU,qj2,if_pos]
  rw[Nat.ble_eq_true_of_le hc.1,Nat.ble_eq_true_of_le hc.2,qcy rfl]
  rfl
 ·cases h
end Go.Av
