/-
  strings.Join, told by typed lists.
-/
import Derived.Test.YtphbhegcojmijaaGreatDoorAvTxtC
import Derived.Test.YtphbhegcojmijaaGreatDoorAvSq
import Derived.Test.YtphbhegcojmijaaGreatDoorAvRg
noncomputable section
namespace Go.Av
open Go.Proofs Go.RowKit
set_option linter.unusedSectionVars false
def qk9 (xs:List Str) (sep:Str):Option Str:=if xs.length≤1000000∧(Lib.join xs sep).length≤140737488355328 then some (Lib.join xs sep)else none
theorem qjn (xs:List Str):strsOf (xs.flatMap encS.c)=some xs:=by
 induction xs with
 |nil=>rfl
 |cons x xs ih=>
  rw[List.flatMap_cons]
  show ob (some x) (fun s=>ob (strsOf (xs.flatMap encS.c)) fun ss=>some (s::ss))=_
  rw[ih];rfl
theorem qmO (xs:List Str) (sep:Str) {res:Str} (h:qk9 xs sep=some res):qf Tryz.prog (.fn 167) [vl encS xs,.str sep] [] (.str res) []:=by
 unfold qk9 at h
 split at h
 ·rename_i hc
  obtain rfl:=Option.some.inj h
  refine qlg (n:=xs.length) (cs:=xs.flatMap encS.c) ?_
  unfold qnv
  rw[qjn]
  show zL (Nat.beq xs.length xs.length&&Nat.ble xs.length 1000000&&Nat.ble (qfs sep xs).length 140737488355328) (some (AV.str (qfs sep xs))) none=_
  rw[qN,qjx,if_pos]
  rw[Nat.ble_eq_true_of_le hc.1,Nat.ble_eq_true_of_le hc.2,qbJ rfl]
  rfl
 ·cases h
end Go.Av
