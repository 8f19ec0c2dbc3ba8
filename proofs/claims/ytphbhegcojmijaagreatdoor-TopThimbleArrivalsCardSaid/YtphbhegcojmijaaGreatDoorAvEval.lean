/-
  The evaluator's parts: loops, results.
-/
import Derived.Test.YtphbhegcojmijaaGreatDoorAvCall
noncomputable section
namespace Go.Av
inductive XA where
 |normal
 |exit (id:Nat)
 |ret
abbrev St:=Fr×Heap
def qkE:Nat→(St→Option (XA×St))→St→Option (XA×St)
 |0,_,_=>none
 |n+1,f,s=>match f s with
  |some (.normal,s')=>qkE n f s'
  |r=>r
def qax (P:Program) (fr:Fr) (A:Heap):List ResultVar→Option (List AV)
 |[]=>some []
 | .tmp t::rs=>(qax P fr A rs).map (fr.get t:: ·)
 | .cell a t::rs=>match exec (qbo P t (fr.get a)) A [],qax P fr A rs with
   |some (v,_,_),some vs=>some (v::vs)
   |_,_=>none
def qk2:List AV→AV
 |[v]=>v
 |vs=> .tuple vs
end Go.Av
