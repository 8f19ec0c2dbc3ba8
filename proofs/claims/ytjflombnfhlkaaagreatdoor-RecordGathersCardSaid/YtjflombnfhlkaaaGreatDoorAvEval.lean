/-
  The evaluator's parts: loops, results.
-/
import Derived.Test.YtjflombnfhlkaaaGreatDoorAvCall
noncomputable section
namespace Go.Av
inductive XA where
 |normal
 |exit (id:Nat)
 |ret
abbrev St:=Fr×Heap
def qea:Nat→(St→Option (XA×St))→St→Option (XA×St)
 |0,_,_=>none
 |n+1,f,s=>match f s with
  |some (.normal,s')=>qea n f s'
  |r=>r
def jB (P:Program) (fr:Fr) (A:Heap):List ResultVar→Option (List AV)
 |[]=>some []
 | .tmp t::rs=>(jB P fr A rs).map (fr.get t:: ·)
 | .cell a t::rs=>match exec (vz P t (fr.get a)) A [],jB P fr A rs with
   |some (v,_,_),some vs=>some (v::vs)
   |_,_=>none
def qex:List AV→AV
 |[v]=>v
 |vs=> .tuple vs
end Go.Av
