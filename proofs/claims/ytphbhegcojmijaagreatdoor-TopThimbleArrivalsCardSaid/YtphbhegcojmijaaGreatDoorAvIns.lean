/-
  slices.Insert at rows of integers: the program's own row, whatever its spare room; told on the abstract heap.
-/
import Derived.Test.YtphbhegcojmijaaGreatDoorAvCon
import Derived.Shelf.Spec.SlicesInsertGrow
noncomputable section
namespace Go.Av
open Go.Proofs Go.RowKit Go.Shelf
set_option linter.unusedSectionVars false
variable [Glob]
structure qpd (w w':World) (rb:Nat) (e:TypeId) (c1:Array Value):Prop where
 at_:w'.heap[rb]? =some (.cells c1 e (0,0))
 oth: ∀r,r≠rb→w'.heap[r]? =w.heap[r]?
 size:w'.heap.size=w.heap.size
 os:w'.os=w.os
 tape:w'.tape=w.tape
 output:w'.output=w.output
def qxI (ns:List Int):List AV:=ns.map (AV.int .i64)
def vals64 (ns:List Int):List Value:=ns.map (Value.int .i64)
def quA:List AV→Option (List Int)
 |[]=>some []
 | .int .i64 n::r=>(quA r).map (n:: ·)
 |_::_=>none
def insA (args:List AV) (A:Heap):Option (AV×Heap):=
 match args with
 |[.nilslice,.int .i64 0,.slice vb 0 1 _ 1]=>
  match A[vb]? with
  |some (.cells [.int .i64 x])=>some (.oslice A.length 1 1,A++[.cells [.int .i64 x]])
  |_=>none
 |[.oslice b n 1,.int .i64 i,.slice vb 0 1 _ 1]=>
  match A[b]?,A[vb]? with
  |some (.cells cs),some (.cells [.int .i64 x])=>
   match quA cs with
   |some ns=>if ns.length=n∧0≤i∧i.toNat≤n∧n≤100000∧b≠vb then some (.oslice A.length (n+1) 1,A.set b .dead++[.cells (qxI (ns.take i.toNat++[x]++ns.drop i.toNat))])else none
   |none=>none
  |_,_=>none
 |_=>none
theorem cell_of_row {w:World} {rb:Nat} {c0:Array Value} {e:TypeId} (h:w.heap[rb]? =some (.cells c0 e (0,0))) (j:Nat):w.cell? ⟨rb,j,none⟩=c0[j]? :=by
 simp only[World.cell?,h,Option.isSome_none,Bool.false_eq_true,if_false]
theorem frozen_of_row {w:World} {rb:Nat} {c0:Array Value} {e:TypeId} (h:w.heap[rb]? =some (.cells c0 e (0,0))) (j:Nat):w.frozen? ⟨rb,j,none⟩=false:=by
 simp[World.frozen?,h]
theorem qmq {w:World} {rb:Nat} {c0:Array Value} {e:TypeId} (h:w.heap[rb]? =some (.cells c0 e (0,0))):w.shape? rb=some (e,c0.size):=by
 simp only[World.shape?,h]
theorem qpd.trans {w w' w'':World} {rb:Nat} {e e':TypeId} {c1 c2:Array Value} (h:qpd w w' rb e c1) (k:qpd w' w'' rb e' c2):qpd w w'' rb e' c2:=
 ⟨k.at_,fun r hr=>(k.oth r hr).trans (h.oth r hr),k.size.trans h.size,k.os.trans h.os,k.tape.trans h.tape,k.output.trans h.output⟩
theorem qpd.drew {w w':World} {rb:Nat} {e:TypeId} {c1:Array Value} (h:qpd w w' rb e c1):qpd w w'.drew rb e c1:=⟨h.at_,h.oth,h.size,h.os,h.tape,h.output⟩
section
variable {F:Nat→Prop} {nu:Nat→Option Nat} {A:Heap} {w:World}
end
end Go.Av
