/-
  slices.Insert of an integer, told with its blocks and typed lists.
-/
import Derived.Test.YtcioalhpchindaaGreatDoorAvIns
import Derived.Test.YtcioalhpchindaaGreatDoorAvDv
noncomputable section
namespace Go.Av
open Go.RowKit
set_option linter.unusedSectionVars false
variable [Glob]
def qd4 (i x:Int):Option (List Int):=if i=0 then some [x]else none
def qdV (ns:List Int) (i x:Int):Option (List Int):=if 0≤i∧i.toNat≤ns.length∧ns.length≤100000 then some (ns.take i.toNat++[x]++ns.drop i.toNat)else none
theorem qb4 (ns:List Int):zq ns=ns.flatMap encI.c:=by
 induction ns with
 |nil=>rfl
 |cons n ns ih=>rw[List.flatMap_cons,←ih];rfl
theorem qbW (ns:List Int):xE (ns.flatMap encI.c)=some ns:=by
 induction ns with
 |nil=>rfl
 |cons n ns ih=>
  rw[List.flatMap_cons]
  show(xE (ns.flatMap encI.c)).map (n:: ·)=_
  rw[ih];rfl
theorem qeh {P:Program} {f:FuncId} (H: ∀{args:List AV} {A A2:Heap} {v:AV},qbD args A=some (v,A2)→qg P (.fn f) args A v A2) (i x:Int) {l:List Int} (h:qd4 i x=some l):
 qg P (.fn f) [.nilslice,.i i,.slice 0 0 1 1 1] [.cells [.i x]] (.oslice 1 l.length 1) [.cells [.i x],.cells (l.flatMap encI.c)]:=by
 unfold qd4 at h
 split at h
 ·rename_i hi
  obtain rfl:=hi
  obtain rfl:=Option.some.inj h
  exact H rfl
 ·cases h
theorem qeN {P:Program} {f:FuncId} (H: ∀{args:List AV} {A A2:Heap} {v:AV},qbD args A=some (v,A2)→qg P (.fn f) args A v A2) (ns:List Int) (i x:Int) {l:List Int} (h:qdV ns i x=some l):
 qg P (.fn f) [.oslice 0 ns.length 1,.i i,.slice 1 0 1 1 1] [.cells (ns.flatMap encI.c),.cells [.i x]] (.oslice 2 l.length 1) [.dead,.cells [.i x],.cells (l.flatMap encI.c)]:=by
 unfold qdV at h
 split at h
 ·rename_i hi
  obtain rfl:=Option.some.inj h
  refine H ?_
  have hl:(ns.take i.toNat++[x]++ns.drop i.toNat).length=ns.length+1:=by
   simp only[List.length_append,List.length_take,List.length_drop,List.length_cons,List.length_nil]
   omega
  rw[hl,←qb4 (ns.take i.toNat++[x]++ns.drop i.toNat)]
  have e: ∀y:AV,y= .i x→qbD [.oslice 0 ns.length 1,.i i,.slice 1 0 1 1 1] [.cells (ns.flatMap encI.c),.cells [y]]=some (.oslice 2 (ns.length+1) 1,[.dead,.cells [.i x],.cells (zq (ns.take i.toNat++[x]++ns.drop i.toNat))]):=by
   rintro y rfl
   simp only[qbD,List.getElem?_cons_zero,List.getElem?_cons_succ,qbW]
   rw[if_pos ⟨trivial,hi.1,hi.2.1,hi.2.2,by decide⟩]
   rfl
  exact e _ rfl
 ·cases h
end Go.Av
