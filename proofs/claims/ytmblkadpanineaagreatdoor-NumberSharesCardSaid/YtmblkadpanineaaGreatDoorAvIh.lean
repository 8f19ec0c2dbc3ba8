/-
  slices.Insert of an integer, told with its blocks and typed lists.
-/
import Derived.Test.YtmblkadpanineaaGreatDoorAvWb
import Derived.Test.YtmblkadpanineaaGreatDoorAvWa
noncomputable section
namespace Go.Av
open Go.RowKit
set_option linter.unusedSectionVars false
variable [Glob]
def ins0 (i x:Int):Option (List Int):=if i=0 then some [x]else none
def qeE (ns:List Int) (i x:Int):Option (List Int):=if 0<=i/\i.toNat<=ns.length/\ns.length<=100000 then some (ns.take i.toNat++[x]++ns.drop i.toNat)else none
theorem qcY (ns:List Int):jf ns=ns.flatMap encI.c:=by
 induction ns with
 |nil=>rfl
 |cons n ns ih=>rw[List.flatMap_cons,<-ih];rfl
theorem qcI (ns:List Int):qaM (ns.flatMap encI.c)=some ns:=by
 induction ns with
 |nil=>rfl
 |cons n ns ih=>
  rw[List.flatMap_cons]
  show(qaM (ns.flatMap encI.c)).map (n:: ·)=_
  rw[ih];rfl
theorem qfy {P:Program} {f:FuncId} (H: ∀{args:List AV} {A A2:Heap} {v:AV},qcV args A=some (v,A2)->qb P (.fn f) args A v A2) (i x:Int) {l:List Int} (h:ins0 i x=some l):
 qb P (.fn f) [.nilslice,.i i,.slice 0 0 1 1 1] [.cells [.i x]] (.oslice 1 l.length 1) [.cells [.i x],.cells (l.flatMap encI.c)]:=by
 unfold ins0 at h
 split at h
 ·rename_i hi
  obtain rfl:=hi
  obtain rfl:=Ye h
  exact H rfl
 cases h
theorem qfl {P:Program} {f:FuncId} (H: ∀{args:List AV} {A A2:Heap} {v:AV},qcV args A=some (v,A2)->qb P (.fn f) args A v A2) (ns:List Int) (i x:Int) {l:List Int} (h:qeE ns i x=some l):
 qb P (.fn f) [.oslice 0 ns.length 1,.i i,.slice 1 0 1 1 1] [.cells (ns.flatMap encI.c),.cells [.i x]] (.oslice 2 l.length 1) [.dead,.cells [.i x],.cells (l.flatMap encI.c)]:=by
 unfold qeE at h
 split at h
 ·rename_i hi
  obtain rfl:=Ye h
  refine H ?_
  have hl:(ns.take i.toNat++[x]++ns.drop i.toNat).length=ns.length+1:=by
   simp only[Yq,Ym,List.length_drop,Yr,List.length_nil]
   omega
  rw[hl,<-qcY (ns.take i.toNat++[x]++ns.drop i.toNat)]
  have e: ∀y:AV,y= .i x->qcV [.oslice 0 ns.length 1,.i i,.slice 1 0 1 1 1] [.cells (ns.flatMap encI.c),.cells [y]]=some (.oslice 2 (ns.length+1) 1,[.dead,.cells [.i x],.cells (jf (ns.take i.toNat++[x]++ns.drop i.toNat))]):=by
   rintro y rfl
   simp only[qcV,List.getElem?_cons_zero,List.getElem?_cons_succ,qcI]
   rw[if_pos ⟨trivial,hi.1,hi.2.1,hi.2.2,by decide⟩]
   rfl
  exact e _ rfl
 cases h
end Go.Av
