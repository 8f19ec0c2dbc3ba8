/-
  slices.Insert at rows of integers: the program's own row, whatever its spare room; told on the abstract heap.
-/
import Derived.Test.YtjflombnfhlkaaaGreatDoorAvCon
import Derived.Shelf.Spec.SlicesInsertGrow
import Derived.Shelf.GgSortFunc.RowK
import Derived.Test.YtjflombnfhlkaaaGreatDoorAvCmp
import Derived.Test.YtjflombnfhlkaaaGreatDoorAvPl
import Derived.Shelf.SlSortCmp.NoneTotal
import Derived.Shelf.SlLaysF0
import Derived.Test.YtjflombnfhlkaaaGreatDoorProg
noncomputable section
namespace Go.Av
open Go.Proofs Go.RowKit Go.Shelf
set_option linter.unusedSectionVars false
variable [Glob]
structure qgA (w w':World) (rb:Nat) (e:TypeId) (c1:Array Value):Prop where
 at_:w'.heap[rb]? =some (.cells c1 e (0,0))
 oth: ∀r,r≠rb→w'.heap[r]? =w.heap[r]?
 size:w'.heap.size=w.heap.size
 os:w'.os=w.os
 tape:w'.tape=w.tape
 output:w'.output=w.output
def qpy (ns:List Int):List AV:=ns.map (AV.int .i64)
def vals64 (ns:List Int):List Value:=ns.map (Value.int .i64)
def qmk:List AV→Option (List Int)
 |[]=>some []
 | .int .i64 n::r=>(qmk r).map (n:: ·)
 |_::_=>none
def insA (args:List AV) (A:Heap):Option (AV×Heap):=
 match args with
 |[.nilslice,.int .i64 0,.slice vb 0 1 _ 1]=>
  match A[vb]? with
  |some (.cells [.int .i64 x])=>some (.oslice A.length 1 1,A++[.cells [.int .i64 x]])
  |_=>none
 |[.oslice b n 1,.int .i64 i,.slice vb 0 1 _ 1]=>
  match A[b]?,A[vb]? with
  |some (.cells cs),some (.cells [.int .i64 x])=>
   match qmk cs with
   |some ns=>if ns.length=n∧0≤i∧i.toNat≤n∧n≤100000∧b≠vb then some (.oslice A.length (n+1) 1,A.set b .dead++[.cells (qpy (ns.take i.toNat++[x]++ns.drop i.toNat))])else none
   |none=>none
  |_,_=>none
 |_=>none
theorem cell_of_row {w:World} {rb:Nat} {c0:Array Value} {e:TypeId} (h:w.heap[rb]? =some (.cells c0 e (0,0))) (j:Nat):w.cell? ⟨rb,j,none⟩=c0[j]? :=by
 simp only[World.cell?,h,Option.isSome_none,Bool.false_eq_true,if_false]
theorem frozen_of_row {w:World} {rb:Nat} {c0:Array Value} {e:TypeId} (h:w.heap[rb]? =some (.cells c0 e (0,0))) (j:Nat):w.frozen? ⟨rb,j,none⟩=false:=by
 simp[World.frozen?,h]
theorem qeJ {w:World} {rb:Nat} {c0:Array Value} {e:TypeId} (h:w.heap[rb]? =some (.cells c0 e (0,0))):w.shape? rb=some (e,c0.size):=by
 simp only[World.shape?,h]
theorem qgA.trans {w w' w'':World} {rb:Nat} {e e':TypeId} {c1 c2:Array Value} (h:qgA w w' rb e c1) (k:qgA w' w'' rb e' c2):qgA w w'' rb e' c2:=
 ⟨k.at_,fun r hr=>(k.oth r hr).trans (h.oth r hr),k.size.trans h.size,k.os.trans h.os,k.tape.trans h.tape,k.output.trans h.output⟩
theorem qgA.drew {w w':World} {rb:Nat} {e:TypeId} {c1:Array Value} (h:qgA w w' rb e c1):qgA w w'.drew rb e c1:=⟨h.at_,h.oth,h.size,h.os,h.tape,h.output⟩
section
variable {F:Nat→Prop} {nu:Nat→Option Nat} {A:Heap} {w:World}
end
end Go.Av
end
noncomputable section
namespace Go.Av
open Go.Proofs Go.RowKit Go.Shelf Go.Sort
set_option linter.unusedSectionVars false
set_option linter.unusedVariables false
set_option linter.unusedSimpArgs false
variable [Glob]
abbrev Q4:=List UInt8×Int×Int×List UInt8
def c4 (q:Q4):List AV:=[.str q.1,.int .i64 q.2.1,.int .i64 q.2.2.1,.str q.2.2.2]
def e4 (q:Q4):List Value:=[.string ⟨q.1.toArray⟩,.int .i64 q.2.1,.int .i64 q.2.2.1,.string ⟨q.2.2.2.toArray⟩]
theorem qo9 (q:Q4):(e4 q).length=4:=rfl
theorem qiC (ns:List Q4):(ns.flatMap c4).length=ns.length*4:=by
 induction ns with
 |nil=>rfl
 |cons n ns ih=>rw[List.flatMap_cons,List.length_append,ih,List.length_cons];show 4+ns.length*4=_;omega
theorem one4: ∀(q:Q4),∀v∈e4 q,v.oneCell'=true:=by
 intro q v hv
 simp only[e4,List.mem_cons,List.not_mem_nil,or_false]at hv
 rcases hv with rfl|rfl|rfl|rfl<;>rfl
theorem at4: ∀(ns:List Q4) (t:Nat) (a:AV),(ns.flatMap c4)[t]? =some a→ ∃u,(ns.flatMap e4)[t]? =some u∧(∀(F:Nat→Prop) nu w v,R F nu w a v→v=u)∧ ∀(F:Nat→Prop) nu w,R F nu w a u
 |[],t,a,h=>by simp at h
 |n::ns,t,a,h=>by
  rw[List.flatMap_cons]at h⊢
  match t with
  |0=>
   simp only[c4,List.cons_append,List.getElem?_cons_zero,Option.some.injEq]at h
   subst h
   refine⟨_,rfl,fun F nu w v hv=>?_,fun F nu w=> .str _ _ rfl⟩
   obtain⟨b,rfl,e⟩:=hv.str_inv
   rw[←e]
  |1=>
   simp only[c4,List.cons_append,List.getElem?_cons_succ,List.getElem?_cons_zero,Option.some.injEq]at h
   subst h
   exact⟨_,rfl,fun F nu w v hv=>hv.int_inv,fun F nu w=> .int _ _⟩
  |2=>
   simp only[c4,List.cons_append,List.getElem?_cons_succ,List.getElem?_cons_zero,Option.some.injEq]at h
   subst h
   exact⟨_,rfl,fun F nu w v hv=>hv.int_inv,fun F nu w=> .int _ _⟩
  |3=>
   simp only[c4,List.cons_append,List.getElem?_cons_succ,List.getElem?_cons_zero,Option.some.injEq]at h
   subst h
   refine⟨_,rfl,fun F nu w v hv=>?_,fun F nu w=> .str _ _ rfl⟩
   obtain⟨b,rfl,e⟩:=hv.str_inv
   rw[←e]
  |t+4=>
   have h:(ns.flatMap c4)[t]? =some a:=h
   exact at4 ns t a h
theorem qoL: ∀(ns:List Q4) (t:Nat),t<ns.length*4→(ns.flatMap e4)[t]? =some ((e4 ns.toArray[t/4]!)[t%4]!)
 |[],t,h=>by simp at h
 |n::ns,t,h=>by
  rw[List.flatMap_cons]
  match t with
  |0=>rfl
  |1=>rfl
  |2=>rfl
  |3=>rfl
  |t+4=>
   have ih:=qoL ns t (by simp at h;omega)
   have e1:(t+4)/4=t/4+1:=by omega
   have e2:(t+4)%4=t%4:=by omega
   have e3:(n::ns).toArray[t/4+1]! =ns.toArray[t/4]! :=by simp
   rw[e1,e2,e3]
   exact ih
theorem qnv (ns:List Q4) (t:Nat) (h:t<ns.length*4):(flatK e4 4 ns.toArray)[t]! =((ns.flatMap e4)[t]?).getD default:=by
 rw[get_flatK _ _ _ _ (by simpa using h),qoL ns t h]
 rfl
theorem qk5 {F:Nat→Prop} {nu:Nat→Option Nat} {A:Heap} {w:World} (i:Inv F nu A w) {b rb:Nat} {ns:List Q4} (hb:nu b=some rb) (hA:A[b]? =some (.cells (ns.flatMap c4))):
 ∃c0 e,w.heap[rb]? =some (.cells c0 e (0,0))∧ns.length*4≤c0.size∧HoldsK e4 4 w rb 0 ns.toArray:=by
 obtain⟨_,c0,e,hh,hl,hR⟩:=i.blk b rb _ hb hA
 have hl:ns.length*4≤c0.size:=by rw[qiC]at hl;exact hl
 refine⟨c0,e,hh,hl,fun j hj=>?_⟩
 have hj:j<ns.length*4:=by simpa using hj
 rw[Nat.zero_add,cell_of_row hh,frozen_of_row hh]
 refine⟨?_,rfl⟩
 have hjc:j<(ns.flatMap c4).length:=by rw[qiC];exact hj
 have h1:(ns.flatMap c4)[j]? =some (ns.flatMap c4)[j]:=List.getElem?_eq_getElem hjc
 have h2:c0[j]? =some c0[j]:=Array.getElem?_eq_getElem (by omega)
 obtain⟨u,g1,g2,_⟩:=at4 ns j _ h1
 rw[h2,g2 _ _ _ _ (hR j _ _ h1 h2),qnv ns j hj,g1]
 rfl
theorem qir {F:Nat→Prop} {nu:Nat→Option Nat} {A:Heap} {w:World} (i:Inv F nu A w) {b rb m:Nat} {ns ms:List Q4} {os:Array Obj} (hb:nu b=some rb) (hA:A[b]? =some (.cells (ns.flatMap c4))) (hlen:ms.length=ns.length):
 Stp F nu A w F nu (A.set b (.cells (ms.flatMap c4))) (grow (putRowK e4 4 (Sort.ahead w m) rb 0 ms.toArray) os):=by
 obtain⟨c0,e,hh,hl,hH⟩:=qk5 i hb hA
 have hat:(putRowK e4 4 (Sort.ahead w m) rb 0 ms.toArray).heap[rb]? =some (.cells (putCells id 0 (flatK e4 4 ms.toArray) c0) e (0,0)):=by
  show(w.heap.modify rb _)[rb]? =_
  rw[Array.getElem?_modify,if_pos rfl,hh]
  rfl
 have hoth: ∀r,r≠rb→(putRowK e4 4 (Sort.ahead w m) rb 0 ms.toArray).heap[r]? =w.heap[r]? :=by
  intro r hr
  show(w.heap.modify rb _)[r]? =_
  rw[Array.getElem?_modify,if_neg (fun e=>hr e.symm)]
 have hsz:(putRowK e4 4 (Sort.ahead w m) rb 0 ms.toArray).heap.size=w.heap.size:=by
  show(w.heap.modify rb _).size=_
  simp
 have hcs:(putCells id 0 (flatK e4 4 ms.toArray) c0).size=c0.size:=by simp[putCells]
 have hsh: ∀s,w.shape? rb=some s→(putRowK e4 4 (Sort.ahead w m) rb 0 ms.toArray).shape? rb=some s:=by
  intro s h
  rw[←h,qeJ hh,qeJ hat,hcs]
 have s1:=Stp.write i (k:= .cells (ms.flatMap c4)) hb hA rfl rfl hoth hsz hsh rfl rfl rfl (fun hnF=>⟨hnF,_,e,hat,by rw[qiC,hcs,hlen];exact hl,fun j a v ha hv=>by
  have hj:j<ms.length*4:=by
   have:=(List.getElem?_eq_some_iff.1 ha).1
   rw[qiC]at this;exact this
  obtain⟨u,g1,_,g3⟩:=at4 ms j a ha
  have:v=u:=by
   unfold putCells at hv
   rw[Array.getElem?_mapIdx]at hv
   have hc:c0[j]? =some c0[j]:=Array.getElem?_eq_getElem (by omega)
   rw[hc,Option.map_some,if_pos ⟨Nat.zero_le _,by simpa using hj⟩,Nat.sub_zero,qnv ms j hj,g1]at hv
   exact(Option.some.inj hv).symm
  rw[this]
  exact g3 _ _ _⟩)
 refine s1.trans (Stp.kept s1.inv (fun r hr=>?_) ?_ rfl rfl rfl)
 ·show((putRowK e4 4 (Sort.ahead w m) rb 0 ms.toArray).heap++os)[r]? =_
  rw[Array.getElem?_append_left hr]
 ·show _≤((putRowK e4 4 (Sort.ahead w m) rb 0 ms.toArray).heap++os).size
  simp
end Go.Av
end
section
namespace Go.Proofs
open Go.Shelf
def Tryz.sortNote_ren:Go.Shelf.Ren:=⟨fun|6=>135|15=>180|14=>179|28=>213|29=>214|20=>200|21=>206|22=>207|23=>208|24=>209|25=>210|26=>211|27=>212|46=>240|47=>241|48=>242|49=>243|50=>244|57=>264|n=>n,fun|22=>96|24=>132|25=>210|3=>3|39=>241|0=>0|53=>263|55=>274|4=>4|46=>267|45=>266|50=>168|5=>5|9=>9|66=>298|70=>302|76=>319|77=>320|n=>n,fun|n=>n⟩
theorem Tryz.sortNote:Go.Proofs.SlLaysF0.n6 Tryz.prog Tryz.sortNote_ren:={
 mixed:=by kernel_rfl,
 f6:=⟨"slices.SortFunc[[]becket/record.Note,becket/record.Note]",by decide,Tryz.func135.trans (congrArg some (by kernel_rfl))⟩,
 f14:=⟨"slices.pdqsortCmpFunc[becket/record.Note]",by decide,Tryz.func179.trans (congrArg some (by kernel_rfl))⟩,
 f15:=Tryz.func180.trans (congrArg some (by kernel_rfl)),
 f20:=⟨"slices.insertionSortCmpFunc[becket/record.Note]",by decide,Tryz.func200.trans (congrArg some (by kernel_rfl))⟩,
 f21:=⟨"slices.heapSortCmpFunc[becket/record.Note]",by decide,Tryz.func206.trans (congrArg some (by kernel_rfl))⟩,
 f22:=⟨"slices.breakPatternsCmpFunc[becket/record.Note]",by decide,Tryz.func207.trans (congrArg some (by kernel_rfl))⟩,
 f23:=⟨"slices.choosePivotCmpFunc[becket/record.Note]",by decide,Tryz.func208.trans (congrArg some (by kernel_rfl))⟩,
 f24:=⟨"slices.reverseRangeCmpFunc[becket/record.Note]",by decide,Tryz.func209.trans (congrArg some (by kernel_rfl))⟩,
 f25:=⟨"slices.partialInsertionSortCmpFunc[becket/record.Note]",by decide,Tryz.func210.trans (congrArg some (by kernel_rfl))⟩,
 f26:=⟨"slices.partitionEqualCmpFunc[becket/record.Note]",by decide,Tryz.func211.trans (congrArg some (by kernel_rfl))⟩,
 f27:=⟨"slices.partitionCmpFunc[becket/record.Note]",by decide,Tryz.func212.trans (congrArg some (by kernel_rfl))⟩,
 f28:=Tryz.func213.trans (congrArg some (by kernel_rfl)),
 f29:=Tryz.func214.trans (congrArg some (by kernel_rfl)),
 f46:=⟨"slices.siftDownCmpFunc[becket/record.Note]",by decide,Tryz.func240.trans (congrArg some (by kernel_rfl))⟩,
 f47:=Tryz.func241.trans (congrArg some (by kernel_rfl)),
 f48:=Tryz.func242.trans (congrArg some (by kernel_rfl)),
 f49:=⟨"slices.medianAdjacentCmpFunc[becket/record.Note]",by decide,Tryz.func243.trans (congrArg some (by kernel_rfl))⟩,
 f50:=⟨"slices.medianCmpFunc[becket/record.Note]",by decide,Tryz.func244.trans (congrArg some (by kernel_rfl))⟩,
 f57:=⟨"slices.order2CmpFunc[becket/record.Note]",by decide,Tryz.func264.trans (congrArg some (by kernel_rfl))⟩,
 t0:=Tryz.underlying0,
 a0:=Tryz.isAgg0,
 z0:=Tryz.sizeOf0,
 v0:=Tryz.zeroValue0,
 t3:=Tryz.underlying3,
 a3:=Tryz.isAgg3,
 z3:=Tryz.sizeOf3,
 v3:=Tryz.zeroValue3,
 t4:=Tryz.underlying4,
 a4:=Tryz.isAgg4,
 z4:=Tryz.sizeOf4,
 v4:=Tryz.zeroValue4,
 t5:=Tryz.underlying5,
 a5:=Tryz.isAgg5,
 z5:=Tryz.sizeOf5,
 v5:=Tryz.zeroValue5,
 t9:=Tryz.underlying9,
 a9:=Tryz.isAgg9,
 z9:=Tryz.sizeOf9,
 v9:=Tryz.zeroValue9,
 t22:=Tryz.underlying96,
 a22:=Tryz.isAgg96,
 z22:=Tryz.sizeOf96,
 v22:=Tryz.zeroValue96,
 t25:=Tryz.underlying210,
 a25:=Tryz.isAgg210,
 z25:=Tryz.sizeOf210,
 v25:=Tryz.zeroValue210,
 t39:=Tryz.underlying241,
 a39:=Tryz.isAgg241,
 z39:=Tryz.sizeOf241,
 v39:=Tryz.zeroValue241,
 t45:=Tryz.underlying266,
 a45:=Tryz.isAgg266,
 z45:=Tryz.sizeOf266,
 v45:=Tryz.zeroValue266,
 t46:=Tryz.underlying267,
 a46:=Tryz.isAgg267,
 z46:=Tryz.sizeOf267,
 v46:=Tryz.zeroValue267,
 t50:=Tryz.underlying168,
 a50:=Tryz.isAgg168,
 z50:=Tryz.sizeOf168,
 v50:=Tryz.zeroValue168,
 t53:=Tryz.underlying263,
 a53:=Tryz.isAgg263,
 z53:=Tryz.sizeOf263,
 v53:=Tryz.zeroValue263,
 t55:=Tryz.underlying274,
 a55:=Tryz.isAgg274,
 z55:=Tryz.sizeOf274,
 v55:=Tryz.zeroValue274,
 t66:=Tryz.underlying298,
 a66:=Tryz.isAgg298,
 z66:=Tryz.sizeOf298,
 v66:=Tryz.zeroValue298,
 t70:=Tryz.underlying302,
 a70:=Tryz.isAgg302,
 z70:=Tryz.sizeOf302,
 v70:=Tryz.zeroValue302,
 t76:=Tryz.underlying319,
 a76:=Tryz.isAgg319,
 z76:=Tryz.sizeOf319,
 v76:=Tryz.zeroValue319,
 t77:=Tryz.underlying320,
 a77:=Tryz.isAgg320,
 z77:=Tryz.sizeOf320,
 v77:=Tryz.zeroValue320}
end Go.Proofs
noncomputable section
namespace Go.Av
open Go.Proofs Go.RowKit Go.Shelf Go.Sort
set_option linter.unusedSectionVars false
set_option linter.unusedVariables false
set_option linter.unusedSimpArgs false
set_option maxRecDepth 100000
def cf4 (x y:Q4):Int:=qlT x.1 x.2.1 y.1 y.2.1
def lt4 (x y:Q4):Bool:=ltL x.1 y.1||(x.1==y.1&&decide (x.2.1<y.2.1))
theorem qic (x y:Q4):ltOf cf4 x y=lt4 x y:=by
 unfold ltOf cf4 qlT qjz lt4 Lib.compareInt
 by_cases h1:ltL x.1 y.1=true
 ·simp[h1]
 ·by_cases h2:x.1=y.1
  ·rw[h2]at h1⊢
   by_cases h3:x.2.1<y.2.1
   ·simp[h1,h3]
   ·by_cases h4:x.2.1>y.2.1<;>simp[h1,h3,h4]
  ·simp[h1,h2]
theorem qcT (x:Q4):lt4 x x=false:=by simp[lt4,xH]
theorem qcm {x y z:Q4} (h:lt4 x y=true) (k:lt4 y z=true):lt4 x z=true:=by
 unfold lt4 at h k⊢
 simp only[Bool.or_eq_true,Bool.and_eq_true,beq_iff_eq,decide_eq_true_eq]at h k⊢
 rcases h with h|⟨h1,h2⟩
 ·rcases k with k|⟨k1,k2⟩
  ·exact .inl (qa0 h k)
  ·exact .inl (k1▸h)
 ·rcases k with k|⟨k1,k2⟩
  ·exact .inl (h1▸k)
  ·exact .inr ⟨h1.trans k1,by omega⟩
theorem qhM {x y:Q4} (h:lt4 x y=false):lt4 y x=true∨(x.1=y.1∧x.2.1=y.2.1):=by
 unfold lt4 at h⊢
 simp only[Bool.or_eq_false_iff,Bool.and_eq_false_iff,beq_eq_false_iff_ne,decide_eq_false_iff_not,Bool.or_eq_true,Bool.and_eq_true,beq_iff_eq,decide_eq_true_eq]at h⊢
 by_cases h1:ltL y.1 x.1=true
 ·exact .inl (.inl h1)
 ·have e:x.1=y.1:=qbu _ _ h.1 (by simpa using h1)
  rcases h.2 with h2|h2
  ·exact absurd e h2
  ·by_cases h3:y.2.1<x.2.1
   ·exact .inl (.inr ⟨e.symm,h3⟩)
   ·exact .inr ⟨e,by omega⟩
theorem swo4:SWO (ltOf cf4) where
 irrefl x:=by rw[qic];exact qcT x
 trans x y z h k:=by rw[qic]at*;exact qcm h k
 ntrans x y z h k:=by
  rw[qic]at*
  rcases qhM h with h|⟨h1,h2⟩
  ·rcases qhM k with k|⟨k1,k2⟩
   ·cases e:lt4 x z with
    |false=>rfl
    |true=>have:=qcm (qcm e k) h;rw[qcT]at this;cases this
   ·cases e:lt4 x z with
    |false=>rfl
    |true=>
     have e2:lt4 x y=true:=by unfold lt4 at e⊢;rw[k1,k2];exact e
     have:=qcm e2 h;rw[qcT]at this;cases this
  ·have:lt4 x z=lt4 y z:=by unfold lt4;rw[h1,h2]
   rw[this];exact k
def qbq (l:List Q4):List Q4:=(pdq (ltOf cf4) l.toArray 0 l.toArray.size (Lib.bitLen l.toArray.size) true true).toList
theorem qaE (l:List Q4):(qbq l).length=l.length∧(qbq l).Perm l∧ ∀i j,i<j→j<l.length→lt4 (qbq l)[j]! (qbq l)[i]! =false:=by
 obtain⟨⟨h1,_,h3⟩,h4⟩:=pdq_sorts (ltOf cf4) swo4 l.toArray 0 l.toArray.size (Lib.bitLen l.toArray.size) true true (Nat.zero_le _) (Nat.le_refl _) (Or.inl rfl)
 unfold qbq
 revert h1 h3 h4
 generalize pdq (ltOf cf4) l.toArray 0 l.toArray.size (Lib.bitLen l.toArray.size) true true=D
 intro h4 h1 h3
 have hl:D.size=l.length:=by simpa using h1
 refine⟨by simpa using hl,?_,fun i j hij hj=>?_⟩
 ·have e1:D.extract 0 l.toArray.size=D:=by rw[←h1];simp
  have e2:l.toArray.extract 0 l.toArray.size=l.toArray:=by simp
  rw[e1,e2]at h3
  exact h3
 ·have:=h4 i j (Nat.zero_le _) hij (by simpa using hj)
  rw[qic,getElem!_pos D j (by omega),getElem!_pos D i (by omega)]at this
  rw[getElem!_pos D.toList j (by simp;omega),getElem!_pos D.toList i (by simp;omega),Array.getElem_toList,Array.getElem_toList]
  exact this
theorem cmp4 (rb:Nat) (n:Nat) (w:World):CmpLays Tryz.prog 136 #[] e4 4 cf4 rb 0 n w:=
 fun _ _ _ _ x y=>qmO ⟨x.1.toArray⟩ ⟨x.2.2.2.toArray⟩ ⟨y.1.toArray⟩ ⟨y.2.2.2.toArray⟩ x.2.1 x.2.2.1 y.2.1 y.2.2.1 _
theorem qo4: ∀args w,(callFunc 136 args).run Tryz.prog w= .ok (.enter 136 args) w:=Go.Proofs.enters_of Tryz.func136 (by kernel_rfl) rfl
theorem qn0 {F:Nat→Prop} {nu:Nat→Option Nat} {w:World} {g:FuncId} {v:Value} (h:R F nu w (.func (.func g) [] []) v):v= .func (.func g) #[] #[]:=by
 cases h with
 |func fn fs cs vf vc h1 h2 hf hc=>
  obtain rfl:vf=#[]:=Array.eq_empty_of_size_eq_zero (by simpa using h1)
  obtain rfl:vc=#[]:=Array.eq_empty_of_size_eq_zero (by simpa using h2)
  rfl
theorem qiZ {ns:List Q4} (hn:ns.length≤100000) {F:Nat→Prop} {nu:Nat→Option Nat} {w:World} (i:Inv F nu [.cells (ns.flatMap c4)] w) {rb cap:Nat} (hb:nu 0=some rb):
 Calls Tryz.prog 135 #[.slice (some ⟨rb,0,none⟩) ns.length cap,.func (.func 136) #[] #[]] w fun e w'=> ∃v F' nu',e= .returned v∧Stp F nu [.cells (ns.flatMap c4)] w F' nu' [.cells ((qbq ns).flatMap c4)] w'∧R F' nu' w' (.tuple []) v:=by
 obtain⟨c0,e0,hh,hl,hH⟩:=qk5 i hb (show[Blk.cells (ns.flatMap c4)][0]? =some _ from rfl)
 have key:=AnyQ.slices_SortFunc_eq Tryz.sortNote 4 Tryz.isAgg132 Tryz.sizeOf132 e4 qo9 one4 cf4 swo4 136 #[] rb 0 cap ns.toArray w qo4 (cmp4 rb _ w) hH (i.ltN 0 rb hb) (by simp;omega)
 have hs:ns.toArray.size=ns.length:=by simp
 refine Calls.mono (show Calls Tryz.prog 135 #[.slice (some ⟨rb,0,none⟩) ns.length cap,.func (.func 136) #[] #[]] w _ from hs▸key) ?_
 rintro e w' ⟨rfl,m,os,rfl⟩
 have st:=qir i (m:=m) (os:=os) hb (show[Blk.cells (ns.flatMap c4)][0]? =some _ from rfl) (qaE ns).1
 have et:(qbq ns).toArray=pdq (ltOf cf4) ns.toArray 0 ns.toArray.size (Lib.bitLen ns.toArray.size) true true:=by unfold qbq;simp
 rw[et]at st
 exact⟨_,F,nu,rfl,st,.tuple _ _ rfl fun i a v ha _=>by simp at ha⟩
theorem qlz {p:Option Addr} {cap:Nat} {F:Nat→Prop} {nu:Nat→Option Nat} {w:World} (i:Inv F nu [.cells []] w):
 Calls Tryz.prog 135 #[.slice p 0 cap,.func (.func 136) #[] #[]] w fun e w'=> ∃v F' nu',e= .returned v∧Stp F nu [.cells []] w F' nu' [.cells []] w'∧R F' nu' w' (.tuple []) v:=by
 refine Calls.mono (show Calls Tryz.prog 135 #[.slice p 0 cap,.func (.func 136) #[] #[]] w _ from AnyF.slices_SortFunc_none Tryz.sortNote p cap _ w) ?_
 rintro e w' ⟨rfl,rfl⟩
 exact⟨_,F,nu,rfl,.refl i,.tuple _ _ rfl fun i a v ha _=>by simp at ha⟩
theorem qlw:qbq []=[]:=List.length_eq_zero_iff.1 (qaE []).1
theorem qpD {ns:List Q4} (hn:ns.length≤100000):qf Tryz.prog (.fn 135) [.oslice 0 ns.length 4,.func (.func 136) [] []] [.cells (ns.flatMap c4)] (.tuple []) [.cells ((qbq ns).flatMap c4)]:=by
 intro F nu w vs i hargs
 refine .inl ⟨enters_of (by kernel_rfl),?_⟩
 obtain⟨x,ws,rfl,hx,hws⟩:=hargs.cons_inv
 obtain⟨y,us,he,hy,hus⟩:=hws.cons_inv
 obtain rfl:ws=y::us:=by simpa using he
 obtain rfl:=hus.nil_inv
 obtain rfl:=qn0 hy
 cases hx with
 |oslice _ _ _ rb cap e m hb hc hsh hm hxx=>exact qiZ hn i hb
theorem qoS {ns:List Q4} (hn:ns.length≤100000):qf Tryz.prog (.fn 135) [.gslice 0 ns.length 4,.func (.func 136) [] []] [.cells (ns.flatMap c4)] (.tuple []) [.cells ((qbq ns).flatMap c4)]:=by
 intro F nu w vs i hargs
 refine .inl ⟨enters_of (by kernel_rfl),?_⟩
 obtain⟨x,ws,rfl,hx,hws⟩:=hargs.cons_inv
 obtain⟨y,us,he,hy,hus⟩:=hws.cons_inv
 obtain rfl:ws=y::us:=by simpa using he
 obtain rfl:=hus.nil_inv
 obtain rfl:=qn0 hy
 match ns,hx with
 |[],hx=>
  cases hx with
  |gslice0 _ _ p=>
   rw[qlw]
   exact qlz i
  |gslice _ _ _ rb cap e m hp=>exact absurd hp (by simp)
 |n::ns,hx=>
  cases hx with
  |gslice _ _ _ rb cap e m hp hb hc hsh hm hxx=>exact qiZ hn i hb
theorem qj6 (p:Option Addr) (cap:Nat) (w:World):Calls Tryz.prog 123 #[.slice p 0 cap] w fun e w'=> ∃q,e= .returned (.slice q 0 0)∧Kept w w':=by
 obtain⟨D,hd⟩: ∃D,Op.maxDepth=D+1:=⟨9999,rfl⟩
 cases p with
 |none=>
  have hg: ∀W,(binOp .eql 96 (.slice none 0 cap) (.slice none 0 0)).run Tryz.prog W= .ok (.bool true) W:=fun W=>by
   simp[binOp,Op.equal,hd,Op.equalIn,run_underlying Tryz.underlying96,go_sem]
  clear hd
  go_enter Tryz.func123,Tryz.ntmps123
  go_wp2
  go_ret
  exact⟨none,rfl,Kept.refl w⟩
 |some a=>
  have hg: ∀W,(binOp .eql 96 (.slice (some a) 0 cap) (.slice none 0 0)).run Tryz.prog W= .ok (.bool false) W:=fun W=>by
   simp[binOp,Op.equal,hd,Op.equalIn,run_underlying Tryz.underlying96,go_sem]
  clear hd
  go_enter Tryz.func123,Tryz.ntmps123
  go_wp2
  go_ret
  exact⟨_,rfl,(Kept.refl w).alloc _⟩
theorem qn9:qf Tryz.prog (.fn 123) [.fslice 0 []] [] (.gslice 0 0 4) [.cells []]:=by
 intro F nu w vs i hargs
 refine .inl ⟨enters_of (by kernel_rfl),?_⟩
 obtain⟨x,ws,rfl,hx,hws⟩:=hargs.cons_inv
 obtain rfl:=hws.nil_inv
 obtain⟨p,cap,rfl⟩: ∃p cap,x= .slice p 0 cap:=by
  cases hx with
  |fslice0 A cap=>exact⟨A,cap,rfl⟩
  |fslice _ _ ad cap=>exact⟨some ad,cap,rfl⟩
 refine Calls.mono (qj6 p cap w) ?_
 rintro e w' ⟨q,rfl,hk⟩
 have s1:=Stp.kept i hk.heap hk.size hk.os hk.tape hk.output
 have s2:=Stp.more s1.inv (.cells [])
 exact⟨_,F,nu,rfl,s1.trans s2,.gslice0 _ _ _⟩
end Go.Av
end
