/-
  Rows of notes on the abstract heap and on the machine.
-/
import Derived.Test.YtphbhegcojmijaaGreatDoorAvIns
import Derived.Shelf.GgSortFunc.RowK
noncomputable section
namespace Go.Av
open Go.Proofs Go.RowKit Go.Shelf Go.Sort
set_option linter.unusedSectionVars false
set_option linter.unusedVariables false
set_option linter.unusedSimpArgs false
variable [Glob]
abbrev Q4:=List UInt8×Int×Int×List UInt8
def c4 (q:Q4):List AV:=[.str q.1,.int .i64 q.2.1,.int .i64 q.2.2.1,.str q.2.2.2]
def e4 (q:Q4):List Value:=[.string ⟨q.1.toArray⟩,.int .i64 q.2.1,.int .i64 q.2.2.1,.string ⟨q.2.2.2.toArray⟩]
theorem qxl (q:Q4):(e4 q).length=4:=rfl
theorem qqZ (ns:List Q4):(ns.flatMap c4).length=ns.length*4:=by
 induction ns with
 |nil=>rfl
 |cons n ns ih=>rw[List.flatMap_cons,List.length_append,ih,List.length_cons];show 4+ns.length*4=_;omega
theorem one4: ∀(q:Q4),∀v∈e4 q,v.oneCell'=true:=by
 intro q v hv
 simp only[e4,List.mem_cons,List.not_mem_nil,or_false]at hv
 rcases hv with rfl|rfl|rfl|rfl<;>rfl
theorem at4: ∀(ns:List Q4) (t:Nat) (a:AV),(ns.flatMap c4)[t]? =some a→ ∃u,(ns.flatMap e4)[t]? =some u∧(∀(F:Nat→Prop) nu w v,R F nu w a v→v=u)∧ ∀(F:Nat→Prop) nu w,R F nu w a u
 |[],t,a,h=>by simp at h
 |n::ns,t,a,h=>by
  rw[List.flatMap_cons]at h⊢
  match t with
  |0=>
   simp only[c4,List.cons_append,List.getElem?_cons_zero,Option.some.injEq]at h
   subst h
   refine⟨_,rfl,fun F nu w v hv=>?_,fun F nu w=> .str _ _ rfl⟩
   obtain⟨b,rfl,e⟩:=hv.str_inv
   rw[←e]
  |1=>
   simp only[c4,List.cons_append,List.getElem?_cons_succ,List.getElem?_cons_zero,Option.some.injEq]at h
   subst h
   exact⟨_,rfl,fun F nu w v hv=>hv.int_inv,fun F nu w=> .int _ _⟩
  |2=>
   simp only[c4,List.cons_append,List.getElem?_cons_succ,List.getElem?_cons_zero,Option.some.injEq]at h
   subst h
   exact⟨_,rfl,fun F nu w v hv=>hv.int_inv,fun F nu w=> .int _ _⟩
  |3=>
   simp only[c4,List.cons_append,List.getElem?_cons_succ,List.getElem?_cons_zero,Option.some.injEq]at h
   subst h
   refine⟨_,rfl,fun F nu w v hv=>?_,fun F nu w=> .str _ _ rfl⟩
   obtain⟨b,rfl,e⟩:=hv.str_inv
   rw[←e]
  |t+4=>
   have h:(ns.flatMap c4)[t]? =some a:=h
   exact at4 ns t a h
theorem qw5: ∀(ns:List Q4) (t:Nat),t<ns.length*4→(ns.flatMap e4)[t]? =some ((e4 ns.toArray[t/4]!)[t%4]!)
 |[],t,h=>by simp at h
 |n::ns,t,h=>by
  rw[List.flatMap_cons]
  match t with
  |0=>rfl
  |1=>rfl
  |2=>rfl
  |3=>rfl
  |t+4=>
   have ih:=qw5 ns t (by simp at h;omega)
   have e1:(t+4)/4=t/4+1:=by omega
   have e2:(t+4)%4=t%4:=by omega
   have e3:(n::ns).toArray[t/4+1]! =ns.toArray[t/4]! :=by simp
   rw[e1,e2,e3]
   exact ih
theorem qvT (ns:List Q4) (t:Nat) (h:t<ns.length*4):(flatK e4 4 ns.toArray)[t]! =((ns.flatMap e4)[t]?).getD default:=by
 rw[get_flatK _ _ _ _ (by simpa using h),qw5 ns t h]
 rfl
theorem qs8 {F:Nat→Prop} {nu:Nat→Option Nat} {A:Heap} {w:World} (i:Inv F nu A w) {b rb:Nat} {ns:List Q4} (hb:nu b=some rb) (hA:A[b]? =some (.cells (ns.flatMap c4))):
 ∃c0 e,w.heap[rb]? =some (.cells c0 e (0,0))∧ns.length*4≤c0.size∧HoldsK e4 4 w rb 0 ns.toArray:=by
 obtain⟨_,c0,e,hh,hl,hR⟩:=i.blk b rb _ hb hA
 have hl:ns.length*4≤c0.size:=by rw[qqZ]at hl;exact hl
 refine⟨c0,e,hh,hl,fun j hj=>?_⟩
 have hj:j<ns.length*4:=by simpa using hj
 rw[Nat.zero_add,cell_of_row hh,frozen_of_row hh]
 refine⟨?_,rfl⟩
 have hjc:j<(ns.flatMap c4).length:=by rw[qqZ];exact hj
 have h1:(ns.flatMap c4)[j]? =some (ns.flatMap c4)[j]:=List.getElem?_eq_getElem hjc
 have h2:c0[j]? =some c0[j]:=Array.getElem?_eq_getElem (by omega)
 obtain⟨u,g1,g2,_⟩:=at4 ns j _ h1
 rw[h2,g2 _ _ _ _ (hR j _ _ h1 h2),qvT ns j hj,g1]
 rfl
theorem qqR {F:Nat→Prop} {nu:Nat→Option Nat} {A:Heap} {w:World} (i:Inv F nu A w) {b rb m:Nat} {ns ms:List Q4} {os:Array Obj} (hb:nu b=some rb) (hA:A[b]? =some (.cells (ns.flatMap c4))) (hlen:ms.length=ns.length):
 Stp F nu A w F nu (A.set b (.cells (ms.flatMap c4))) (grow (putRowK e4 4 (Sort.ahead w m) rb 0 ms.toArray) os):=by
 obtain⟨c0,e,hh,hl,hH⟩:=qs8 i hb hA
 have hat:(putRowK e4 4 (Sort.ahead w m) rb 0 ms.toArray).heap[rb]? =some (.cells (putCells id 0 (flatK e4 4 ms.toArray) c0) e (0,0)):=by
  show(w.heap.modify rb _)[rb]? =_
  rw[Array.getElem?_modify,if_pos rfl,hh]
  rfl
 have hoth: ∀r,r≠rb→(putRowK e4 4 (Sort.ahead w m) rb 0 ms.toArray).heap[r]? =w.heap[r]? :=by
  intro r hr
  show(w.heap.modify rb _)[r]? =_
  rw[Array.getElem?_modify,if_neg (fun e=>hr e.symm)]
 have hsz:(putRowK e4 4 (Sort.ahead w m) rb 0 ms.toArray).heap.size=w.heap.size:=by
  show(w.heap.modify rb _).size=_
  simp
 have hcs:(putCells id 0 (flatK e4 4 ms.toArray) c0).size=c0.size:=by simp[putCells]
 have hsh: ∀s,w.shape? rb=some s→(putRowK e4 4 (Sort.ahead w m) rb 0 ms.toArray).shape? rb=some s:=by
  intro s h
  rw[←h,qmq hh,qmq hat,hcs]
 have s1:=Stp.write i (k:= .cells (ms.flatMap c4)) hb hA rfl rfl hoth hsz hsh rfl rfl rfl (fun hnF=>⟨hnF,_,e,hat,by rw[qqZ,hcs,hlen];exact hl,fun j a v ha hv=>by
  have hj:j<ms.length*4:=by
   have:=(List.getElem?_eq_some_iff.1 ha).1
   rw[qqZ]at this;exact this
  obtain⟨u,g1,_,g3⟩:=at4 ms j a ha
  have:v=u:=by
   unfold putCells at hv
   rw[Array.getElem?_mapIdx]at hv
   have hc:c0[j]? =some c0[j]:=Array.getElem?_eq_getElem (by omega)
   rw[hc,Option.map_some,if_pos ⟨Nat.zero_le _,by simpa using hj⟩,Nat.sub_zero,qvT ms j hj,g1]at hv
   exact(Option.some.inj hv).symm
  rw[this]
  exact g3 _ _ _⟩)
 refine s1.trans (Stp.kept s1.inv (fun r hr=>?_) ?_ rfl rfl rfl)
 ·show((putRowK e4 4 (Sort.ahead w m) rb 0 ms.toArray).heap++os)[r]? =_
  rw[Array.getElem?_append_left hr]
 ·show _≤((putRowK e4 4 (Sort.ahead w m) rb 0 ms.toArray).heap++os).size
  simp
end Go.Av
