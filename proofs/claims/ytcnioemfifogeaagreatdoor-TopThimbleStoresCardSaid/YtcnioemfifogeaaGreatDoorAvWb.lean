/-
  slices.Insert at rows of integers: the program's own row, whatever its spare room; told on the abstract heap.
-/
import Derived.Test.YtcnioemfifogeaaGreatDoorAvFn
import Derived.Shelf.Spec.SlicesInsertGrow
import Derived.Test.YtcnioemfifogeaaGreatDoorAvWa
import Derived.Shelf.Strings.Builder1
set_option linter.unusedSectionVars false
set_option linter.unusedVariables false
set_option maxRecDepth 100000
noncomputable section
namespace Go.Av
open Go.Proofs Go.RowKit Go.Shelf
variable [Glob]
structure quQ (w w':World) (rb:Nat) (e:TypeId) (c1:Array Value):Prop where
 at_:w'.heap[rb]? =some (.cells c1 e (0,0))
 oth: ∀r,r≠rb->w'.heap[r]? =w.heap[r]?
 size:w'.heap.size=w.heap.size
 os:w'.os=w.os
 tape:w'.tape=w.tape
 output:w'.output=w.output
theorem qBB {w:World} {rb o:Nat} {e:TypeId} {c0:Array Value} (v:Value) (h:w.heap[rb]? =some (.cells c0 e (0,0))):quQ w (w.setCell ⟨rb,o,none⟩ v) rb e (c0.setIfInBounds o v):=by
 refine⟨?_,fun r hr=>?_,?_,rfl,rfl,rfl⟩
 ·unfold World.setCell
  simp only[YD,if_true,h]
  rfl
 ·unfold World.setCell
  simp only[YD]
  rw[if_neg (fun e=>hr e.symm)]
 simp[World.setCell]
theorem qpm (rb:Nat) (e:TypeId): ∀(vs:List Value) (o:Nat) (w:World) (c0:Array Value),w.heap[rb]? =some (.cells c0 e (0,0))->o+vs.length<=c0.size->
 ∃c1,quQ w (w.setCells rb o vs) rb e c1/\c1.size=c0.size/\ ∀j,c1[j]? =if o<=j/\j<o+vs.length then vs[j-o]? else c0[j]? :=by
 intro vs
 induction vs with
 |nil=>
  intro o w c0 h _
  refine⟨c0,⟨h,fun _ _=>rfl,rfl,rfl,rfl,rfl⟩,rfl,fun j=>?_⟩
  rw[if_neg (fun h=>by have:=h.1;have:=h.2;simp at this;omega)]
 |cons v vs ih=>
  intro o w c0 h hl
  simp only[Yr]at hl
  have h1:=qBB (o:=o) v h
  obtain⟨c1,r,hs,hc⟩:=ih (o+1) (w.setCell ⟨rb,o,none⟩ v) _ h1.at_ (by simp;omega)
  refine⟨c1,⟨r.at_,fun q hq=>(r.oth q hq).trans (h1.oth q hq),r.size.trans h1.size,r.os,r.tape,r.output⟩,by simpa using hs,fun j=>?_⟩
  rw[hc j]
  simp only[Yr]
  by_cases hj:j=o
  ·subst hj
   rw[if_neg (by omega),if_pos (by omega)]
   simp only[Nat.sub_self,List.getElem?_cons_zero]
   rw[Array.getElem?_setIfInBounds_self_of_lt (by omega)]
  rw[Array.getElem?_setIfInBounds_ne (fun e=>hj e.symm)]
  by_cases h2:o+1<=j/\j<o+1+vs.length
  ·rw[if_pos h2,if_pos (by omega)]
   have:j-o=(j-(o+1))+1:=by omega
   rw[this,List.getElem?_cons_succ]
  rw[if_neg h2,if_neg (by omega)]
theorem cell_of_row {w:World} {rb:Nat} {c0:Array Value} {e:TypeId} (h:w.heap[rb]? =some (.cells c0 e (0,0))) (j:Nat):w.cell? ⟨rb,j,none⟩=c0[j]? :=by
 simp only[World.cell?,h,Option.isSome_none,ZF,if_false]
theorem frozen_of_row {w:World} {rb:Nat} {c0:Array Value} {e:TypeId} (h:w.heap[rb]? =some (.cells c0 e (0,0))) (j:Nat):w.frozen? ⟨rb,j,none⟩=false:=by
 simp[World.frozen?,h]
theorem qlS {w:World} {rb:Nat} {c0:Array Value} {e:TypeId} (h:w.heap[rb]? =some (.cells c0 e (0,0))):w.shape? rb=some (e,c0.size):=by
 simp only[World.shape?,h]
theorem quQ.trans {w w' w'':World} {rb:Nat} {e e':TypeId} {c1 c2:Array Value} (h:quQ w w' rb e c1) (k:quQ w' w'' rb e' c2):quQ w w'' rb e' c2:=
 ⟨k.at_,fun r hr=>(k.oth r hr).trans (h.oth r hr),k.size.trans h.size,k.os.trans h.os,k.tape.trans h.tape,k.output.trans h.output⟩
theorem quQ.drew {w w':World} {rb:Nat} {e:TypeId} {c1:Array Value} (h:quQ w w' rb e c1):quQ w w'.drew rb e c1:=⟨h.at_,h.oth,h.size,h.os,h.tape,h.output⟩
theorem quQ.ofDrew {w w':World} {rb:Nat} {e:TypeId} {c1:Array Value} (h:quQ w.drew w' rb e c1):quQ w w' rb e c1:=⟨h.at_,h.oth,h.size,h.os,h.tape,h.output⟩
section
variable {F:Nat->Prop} {nu:Nat->Option Nat} {A:Heap} {w:World}
end
theorem RL.args3 {F:Nat->Prop} {nu:Nat->Option Nat} {w:World} {a b c:AV} {vs:Array Value} (h:RL F nu w [a,b,c] vs): ∃x y z,vs=#[x,y,z]/\R F nu w a x/\R F nu w b y/\R F nu w c z:=by
 obtain⟨l⟩:=vs
 obtain⟨h1,h2⟩:=h
 match l,h1,h2 with
 |[x,y,z],_,h2=>exact⟨x,y,z,rfl,h2 0 _ _ rfl rfl,h2 1 _ _ rfl rfl,h2 2 _ _ rfl rfl⟩
end Go.Av
end
noncomputable section
namespace Go.Av
open Go.Proofs Go.RowKit Go.Shelf
structure But (x y:Option Nat) (w w':World):Prop where
 os:w'.os=w.os
 tape:w'.tape=w.tape
 output:w'.output=w.output
 size:w.heap.size<=w'.heap.size
 block: ∀k,k<w.heap.size->some k≠x->some k≠y->w'.heap[k]? =w.heap[k]?
 shape: ∀k s,w.shape? k=some s->w'.shape? k=some s
theorem But.refl {x y:Option Nat} (w:World):But x y w w:=⟨rfl,rfl,rfl,Nat.le_refl _,fun _ _ _ _=>rfl,fun _ _ h=>h⟩
theorem But.trans {x y:Option Nat} {a b c:World} (h:But x y a b) (k:But x y b c):But x y a c:=
 ⟨k.os.trans h.os,k.tape.trans h.tape,k.output.trans h.output,Nat.le_trans h.size k.size,fun q hq h1 h2=>(k.block q (by have:=h.size;omega) h1 h2).trans (h.block q hq h1 h2),fun q s hs=>k.shape q s (h.shape q s hs)⟩
theorem qHG {w:World} {k:Nat} {s:TypeId×Nat} (h:w.shape? k=some s):k<w.heap.size:=by
 rcases Nat.lt_or_ge k w.heap.size with h1|h1
 ·exact h1
 simp[World.shape?,Array.getElem?_eq_none h1]at h
theorem But.setCell {x y:Option Nat} (w:World) (b o:Nat) (q:Value) (h:x=some b\/y=some b):But x y w (w.setCell ⟨b,o,none⟩ q):=by
 have hh: ∀k,k≠b->(w.setCell ⟨b,o,none⟩ q).heap[k]? =w.heap[k]? :=fun k hk=>Below.heap_setCell _ _ _ _ hk
 refine⟨rfl,rfl,rfl,by simp[World.setCell],fun k hk h1 h2=>hh k (fun e=>?_),fun k s hs=>?_⟩
 ·subst e
  rcases h with h|h
  ·exact h1 h.symm
  exact h2 h.symm
 by_cases e:k=b
 ·subst e
  simp only[World.shape?,World.setCell,YD]at hs⊢
  cases hc:w.heap[k]? with
  |none=>rw[hc]at hs;simp at hs
  |some ob=>
   rw[hc]at hs
   cases ob<;>simp at hs⊢
   all_goals exact hs
 have:=hh k e
 unfold World.shape? at hs⊢
 rw[this]
 exact hs
theorem qHu {w:World} (o:Obj) (rb:Nat) (s:TypeId×Nat) (h:w.shape? rb=some s):(w.alloc o).shape? rb=some s:=by
 rw[<-h]
 have e:=_root_.Go.heap_alloc_old w o (qHG h)
 simp only[World.shape?,e]
theorem But.alloc {x y:Option Nat} (w:World) (o:Obj):But x y w (w.alloc o):=⟨rfl,rfl,rfl,by simp,fun k hk _ _=>_root_.Go.heap_alloc_old w o hk,fun k s hs=>qHu o k s hs⟩
theorem But.drew {x y:Option Nat} (w:World):But x y w w.drew:=⟨rfl,rfl,rfl,Nat.le_refl _,fun _ _ _ _=>rfl,fun _ _ h=>h⟩
theorem But.freeze {x y:Option Nat} (w:World) (g n:Nat) (h:x=some g\/y=some g):But x y w (w.freeze ⟨g,0,none⟩ n):=by
 have hh: ∀k,k≠g->(w.freeze ⟨g,0,none⟩ n).heap[k]? =w.heap[k]? :=fun k hk=>by
  unfold World.freeze
  split
  ·rfl
  simp only[YD]
  rw[if_neg (fun e=>hk e.symm)]
 have hsh: ∀k s,w.shape? k=some s->(w.freeze ⟨g,0,none⟩ n).shape? k=some s:=fun k s hs=>by
  by_cases e:k=g
  ·subst e
   unfold World.freeze
   split
   ·exact hs
   simp only[World.shape?,YD,if_true]at hs⊢
   cases hc:w.heap[k]? with
   |none=>rw[hc]at hs;simp at hs
   |some ob=>
    rw[hc]at hs
    cases ob<;>simp at hs⊢
    all_goals exact hs
  have:=hh k e
  unfold World.shape? at hs⊢
  rw[this]
  exact hs
 have hsz:(w.freeze ⟨g,0,none⟩ n).heap.size=w.heap.size:=by
  unfold World.freeze
  split
  ·rfl
  simp
 have hos:(w.freeze ⟨g,0,none⟩ n).os=w.os/\(w.freeze ⟨g,0,none⟩ n).tape=w.tape/\(w.freeze ⟨g,0,none⟩ n).output=w.output:=by
  unfold World.freeze
  split<;>exact⟨rfl,rfl,rfl⟩
 refine⟨hos.1,hos.2.1,hos.2.2,by rw[hsz];exact Nat.le_refl _,fun k hk h1 h2=>hh k (fun e=>?_),hsh⟩
 subst e
 rcases h with h|h
 ·exact h1 h.symm
 exact h2 h.symm
section
variable {P:Program} {ρ:Ren}
structure Wrote (P:Program) (ρ:Ren) (b:Nat) (v:Value) (bs:List Value) (w w':World) (v':Value):Prop where
 heap:w'.heap[b]? =some (.cells #[.pointer (some ⟨b,0,none⟩),v'] (ρ.t 72) (0,0))
 own:w'.ownsRow 0 (ρ.t 5) 1 v' bs.length bs
 but:But (some b) v.ownBlock w w'
 place:v'.ownBlock=v.ownBlock\/ ∃g,v'.ownBlock=some g/\w.heap.size<=g
 ne:v'.ownBlock≠some b
end
end Go.Av
end
noncomputable section
namespace Go.Av
open Go.Proofs Go.RowKit Go.Shelf
section
variable {P:Program} {ρ:Ren}
end
variable [Glob] {P:Program} {ρ:Ren}
end Go.Av
end
