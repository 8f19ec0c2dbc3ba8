/-
  slices.Insert at rows of integers: the program's own row, whatever its spare room; told on the abstract heap.
-/
import Derived.Test.YtfffkfkghchbdaaGreatDoorAvFn
import Derived.Shelf.Spec.SlicesInsertGrow
import Derived.Test.YtfffkfkghchbdaaGreatDoorAvWa
import Derived.Shelf.Strings.Builder1
set_option linter.unusedSectionVars false
set_option linter.unusedVariables false
set_option maxRecDepth 100000
noncomputable section
namespace Go.Av
open Go.Proofs Go.RowKit Go.Shelf
variable [Glob]
structure qcG (w w':World) (rb:Nat) (e:TypeId) (c1:Array Value):Prop where
 at_:w'.heap[rb]? =some (.cells c1 e (0,0))
 oth: ∀r,r≠rb->w'.heap[r]? =w.heap[r]?
 size:w'.heap.size=w.heap.size
 os:w'.os=w.os
 tape:w'.tape=w.tape
 output:w'.output=w.output
theorem qcG.trans {w w' w'':World} {rb:Nat} {e e':TypeId} {c1 c2:Array Value} (h:qcG w w' rb e c1) (k:qcG w' w'' rb e' c2):qcG w w'' rb e' c2:=
 ⟨k.at_,fun r hr=>(k.oth r hr).trans (h.oth r hr),k.size.trans h.size,k.os.trans h.os,k.tape.trans h.tape,k.output.trans h.output⟩
theorem qcG.drew {w w':World} {rb:Nat} {e:TypeId} {c1:Array Value} (h:qcG w w' rb e c1):qcG w w'.drew rb e c1:=⟨h.at_,h.oth,h.size,h.os,h.tape,h.output⟩
section
variable {F:Nat->Prop} {nu:Nat->Option Nat} {A:Heap} {w:World}
end
end Go.Av
end
noncomputable section
namespace Go.Av
open Go.Proofs Go.RowKit Go.Shelf
structure But (x y:Option Nat) (w w':World):Prop where
 os:w'.os=w.os
 tape:w'.tape=w.tape
 output:w'.output=w.output
 size:w.heap.size<=w'.heap.size
 block: ∀k,k<w.heap.size->some k≠x->some k≠y->w'.heap[k]? =w.heap[k]?
 shape: ∀k s,w.shape? k=some s->w'.shape? k=some s
theorem But.refl {x y:Option Nat} (w:World):But x y w w:=⟨rfl,rfl,rfl,Nat.le_refl _,fun _ _ _ _=>rfl,fun _ _ h=>h⟩
theorem But.trans {x y:Option Nat} {a b c:World} (h:But x y a b) (k:But x y b c):But x y a c:=
 ⟨k.os.trans h.os,k.tape.trans h.tape,k.output.trans h.output,Nat.le_trans h.size k.size,fun q hq h1 h2=>(k.block q (by have:=h.size;omega) h1 h2).trans (h.block q hq h1 h2),fun q s hs=>k.shape q s (h.shape q s hs)⟩
theorem qgI {w:World} {k:Nat} {s:TypeId×Nat} (h:w.shape? k=some s):k<w.heap.size:=by
 rcases Nat.lt_or_ge k w.heap.size with h1|h1
 ·exact h1
 simp[World.shape?,Array.getElem?_eq_none h1]at h
theorem But.setCell {x y:Option Nat} (w:World) (b o:Nat) (q:Value) (h:x=some b\/y=some b):But x y w (w.setCell ⟨b,o,none⟩ q):=by
 have hh: ∀k,k≠b->(w.setCell ⟨b,o,none⟩ q).heap[k]? =w.heap[k]? :=fun k hk=>Below.heap_setCell _ _ _ _ hk
 refine⟨rfl,rfl,rfl,by simp[World.setCell],fun k hk h1 h2=>hh k (fun e=>?_),fun k s hs=>?_⟩
 ·subst e
  rcases h with h|h
  ·exact h1 h.symm
  exact h2 h.symm
 by_cases e:k=b
 ·subst e
  simp only[World.shape?,World.setCell,YD]at hs⊢
  cases hc:w.heap[k]? with
  |none=>rw[hc]at hs;simp at hs
  |some ob=>
   rw[hc]at hs
   cases ob<;>simp at hs⊢
   all_goals exact hs
 have:=hh k e
 unfold World.shape? at hs⊢
 rw[this]
 exact hs
theorem qhQ {w:World} (o:Obj) (rb:Nat) (s:TypeId×Nat) (h:w.shape? rb=some s):(w.alloc o).shape? rb=some s:=by
 rw[<-h]
 have e:=_root_.Go.heap_alloc_old w o (qgI h)
 simp only[World.shape?,e]
theorem But.alloc {x y:Option Nat} (w:World) (o:Obj):But x y w (w.alloc o):=⟨rfl,rfl,rfl,by simp,fun k hk _ _=>_root_.Go.heap_alloc_old w o hk,fun k s hs=>qhQ o k s hs⟩
theorem But.drew {x y:Option Nat} (w:World):But x y w w.drew:=⟨rfl,rfl,rfl,Nat.le_refl _,fun _ _ _ _=>rfl,fun _ _ h=>h⟩
theorem But.freeze {x y:Option Nat} (w:World) (g n:Nat) (h:x=some g\/y=some g):But x y w (w.freeze ⟨g,0,none⟩ n):=by
 have hh: ∀k,k≠g->(w.freeze ⟨g,0,none⟩ n).heap[k]? =w.heap[k]? :=fun k hk=>by
  unfold World.freeze
  split
  ·rfl
  simp only[YD]
  rw[if_neg (fun e=>hk e.symm)]
 have hsh: ∀k s,w.shape? k=some s->(w.freeze ⟨g,0,none⟩ n).shape? k=some s:=fun k s hs=>by
  by_cases e:k=g
  ·subst e
   unfold World.freeze
   split
   ·exact hs
   simp only[World.shape?,YD,if_true]at hs⊢
   cases hc:w.heap[k]? with
   |none=>rw[hc]at hs;simp at hs
   |some ob=>
    rw[hc]at hs
    cases ob<;>simp at hs⊢
    all_goals exact hs
  have:=hh k e
  unfold World.shape? at hs⊢
  rw[this]
  exact hs
 have hsz:(w.freeze ⟨g,0,none⟩ n).heap.size=w.heap.size:=by
  unfold World.freeze
  split
  ·rfl
  simp
 have hos:(w.freeze ⟨g,0,none⟩ n).os=w.os/\(w.freeze ⟨g,0,none⟩ n).tape=w.tape/\(w.freeze ⟨g,0,none⟩ n).output=w.output:=by
  unfold World.freeze
  split<;>exact⟨rfl,rfl,rfl⟩
 refine⟨hos.1,hos.2.1,hos.2.2,by rw[hsz];exact Nat.le_refl _,fun k hk h1 h2=>hh k (fun e=>?_),hsh⟩
 subst e
 rcases h with h|h
 ·exact h1 h.symm
 exact h2 h.symm
section
variable {P:Program} {ρ:Ren}
structure Wrote (P:Program) (ρ:Ren) (b:Nat) (v:Value) (bs:List Value) (w w':World) (v':Value):Prop where
 heap:w'.heap[b]? =some (.cells #[.pointer (some ⟨b,0,none⟩),v'] (ρ.t 72) (0,0))
 own:w'.ownsRow 0 (ρ.t 5) 1 v' bs.length bs
 but:But (some b) v.ownBlock w w'
 place:v'.ownBlock=v.ownBlock\/ ∃g,v'.ownBlock=some g/\w.heap.size<=g
 ne:v'.ownBlock≠some b
end
end Go.Av
end
noncomputable section
namespace Go.Av
open Go.Proofs Go.RowKit Go.Shelf
section
variable {P:Program} {ρ:Ren}
end
variable [Glob] {P:Program} {ρ:Ren}
end Go.Av
end
