/-
  Chapter 1: the stable sort of at most 20 places by a key, falling.
-/
import Derived.Test.YtcioalhpchindaaGreatDoorGenD
import Derived.Test.YtcioalhpchindaaGreatDoorAvPl
noncomputable section
namespace Go.Av
set_option linter.unusedSimpArgs false
set_option linter.unusedVariables false
def qba (k:Int→Int):List Int→Int→List Int
 |[],n=>[n]
 |x::xs,n=>if k x<k n then qba k xs n++[x]else(x::xs).reverse++[n]
def qav (k:Int→Int) (s:List Int) (n:Int):List Int:=qba k s.reverse n
def yz (k:Int→Int) (l:List Int):Prop:=l.Pairwise fun a b=>k b≤k a
theorem xB (k:Int→Int) (n:Int): ∀r:List Int,(qba k r n).Perm (n::r.reverse)
 |[]=> .refl _
 |x::xs=>by
  unfold qba
  split
  ·rw[List.reverse_cons]
   exact((xB k n xs).append_right [x])
  ·exact List.perm_append_singleton _ _
theorem qa5 (k:Int→Int) (n:Int): ∀r:List Int,yz k r.reverse→yz k (qba k r n)
 |[],_=>List.pairwise_singleton _ _
 |x::xs,h=>by
  unfold qba
  rw[List.reverse_cons]at h
  obtain⟨h1,h2,h3⟩:=List.pairwise_append.1 h
  split
  ·rename_i hc
   refine List.pairwise_append.2 ⟨qa5 k n xs h1,List.pairwise_singleton _ _,fun a ha b hb=>?_⟩
   obtain rfl:=List.mem_singleton.1 hb
   rcases List.mem_cons.1 ((xB k n xs).mem_iff.1 ha)with rfl|ha
   ·omega
   ·exact h3 a ha _ (List.mem_singleton.2 rfl)
  ·rename_i hc
   rw[List.reverse_cons]
   refine List.pairwise_append.2 ⟨h,List.pairwise_singleton _ _,fun a ha b hb=>?_⟩
   obtain rfl:=List.mem_singleton.1 hb
   rcases List.mem_append.1 ha with ha|ha
   ·have:=h3 a ha x (List.mem_singleton.2 rfl);omega
   ·obtain rfl:=List.mem_singleton.1 ha;omega
theorem xz (k:Int→Int) (s:List Int) (n:Int):(qav k s n).Perm (n::s):=by
 have:=xB k n s.reverse
 rwa [List.reverse_reverse]at this
theorem yY (k:Int→Int) (s:List Int) (n:Int):(qav k s n).length=s.length+1:=(xz k s n).length_eq
theorem qdi {k:Int→Int} {s:List Int} (h:yz k s) (n:Int):yz k (qav k s n):=qa5 k n _ (by rw[List.reverse_reverse];exact h)
theorem qfC (k:Int→Int): ∀(l s:List Int),yz k s→yz k (l.foldl (qav k) s)∧(l.foldl (qav k) s).Perm (s++l)
 |[],s,h=>⟨h,by simp⟩
 |n::l,s,h=>by
  obtain⟨h1,h2⟩:=qfC k l _ (qdi h n)
  refine⟨h1,h2.trans ?_⟩
  refine((xz k s n).append_right l).trans ?_
  exact(List.perm_middle (l₁:=s) (l₂:=l) (a:=n)).symm
theorem qfs {α:Type} (r:List α) (x n:α) (rest:List α):((r++x::n::rest).set (r.length+1) x).set r.length n=r++n::x::rest:=by
 rw[List.set_append_right _ _ (by omega),List.set_append_right _ _ (by omega)]
 simp
variable {t s:Int} {w:List Int} {k:Int→Int}
def qan (t s:Int) (w:List Int) (k:Int→Int) (l:List Int):Prop:= ∀x,x∈l→ ∀n,n∈l→ ∃c,zb n x t w s=some c∧(c<0↔k x<k n)
theorem qan.mono {l l':List Int} (h:qan t s w k l) (hl: ∀x,x∈l'→x∈l):qan t s w k l':=fun x hx n hn=>h x (hl x hx) n (hl n hn)
theorem qeo: ∀(r:List Int) (K:Nat) (n:Int) (rest:List Int),r.length<K→(r.length+rest.length<1000)→qan t s w k (n::r)→qf 0 t w s K (r.reverse++n::rest) (r.length:Int)=some (qba k r n++rest)
 |r,0,n,rest,h,_,_=>by omega
 |[],K+1,n,rest,h,_,_=>by
  unfold qf
  rw[if_neg (by simp)]
  rfl
 |x::xs,K+1,n,rest,h,hl,hC=>by
  unfold qf
  have hlen:(xs.reverse).length=xs.length:=List.length_reverse
  simp only[List.length_cons]at h hl
  rw[List.length_cons,List.reverse_cons,List.append_assoc,List.singleton_append,if_pos (by omega),qed (by omega) (by omega),Nat.add_sub_cancel]
  have g1:(xs.reverse++x::n::rest)[xs.length+1]? =some n:=by rw[List.getElem?_append_right (by omega),hlen,Nat.add_sub_cancel_left];rfl
  have g2:(xs.reverse++x::n::rest)[xs.length]? =some x:=by rw[List.getElem?_append_right (by omega),hlen,Nat.sub_self];rfl
  have l1:xs.length+1<(xs.reverse++x::n::rest).length:=by rw[List.length_append,hlen,List.length_cons,List.length_cons];omega
  obtain⟨c,hc1,hc2⟩:=hC x (by simp) n (by simp)
  simp only[kL,g1,g2,Option.bind_some,hc1]
  unfold qba
  by_cases hc:k x<k n
  ·have hsw:=qfs xs.reverse x n rest
   rw[hlen]at hsw
   have g3:((xs.reverse++x::n::rest).set (xs.length+1) x)[xs.length]? =some x:=by rw[List.getElem?_set_ne (by omega),g2]
   simp only[if_pos hc,decide_eq_true (hc2.2 hc),if_true,qa9 l1,Option.bind_some,g3]
   rw[qa9 (by rw[List.length_set];omega),Option.bind_some,hsw,qeo xs K n (x::rest) (by omega) (by simp;omega) (hC.mono (fun y hy=>by rcases List.mem_cons.1 hy with e|hy<;>simp_all)),List.append_assoc]
   rfl
  ·have: ¬c<0:=fun h=>hc (hc2.1 h)
   simp only[if_neg hc,decide_eq_false this,Bool.false_eq_true,if_false]
   simp
theorem qeI {N:Nat} (hN:2000<N) (b:Nat) (hb:b<1000): ∀(K:Nat) (o rest:List Int),1≤o.length→o.length+rest.length=b→b<K+o.length→qan t s w k (o++rest)→
 qd N 0 (b:Int) t w s K (o++rest) (o.length:Int)=some (rest.foldl (qav k) o)
 |0,o,rest,h1,h2,hK,_=>by omega
 |K+1,o,[],h1,h2,hK,_=>by
  simp at h2
  unfold qd
  rw[if_neg (by omega)]
  simp
 |K+1,o,n::rest,h1,h2,hK,hC=>by
  simp at h2
  unfold qd
  have h:=qeo o.reverse N n rest (by simp;omega) (by simp;omega) (hC.mono (fun y hy=>by rcases List.mem_cons.1 hy with e|hy<;>simp_all))
  rw[List.reverse_reverse,List.length_reverse]at h
  rw[if_pos (by omega),h,Option.bind_some,zQ (by omega),←yY k o n]
  rw[show qba k o.reverse n=qav k o n from rfl,qeI hN b hb K (qav k o n) rest (by rw[yY];omega) (by rw[yY];omega) (by rw[yY];omega) (hC.mono (by
   intro y hy
   rcases List.mem_append.1 hy with hy|hy
   ·rcases List.mem_cons.1 ((xz k o n).mem_iff.1 hy)with rfl|hy<;>simp[*]
   ·simp[hy]))]
  rfl
theorem qe7 {N:Nat} (hN:2000<N) {l:List Int} (h1:1≤l.length) (h2:l.length<20) (hC:qan t s w k l): ∃o,qN N l t w s=some o∧yz k o∧o.Perm l:=by
 cases l with
 |nil=>simp at h1
 |cons x xs=>
  obtain⟨f1,f2⟩:=qfC k xs [x] (List.pairwise_singleton _ _)
  refine⟨xs.foldl (qav k) [x],?_,f1,f2⟩
  have hl:=f2.length_eq
  unfold qN kH
  obtain⟨K,rfl⟩: ∃K,N=K+1:=⟨N-1,by omega⟩
  have e0:qm (K+1) ((x::xs).length:Int) t w s (K+1) (x::xs) 0 20=some (x::xs,0):=by
   unfold qm
   rw[if_neg (by omega)]
  have e1:ql (K+1) ((x::xs).length:Int) (K+1) 20=some ():=by
   unfold ql
   rw[if_neg (by omega)]
  have e2:qj (K+1) (x::xs) 0 ((x::xs).length:Int) t w s=some (xs.foldl (qav k) [x]):=by
   unfold qj
   have:=qeI (t:=t) (s:=s) (w:=w) (k:=k) hN (x::xs).length (by omega) (K+1) [x] xs (by simp) (by simp;omega) (by simp at h2⊢;omega) hC
   rw[show w64 ((0:Int)+1)=(([x]:List Int).length:Int)from(by decide:w64 ((0:Int)+1)=1)]
   rw[show qd (K+1) 0 ((x::xs).length:Int) t w s (K+1) (x::xs) _=_ from this]
   rfl
  have hl':(x::xs).length=(xs.foldl (qav k) [x]).length:=by rw[hl];rfl
  rw[e0,Option.bind_some]
  simp only
  rw[e2,Option.bind_some,if_pos hl',Option.bind_some,e1]
  simp only[Option.bind_some]
  rw[if_pos hl']
  rfl
end Go.Av
