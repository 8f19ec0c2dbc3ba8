/-
  Words of crossings: what the program and the reference make of them, and the law of words.
-/
import Derived.Test.YtmffnhniejfgpaaGreatDoorQGenB
import Derived.Test.YtmffnhniejfgpaaGreatDoorAvPt
noncomputable section
set_option linter.unusedVariables false
set_option linter.unusedSimpArgs false
set_option maxRecDepth 100000
section
namespace Go.Av
def vX (n c:Int):Bool:=decide (c≠0)&&decide (-n<c)&&decide (c<n)
def qa8 (n:Int) (w:List Int):Int:=if n<1\/12<n then 3 else if 200<w.length then 5 else if w.all (vX n)=true then 0 else 3
theorem letter_eq {n:Int} (h1:1<=n) (h2:n<=12) (c:Int):jI n c=some (vX n c):=by
 unfold jI vX
 have hw:w64 (0-n)= -n:=by rw[vQ (by omega) (by omega)];omega
 rw[hw]
 by_cases a:c=0
 ·simp[a]
 by_cases b: -n<c
 ·simp[a,b]
 simp[a,b]
theorem qdz {n:Int} (h1:1<=n) (h2:n<=12) (c:Int):jk n c=some (!vX n c):=by
 unfold jk vX
 have hw:w64 (0-n)= -n:=by rw[vQ (by omega) (by omega)];omega
 rw[hw]
 by_cases a:c=0
 ·simp[a]
 by_cases b: -n<c
 ·rw[if_neg a,if_neg (by omega)]
  by_cases d:c<n
  ·simp[a,b,d]
  simp[a,b,d];omega
 rw[if_neg a,if_pos (by omega)]
 simp[a,b]
theorem qcM {n:Int} {w:List Int} {i:Nat} (h:i<w.length):(w.drop i).all (vX n)=(vX n w[i]&&(w.drop (i+1)).all (vX n)):=by
 rw[List.drop_eq_getElem_cons h,List.all_cons]
theorem qfe {n:Int} (h1:1<=n) (h2:n<=12) {w:List Int} (hl:w.length<=300): ∀(K i:Nat),i<=w.length->w.length<K+i->kr n w K (i:Int)=some (if(w.drop i).all (vX n)=true then .inl ()else .inr 3)
 |0,i,h,hK=>by omega
 |K+1,i,h,hK=>by
  unfold kr
  by_cases hi:i<w.length
  ·rw[if_pos (by omega),zk,Ya hi,ZB,letter_eq h1 h2,ZB,qcM hi]
   cases c:vX n w[i]with
   |false=>rfl
   |true=>
    rw[if_neg (by decide),ji (by omega),qfe h1 h2 hl K (i+1) (by omega) (by omega),Bool.true_and]
  rw[if_neg (by omega),List.drop_eq_nil_of_le (by omega)]
  rfl
theorem qdp {N:Nat} (hN:2000<N) {n:Int} {w:List Int} (hl:w.length<=300):zS N n w=some (qa8 n w):=by
 unfold zS qa8
 by_cases a:n<1
 ·rw[if_pos a,ZB,if_pos rfl,if_pos (.inl a)]
 by_cases b:12<n
 ·rw[if_neg a,decide_eq_true (by omega),ZB,if_pos rfl,if_pos (.inr b)]
 rw[if_neg a,decide_eq_false (by omega),ZB,if_neg (by decide),if_neg (show¬(n<1\/12<n)by omega)]
 by_cases c:200<w.length
 ·rw[if_pos (by omega),if_pos c]
 rw[if_neg (by omega),if_neg c,show(0:Int)=((0:Nat):Int)from rfl,qfe (by omega) (by omega) hl N 0 (by omega) (by omega),List.drop_zero]
 cases w.all (vX n)<;>rfl
theorem qfd {n:Int} (h1:1<=n) (h2:n<=12) {w:List Int} (hl:w.length<=300): ∀(K i:Nat),i<=w.length->w.length<K+i->((w.drop i).all (vX n)=true/\ql w n K (i:Int)=some (.inl ()))\/((w.drop i).all (vX n)=false/\ ∃j:Nat,ql w n K (i:Int)=some (.inr (j:Int)))
 |0,i,h,hK=>by omega
 |K+1,i,h,hK=>by
  unfold ql zB
  by_cases hi:i<w.length
  ·rw[if_pos (by omega),zk,Ya hi,ZB,qdz h1 h2,ZB,ZB,qcM hi]
   cases c:vX n w[i]with
   |false=>exact .inr ⟨rfl,i,rfl⟩
   |true=>
    rw[if_neg (by decide),ji (by omega),Bool.true_and]
    exact qfd h1 h2 hl K (i+1) (by omega) (by omega)
  rw[if_neg (by omega),List.drop_eq_nil_of_le (by omega)]
  exact .inl ⟨rfl,rfl⟩
theorem qdZ {N:Nat} (hN:10<N) (a b:Int):vg N [a,b]=some (if a=0 then b else a):=by
 obtain⟨K,rfl⟩: ∃K,N=K+1+1+1:=⟨N-3,by omega⟩
 have w1:w64 1=1:=rfl
 have w2:w64 2=2:=rfl
 have i0: ∀a b:Int,idx [a,b] 0=some a:=fun _ _=>rfl
 have i1: ∀a b:Int,idx [a,b] 1=some b:=fun _ _=>rfl
 unfold vg
 by_cases ha:a=0
 ·by_cases hb:b=0
  ·simp[zm,i0,i1,ha,hb,w1,w2]
  simp[zm,i0,i1,ha,hb,w1,w2]
 simp[zm,i0,ha]
theorem qbo (b:Bool) (e:Int):zw b e=some (if b=true then e else 0):=by
 unfold zw
 cases b<;>rfl
theorem qb0 {N:Nat} (hN:2000<N) {n:Int} {w:List Int} (hl:w.length<=300):qR N n w=some (qa8 n w):=by
 unfold qR zO qa8
 by_cases a:n<1\/12<n
 ·have:(Option.bind (if n<1 then(zw true 3).bind fun r2=>some r2 else(zw (decide (n>12)) 3).bind fun r3=>some r3:Option Int) fun n4=>some n4)=some 3:=by
   by_cases b:n<1
   ·rw[if_pos b];rfl
   rw[if_neg b,decide_eq_true (by omega)];rfl
  rw[this,ZB,qbo,ZB,qdZ (by omega),if_neg (by decide),ZB,if_pos (by decide),if_pos a]
 have:(Option.bind (if n<1 then(zw true 3).bind fun r2=>some r2 else(zw (decide (n>12)) 3).bind fun r3=>some r3:Option Int) fun n4=>some n4)=some 0:=by
  rw[if_neg (by omega),decide_eq_false (by omega)];rfl
 rw[this,ZB,qbo,ZB,qdZ (by omega),if_pos rfl,ZB,if_neg a]
 by_cases c:200<w.length
 ·rw[decide_eq_true (show(w.length:Int)>200 by omega),if_pos rfl,if_pos (by decide),if_pos c]
 rw[decide_eq_false (show¬(w.length:Int)>200 by omega),if_neg Bool.false_ne_true,if_neg (show¬(!decide ((0:Int)=0))=true by decide),if_neg c]
 unfold kD zo
 rcases qfd (n:=n) (by omega) (by omega) hl N 0 (by omega) (by omega)with⟨g1,g2⟩|⟨g1,j,g2⟩<;>rw[show((0:Nat):Int)=0 from rfl]at g2
 ·rw[g2,<-List.drop_zero (l:=w),g1]
  rfl
 rw[g2,<-List.drop_zero (l:=w),g1]
 simp only[ZB]
 rw[decide_eq_true (show(j:Int)>=0 by omega),qbo]
 rfl
structure qdk (n:Nat) (w:List Int):Prop where
 n1:1<=n
 n2:n<=12
 len:w.length<=200
 let_: ∀c∈w,c≠0/\ -(n:Int)<c/\c<n
theorem qgq {n:Int} {w:List Int} (h:qa8 n w=0): ∃k:Nat,n=k/\qdk k w:=by
 unfold qa8 at h
 split at h
 ·omega
 rename_i a
 split at h
 ·omega
 rename_i b
 split at h
 ·rename_i c
  refine⟨n.toNat,by omega,by omega,by omega,by omega,fun x hx=>?_⟩
  have:=Yp.1 c x hx
  simp only[vX,Bool.and_eq_true,decide_eq_true_eq]at this
  omega
 omega
theorem qeV {a:List Int} (hl:a.length<=100000): ∀(K i:Nat),i<=a.length->a.length<K+i->kz a a K (i:Int)=some (.inl ())
 |0,i,h,hK=>by omega
 |K+1,i,h,hK=>by
  unfold kz
  by_cases hi:i<a.length
  ·rw[if_pos (by omega),zk,Ya hi,ZB,ZB,if_neg (by simp),ji (by omega)]
   exact qeV hl K (i+1) (by omega) (by omega)
  rw[if_neg (by omega)]
theorem yA {N:Nat} {a:List Int} (hN:a.length<N) (hl:a.length<=100000):qP N a 0 0 a=some true:=by
 unfold qP jK
 rw[if_neg (by decide),if_pos rfl,if_neg (by simp),show(0:Int)=((0:Nat):Int)from rfl,qeV hl N 0 (by omega) (by omega)]
 rfl
theorem qfj {N:Nat} {e:Int} (h:e≠0) (l:List Int):qP N [] e e l=some true:=by
 unfold qP
 rw[if_pos (by simp[h]),if_pos (show((([]:List Int).length:Nat):Int)=0 from rfl),decide_eq_true rfl]
 rfl
theorem qgy {w:List Int} (hl:w.length<=300): ∀(K i:Nat),i<=w.length->w.length<K+i->qE w K ((w.take i).map fun x=>w64 (0-x)) (i:Int)=some (w.map fun x=>w64 (0-x))
 |0,i,h,hK=>by omega
 |K+1,i,h,hK=>by
  unfold qE jY
  by_cases hi:i<w.length
  ·rw[if_pos (by omega),zk,Ya hi,ZB,ZB,qaE (by simp;omega) (by simp;omega),ZB,ji (by omega)]
   have e:(w.take i).map (fun x=>w64 (0-x))++[w64 (0-w[i])]=(w.take (i+1)).map fun x=>w64 (0-x):=by
    rw[List.take_succ_eq_append_getElem hi,List.map_append]
    rfl
   rw[e]
   exact qgy hl K (i+1) (by omega) (by omega)
  rw[if_neg (by omega),List.take_of_length_le (by omega)]
theorem qbV {N:Nat} (hN:2000<N) {w:List Int} (hl:w.length<=300):kF N w=some (w.map fun x=>w64 (0-x)):=by
 unfold kF
 have:=qgy hl N 0 (by omega) (by omega)
 rw[List.take_zero,List.map_nil]at this
 rw[show(0:Int)=((0:Nat):Int)from rfl,this]
 rfl
theorem qfN {w:List Int} (hl:w.length<=300): ∀(K i:Nat),i<=w.length->w.length<K+i->zx w K ((w.take i).map fun x=>w64 (0-x)) (i:Int)=some (w.map fun x=>w64 (0-x))
 |0,i,h,hK=>by omega
 |K+1,i,h,hK=>by
  unfold zx
  by_cases hi:i<w.length
  ·rw[if_pos (by omega),zk,Ya hi,ZB,qaE (by simp;omega) (by simp;omega),ZB,ji (by omega)]
   have e:(w.take i).map (fun x=>w64 (0-x))++[w64 (0-w[i])]=(w.take (i+1)).map fun x=>w64 (0-x):=by
    rw[List.take_succ_eq_append_getElem hi,List.map_append]
    rfl
   rw[e]
   exact qfN hl K (i+1) (by omega) (by omega)
  rw[if_neg (by omega),List.take_of_length_le (by omega)]
theorem qdm {N:Nat} (hN:2000<N) {w:List Int} (hl:w.length<=300):jf N w=some (w.map fun x=>w64 (0-x)):=by
 unfold jf
 have:=qfN hl N 0 (by omega) (by omega)
 rw[List.take_zero,List.map_nil]at this
 rw[show(0:Int)=((0:Nat):Int)from rfl,this]
 rfl
theorem qf3 {w:List Int} (hl:w.length<=300): ∀(K i:Nat) (l:List Int),i<=w.length->i<K->l.length+i=w.length->ze w K l ((i:Int)-1)=some (l++((w.take i).reverse.map fun x=>w64 (0-x)))
 |0,i,l,h,hK,hs=>by omega
 |K+1,i,l,h,hK,hs=>by
  unfold ze
  cases i with
  |zero=>rw[if_neg (by omega),List.take_zero];simp
  |succ i=>
   have hi:i<w.length:=by omega
   rw[show((i+1:Nat):Int)-1=(i:Int)by omega,if_pos (by omega),zk,Ya hi,ZB,qaE (by simp only[Yr,List.length_nil];omega) (by simp only[Yr,List.length_nil];omega),ZB,show w64 ((i:Int)-1)=(i:Int)-1 from vQ (by omega) (by omega),
    qf3 hl K i _ (by omega) (by omega) (by simp;omega),List.take_succ_eq_append_getElem hi,List.reverse_append,List.map_append,Yz]
   rfl
theorem qcw {N:Nat} (hN:2000<N) {w:List Int} (hl:w.length<=300):zW N w=some ((w.map fun x=>w64 (0-x)).reverse):=by
 unfold zW
 rw[vQ (by omega) (by omega),qf3 hl N w.length [] (by omega) (by omega) (by simp),List.take_length]
 simp
theorem qgz {l0:List Int} {n:Nat} (hn:l0.length=n) (hb:n<=100000): ∀(K i:Nat) (l:List Int),l.length=n->2*i<=n+1->n+1<K+2*i->(∀k:Nat,k<n->l[k]? =if k<i\/n<=k+i then l0[n-1-k]? else l0[k]?)->qy K l (i:Int) ((n:Int)-1-i)=some l0.reverse
 |0,i,l,hl,h2,hK,hk=>by omega
 |K+1,i,l,hl,h2,hK,hk=>by
  unfold qy
  by_cases hi:(i:Int)<(n:Int)-1-i
  ·have e1:(n:Int)-1-i=((n-1-i:Nat):Int):=by omega
   have e2:w64 (((n-1-i:Nat):Int)-1)=(n:Int)-1-((i+1:Nat):Int):=by rw[vQ (by omega) (by omega)];omega
   have q1:=hk (n-1-i) (by omega)
   have q2:=hk i (by omega)
   rw[if_neg (by omega)]at q1 q2
   have g1:l0[n-1-i]? =some l0[n-1-i]:=Ya (by omega)
   have g2:l0[i]? =some l0[i]:=Ya (by omega)
   rw[g1]at q1
   rw[g2]at q2
   rw[if_pos hi,e1,zk,q1,ZB,zk,q2,ZB,yf (by omega),ZB,zk,Yw (by omega),q1,ZB,yf (by simp;omega),ZB,ji (by omega),e2]
   refine qgz hn hb K (i+1) _ (by simp;omega) (by omega) (by omega) (fun k hkn=>?_)
   by_cases c1:k=n-1-i
   ·subst c1
    rw[List.getElem?_set_self (by simp;omega),if_pos (by omega),show n-1-(n-1-i)=i by omega,g2]
   rw[Yw (fun e=>c1 e.symm)]
   by_cases c2:k=i
   ·subst c2
    rw[List.getElem?_set_self (by omega),if_pos (by omega),g1]
   rw[Yw (fun e=>c2 e.symm),hk k hkn]
   by_cases c3:k<i\/n<=k+i
   ·rw[if_pos c3,if_pos (by omega)]
   rw[if_neg c3,if_neg (by omega)]
  rw[if_neg hi]
  congr 1
  apply List.ext_getElem?
  intro k
  by_cases hkn:k<n
  ·rw[hk k hkn,List.getElem?_reverse (by omega),hn]
   by_cases c3:k<i\/n<=k+i
   ·rw[if_pos c3]
   rw[if_neg c3,show n-1-k=k by omega]
  rw[Yg (by omega),Yg (by simp;omega)]
theorem qdv {N:Nat} {l:List Int} (hN:l.length+1<N) (hb:l.length<=100000):kR N l=some l.reverse:=by
 unfold kR
 have:=qgz (l0:=l) rfl hb N 0 l rfl (by omega) (by omega) (fun k hk=>by rw[if_neg (by omega)])
 rw[vQ (by omega) (by omega),show((l.length:Int)-1)=(l.length:Int)-1-((0:Nat):Int)by omega,show(0:Int)=((0:Nat):Int)from rfl]
 rw[this]
 rfl
theorem qdI {N:Nat} (hN:2000<N) {w:List Int} (hl:w.length<=300):zG N w=some ((w.map fun x=>w64 (0-x)).reverse):=by
 unfold zG
 rw[qbV hN hl,ZB,qdv (by simp;omega) (by simp;omega),ZB,if_pos (by simp),ZB]
theorem qev {x:Int} (h:x≠0):vM x=jD x:=by
 unfold vM jD
 by_cases a:x<0
 ·rw[if_pos a,if_pos (show x<1 by omega),if_neg (by omega)]
 rw[if_neg a,if_neg (show¬x<1 by omega),if_pos (by decide)]
theorem qe7 (x:Int):jD x=some (if x<0 then-1 else 1):=by
 unfold jD
 split<;>rfl
theorem qgC {w:List Int} (hl:w.length<=300) (h0: ∀c∈w,c≠0): ∀(K i:Nat) (s:Int),i<=w.length->w.length<K+i-> ∃r,kE w K s (i:Int)=some r/\kw w K s (i:Int)=some r
 |0,i,s,h,hK=>by omega
 |K+1,i,s,h,hK=>by
  unfold kE kw
  by_cases hi:i<w.length
  ·rw[if_pos (by omega),if_pos (by omega),zk,Ya hi,ZB,ZB,qev (h0 _ (List.getElem_mem hi)),qe7,ZB,ZB,ji (by omega)]
   exact qgC hl h0 K (i+1) _ (by omega) (by omega)
  rw[if_neg (by omega),if_neg (by omega)]
  exact⟨s,rfl,rfl⟩
theorem qcD {w:List Int} (hl:w.length<=300): ∀(K i:Nat) (o:Option (List Int)),(∀l,o=some l->l.length<=i)->i<=w.length->w.length<K+i-> ∃r,qV w K o (i:Int)=some r/\ko w K o (i:Int)=some r/\ ∀l,r=some l->l.length<=300
 |0,i,o,ho,h,hK=>by omega
 |K+1,i,o,ho,h,hK=>by
  unfold qV ko
  by_cases hi:i<w.length
  ·have hx:w[i]? =some w[i]:=Ya hi
   rw[if_pos (by omega),if_pos (by omega),zk,hx]
   generalize w[i]=x at*
   cases o with
   |none=>
    simp only[ZB]
    rw[if_neg (by decide),if_neg (by decide)]
    simp only[ZB,ZF,if_false]
    rw[ji (by omega)]
    exact qcD hl K (i+1) (some [x]) (fun l hl'=>by cases hl';simp) (by omega) (by omega)
   |some l=>
    have hll:=ho l rfl
    simp only[ZB]
    by_cases hp:0<l.length
    ·have e1:w64 ((l.length:Int)-1)=((l.length-1:Nat):Int):=qgZ (by omega) hp
     have hy:l[l.length-1]? =some l[l.length-1]:=Ya (by omega)
     rw[if_pos (by omega),e1,zk,hy]
     generalize l[l.length-1]=y at*
     simp only[ZB]
     by_cases hc:y=w64 (0-x)
     ·rw[decide_eq_true hc]
      simp only[if_true]
      have hct:cut l 0 (w64 ((l.length:Int)-1))=some (l.take (l.length-1)):=by rw[e1,qfv (by omega)]
      rw[e1]at hct
      simp only[e1,hct,ZB]
      rw[ji (by omega)]
      refine qcD hl K (i+1) _ (fun l' hl'=>?_) (by omega) (by omega)
      cases hl';simp;omega
     rw[decide_eq_false hc]
     simp only[ZF,if_false]
     rw[qaE (by simp only[Yr,List.length_nil];omega) (by simp only[Yr,List.length_nil];omega)]
     simp only[ZB]
     rw[ji (by omega)]
     refine qcD hl K (i+1) _ (fun l' hl'=>?_) (by omega) (by omega)
     cases hl';simp;omega
    rw[if_neg (by omega)]
    simp only[ZB,ZF,if_false]
    rw[qaE (by simp only[Yr,List.length_nil];omega) (by simp only[Yr,List.length_nil];omega)]
    simp only[ZB]
    rw[ji (by omega)]
    refine qcD hl K (i+1) _ (fun l' hl'=>?_) (by omega) (by omega)
    cases hl';simp;omega
  rw[if_neg (by omega),if_neg (by omega)]
  exact⟨o,rfl,rfl,fun l hl'=>by have:=ho l hl';omega⟩
end Go.Av
end
section
namespace Go.Av
def vw (n:Nat):List Int:=(List.range n).map fun k:Nat=>(k:Int)
theorem yz (n:Nat):(vw n).length=n:=by simp[vw]
theorem xE {n k:Nat} (h:k<n):(vw n)[k]? =some (k:Int):=by
 simp[vw,List.getElem?_map,List.getElem?_range h]
theorem qdb (n:Nat):vw (n+1)=vw n++[(n:Int)]:=by simp[vw,List.range_succ]
theorem qf9 {c:Int} (h: -1000<c/\c<1000):yC c=some ((c.natAbs:Nat):Int):=by
 unfold yC
 rw[vQ (by omega) (by omega)]
 by_cases a:0-c>c
 ·rw[if_pos a];congr 1;omega
 rw[if_neg a];congr 1;omega
theorem qfO {c:Int} (h: -1000<c/\c<1000):vL c=some ((c.natAbs:Nat):Int):=by
 unfold vL
 rw[vQ (by omega) (by omega)]
 by_cases a:0-c>c
 ·rw[if_pos a];congr 1;omega
 rw[if_neg a];congr 1;omega
theorem qdQ {n:Nat} (hn:n<=1000) {l2:List Int} (h2:l2.length=n): ∀(K i:Nat) (l:List Int),l.length=n->i<=n->n<K+i->(∀k,k<i->l[k]? =some (k:Int))->qQ l2 K l (i:Int)=some (vw n)
 |0,i,l,hl,h,hK,hk=>by omega
 |K+1,i,l,hl,h,hK,hk=>by
  unfold qQ
  by_cases hi:i<n
  ·rw[if_pos (by omega),zk,Ya (by omega),ZB,yf (by omega),ZB,ji (by omega)]
   refine qdQ hn h2 K (i+1) _ (by simpa using hl) (by omega) (by omega) (fun k hki=>?_)
   by_cases e:k=i
   ·subst e;rw[List.getElem?_set_self (by omega)]
   rw[Yw (fun c=>e c.symm)];exact hk k (by omega)
  rw[if_neg (by omega)]
  congr 1
  apply List.ext_getElem?
  intro k
  by_cases hkn:k<n
  ·rw[hk k (by omega),xE hkn]
  rw[Yg (by omega),Yg (by rw[yz];omega)]
theorem qeD {n:Nat} (hn:n<=1000):mk 8 (n:Int) (0:Int)=some (List.replicate n 0):=by
 unfold mk
 rw[if_pos (by omega)]
 simp
theorem qfz {N n:Nat} (hN:2000<N) (hn:n<=1000):zn N (n:Int)=some (vw n):=by
 unfold zn
 rw[qeD hn,ZB,show(0:Int)=((0:Nat):Int)from rfl,qdQ hn (by simp) N 0 _ (by simp) (by omega) (by omega) (fun k hk=>by omega),ZB]
theorem qcR {n:Nat} (hn:n<=1000): ∀(K i:Nat),i<=n->n<K+i->qO (n:Int) K (vw i) (i:Int)=some (vw n)
 |0,i,h,hK=>by omega
 |K+1,i,h,hK=>by
  unfold qO
  by_cases hi:i<n
  ·rw[if_pos (by omega),qaE (by rw[yz];simp only[Yr,List.length_nil];omega) (by rw[yz];simp only[Yr,List.length_nil];omega),ZB,ji (by omega),<-qdb]
   exact qcR hn K (i+1) (by omega) (by omega)
  rw[if_neg (by omega),show i=n by omega]
theorem qex {N n:Nat} (hN:2000<N) (hn:n<=1000):zD N (n:Int)=some (vw n):=by
 unfold zD
 have:=qcR hn N 0 (by omega) (by omega)
 rw[show vw 0=([]:List Int)from rfl]at this
 rw[show(0:Int)=((0:Nat):Int)from rfl,this,ZB]
structure qaF (n:Nat) (row p:List Int):Prop where
 rl:row.length=n
 pl:p.length=n
 at_: ∀k,k<n-> ∃v:Nat,v<n/\row[k]? =some (v:Int)/\p[v]? =some (k:Int)
 all: ∀v,v<n-> ∃k,k<n/\row[k]? =some (v:Int)
theorem qaF.iota (n:Nat):qaF n (vw n) (vw n):=
 ⟨yz n,yz n,fun k hk=>⟨k,hk,xE hk,xE hk⟩,fun v hv=>⟨v,hv,xE hv⟩⟩
theorem qaF.back {n:Nat} {row p:List Int} (h:qaF n row p) {k v:Nat} (hk:k<n) (e:row[k]? =some (v:Int)):v<n/\p[v]? =some (k:Int):=by
 obtain⟨u,hu,e1,e2⟩:=h.at_ k hk
 rw[e]at e1
 have:v=u:=by have:=Ye e1;omega
 subst this
 exact⟨hu,e2⟩
theorem qaF.inj {n:Nat} {row p:List Int} (h:qaF n row p) {k k' v:Nat} (hk:k<n) (hk':k'<n) (e:row[k]? =some (v:Int)) (e':row[k']? =some (v:Int)):k=k':=by
 have h1:=(h.back hk e).2
 have h2:=(h.back hk' e').2
 rw[h1]at h2
 have:=Ye h2
 omega
theorem qaF.swap {n:Nat} {row p:List Int} (h:qaF n row p) {i a b:Nat} (hi:i+1<n) (ea:row[i]? =some (a:Int)) (eb:row[i+1]? =some (b:Int)):
 a≠b/\qaF n ((row.set i (b:Int)).set (i+1) (a:Int)) ((p.set a ((i+1:Nat):Int)).set b (i:Int)):=by
 have rl:=h.rl
 have pl:=h.pl
 obtain⟨ha,pa⟩:=h.back (by omega) ea
 obtain⟨hb,pb⟩:=h.back hi eb
 have ne:a≠b:=fun e=>by
  subst e
  have:=h.inj (by omega) hi ea eb
  omega
 refine⟨ne,by simpa using rl,by simpa using pl,fun k hk=>?_,fun v hv=>?_⟩
 ·by_cases k1:k=i+1
  ·subst k1
   refine⟨a,ha,by rw[List.getElem?_set_self (by simp;omega)],?_⟩
   rw[Yw (fun e=>ne e.symm),List.getElem?_set_self (by omega)]
  by_cases k2:k=i
  ·subst k2
   refine⟨b,hb,by rw[Yw (by omega),List.getElem?_set_self (by omega)],?_⟩
   rw[List.getElem?_set_self (by simp;omega)]
  obtain⟨v,hv,e1,e2⟩:=h.at_ k hk
  have va:v≠a:=fun e=>by
   subst e
   have:=h.inj hk (by omega) e1 ea
   omega
  have vb:v≠b:=fun e=>by
   subst e
   have:=h.inj hk hi e1 eb
   omega
  refine⟨v,hv,by rw[Yw (fun e=>k1 e.symm),Yw (fun e=>k2 e.symm)];exact e1,?_⟩
  rw[Yw (fun e=>vb e.symm),Yw (fun e=>va e.symm)]
  exact e2
 obtain⟨k,hk,e⟩:=h.all v hv
 by_cases k1:k=i+1
 ·subst k1
  rw[eb]at e
  have:v=b:=by have:=Ye e;omega
  subst this
  exact⟨i,by omega,by rw[Yw (by omega),List.getElem?_set_self (by omega)]⟩
 by_cases k2:k=i
 ·subst k2
  rw[ea]at e
  have:v=a:=by have:=Ye e;omega
  subst this
  exact⟨k+1,hi,by rw[List.getElem?_set_self (by simp;omega)]⟩
 exact⟨k,hk,by rw[Yw (fun e=>k1 e.symm),Yw (fun e=>k2 e.symm)];exact e⟩
theorem qd2 {n:Nat} {w:List Int} (W:qdk n w): ∀(K i:Nat) (p row:List Int),qaF n row p->i<=w.length->w.length<K+i->
 ∃p' row',qz w K p row (i:Int)=some p'/\qU w K row (i:Int)=some row'/\qaF n row' p'
 |0,i,p,row,hp,h,hK=>by omega
 |K+1,i,p,row,hp,h,hK=>by
  have n1:=W.n1
  have n2:=W.n2
  have wl:=W.len
  unfold qz qU
  by_cases hi:i<w.length
  ·have hx:w[i]? =some w[i]:=Ya hi
   have hc:=W.let_ _ (List.getElem_mem hi)
   generalize w[i]=c at*
   obtain⟨m,hm⟩: ∃m:Nat,c.natAbs=m+1:=⟨c.natAbs-1,by omega⟩
   have hm2:m+1<n:=by omega
   have q1:w64 (((m+1:Nat):Int)-1)=(m:Int):=by rw[vQ (by omega) (by omega)];omega
   have q2:w64 ((m:Int)+1)=((m+1:Nat):Int):=ji (by omega)
   obtain⟨a,ha,ea,pa⟩:=hp.at_ m (by omega)
   obtain⟨b,hb,eb,pb⟩:=hp.at_ (m+1) hm2
   obtain⟨ne,hp'⟩:=hp.swap hm2 ea eb
   have rl:=hp.rl
   have pl:=hp.pl
   rw[if_pos (by omega),if_pos (by omega),zk,hx,ZB,ZB,qf9 (by omega),qfO (by omega),hm,ZB,ZB,q1,q2,zk,ea,zk,eb,ZB,ZB,ZB,ZB]
   have hr:jl p c (a:Int) (b:Int)=some ((p.set a ((m+1:Nat):Int)).set b (m:Int)):=by
    unfold jl
    rw[zk,pa,ZB,q2,yf (by omega),ZB,zk,Yw ne,pb,ZB,q1,yf (by simp;omega),ZB]
   rw[hr,ZB,yf (by omega),ZB,ZB,zk,Yw (by omega),eb,ZB,ZB,yf (by simp;omega),ZB,ZB,ji (by omega)]
   exact qd2 W K (i+1) _ _ hp' (by omega) (by omega)
  rw[if_neg (by omega),if_neg (by omega)]
  exact⟨p,row,rfl,rfl,hp⟩
theorem qd7 {n:Nat} (hn:n<=1000) {row p:List Int} (hp:qaF n row p): ∀(K i:Nat) (l:List Int),l.length=n->i<=n->n<K+i->(∀k,k<i-> ∀v:Nat,row[k]? =some (v:Int)->l[v]? =some (k:Int))->kY row K l (i:Int)=some p
 |0,i,l,hl,h,hK,hk=>by omega
 |K+1,i,l,hl,h,hK,hk=>by
  have rl:=hp.rl
  have pl:=hp.pl
  unfold kY
  by_cases hi:i<n
  ·obtain⟨v,hv,e1,e2⟩:=hp.at_ i hi
   rw[if_pos (by omega),zk,e1,ZB,zk,Ya (by omega),ZB,yf (by omega),ZB,ji (by omega)]
   refine qd7 hn hp K (i+1) _ (by simpa using hl) (by omega) (by omega) (fun k hki u hu=>?_)
   by_cases e:k=i
   ·subst e
    rw[e1]at hu
    have:v=u:=by have:=Ye hu;omega
    subst this
    rw[List.getElem?_set_self (by omega)]
   have:v≠u:=fun c=>by
    subst c
    exact e (hp.inj (by omega) hi hu e1)
   rw[Yw this]
   exact hk k (by omega) u hu
  rw[if_neg (by omega)]
  congr 1
  apply List.ext_getElem?
  intro v
  by_cases hv:v<n
  ·obtain⟨k,hkn,e⟩:=hp.all v hv
   rw[hk k (by omega) v e,(hp.back hkn e).2]
  rw[Yg (by omega),Yg (by omega)]
theorem qef {N n:Nat} (hN:2000<N) {w:List Int} (W:qdk n w): ∃p,vR N (n:Int) w=some p/\vO N (n:Int) w=some p/\p.length=n:=by
 have n2:=W.n2
 have wl:=W.len
 obtain⟨p,row,h1,h2,h3⟩:=qd2 W N 0 (vw n) (vw n) (qaF.iota n) (by omega) (by omega)
 refine⟨p,?_,?_,h3.pl⟩
 ·unfold vR zM zC
  rw[qfz hN (by omega),ZB,ZB,ZB,show(0:Int)=((0:Nat):Int)from rfl,h1]
  rfl
 unfold vO jc jW
 have h4:=qd7 (by omega) h3 N 0 (List.replicate n 0) (by simp) (by omega) (by omega) (fun k hk=>by omega)
 rw[show((0:Nat):Int)=0 from rfl]at h2 h4
 rw[qex hN (by omega),ZB,h2,ZB,ZB,h3.rl,qeD (by omega),ZB,h4,ZB,ZB]
theorem qax {N:Nat} (hN:2000<N) (n:Int) (w:List Int):jh N n w=some true:=by
 unfold jh awk
 simp only[ZB,Bool.not_true,ZF,if_false]
 by_cases hl:(w.length:Int)>220
 ·rw[decide_eq_true hl]
  rfl
 rw[decide_eq_false hl]
 simp only[ZF,if_false]
 have hl:w.length<=300:=by omega
 rw[qdp hN hl,ZB,qb0 hN hl,ZB,if_neg (by simp)]
 unfold yT jJ vF jX vH
 simp only[qb0 hN hl,ZB]
 by_cases hc:qa8 n w=0
 ·obtain⟨k,rfl,W⟩:=qgq hc
  have n2:=W.n2
  have z: ¬(!decide (qa8 (k:Int) w=0))=true:=by simp[hc]
  simp only[if_neg z]
  obtain⟨p,p1,p2,p3⟩:=qef hN W
  obtain⟨x,x1,x2⟩:=qgC hl (fun c h=>(W.let_ c h).1) N 0 0 (by omega) (by omega)
  obtain⟨o,o1,o2,o3⟩:=qcD hl N 0 none (fun l h=>by cases h) (by omega) (by omega)
  unfold jG jH jd jv
  rw[p1,p2,qbV hN hl,qdI hN hl,qcw hN hl,qdm hN hl]
  simp only[show(0:Int)=((0:Nat):Int)from rfl]at x1 x2 o1 o2⊢
  rw[x1,x2,o1,o2]
  simp only[ZB]
  have m:=yA (N:=N) (a:=w.map fun x=>w64 (0-x)) (by simp;omega) (by simp;omega)
  have v:=yA (N:=N) (a:=(w.map fun x=>w64 (0-x)).reverse) (by simp;omega) (by simp;omega)
  have q:=yA (N:=N) (a:=p) (by omega) (by omega)
  have i:zz x 0 0 x=some true:=by
   unfold zz
   simp
  simp only[show((0:Nat):Int)=0 from rfl]
  rw[q,ZB,if_pos rfl,i,ZB,if_pos rfl]
  cases o with
  |none=>
   have r:=yA (N:=N) (a:=([]:List Int)) (by simp;omega) (by simp)
   simp only[hof,Option.getD_none,YN]
   rw[r,ZB,if_pos rfl,v,ZB,if_pos rfl,m]
   rfl
  |some l=>
   have hl3:=o3 l rfl
   have r:=yA (N:=N) (a:=l) (by omega) (by omega)
   simp only[hof,Option.getD_none,YN]
   rw[r,ZB,if_pos rfl,v,ZB,if_pos rfl,m]
   rfl
 have z:(!decide (qa8 n w=0))=true:=by simp[hc]
 have i:zz 0 (qa8 n w) (qa8 n w) 0=some true:=by
  unfold zz
  rw[if_pos z]
  simp
 simp only[if_pos z,qfj hc,i,ZB,if_true]
end Go.Av
end
