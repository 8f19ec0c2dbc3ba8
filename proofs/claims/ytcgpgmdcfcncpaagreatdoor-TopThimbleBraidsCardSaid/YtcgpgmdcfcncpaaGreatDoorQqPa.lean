/-
  Words of crossings: what the program and the reference make of them, and the law of words.
-/
import Derived.Test.YtcgpgmdcfcncpaaGreatDoorQGenJ
import Derived.Test.YtcgpgmdcfcncpaaGreatDoorAvPt
import Derived.KernelRfl
noncomputable section
set_option linter.unusedVariables false
set_option linter.unusedSimpArgs false
set_option maxRecDepth 100000
set_option linter.unusedSectionVars false
section
namespace Go.Av
def qcY (n c:Int):Bool:=decide (c≠0)&&decide (-n<c)&&decide (c<n)
def chkW (n:Int) (w:List Int):Int:=if n<1\/12<n then 3 else if 200<w.length then 5 else if w.all (qcY n)=true then 0 else 3
theorem qlX {n:Int} (h1:1<=n) (h2:n<=12) (c:Int):qbd n c=some (!qcY n c):=by
 unfold qbd qcY
 have hw:w64 (0-n)= -n:=by rw[z8 (by omega) (by omega)];omega
 rw[hw]
 by_cases a:c=0
 ·simp[a]
 by_cases b: -n<c
 ·rw[if_neg a,if_neg (by omega)]
  by_cases d:c<n
  ·simp[a,b,d]
  simp[a,b,d];omega
 rw[if_neg a,if_pos (by omega)]
 simp[a,b]
theorem qk8 {n:Int} {w:List Int} {i:Nat} (h:i<w.length):(w.drop i).all (qcY n)=(qcY n w[i]&&(w.drop (i+1)).all (qcY n)):=by
 rw[YG h,List.all_cons]
theorem qoP {n:Int} (h1:1<=n) (h2:n<=12) {w:List Int} (hl:w.length<=300): ∀(K i:Nat),i<=w.length->w.length<K+i->((w.drop i).all (qcY n)=true/\qF w n K (i:Int)=some (.inl ()))\/((w.drop i).all (qcY n)=false/\ ∃j:Nat,qF w n K (i:Int)=some (.inr (j:Int)))
 |0,i,h,hK=>by omega
 |K+1,i,h,hK=>by
  unfold qF y8
  by_cases hi:i<w.length
  ·rw[if_pos (by omega),qx,Ya hi,ZB,qlX h1 h2,ZB,ZB,qk8 hi]
   cases c:qcY n w[i]with
   |false=>exact .inr ⟨rfl,i,rfl⟩
   |true=>
    rw[if_neg (by decide),qA (by omega),Bool.true_and]
    exact qoP h1 h2 hl K (i+1) (by omega) (by omega)
  rw[if_neg (by omega),List.drop_eq_nil_of_le (by omega)]
  exact .inl ⟨rfl,rfl⟩
theorem qna {N:Nat} (hN:10<N) (a b:Int):vo N [a,b]=some (if a=0 then b else a):=by
 obtain⟨K,rfl⟩: ∃K,N=K+1+1+1:=⟨N-3,by omega⟩
 have w1:w64 1=1:=rfl
 have w2:w64 2=2:=rfl
 have i0: ∀a b:Int,idx [a,b] 0=some a:=fun _ _=>rfl
 have i1: ∀a b:Int,idx [a,b] 1=some b:=fun _ _=>rfl
 unfold vo
 by_cases ha:a=0
 ·by_cases hb:b=0
  ·simp[jv,i0,i1,ha,hb,w1,w2]
  simp[jv,i0,i1,ha,hb,w1,w2]
 simp[jv,i0,ha]
theorem qdv (b:Bool) (e:Int):zb b e=some (if b=true then e else 0):=by
 unfold zb
 cases b<;>rfl
theorem qg0 {N:Nat} (hN:2000<N) {n:Int} {w:List Int} (hl:w.length<=300):yu N n w=some (chkW n w):=by
 unfold yu jF chkW
 by_cases a:n<1\/12<n
 ·have:(Option.bind (if n<1 then(zb true 3).bind fun r2=>some r2 else(zb (decide (n>12)) 3).bind fun r3=>some r3:Option Int) fun n4=>some n4)=some 3:=by
   by_cases b:n<1
   ·rw[if_pos b];rfl
   rw[if_neg b,decide_eq_true (by omega)];rfl
  rw[this,ZB,qdv,ZB,qna (by omega),if_neg (by decide),ZB,if_pos (by decide),if_pos a]
 have:(Option.bind (if n<1 then(zb true 3).bind fun r2=>some r2 else(zb (decide (n>12)) 3).bind fun r3=>some r3:Option Int) fun n4=>some n4)=some 0:=by
  rw[if_neg (by omega),decide_eq_false (by omega)];rfl
 rw[this,ZB,qdv,ZB,qna (by omega),if_pos rfl,ZB,if_neg a]
 by_cases c:200<w.length
 ·rw[decide_eq_true (show(w.length:Int)>200 by omega),if_pos rfl,if_pos (by decide),if_pos c]
 rw[decide_eq_false (show¬(w.length:Int)>200 by omega),if_neg Bool.false_ne_true,if_neg (show¬(!decide ((0:Int)=0))=true by decide),if_neg c]
 unfold jR vV
 rcases qoP (n:=n) (by omega) (by omega) hl N 0 (by omega) (by omega)with⟨g1,g2⟩|⟨g1,j,g2⟩<;>rw[show((0:Nat):Int)=0 from rfl]at g2
 ·rw[g2,<-YR (l:=w),g1]
  rfl
 rw[g2,<-YR (l:=w),g1]
 simp only[ZB]
 rw[decide_eq_true (show(j:Int)>=0 by omega),qdv]
 rfl
structure qa7 (n:Nat) (w:List Int):Prop where
 n1:1<=n
 n2:n<=12
 len:w.length<=200
 let_: ∀c∈w,c≠0/\ -(n:Int)<c/\c<n
theorem qro {w:List Int} (hl:w.length<=300): ∀(K i:Nat),i<=w.length->w.length<K+i->zz w K ((w.take i).map fun x=>w64 (0-x)) (i:Int)=some (w.map fun x=>w64 (0-x))
 |0,i,h,hK=>by omega
 |K+1,i,h,hK=>by
  unfold zz qcw
  by_cases hi:i<w.length
  ·rw[if_pos (by omega),qx,Ya hi,ZB,ZB,qb8 (by simp;omega) (by simp;omega),ZB,qA (by omega)]
   have e:(w.take i).map (fun x=>w64 (0-x))++[w64 (0-w[i])]=(w.take (i+1)).map fun x=>w64 (0-x):=by
    rw[List.take_succ_eq_append_getElem hi,List.map_append]
    rfl
   rw[e]
   exact qro hl K (i+1) (by omega) (by omega)
  rw[if_neg (by omega),List.take_of_length_le (by omega)]
theorem qjs {N:Nat} (hN:2000<N) {w:List Int} (hl:w.length<=300):j5 N w=some (w.map fun x=>w64 (0-x)):=by
 unfold j5
 have:=qro hl N 0 (by omega) (by omega)
 rw[List.take_zero,List.map_nil]at this
 rw[show(0:Int)=((0:Nat):Int)from rfl,this]
 rfl
theorem qrx {l0:List Int} {n:Nat} (hn:l0.length=n) (hb:n<=100000): ∀(K i:Nat) (l:List Int),l.length=n->2*i<=n+1->n+1<K+2*i->(∀k:Nat,k<n->l[k]? =if k<i\/n<=k+i then l0[n-1-k]? else l0[k]?)->za K l (i:Int) ((n:Int)-1-i)=some l0.reverse
 |0,i,l,hl,h2,hK,hk=>by omega
 |K+1,i,l,hl,h2,hK,hk=>by
  unfold za
  by_cases hi:(i:Int)<(n:Int)-1-i
  ·have e1:(n:Int)-1-i=((n-1-i:Nat):Int):=by omega
   have e2:w64 (((n-1-i:Nat):Int)-1)=(n:Int)-1-((i+1:Nat):Int):=by rw[z8 (by omega) (by omega)];omega
   have q1:=hk (n-1-i) (by omega)
   have q2:=hk i (by omega)
   rw[if_neg (by omega)]at q1 q2
   have g1:l0[n-1-i]? =some l0[n-1-i]:=Ya (by omega)
   have g2:l0[i]? =some l0[i]:=Ya (by omega)
   rw[g1]at q1
   rw[g2]at q2
   rw[if_pos hi,e1,qx,q1,ZB,qx,q2,ZB,jB (by omega),ZB,qx,Yw (by omega),q1,ZB,jB (by simp;omega),ZB,qA (by omega),e2]
   refine qrx hn hb K (i+1) _ (by simp;omega) (by omega) (by omega) (fun k hkn=>?_)
   by_cases c1:k=n-1-i
   ·subst c1
    rw[List.getElem?_set_self (by simp;omega),if_pos (by omega),show n-1-(n-1-i)=i by omega,g2]
   rw[Yw (fun e=>c1 e.symm)]
   by_cases c2:k=i
   ·subst c2
    rw[List.getElem?_set_self (by omega),if_pos (by omega),g1]
   rw[Yw (fun e=>c2 e.symm),hk k hkn]
   by_cases c3:k<i\/n<=k+i
   ·rw[if_pos c3,if_pos (by omega)]
   rw[if_neg c3,if_neg (by omega)]
  rw[if_neg hi]
  congr 1
  apply List.ext_getElem?
  intro k
  by_cases hkn:k<n
  ·rw[hk k hkn,List.getElem?_reverse (by omega),hn]
   by_cases c3:k<i\/n<=k+i
   ·rw[if_pos c3]
   rw[if_neg c3,show n-1-k=k by omega]
  rw[Yg (by omega),Yg (by simp;omega)]
theorem qmu {N:Nat} {l:List Int} (hN:l.length+1<N) (hb:l.length<=100000):vG N l=some l.reverse:=by
 unfold vG
 have:=qrx (l0:=l) rfl hb N 0 l rfl (by omega) (by omega) (fun k hk=>by rw[if_neg (by omega)])
 rw[z8 (by omega) (by omega),show((l.length:Int)-1)=(l.length:Int)-1-((0:Nat):Int)by omega,show(0:Int)=((0:Nat):Int)from rfl]
 rw[this]
 rfl
theorem qml {N:Nat} (hN:2000<N) {w:List Int} (hl:w.length<=300):yJ N w=some ((w.map fun x=>w64 (0-x)).reverse):=by
 unfold yJ
 rw[qjs hN hl,ZB,qmu (by simp;omega) (by simp;omega),ZB,if_pos (by simp),ZB]
end Go.Av
end
section
namespace Go.Av
def ve (n:Nat):List Int:=(List.range n).map fun k:Nat=>(k:Int)
theorem xh (n:Nat):(ve n).length=n:=by simp[ve]
theorem qcr {n k:Nat} (h:k<n):(ve n)[k]? =some (k:Int):=by
 simp[ve,List.getElem?_map,List.getElem?_range h]
theorem qmr (n:Nat):ve (n+1)=ve n++[(n:Int)]:=by simp[ve,List.range_succ]
theorem qhR {c:Int} (h: -1000<c/\c<1000):qbF c=some ((c.natAbs:Nat):Int):=by
 unfold qbF
 rw[z8 (by omega) (by omega)]
 by_cases a:0-c>c
 ·rw[if_pos a];congr 1;omega
 rw[if_neg a];congr 1;omega
theorem qng {n:Nat} (hn:n<=1000) {l2:List Int} (h2:l2.length=n): ∀(K i:Nat) (l:List Int),l.length=n->i<=n->n<K+i->(∀k,k<i->l[k]? =some (k:Int))->zU l2 K l (i:Int)=some (ve n)
 |0,i,l,hl,h,hK,hk=>by omega
 |K+1,i,l,hl,h,hK,hk=>by
  unfold zU
  by_cases hi:i<n
  ·rw[if_pos (by omega),qx,Ya (by omega),ZB,jB (by omega),ZB,qA (by omega)]
   refine qng hn h2 K (i+1) _ (by simpa using hl) (by omega) (by omega) (fun k hki=>?_)
   by_cases e:k=i
   ·subst e;rw[List.getElem?_set_self (by omega)]
   rw[Yw (fun c=>e c.symm)];exact hk k (by omega)
  rw[if_neg (by omega)]
  congr 1
  apply List.ext_getElem?
  intro k
  by_cases hkn:k<n
  ·rw[hk k (by omega),qcr hkn]
  rw[Yg (by omega),Yg (by rw[xh];omega)]
theorem qgq {n:Nat} (hn:n<=1000):mk 8 (n:Int) (0:Int)=some (List.replicate n 0):=by
 unfold mk
 rw[if_pos (by omega)]
 simp
theorem qig {N n:Nat} (hN:2000<N) (hn:n<=1000):jl N (n:Int)=some (ve n):=by
 unfold jl
 rw[qgq hn,ZB,show(0:Int)=((0:Nat):Int)from rfl,qng hn (by simp) N 0 _ (by simp) (by omega) (by omega) (fun k hk=>by omega),ZB]
structure PInv (n:Nat) (row p:List Int):Prop where
 rl:row.length=n
 pl:p.length=n
 at_: ∀k,k<n-> ∃v:Nat,v<n/\row[k]? =some (v:Int)/\p[v]? =some (k:Int)
 all: ∀v,v<n-> ∃k,k<n/\row[k]? =some (v:Int)
theorem PInv.back {n:Nat} {row p:List Int} (h:PInv n row p) {k v:Nat} (hk:k<n) (e:row[k]? =some (v:Int)):v<n/\p[v]? =some (k:Int):=by
 obtain⟨u,hu,e1,e2⟩:=h.at_ k hk
 rw[e]at e1
 have:v=u:=by have:=Ye e1;omega
 subst this
 exact⟨hu,e2⟩
theorem PInv.inj {n:Nat} {row p:List Int} (h:PInv n row p) {k k' v:Nat} (hk:k<n) (hk':k'<n) (e:row[k]? =some (v:Int)) (e':row[k']? =some (v:Int)):k=k':=by
 have h1:=(h.back hk e).2
 have h2:=(h.back hk' e').2
 rw[h1]at h2
 have:=Ye h2
 omega
end Go.Av
end
section
namespace Go.Av
theorem bwu (n:Int):IntKind.wrap .u64 n=n%18446744073709551616:=rfl
theorem qkl {n:Int} (h0:0<=n) (h:n<18446744073709551616):IntKind.wrap .u64 n=n:=by rw[bwu];exact Int.emod_eq_of_lt h0 h
theorem qpG {n:Int} (h0:0<=n) (h:n<18446744073709551616):(BitVec.ofInt 64 n).toNat=n.toNat:=by
 rw[BitVec.toNat_ofInt]
 have:n%((2:Nat)^64:Nat)=n:=Int.emod_eq_of_lt h0 (by simpa using h)
 rw[this]
theorem band {x:Int} (h0:0<=x) (h:x<4294967296):qz .u64 x 4294967295=x:=by
 show IntKind.wrap .u64 _=_
 have e:(BitVec.ofInt IntKind.u64.bits x&&&BitVec.ofInt IntKind.u64.bits 4294967295).toNat=x.toNat%4294967296:=by
  rw[BitVec.toNat_and]
  show(BitVec.ofInt 64 x).toNat&&&(BitVec.ofInt 64 4294967295).toNat=_
  rw[qpG h0 (by omega),qpG (by omega) (by omega)]
  exact Nat.and_two_pow_sub_one_eq_mod x.toNat 32
 rw[e,bwu]
 omega
theorem bshr {x:Int} (h0:0<=x) (h:x<4294967296):qp .u64 x 32=0:=by
 show x.fdiv 4294967296=0
 rw[Int.fdiv_eq_ediv_of_nonneg _ (by omega)]
 omega
theorem bmul {x y:Int} (hx:0<=x/\x<=1000) (hy:0<=y/\y<=1000):bits_Mul x y=some (0,x*y):=by
 have h0:0<=x*y:=Int.mul_nonneg hx.1 hy.1
 have h1:x*y<=1000*1000:=Int.mul_le_mul hx.2 hy.2 hy.1 (by omega)
 unfold bits_Mul bits_Mul64
 rw[band hx.1 (by omega),band hy.1 (by omega),bshr hx.1 (by omega),bshr hy.1 (by omega),Int.zero_mul,Int.zero_mul,Int.mul_zero,qkl (n:=0) (by omega) (by omega),qkl h0 (by omega),bshr h0 (by omega)]
 have z:IntKind.wrap .u64 (0+0)=0:=rfl
 have s:qp .u64 0 32=0:=rfl
 have a:qz .u64 0 4294967295=0:=rfl
 rw[z,a,s,z,s,z,ZB]
theorem nmin (a b:Nat):Nat.min a b=min a b:=rfl
def Rep (w l:List Int) (n:Nat):Prop:= ∀i,i<n->l[i]? =w[i%w.length]?
theorem qqf {w l:List Int} {n L:Nat} (hL:l.length=L) (hn:n<=L) (hd:w.length∣n) (h:Rep w l n):(qed l n (l.take n)).length=L/\Rep w (qed l n (l.take n)) (n+Nat.min n (L-n)):=by
 have e1:(l.take n).length=n:=by rw[Ym];omega
 have e2:(l.drop n).length=L-n:=by rw[List.length_drop,hL]
 have hlen:(qed l n (l.take n)).length=L:=by
  unfold qed cpy
  simp only[Yq,Ym,List.length_drop,nmin]
  omega
 refine⟨hlen,fun i hi=>?_⟩
 have hm:Nat.min n (L-n)=min n (L-n):=rfl
 rw[hm]at hi
 unfold qed cpy
 by_cases c:i<n
 ·rw[Yf (by omega),List.getElem?_take_of_lt c]
  exact h i c
 rw[Yo (by omega),e1,Yf (by simp only[Ym,List.length_drop,nmin];omega),List.getElem?_take_of_lt (by simp only[Ym,List.length_drop,nmin];omega),List.getElem?_take_of_lt (by omega),h (i-n) (by omega)]
 obtain⟨q,rfl⟩:=hd
 rw[show i=i-w.length*q+w.length*q by omega,Nat.add_mul_mod_self_left,Nat.add_sub_cancel]
theorem qrG {w:List Int} {L:Nat} (hb:L<=40000): ∀(K n:Nat) (l:List Int),l.length=L->n<=L->(n=L\/(0<n/\w.length∣n))->Rep w l n->L<K+n-> ∃r,zt K l (n:Int)=some r/\r.length=L/\Rep w r L
 |0,n,l,hl,hn,hd,h,hK=>by omega
 |K+1,n,l,hl,hn,hd,h,hK=>by
  unfold zt
  by_cases c:n<L
  ·rcases hd with e|⟨hp,hd⟩
   ·omega
   obtain⟨s1,s2⟩:=qqf hl hn hd h
   have e1:(l.take n).length=n:=by rw[Ym];omega
   rw[if_pos (by omega),qrJ (by omega),ZB,ZB,e1,hl]
   have hm:Nat.min n (L-n)=min n (L-n):=rfl
   rw[show w64 ((n:Int)+((Nat.min n (L-n):Nat):Int))=((n+Nat.min n (L-n):Nat):Int)by rw[hm];rw[z8 (by omega) (by omega)];rfl]
   refine qrG hb K _ _ s1 (by rw[hm];omega) ?_ s2 (by rw[hm];omega)
   rw[hm]
   by_cases g:n<=L-n
   ·right
    rw[Nat.min_eq_left g]
    exact⟨by omega,Nat.dvd_add hd hd⟩
   left
   omega
  rw[if_neg (by omega)]
  have:n=L:=by omega
  subst this
  exact⟨l,rfl,hl,h⟩
theorem qnN {N:Nat} (hN:50000<N) {w:List Int} {k:Nat} (h0:0<w.length) (hl:w.length<=200) (hk:k<=200): ∃r,vS N w (k:Int)=some r/\r.length=w.length*k/\Rep w r (w.length*k):=by
 have hb:w.length*k<=200*200:=Nat.mul_le_mul hl hk
 have hp:((w.length:Int)*(k:Int))=((w.length*k:Nat):Int):=by simp
 unfold vS
 rw[if_neg (by omega),ZB,qkl (by omega) (by omega),qkl (by omega) (by omega),bmul (by omega) (by omega),ZB,if_neg (show¬((0:Int),(w.length:Int)*(k:Int)).1>0 by simp),decide_eq_false (show¬((0:Int),(w.length:Int)*(k:Int)).2>9223372036854775807 by simp only;omega),ZB,if_neg (by decide),ZB,hp,z8 (by omega) (by omega)]
 have hm:mk 8 ((w.length*k:Nat):Int) (0:Int)=some (List.replicate (w.length*k) 0):=by
  unfold mk
  rw[if_pos (by omega),Int.toNat_natCast]
 rw[hm,ZB,ZB,List.length_replicate]
 have hc:(cpy (List.replicate (w.length*k) 0) w).length=w.length*k:=by
  unfold cpy
  simp only[Yq,Ym,List.length_drop,List.length_replicate,nmin]
  omega
 have hmn:Nat.min w.length (w.length*k)=min w.length (w.length*k):=rfl
 have hk1:k=0\/w.length<=w.length*k:=by
  rcases Nat.eq_zero_or_pos k with h|h
  ·exact .inl h
  exact .inr (Nat.le_mul_of_pos_right _ h)
 obtain⟨r,r1,r2,r3⟩:=qrG (w:=w) (L:=w.length*k) (by omega) N (Nat.min w.length (w.length*k)) (cpy (List.replicate (w.length*k) 0) w) hc (by rw[hmn];omega) (by
  rcases hk1 with e|e
  ·left;subst e;rw[hmn];simp
  ·right;rw[hmn,Nat.min_eq_left e];exact⟨h0,Nat.dvd_refl _⟩) (fun i hi=>by
  rw[hmn]at hi
  unfold cpy
  rw[List.length_replicate,Yf (by simp only[Ym];omega),List.getElem?_take_of_lt (by omega),Nat.mod_eq_of_lt (by omega)]) (by omega)
 exact⟨r,by rw[r1];rfl,r2,r3⟩
theorem qmc (w:List Int):qbj w=some (if 200<w.length then([],5)else(w,0)):=by
 unfold qbj
 by_cases c:200<w.length
 ·rw[if_pos (by omega),if_pos c]
 rw[if_neg (by omega),if_neg c]
end Go.Av
end
section
namespace Go.Av
def qkI (l:List Int):Int:=(l.find? fun x=>!decide (x=0)).getD 0
theorem qlq {l:List Int} (hl:l.length<=100): ∀(K i:Nat),i<=l.length->l.length<K+i->jv l K (i:Int)=some (match(l.drop i).find? (fun x=>!decide (x=0))with|some x=> .inr x|none=> .inl ())
 |0,i,h,hK=>by omega
 |K+1,i,h,hK=>by
  unfold jv
  by_cases hi:i<l.length
  ·rw[if_pos (by omega),qx,Ya hi,ZB,YG hi,List.find?_cons]
   by_cases c:l[i]=0
   ·rw[if_neg (by simp[c]),qA (by omega),qlq hl K (i+1) (by omega) (by omega)]
    simp[c]
   rw[if_pos (by simp[c])]
   simp[c]
  rw[if_neg (by omega),List.drop_eq_nil_of_le (by omega)]
  rfl
theorem qjm {N:Nat} {l:List Int} (hl:l.length<=100) (hN:l.length<N):vo N l=some (qkI l):=by
 unfold vo qkI
 have:=qlq hl N 0 (by omega) (by omega)
 rw[YR,show((0:Nat):Int)=0 from rfl]at this
 rw[this]
 cases l.find? (fun x=>!decide (x=0))<;>rfl
theorem qmi (l:List Int):qkI (0::l)=qkI l:=by simp[qkI]
theorem qrI {x:Int} (h:x≠0) (l:List Int):qkI (x::l)=x:=by simp[qkI,h]
theorem qqh (x:Int):qkI [x]=x:=by
 by_cases h:x=0
 ·subst h;rfl
 exact qrI h []
theorem qej {n c:Int}:qcY n c=true↔c≠0/\ -n<c/\c<n:=by
 unfold qcY
 simp only[Bool.and_eq_true,decide_eq_true_eq]
 constructor
 ·rintro⟨⟨a,b⟩,c⟩
  exact⟨a,b,c⟩
 rintro⟨a,b,c⟩
 exact⟨⟨a,b⟩,c⟩
def MvOK (n:Int) (w:List Int) (r:List Int×Int):Prop:=(r.2≠0->r.1=[])/\(r.2=0->r.1.length<=w.length+2/\ ∀c∈r.1,qcY n c=true)
theorem MvOK.bad {n:Int} {w:List Int} {e:Int} (h:e≠0):MvOK n w ([],e):=⟨fun _=>rfl,fun g=>absurd g h⟩
section
end
end Go.Av
end
section
namespace Go.Av
def tr5 (i k:Nat):Nat:=if k=i then i+1 else if k=i+1 then i else k
theorem qey (i k:Nat):tr5 i (tr5 i k)=k:=by
 unfold tr5
 by_cases a:k=i
 ·subst a;simp
 by_cases b:k=i+1
 ·subst b;simp
 simp[a,b]
theorem qcx (i:Nat):tr5 i i=i+1:=by simp[tr5]
theorem qcH (i:Nat):tr5 i (i+1)=i:=by simp[tr5]
theorem vW {i k:Nat} (a:k≠i) (b:k≠i+1):tr5 i k=k:=by simp[tr5,a,b]
theorem yI (i k:Nat):(k=i/\tr5 i k=i+1)\/(k=i+1/\tr5 i k=i)\/(k≠i/\k≠i+1/\tr5 i k=k):=by
 by_cases a:k=i
 ·subst a;exact .inl ⟨rfl,qcx k⟩
 by_cases b:k=i+1
 ·subst b;exact .inr (.inl ⟨rfl,qcH i⟩)
 exact .inr (.inr ⟨a,b,vW a b⟩)
theorem qkO {i j:Nat} (h:i+1<j\/j+1<i) (k:Nat):tr5 i (tr5 j k)=tr5 j (tr5 i k):=by
 by_cases a:k=i
 ·subst a;rw[vW (i:=j) (k:=k) (by omega) (by omega),qcx,vW (i:=j) (k:=k+1) (by omega) (by omega)]
 by_cases b:k=i+1
 ·subst b;rw[vW (i:=j) (k:=i+1) (by omega) (by omega),qcH,vW (i:=j) (k:=i) (by omega) (by omega)]
 rw[vW (i:=i) (k:=k) a b]
 rcases yI j k with⟨c,e⟩|⟨c,e⟩|⟨c,c',e⟩<;>rw[e]
 ·exact vW (by omega) (by omega)
 ·exact vW (by omega) (by omega)
 exact vW a b
theorem qjv (i k:Nat):tr5 i (tr5 (i+1) (tr5 i k))=tr5 (i+1) (tr5 i (tr5 (i+1) k)):=by
 have a1:=qcx i
 have a2:=qcH i
 have a3:tr5 i (i+1+1)=i+1+1:=vW (by omega) (by omega)
 have b1:=qcx (i+1)
 have b2:=qcH (i+1)
 have b3:tr5 (i+1) i=i:=vW (by omega) (by omega)
 by_cases a:k=i
 ·subst a;rw[a1,b1,a3,b3,a1,b1]
 by_cases b:k=i+1
 ·subst b;rw[a2,b3,a1,b1,a3,b2]
 by_cases c:k=i+1+1
 ·subst c;rw[a3,b2,a2,b3]
 rw[vW (i:=i) (k:=k) a b,vW (i:=i+1) (k:=k) b c,vW (i:=i) (k:=k) a b,vW (i:=i+1) (k:=k) b c]
structure SB where
 f:Nat->Nat
 g:Nat->Nat
 gf: ∀k,g (f k)=k
 fg: ∀k,f (g k)=k
theorem SB.ext {s t:SB} (h: ∀k,s.f k=t.f k):s=t:=by
 obtain⟨f,g,a,b⟩:=s
 obtain⟨f',g',a',b'⟩:=t
 have e:f=f':=funext h
 subst e
 have e:g=g':=funext fun k=>by
  have:=a (g' k)
  rwa [b']at this
 subst e
 rfl
theorem SB.finj (s:SB) {a b:Nat} (h:s.f a=s.f b):a=b:=by
 have:=congrArg s.g h
 rwa [s.gf,s.gf]at this
theorem SB.ginj (s:SB) {a b:Nat} (h:s.g a=s.g b):a=b:=by
 have:=congrArg s.f h
 rwa [s.fg,s.fg]at this
def SB.fr (s:SB) (i:Nat):SB:=⟨fun k=>s.f (tr5 i k),fun k=>tr5 i (s.g k),fun k=>by rw[s.gf,qey],fun k=>by rw[qey,s.fg]⟩
def SB.bk (s:SB) (i:Nat):SB:=⟨fun k=>tr5 i (s.f k),fun k=>s.g (tr5 i k),fun k=>by rw[qey,s.gf],fun k=>by rw[s.fg,qey]⟩
def SB.Begs (s:SB) (i:Nat):Prop:=s.f (i+1)<s.f i
def SB.Ends (s:SB) (i:Nat):Prop:=s.g (i+1)<s.g i
theorem SB.nEnds {s:SB} {i:Nat} (h: ¬s.Ends i):s.g i<s.g (i+1):=by
 unfold SB.Ends at h
 have:s.g i≠s.g (i+1):=fun e=>by have:=s.ginj e;omega
 omega
def psh (L:Nat->SB) (k i:Nat):Nat->SB:=fun q=>if q=k then(L k).bk i else if q=k+1 then(L (k+1)).fr i else L q
theorem yz (L:Nat->SB) (k i:Nat):psh L k i k=(L k).bk i:=by simp[psh]
theorem jf (L:Nat->SB) (k i:Nat):psh L k i (k+1)=(L (k+1)).fr i:=by simp[psh]
theorem zR (L:Nat->SB) {k i q:Nat} (a:q≠k) (b:q≠k+1):psh L k i q=L q:=by simp[psh,a,b]
structure qaF (n m:Nat) (L:Nat->SB) (k i:Nat):Prop where
 k_:k+1<m
 i_:i+1<n
 b_:(L (k+1)).Begs i
 e_: ¬(L k).Ends i
inductive Psh (n m:Nat):(Nat->SB)->(Nat->SB)->Prop
 |mk {L:Nat->SB} {k i:Nat} (h:qaF n m L k i):Psh n m L (psh L k i)
inductive Pst (n m:Nat):(Nat->SB)->(Nat->SB)->Prop
 |refl {L:Nat->SB}:Pst n m L L
 |head {L L1 A:Nat->SB} (h:Psh n m L L1) (t:Pst n m L1 A):Pst n m L A
theorem Pst.trans {n m:Nat} {L A B:Nat->SB} (h:Pst n m L A) (k:Pst n m A B):Pst n m L B:=by
 induction h with
 |refl=>exact k
 |head h _ ih=>exact .head h (ih k)
theorem Pst.one {n m:Nat} {L A:Nat->SB} (h:Psh n m L A):Pst n m L A:= .head h .refl
def Nf (n m:Nat) (L:Nat->SB):Prop:= ∀k i,¬qaF n m L k i
def qhb:List Nat->Nat
 |[]=>0
 |x::r=>r.countP (fun y=>decide (y<x))+qhb r
theorem qjQ {x y:Nat} (h:y<x) (b:List Nat): ∀a:List Nat,qhb (a++y::x::b)+1=qhb (a++x::y::b)
 |[]=>by
  simp only[List.nil_append,qhb,List.countP_cons]
  rw[decide_eq_true h,decide_eq_false (show¬x<y by omega)]
  simp only[if_true,ZF,if_false]
  omega
 |z::a=>by
  simp only[List.cons_append,qhb]
  have:=qjQ h b a
  simp only[List.countP_append,List.countP_cons]
  omega
theorem qrn {i:Nat}: ∀r:List Nat,r.Nodup->i∉r->r.countP (fun y=>decide (tr5 i y<i+1))<=r.countP (fun y=>decide (y<i))+(if i+1∈r then 1 else 0)
 |[],_,_=>by simp
 |y::r,hn,hi=>by
  have hn2:=(List.nodup_cons.1 hn)
  have hi2:i∉r:=fun h=>hi (List.mem_cons_of_mem _ h)
  have hy:y≠i:=fun e=>hi (e▸List.mem_cons_self)
  have ih:=qrn r hn2.2 hi2
  rw[List.countP_cons,List.countP_cons]
  by_cases c:y=i+1
  ·subst c
   rw[qcH,decide_eq_true (by omega),decide_eq_false (by omega),if_pos rfl,if_neg (by decide),if_pos List.mem_cons_self]
   rw[if_neg hn2.1]at ih
   omega
  rw[vW hy c]
  have e1:decide (y<i+1)=decide (y<i):=by
   by_cases d:y<i
   ·rw[decide_eq_true d,decide_eq_true (by omega)]
   rw[decide_eq_false d,decide_eq_false (by omega)]
  rw[e1]
  have e2:(if i+1∈y::r then 1 else 0)=(if i+1∈r then 1 else 0:Nat):=by
   by_cases d:i+1∈r
   ·rw[if_pos d,if_pos (List.mem_cons_of_mem _ d)]
   rw[if_neg d,if_neg (fun h=>by rcases List.mem_cons.1 h with h|h;exact c h.symm;exact d h)]
  rw[e2]
  omega
theorem qkY {i:Nat}: ∀p:List Nat,p.Nodup->qhb (p.map (tr5 i))<=qhb p+(if i∈p then 1 else 0)
 |[],_=>by simp[qhb]
 |x::r,hn=>by
  have hn2:=(List.nodup_cons.1 hn)
  have ih:=qkY (i:=i) r hn2.2
  simp only[List.map_cons,qhb,List.countP_map]
  have e:(fun y=>decide (y<tr5 i x))∘tr5 i=fun y=>decide (tr5 i y<tr5 i x):=rfl
  rw[e]
  by_cases c:x=i
  ·subst c
   have hc:=qrn r hn2.2 hn2.1
   rw[qcx,if_pos List.mem_cons_self]
   rw[if_neg hn2.1]at ih
   have:(if x+1∈r then 1 else 0:Nat)<=1:=by split<;>omega
   omega
  have h1:r.countP (fun y=>decide (tr5 i y<tr5 i x))<=r.countP (fun y=>decide (y<x)):=by
   refine List.countP_mono_left fun y hy h=>?_
   have hyx:y≠x:=fun e=>hn2.1 (e▸hy)
   simp only[decide_eq_true_eq]at h⊢
   rcases yI i x with⟨a,ea⟩|⟨a,ea⟩|⟨a,a',ea⟩<;>rcases yI i y with⟨b,eb⟩|⟨b,eb⟩|⟨b,b',eb⟩<;>rw[ea,eb]at h<;>omega
  have e2:(if i∈x::r then 1 else 0)=(if i∈r then 1 else 0:Nat):=by
   by_cases d:i∈r
   ·rw[if_pos d,if_pos (List.mem_cons_of_mem _ d)]
   rw[if_neg d,if_neg (fun h=>by rcases List.mem_cons.1 h with h|h;exact c h.symm;exact d h)]
  rw[e2]
  omega
def SB.row (n:Nat) (s:SB):List Nat:=(List.range n).map s.f
theorem Ul (n:Nat) (s:SB):(s.row n).length=n:=by simp[SB.row]
theorem Uk {n k:Nat} (s:SB) (h:k<n):(s.row n)[k]? =some (s.f k):=by simp[SB.row,List.getElem?_range h]
theorem qi6 {f:Nat->Nat} (hf: ∀a b,f a=f b->a=b): ∀l:List Nat,l.Nodup->(l.map f).Nodup
 |[],_=>List.nodup_nil
 |x::l,h=>by
  have h2:=List.nodup_cons.1 h
  rw[List.map_cons,List.nodup_cons]
  refine⟨fun hx=>?_,qi6 hf l h2.2⟩
  obtain⟨y,hy,e⟩:=List.mem_map.1 hx
  exact h2.1 (hf _ _ e▸hy)
theorem SB.row_nodup (n:Nat) (s:SB):(s.row n).Nodup:=qi6 (fun _ _ h=>s.finj h) _ List.nodup_range
def SB.inv (n:Nat) (s:SB):Nat:=qhb (s.row n)
theorem qpz {l:List Nat} {i:Nat} (h:i+1<l.length):l=l.take i++l[i]::l[i+1]::l.drop (i+2):=by
 rw[<-YG h,<-YG (by omega),List.take_append_drop]
theorem SB.inv_fr {n i:Nat} {s:SB} (hi:i+1<n) (h:s.Begs i):(s.fr i).inv n+1=s.inv n:=by
 unfold SB.inv
 have e1:=qpz (l:=s.row n) (i:=i) (by rw[Ul];omega)
 have e2:=qpz (l:=(s.fr i).row n) (i:=i) (by rw[Ul];omega)
 have g: ∀(t:SB) (k:Nat) (hk:k<(t.row n).length),(t.row n)[k]=t.f k:=fun t k hk=>by simp[SB.row]
 have t1:((s.fr i).row n).take i=(s.row n).take i:=by
  apply List.ext_getElem?
  intro k
  by_cases hk:k<i
  ·rw[List.getElem?_take_of_lt hk,List.getElem?_take_of_lt hk,Uk _ (by omega),Uk _ (by omega)]
   show some (s.f (tr5 i k))=_
   rw[vW (by omega) (by omega)]
  rw[Yg (by simp;omega),Yg (by simp;omega)]
 have t2:((s.fr i).row n).drop (i+2)=(s.row n).drop (i+2):=by
  apply List.ext_getElem?
  intro k
  rw[YI,YI]
  by_cases hk:i+2+k<n
  ·rw[Uk _ hk,Uk _ hk]
   show some (s.f (tr5 i _))=_
   rw[vW (by omega) (by omega)]
  rw[Yg (by rw[Ul];omega),Yg (by rw[Ul];omega)]
 rw[e1,e2,t1,t2,g,g,g,g]
 show qhb (_++s.f (tr5 i i)::s.f (tr5 i (i+1))::_)+1=_
 rw[qcx,qcH]
 exact qjQ h _ _
theorem SB.inv_bk (n i:Nat) (s:SB):(s.bk i).inv n<=s.inv n+1:=by
 unfold SB.inv
 have e:(s.bk i).row n=(s.row n).map (tr5 i):=by
  unfold SB.row
  rw[List.map_map]
  rfl
 rw[e]
 have:=qkY (i:=i) (s.row n) (s.row_nodup n)
 have h2:(if i∈s.row n then 1 else 0:Nat)<=1:=by split<;>omega
 omega
def mu5 (n:Nat) (L:Nat->SB):Nat->Nat
 |0=>0
 |m+1=>mu5 n L m+m*(L m).inv n
theorem qoU {n k:Nat} {L L':Nat->SB} (h: ∀q,q<k->L' q=L q): ∀m,m<=k->mu5 n L' m=mu5 n L m
 |0,_=>rfl
 |m+1,hm=>by simp only[mu5];rw[qoU h m (by omega),h m (by omega)]
theorem qgL {n m k i:Nat} {L:Nat->SB} (h:qaF n m L k i):mu5 n (psh L k i) m<mu5 n L m:=by
 have base:mu5 n (psh L k i) (k+2)+1<=mu5 n L (k+2):=by
  simp only[mu5]
  rw[qoU (L':=psh L k i) (L:=L) (k:=k) (fun q hq=>zR L (by omega) (by omega)) k (Nat.le_refl _),yz,jf]
  have a:=SB.inv_fr h.i_ h.b_
  have b:=Nat.mul_le_mul_left k (SB.inv_bk n i (L k))
  rw[<-a,Nat.mul_add,Nat.mul_one]
  rw[Nat.mul_add,Nat.mul_one]at b
  omega
 have up: ∀d,mu5 n (psh L k i) (k+2+d)+1<=mu5 n L (k+2+d):=by
  intro d
  induction d with
  |zero=>exact base
  |succ d ih=>
   show mu5 n (psh L k i) (k+2+d)+(k+2+d)*(psh L k i (k+2+d)).inv n+1<=mu5 n L (k+2+d)+(k+2+d)*(L (k+2+d)).inv n
   rw[zR L (q:=k+2+d) (by omega) (by omega)]
   omega
 have hk:=h.k_
 have:=up (m-(k+2))
 rw[show k+2+(m-(k+2))=m by omega]at this
 omega
theorem Psh.lt {n m:Nat} {L A:Nat->SB} (h:Psh n m L A):mu5 n A m<mu5 n L m:=by
 cases h with
 |mk h=>exact qgL h
theorem qlD {n m:Nat}: ∀(M:Nat) (L:Nat->SB),mu5 n L m<=M-> ∃A,Pst n m L A/\Nf n m A
 |M,L,hM=>by
  by_cases h: ∃k i,qaF n m L k i
  ·obtain⟨k,i,h⟩:=h
   have:=qgL h
   cases M with
   |zero=>omega
   |succ M=>
    obtain⟨A,h1,h2⟩:=qlD (n:=n) (m:=m) M (psh L k i) (by omega)
    exact⟨A,.head (.mk h) h1,h2⟩
  exact⟨L,.refl,fun k i c=>h ⟨k,i,c⟩⟩
theorem qlk {s:SB} {i j:Nat} (h:i+1<j\/j+1<i):(s.fr i).Begs j↔s.Begs j:=by
 show s.f (tr5 i (j+1))<s.f (tr5 i j)↔_
 rw[vW (by omega) (by omega),vW (by omega) (by omega)]
 rfl
theorem qkG {s:SB} {i j:Nat} (h:i+1<j\/j+1<i):(s.bk i).Ends j↔s.Ends j:=by
 show s.g (tr5 i (j+1))<s.g (tr5 i j)↔_
 rw[vW (by omega) (by omega),vW (by omega) (by omega)]
 rfl
theorem pst3 {n m k i j l:Nat} {L:Nat->SB} (h1:qaF n m L k i) (h2:qaF n m (psh L k i) k j) (h3:qaF n m (psh (psh L k i) k j) k l):Pst n m (psh L k i) (psh (psh (psh L k i) k j) k l):=
 .head (.mk h2) (.one (.mk h3))
theorem qqF {L:Nat->SB} {k i:Nat}:psh (psh (psh L k i) k (i+1)) k i=psh (psh (psh L k (i+1)) k i) k (i+1):=by
 funext q
 by_cases a:q=k
 ·subst a
  simp only[yz]
  exact SB.ext fun x=>qjv i _
 by_cases b:q=k+1
 ·subst b
  simp only[jf]
  exact SB.ext fun x=>congrArg (L (k+1)).f (qjv i x)
 simp only[zR _ a b]
theorem qjE {n m k i:Nat} {L:Nat->SB} (h:qaF n m L k i) (h':qaF n m L k (i+1)): ∃D,Pst n m (psh L k i) D/\Pst n m (psh L k (i+1)) D:=by
 have b1:(L (k+1)).f (i+1)<(L (k+1)).f i:=h.b_
 have b2:(L (k+1)).f (i+2)<(L (k+1)).f (i+1):=h'.b_
 have e1:=SB.nEnds h.e_
 have e2:(L k).g (i+1)<(L k).g (i+2):=SB.nEnds h'.e_
 have ki:=h.k_
 have ii:=h.i_
 have ii':=h'.i_
 have t1:tr5 i (i+2)=i+2:=vW (by omega) (by omega)
 have t2:tr5 (i+1) i=i:=vW (by omega) (by omega)
 have t3:tr5 (i+1) (i+2)=i+1:=qcH (i+1)
 have t4:tr5 (i+1) (i+1)=i+2:=qcx (i+1)
 have p1:qaF n m (psh L k i) k (i+1):=by
  refine⟨ki,ii',?_,?_⟩
  ·rw[jf]
   show(L (k+1)).f (tr5 i (i+2))<(L (k+1)).f (tr5 i (i+1))
   rw[t1,qcH];omega
  rw[yz]
  show¬(L k).g (tr5 i (i+2))<(L k).g (tr5 i (i+1))
  rw[t1,qcH];omega
 have p2:qaF n m (psh (psh L k i) k (i+1)) k i:=by
  refine⟨ki,ii,?_,?_⟩
  ·rw[jf,jf]
   show(L (k+1)).f (tr5 i (tr5 (i+1) (i+1)))<(L (k+1)).f (tr5 i (tr5 (i+1) i))
   rw[qcx,t1,t2,qcx];omega
  rw[yz,yz]
  show¬(L k).g (tr5 i (tr5 (i+1) (i+1)))<(L k).g (tr5 i (tr5 (i+1) i))
  rw[qcx,t1,t2,qcx];omega
 have q1:qaF n m (psh L k (i+1)) k i:=by
  refine⟨ki,ii,?_,?_⟩
  ·rw[jf]
   show(L (k+1)).f (tr5 (i+1) (i+1))<(L (k+1)).f (tr5 (i+1) i)
   rw[t4,t2];omega
  rw[yz]
  show¬(L k).g (tr5 (i+1) (i+1))<(L k).g (tr5 (i+1) i)
  rw[t4,t2];omega
 have q2:qaF n m (psh (psh L k (i+1)) k i) k (i+1):=by
  refine⟨ki,ii',?_,?_⟩
  ·rw[jf,jf]
   show(L (k+1)).f (tr5 (i+1) (tr5 i (i+2)))<(L (k+1)).f (tr5 (i+1) (tr5 i (i+1)))
   rw[t1,t3,qcH,t2];omega
  rw[yz,yz]
  show¬(L k).g (tr5 (i+1) (tr5 i (i+2)))<(L k).g (tr5 (i+1) (tr5 i (i+1)))
  rw[t1,t3,qcH,t2];omega
 exact⟨_,pst3 h p1 p2,qqF▸pst3 h' q1 q2⟩
theorem qpa {n m k i j:Nat} {L:Nat->SB} (hd:i+1<j\/j+1<i) (h:qaF n m L k i) (h':qaF n m L k j): ∃D,Pst n m (psh L k i) D/\Pst n m (psh L k j) D:=by
 have p1:qaF n m (psh L k i) k j:=⟨h.k_,h'.i_,by rw[jf,qlk hd];exact h'.b_,by rw[yz,qkG hd];exact h'.e_⟩
 have p2:qaF n m (psh L k j) k i:=⟨h.k_,h.i_,by rw[jf,qlk (i:=j) (j:=i) (by omega)];exact h.b_,by rw[yz,qkG (i:=j) (j:=i) (by omega)];exact h.e_⟩
 have e:psh (psh L k i) k j=psh (psh L k j) k i:=by
  funext q
  by_cases a:q=k
  ·subst a
   simp only[yz]
   exact SB.ext fun x=>qkO (i:=j) (j:=i) (by omega) _
  by_cases b:q=k+1
  ·subst b
   simp only[jf]
   exact SB.ext fun x=>congrArg (L (k+1)).f (qkO (i:=i) (j:=j) (by omega) x)
  simp only[zR _ a b]
 exact⟨_,.one (.mk p1),e▸ .one (.mk p2)⟩
theorem qjt {n m k i j:Nat} {L:Nat->SB} (h:qaF n m L k i) (h':qaF n m L (k+1) j): ∃D,Pst n m (psh L k i) D/\Pst n m (psh L (k+1) j) D:=by
 have b1:(L (k+1)).f (i+1)<(L (k+1)).f i:=h.b_
 have e2:(L (k+1)).g j<(L (k+1)).g (j+1):=SB.nEnds h'.e_
 have gf:=(L (k+1)).gf
 have fg:=(L (k+1)).fg
 have p1:qaF n m (psh L k i) (k+1) j:=by
  refine⟨h'.k_,h'.i_,?_,?_⟩
  ·rw[zR L (q:=k+1+1) (by omega) (by omega)];exact h'.b_
  rw[jf]
  show¬tr5 i ((L (k+1)).g (j+1))<tr5 i ((L (k+1)).g j)
  rcases yI i ((L (k+1)).g (j+1))with⟨a,ea⟩|⟨a,ea⟩|⟨a,a',ea⟩<;>rcases yI i ((L (k+1)).g j)with⟨b,eb⟩|⟨b,eb⟩|⟨b,b',eb⟩<;>rw[ea,eb]<;>try omega
  have x1:=fg (j+1)
  have x2:=fg j
  rw[a]at x1
  rw[b]at x2
  omega
 have p2:qaF n m (psh L (k+1) j) k i:=by
  refine⟨h.k_,h.i_,?_,?_⟩
  ·rw[yz]
   show tr5 j ((L (k+1)).f (i+1))<tr5 j ((L (k+1)).f i)
   rcases yI j ((L (k+1)).f (i+1))with⟨a,ea⟩|⟨a,ea⟩|⟨a,a',ea⟩<;>rcases yI j ((L (k+1)).f i)with⟨b,eb⟩|⟨b,eb⟩|⟨b,b',eb⟩<;>rw[ea,eb]<;>try omega
   have x1:=gf (i+1)
   have x2:=gf i
   rw[a]at x1
   rw[b]at x2
   omega
  rw[zR L (q:=k) (by omega) (by omega)];exact h.e_
 have e:psh (psh L k i) (k+1) j=psh (psh L (k+1) j) k i:=by
  funext q
  by_cases a:q=k
  ·subst a
   rw[zR _ (q:=q) (by omega) (by omega),yz,yz,zR _ (q:=q) (by omega) (by omega)]
  by_cases b:q=k+1
  ·subst b
   rw[yz,jf,jf,yz]
   rfl
  by_cases c:q=k+1+1
  ·subst c
   rw[jf,zR _ (q:=k+1+1) (by omega) (by omega),zR _ (q:=k+1+1) (by omega) (by omega),jf]
  rw[zR _ b c,zR _ a b,zR _ a b,zR _ b c]
 exact⟨_,.one (.mk p1),e▸ .one (.mk p2)⟩
theorem qiv {n m k k' i j:Nat} {L:Nat->SB} (hk:k+1<k') (h:qaF n m L k i) (h':qaF n m L k' j): ∃D,Pst n m (psh L k i) D/\Pst n m (psh L k' j) D:=by
 have p1:qaF n m (psh L k i) k' j:=⟨h'.k_,h'.i_,by rw[zR L (q:=k'+1) (by omega) (by omega)];exact h'.b_,by rw[zR L (q:=k') (by omega) (by omega)];exact h'.e_⟩
 have p2:qaF n m (psh L k' j) k i:=⟨h.k_,h.i_,by rw[zR L (q:=k+1) (by omega) (by omega)];exact h.b_,by rw[zR L (q:=k) (by omega) (by omega)];exact h.e_⟩
 have e:psh (psh L k i) k' j=psh (psh L k' j) k i:=by
  funext q
  by_cases a:q=k
  ·subst a
   rw[zR _ (q:=q) (by omega) (by omega),yz,yz,zR _ (q:=q) (by omega) (by omega)]
  by_cases b:q=k+1
  ·subst b
   rw[zR _ (q:=k+1) (by omega) (by omega),jf,jf,zR _ (q:=k+1) (by omega) (by omega)]
  by_cases c:q=k'
  ·subst c
   rw[yz,zR _ a b,zR _ a b,yz]
  by_cases d:q=k'+1
  ·subst d
   rw[jf,zR _ a b,zR _ a b,jf]
  rw[zR _ c d,zR _ a b,zR _ a b,zR _ c d]
 exact⟨_,.one (.mk p1),e▸ .one (.mk p2)⟩
theorem meet5 {n m k k' i j:Nat} {L:Nat->SB} (h:qaF n m L k i) (h':qaF n m L k' j): ∃D,Pst n m (psh L k i) D/\Pst n m (psh L k' j) D:=by
 have sw: ∀{A B:Nat->SB},(∃D,Pst n m A D/\Pst n m B D)-> ∃D,Pst n m B D/\Pst n m A D:=fun⟨D,a,b⟩=>⟨D,b,a⟩
 by_cases e:k=k'
 ·subst e
  by_cases c:i=j
  ·subst c;exact⟨_,.refl,.refl⟩
  by_cases c1:j=i+1
  ·subst c1;exact qjE h h'
  by_cases c2:i=j+1
  ·subst c2;exact sw (qjE h' h)
  exact qpa (by omega) h h'
 by_cases e1:k'=k+1
 ·subst e1;exact qjt h h'
 by_cases e2:k=k'+1
 ·subst e2;exact sw (qjt h' h)
 by_cases e3:k<k'
 ·exact qiv (by omega) h h'
 exact sw (qiv (by omega) h' h)
theorem qhQ {n m:Nat}: ∀(M:Nat) {L A B:Nat->SB},mu5 n L m<=M->Pst n m L A->Pst n m L B->Nf n m A->Nf n m B->A=B
 |M,L,A,B,hM,hA,hB,nA,nB=>by
  cases hA with
  |refl=>
   cases hB with
   |refl=>rfl
   |head h _=>cases h with|mk h=>exact absurd h (nA _ _)
  |head h tA=>
   cases hB with
   |refl=>cases h with|mk h=>exact absurd h (nB _ _)
   |head h' tB=>
    cases h with
    |mk h=>
     cases h' with
     |mk h'=>
      obtain⟨D,d1,d2⟩:=meet5 h h'
      obtain⟨E,e1,e2⟩:=qlD _ D (Nat.le_refl _)
      have l1:=qgL h
      have l2:=qgL h'
      cases M with
      |zero=>omega
      |succ M=>rw[qhQ M (by omega) tA (d1.trans e1) nA e2,qhQ M (by omega) tB (d2.trans e1) nB e2]
end Go.Av
end
section
namespace Go.Av
theorem qkW {m:List (Int×Bool)} (k k':Int) (v:Bool):qcT (qfW m k v) k'=if k'=k then some v else qcT m k':=by
 induction m with
 |nil=>
  unfold qfW qcT
  by_cases h:k'=k
  ·simp[h]
  simp[h]
 |cons p m ih=>
  obtain⟨a,b⟩:=p
  unfold qfW
  by_cases h:(k==a)=true
  ·have e:k=a:=by simpa using h
   subst e
   rw[if_pos h]
   unfold qcT
   by_cases c:k'=k
   ·simp[c]
   have c2:(k'==k)=false:=by simpa using c
   rw[List.find?_cons_of_neg (by simp[c2]),List.find?_cons_of_neg (by simp[c2]),if_neg c]
  rw[if_neg h]
  have e:k≠a:=by simpa using h
  unfold qcT at ih⊢
  by_cases c:k'=a
  ·have c2:(k'==a)=true:=by simpa using c
   rw[List.find?_cons_of_pos (by simpa using c2),List.find?_cons_of_pos (by simpa using c2),if_neg (by rw[c];exact fun x=>e x.symm)]
  have c2:(k'==a)=false:=by simpa using c
  rw[List.find?_cons_of_neg (by simp[c2]),List.find?_cons_of_neg (by simp[c2])]
  exact ih
structure IsP (p:List Int):Prop where
 few:p.length<=256
 at_: ∀k,k<p.length-> ∃v:Nat,v<p.length/\p[k]? =some (v:Int)
 inj: ∀(k k':Nat) (v:Int),p[k]? =some v->p[k']? =some v->k=k'
theorem qoW {p:List Int} (hl:p.length<=256) {i:Nat} (hi:i<p.length) {x:Int} (hx:p[i]? =some x): ∀(K j:Nat),j<=i->i<K+j->(∀k,k<j->p[k]? ≠some x)->
 (zV p (i:Int) K (j:Int)=some (.inl ())/\ ∀k,k<i->p[k]? ≠some x)\/(zV p (i:Int) K (j:Int)=some (.inr 15)/\ ∃k,k<i/\p[k]? =some x)
 |0,j,h,hK,hn=>by omega
 |K+1,j,h,hK,hn=>by
  unfold zV
  by_cases hj:j<i
  ·have hy:p[j]? =some p[j]:=Ya (by omega)
   rw[if_pos (by omega),qx,hy,ZB,qx,hx,ZB]
   by_cases e:p[j]=x
   ·rw[if_pos e]
    exact .inr ⟨rfl,j,hj,by rw[hy,e]⟩
   rw[if_neg e,qA (by omega)]
   refine qoW hl hi hx K (j+1) (by omega) (by omega) (fun k hk=>?_)
   by_cases c:k=j
   ·subst c
    rw[hy]
    exact fun z=>e (Ye z)
   exact hn k (by omega)
  rw[if_neg (by omega)]
  exact .inl ⟨rfl,fun k hk=>hn k (by omega)⟩
theorem qmP {N:Nat} (hN:2000<N) {p:List Int} (hl:p.length<=256): ∀(K i:Nat) (m:List (Int×Bool)),i<=p.length->p.length<K+i->(∀x,(qcT m x).getD false=true↔ ∃k,k<i/\p[k]? =some x)->
 ∃r,zl p K m (i:Int)=some r/\jG N p K (i:Int)=some r/\((r= .inl ()/\ ∀j,i<=j->j<p.length-> ∃v:Nat,v<p.length/\p[j]? =some (v:Int)/\ ∀k,k<j->p[k]? ≠some (v:Int))\/r= .inr 15)
 |0,i,m,h,hK,hm=>by omega
 |K+1,i,m,h,hK,hm=>by
  unfold zl jG
  by_cases hi:i<p.length
  ·have hx:p[i]? =some p[i]:=Ya hi
   generalize p[i]=x at hx
   rw[if_pos (by omega),if_pos (by omega),qx,hx]
   simp only[ZB]
   by_cases h1:x<0
   ·rw[if_pos h1,if_pos h1]
    exact⟨_,rfl,rfl,.inr rfl⟩
   by_cases h2:x>=(p.length:Int)
   ·rw[if_neg h1,if_pos h2,if_neg h1,decide_eq_true h2]
    exact⟨_,rfl,rfl,.inr rfl⟩
   rw[if_neg h1,if_neg h2,if_neg h1,decide_eq_false h2]
   simp only[ZB,ZF,if_false]
   rcases qoW hl hi hx N 0 (by omega) (by omega) (fun k hk=>by omega)with⟨g1,g2⟩|⟨g1,k,g2,g3⟩
   ·have hf:(qcT m x).getD false=false:=by
     cases c:(qcT m x).getD false with
     |false=>rfl
     |true=>
      obtain⟨k,k1,k2⟩:=(hm x).1 c
      exact absurd k2 (g2 k k1)
    rw[show((0:Nat):Int)=0 from rfl]at g1
    rw[hf,g1,qA (by omega)]
    simp only[ZF,if_false,ZB]
    obtain⟨r,r1,r2,r3⟩:=qmP hN hl K (i+1) (qfW m x true) (by omega) (by omega) (fun y=>by
     rw[qkW]
     by_cases e:y=x
     ·rw[if_pos e]
      exact⟨fun _=>⟨i,by omega,by rw[hx,e]⟩,fun _=>rfl⟩
     rw[if_neg e,hm y]
     constructor
     ·rintro⟨k,k1,k2⟩
      exact⟨k,by omega,k2⟩
     rintro⟨k,k1,k2⟩
     refine⟨k,?_,k2⟩
     rcases Nat.lt_or_ge k i with c|c
     ·exact c
     have:k=i:=by omega
     subst this
     rw[hx]at k2
     exact absurd (Ye k2).symm e)
    refine⟨r,r1,r2,?_⟩
    rcases r3 with⟨r3,r4⟩|r3
    ·refine .inl ⟨r3,fun j hj hjl=>?_⟩
     by_cases c:j=i
     ·subst c
      refine⟨x.toNat,by omega,by rw[hx];congr 1;omega,fun k hk=>?_⟩
      rw[show((x.toNat:Nat):Int)=x by omega]
      exact g2 k hk
     exact r4 j (by omega) hjl
    exact .inr r3
   have ht:(qcT m x).getD false=true:=(hm x).2 ⟨k,g2,g3⟩
   rw[show((0:Nat):Int)=0 from rfl]at g1
   rw[ht,g1]
   exact⟨_,rfl,rfl,.inr rfl⟩
  rw[if_neg (by omega),if_neg (by omega)]
  exact⟨_,rfl,rfl,.inl ⟨rfl,fun j hj hjl=>by omega⟩⟩
theorem qnZ {N:Nat} (hN:2000<N) {p:List Int} (hl:p.length<=1000): ∃e,jL N p=some e/\yg N p=some e/\(e=0->IsP p)/\(p.length<=256->e=0\/e=15):=by
 unfold jL yg
 by_cases h:256<p.length
 ·rw[if_pos (by omega),if_pos (by omega)]
  exact⟨5,rfl,rfl,fun c=>absurd c (by decide),fun h2=>by omega⟩
 rw[if_neg (by omega),if_neg (by omega)]
 obtain⟨r,r1,r2,r3⟩:=qmP hN (p:=p) (by omega) N 0 [] (by omega) (by omega) (fun x=>by
  constructor
  ·intro c;simp[qcT]at c
  rintro⟨k,k1,_⟩;omega)
 rw[show(0:Int)=((0:Nat):Int)from rfl,r1,r2]
 rcases r3 with⟨rfl,r4⟩|rfl
 ·refine⟨0,rfl,rfl,fun _=>⟨by omega,fun k hk=>?_,fun k k' v hk hk'=>?_⟩,fun _=> .inl rfl⟩
  ·obtain⟨v,v1,v2,_⟩:=r4 k (by omega) hk
   exact⟨v,v1,v2⟩
  have l1:k<p.length:=(Yb.1 hk).1
  have l2:k'<p.length:=(Yb.1 hk').1
  rcases Nat.lt_trichotomy k k' with c|c|c
  ·obtain⟨w,w1,w2,w3⟩:=r4 k' (by omega) l2
   rw[hk']at w2
   have:=Ye w2
   subst this
   exact absurd hk (w3 k c)
  ·exact c
  obtain⟨w,w1,w2,w3⟩:=r4 k (by omega) l1
  rw[hk]at w2
  have:=Ye w2
  subst this
  exact absurd hk' (w3 k' c)
 exact⟨15,rfl,rfl,fun c=>absurd c (by decide),fun _=> .inr rfl⟩
structure SB.Ok (n:Nat) (s:SB):Prop where
 f_: ∀k,k<n->s.f k<n
 g_: ∀k,k<n->s.g k<n
def SB.li (n:Nat) (s:SB):List Int:=(List.range n).map fun k=>(s.f k:Int)
theorem Ud (n:Nat) (s:SB):(s.li n).length=n:=by simp[SB.li]
theorem Ui {n k:Nat} (s:SB) (h:k<n):(s.li n)[k]? =some (s.f k:Int):=by simp[SB.li,List.getElem?_range h]
theorem Uu {n:Nat} {s:SB} {p:List Int} (hl:p.length=n) (h: ∀k,k<n->p[k]? =some (s.f k:Int)):p=s.li n:=by
 apply List.ext_getElem?
 intro k
 by_cases hk:k<n
 ·rw[h k hk,Ui s hk]
 rw[Yg (by omega),Yg (by rw[Ud];omega)]
theorem U3 {n:Nat} {s t:SB} (h:s.li n=t.li n) {k:Nat} (hk:k<n):s.f k=t.f k:=by
 have h1:=Ui s hk
 have h2:=Ui t hk
 rw[h,h2]at h1
 have:=Ye h1
 omega
theorem qio {n i k:Nat} (hi:i+1<n) (h:k<n):tr5 i k<n:=by
 rcases yI i k with⟨a,e⟩|⟨a,e⟩|⟨a,a',e⟩<;>omega
theorem SB.Ok.fr {n i:Nat} {s:SB} (h:s.Ok n) (hi:i+1<n):(s.fr i).Ok n:=⟨fun k hk=>h.f_ _ (qio hi hk),fun k hk=>qio hi (h.g_ k hk)⟩
theorem SB.Ok.bk {n i:Nat} {s:SB} (h:s.Ok n) (hi:i+1<n):(s.bk i).Ok n:=⟨fun k hk=>qio hi (h.f_ k hk),fun k hk=>h.g_ _ (qio hi hk)⟩
def SB.rev (s:SB):SB:=⟨s.g,s.f,s.fg,s.gf⟩
theorem SB.Ok.rev {n:Nat} {s:SB} (h:s.Ok n):s.rev.Ok n:=⟨h.g_,h.f_⟩
def Uf:SB:=⟨fun k=>k,fun k=>k,fun _=>rfl,fun _=>rfl⟩
theorem Un (n:Nat):Uf.Ok n:=⟨fun _ h=>h,fun _ h=>h⟩
theorem U1 (n:Nat):Uf.li n=ve n:=rfl
def rv5 (n k:Nat):Nat:=if k<n then n-1-k else k
theorem qaD (n k:Nat):rv5 n (rv5 n k)=k:=by
 unfold rv5
 by_cases h:k<n
 ·rw[if_pos h,if_pos (by omega)];omega
 rw[if_neg h,if_neg h]
theorem qhe {n k:Nat} (h:k<n):rv5 n k<n:=by unfold rv5;rw[if_pos h];omega
def Ue (n:Nat):SB:=⟨rv5 n,rv5 n,qaD n,qaD n⟩
theorem Uq (n:Nat):(Ue n).Ok n:=⟨fun _ h=>qhe h,fun _ h=>qhe h⟩
def SB.flip (n:Nat) (s:SB):SB:=⟨fun k=>rv5 n (s.f (rv5 n k)),fun k=>rv5 n (s.g (rv5 n k)),fun k=>by rw[qaD,s.gf,qaD],fun k=>by rw[qaD,s.fg,qaD]⟩
theorem SB.Ok.flip {n:Nat} {s:SB} (h:s.Ok n):(s.flip n).Ok n:=⟨fun k hk=>qhe (h.f_ _ (qhe hk)),fun k hk=>qhe (h.g_ _ (qhe hk))⟩
end Go.Av
end
section
namespace Go.Av
theorem Ug {n k:Nat} {s:SB} (h:k<n):idx (s.li n) (k:Int)=some (s.f k:Int):=by rw[qx,Ui s h]
section
variable {n:Nat} (hn:n<=300)
include hn
theorem qm1 {s:SB} (hs:s.Ok n): ∀(K i:Nat) (l:List Int),l.length=n->i<=n->n<K+i->(∀k,k<i->l[s.f k]? =some (k:Int))->zK (s.li n) K l (i:Int)=some (s.rev.li n)
 |0,i,l,hl,h,hK,hk=>by omega
 |K+1,i,l,hl,h,hK,hk=>by
  unfold zK
  rw[Ud]
  by_cases hi:i<n
  ·have hf:=hs.f_ i hi
   rw[if_pos (by omega),Ug hi,ZB,qx,Ya (by omega),ZB,jB (by omega),ZB,qA (by omega)]
   refine qm1 hs K (i+1) _ (by simpa using hl) (by omega) (by omega) (fun k hki=>?_)
   by_cases e:k=i
   ·subst e;rw[List.getElem?_set_self (by omega)]
   rw[Yw (fun c=>e (s.finj c.symm))];exact hk k (by omega)
  rw[if_neg (by omega)]
  congr 1
  refine Uu hl fun v hv=>?_
  have:=hk (s.g v) (by have:=hs.g_ v hv;omega)
  rw[s.fg]at this;exact this
theorem qiu {N:Nat} (hN:2000<N) {s:SB} (hs:s.Ok n):jD N (s.li n)=some (s.rev.li n):=by
 unfold jD
 have:=qm1 hn hs N 0 (List.replicate n 0) (by simp) (by omega) (by omega) (fun k hk=>by omega)
 rw[show((0:Nat):Int)=0 from rfl]at this
 rw[Ud,qgq (by omega),ZB,this,ZB]
theorem qez (s:SB) {i:Nat} (hi:i+1<n):zw (s.li n) (i:Int)=some ((s.fr i).li n):=by
 unfold zw
 have hl:=Ud n s
 have hc:qfs (s.li n)=some ():=by
  unfold qfs
  rw[if_pos (by omega)]
 rw[hc,ZB,qA (by omega),Ug hi,ZB,Ug (by omega),ZB,jB (by omega),ZB,qx,Yw (by omega),Ui _ hi,ZB,jB (by simp;omega),ZB]
 congr 1
 refine Uu (by simp[hl]) fun k hk=>?_
 show _=some ((s.f (tr5 i k):Nat):Int)
 rcases yI i k with⟨rfl,e⟩|⟨rfl,e⟩|⟨a,b,e⟩<;>rw[e]
 ·rw[Yw (by omega),List.getElem?_set_self (by omega)]
 ·rw[List.getElem?_set_self (by simp;omega)]
 rw[Yw (by omega),Yw (by omega),Ui s hk]
theorem qju {N:Nat} (hN:2000<N) {s:SB} (hs:s.Ok n) {i:Nat} (hi:i+1<n):j6 N (s.li n) (i:Int)=some ((s.bk i).li n):=by
 unfold j6
 rw[qiu hn hN hs,ZB,qez hn s.rev hi,ZB,qiu hn hN (hs.rev.fr hi),ZB]
 rfl
theorem qha (s:SB) {i:Nat} (hi:i+1<n):jk (s.li n) (i:Int)=some (decide (s.f (i+1)<s.f i)):=by
 unfold jk
 rw[Ug (by omega),ZB,qA (by omega),Ug hi,ZB]
 congr 1
 exact decide_eq_decide.2 (by omega)
theorem qrl {N:Nat} (hN:2000<N) {s:SB} (hs:s.Ok n) {i:Nat} (hi:i+1<n):xy N (s.li n) (i:Int)=some (decide (s.g (i+1)<s.g i)):=by
 unfold xy
 rw[qiu hn hN hs,ZB,qha hn s.rev hi,ZB]
 rfl
theorem qhc {N:Nat} (hN:2000<N) {s t:SB} (hs:s.Ok n): ∀(K i:Nat),i+1<=n->n<K+i->
 (∃j,i<=j/\j+1<n/\t.Begs j/\ ¬s.Ends j/\jI N (s.li n) (t.li n) K (i:Int) ((n:Int)-1)=some (.inr ((j:Int),true)))\/
 ((∀j,i<=j->j+1<n->t.Begs j->s.Ends j)/\jI N (s.li n) (t.li n) K (i:Int) ((n:Int)-1)=some (.inl ()))
 |0,i,h,hK=>by omega
 |K+1,i,h,hK=>by
  unfold jI
  by_cases hi:i+1<n
  ·rw[if_pos (by omega),qha hn t hi,ZB]
   by_cases a:t.f (i+1)<t.f i
   ·rw[decide_eq_true a,if_pos rfl,qrl hn hN hs hi,ZB,ZB]
    by_cases b:s.g (i+1)<s.g i
    ·rw[decide_eq_true b,if_neg (by decide),qA (by omega)]
     rcases qhc hN hs K (i+1) (by omega) (by omega)with⟨j,h1,h2⟩|⟨h1,h2⟩
     ·exact .inl ⟨j,by omega,h2⟩
     refine .inr ⟨fun j hj hj2 hb=>?_,h2⟩
     by_cases e:j=i
     ·subst e;exact b
     exact h1 j (by omega) hj2 hb
    rw[decide_eq_false b,if_pos (by decide)]
    exact .inl ⟨i,Nat.le_refl _,hi,a,b,rfl⟩
   rw[decide_eq_false a,if_neg (by decide),ZB,if_neg (by decide),qA (by omega)]
   rcases qhc hN hs K (i+1) (by omega) (by omega)with⟨j,h1,h2⟩|⟨h1,h2⟩
   ·exact .inl ⟨j,by omega,h2⟩
   refine .inr ⟨fun j hj hj2 hb=>?_,h2⟩
   by_cases e:j=i
   ·subst e;exact absurd hb a
   exact h1 j (by omega) hj2 hb
  rw[if_neg (by omega)]
  exact .inr ⟨fun j hj hj2=>by omega,rfl⟩
theorem qi3 {N:Nat} (hN:2000<N) (n1:1<=n) {s t:SB} (hs:s.Ok n):
 (∃j:Nat,j+1<n/\t.Begs j/\ ¬s.Ends j/\yH N (s.li n) (t.li n)=some ((j:Int),true))\/((∀j,j+1<n->t.Begs j->s.Ends j)/\yH N (s.li n) (t.li n)=some (0,false)):=by
 unfold yH
 rw[Ud,show w64 ((n:Int)-1)=(n:Int)-1 from z8 (by omega) (by omega)]
 have:=qhc hn hN (t:=t) hs N 0 (by omega) (by omega)
 rw[show((0:Nat):Int)=0 from rfl]at this
 rcases this with⟨j,_,h2,h3,h4,h5⟩|⟨h1,h2⟩
 ·exact .inl ⟨j,h2,h3,h4,by rw[h5];rfl⟩
 exact .inr ⟨fun j=>h1 j (Nat.zero_le _),by rw[h2];rfl⟩
end
theorem qo7 {l0:List Int} {n:Nat} (hn:l0.length=n) (hb:n<=100000): ∀(K i:Nat) (l:List Int),l.length=n->2*i<=n+1->n+1<K+2*i->(∀k:Nat,k<n->l[k]? =if k<i\/n<=k+i then l0[n-1-k]? else l0[k]?)->zf K l (i:Int) ((n:Int)-1-i)=some l0.reverse
 |0,i,l,hl,h2,hK,hk=>by omega
 |K+1,i,l,hl,h2,hK,hk=>by
  unfold zf
  by_cases hi:(i:Int)<(n:Int)-1-i
  ·have e1:(n:Int)-1-i=((n-1-i:Nat):Int):=by omega
   have e2:w64 (((n-1-i:Nat):Int)-1)=(n:Int)-1-((i+1:Nat):Int):=by rw[z8 (by omega) (by omega)];omega
   have q1:=hk (n-1-i) (by omega)
   have q2:=hk i (by omega)
   rw[if_neg (by omega)]at q1 q2
   have g1:l0[n-1-i]? =some l0[n-1-i]:=Ya (by omega)
   have g2:l0[i]? =some l0[i]:=Ya (by omega)
   rw[g1]at q1
   rw[g2]at q2
   rw[if_pos hi,e1,qx,q1,ZB,qx,q2,ZB,jB (by omega),ZB,qx,Yw (by omega),q1,ZB,jB (by simp;omega),ZB,qA (by omega),e2]
   refine qo7 hn hb K (i+1) _ (by simp;omega) (by omega) (by omega) (fun k hkn=>?_)
   by_cases c1:k=n-1-i
   ·subst c1
    rw[List.getElem?_set_self (by simp;omega),if_pos (by omega),show n-1-(n-1-i)=i by omega,g2]
   rw[Yw (fun e=>c1 e.symm)]
   by_cases c2:k=i
   ·subst c2
    rw[List.getElem?_set_self (by omega),if_pos (by omega),g1]
   rw[Yw (fun e=>c2 e.symm),hk k hkn]
   by_cases c3:k<i\/n<=k+i
   ·rw[if_pos c3,if_pos (by omega)]
   rw[if_neg c3,if_neg (by omega)]
  rw[if_neg hi]
  congr 1
  apply List.ext_getElem?
  intro k
  by_cases hkn:k<n
  ·rw[hk k hkn,List.getElem?_reverse (by omega),hn]
   by_cases c3:k<i\/n<=k+i
   ·rw[if_pos c3]
   rw[if_neg c3,show n-1-k=k by omega]
  rw[Yg (by omega),Yg (by simp;omega)]
theorem qk4 {N:Nat} {l:List Int} (hN:l.length+1<N) (hb:l.length<=100000):vF N l=some l.reverse:=by
 unfold vF
 have:=qo7 (l0:=l) rfl hb N 0 l rfl (by omega) (by omega) (fun k hk=>by rw[if_neg (by omega)])
 rw[z8 (by omega) (by omega),show((l.length:Int)-1)=(l.length:Int)-1-((0:Nat):Int)by omega,show(0:Int)=((0:Nat):Int)from rfl]
 rw[this]
 rfl
theorem qqB (n:Nat):(ve n).reverse=(Ue n).li n:=by
 refine Uu (by simp[xh]) fun k hk=>?_
 rw[List.getElem?_reverse (by rw[xh];exact hk),xh,qcr (by omega)]
 show _=some ((rv5 n k:Nat):Int)
 unfold rv5
 rw[if_pos hk]
theorem qhV {N n:Nat} (hN:2000<N) (hn:n<=300):qaN N (n:Int)=some ((Ue n).li n):=by
 unfold qaN
 rw[qig hN (by omega),ZB,qk4 (by rw[xh];omega) (by rw[xh];omega),ZB,if_pos (by simp),ZB,qqB]
end Go.Av
end
section
namespace Go.Av
def SB.comp (s t:SB):SB:=⟨fun k=>t.f (s.f k),fun k=>s.g (t.g k),fun k=>by rw[t.gf,s.gf],fun k=>by rw[s.fg,t.fg]⟩
theorem SB.Ok.comp {n:Nat} {s t:SB} (hs:s.Ok n) (ht:t.Ok n):(s.comp t).Ok n:=⟨fun k hk=>ht.f_ _ (hs.f_ k hk),fun k hk=>hs.g_ _ (ht.g_ k hk)⟩
section
variable {n:Nat} (hn:n<=300)
include hn
theorem qne {s:SB} (hs:s.Ok n): ∀(K i:Nat) (l:List Int),l.length=n->i<=n->n<K+i->(∀k,k<i->l[n-1-k]? =some ((n-1-s.f k:Nat):Int))->zm (s.li n) K l (i:Int)=some ((s.flip n).li n)
 |0,i,l,hl,h,hK,hk=>by omega
 |K+1,i,l,hl,h,hK,hk=>by
  unfold zm
  rw[Ud]
  by_cases hi:i<n
  ·have hf:=hs.f_ i hi
   have e0:w64 ((n:Int)-1)=(n:Int)-1:=z8 (by omega) (by omega)
   have e1:w64 ((n:Int)-1-(i:Int))=((n-1-i:Nat):Int):=by rw[z8 (by omega) (by omega)];omega
   have e2:w64 ((n:Int)-1-(s.f i:Int))=((n-1-s.f i:Nat):Int):=by rw[z8 (by omega) (by omega)];omega
   rw[if_pos (by omega),Ug hi,ZB,e0,e1,e2,qx,Ya (by omega),ZB,jB (by omega),ZB,qA (by omega)]
   refine qne hs K (i+1) _ (by simpa using hl) (by omega) (by omega) (fun k hki=>?_)
   by_cases e:k=i
   ·subst e;rw[List.getElem?_set_self (by omega)]
   rw[Yw (by omega)];exact hk k (by omega)
  rw[if_neg (by omega)]
  congr 1
  refine Uu hl fun v hv=>?_
  have:=hk (n-1-v) (by omega)
  rw[show n-1-(n-1-v)=v by omega]at this
  rw[this]
  show _=some ((rv5 n (s.f (rv5 n v)):Nat):Int)
  have h2:rv5 n v=n-1-v:=by unfold rv5;rw[if_pos hv]
  have h3:=hs.f_ (n-1-v) (by omega)
  rw[h2]
  unfold rv5
  rw[if_pos h3]
theorem qk9 {N:Nat} (hN:2000<N) {s:SB} (hs:s.Ok n):vU N (s.li n)=some ((s.flip n).li n):=by
 unfold vU
 have:=qne hn hs N 0 (List.replicate n 0) (by simp) (by omega) (by omega) (fun k hk=>by omega)
 rw[show((0:Nat):Int)=0 from rfl]at this
 rw[Ud,qgq (by omega),ZB,this,ZB]
end
def qaA (n:Nat) (l:List SB):List (List Int):=l.map (SB.li n)
theorem qbN (n:Nat) (l:List SB):(qaA n l).length=l.length:=by simp[qaA]
theorem qjD {n k:Nat} {l:List SB} (h:k<l.length):(qaA n l)[k]? =some (l[k].li n):=by
 unfold qaA
 rw[YA,Ya h]
 rfl
section
variable {n:Nat} (hn:n<=12) {N:Nat} (hN:2000<N)
include hn hN
theorem qkQ {l:List SB} (hl:l.length<=300) (ho: ∀s∈l,s.Ok n): ∀(K i:Nat),i<=l.length->l.length<K+i->kw N (qaA n l) K (qaA n ((l.take i).map (SB.flip n))) (i:Int)=some (qaA n (l.map (SB.flip n)))
 |0,i,h,hK=>by omega
 |K+1,i,h,hK=>by
  unfold kw
  rw[qbN]
  by_cases hi:i<l.length
  ·rw[if_pos (by omega),qx,qjD hi,ZB,qk9 (by omega) hN (ho _ (List.getElem_mem hi)),ZB,qb8 (by rw[qbN];simp;omega) (by rw[qbN];simp;omega),ZB,qA (by omega)]
   have e:qaA n ((l.take i).map (SB.flip n))++[(l[i].flip n).li n]=qaA n ((l.take (i+1)).map (SB.flip n)):=by
    rw[List.take_succ_eq_append_getElem hi,List.map_append]
    unfold qaA
    rw[List.map_append]
    rfl
   rw[e]
   exact qkQ hl ho K (i+1) (by omega) (by omega)
  rw[if_neg (by omega),List.take_of_length_le (by omega)]
theorem qlb {l:List SB} (hl:l.length<=300) (ho: ∀s∈l,s.Ok n):jU N (qaA n l)=some (qaA n (l.map (SB.flip n))):=by
 unfold jU
 have:=qkQ hn hN hl ho N 0 (by omega) (by omega)
 rw[show((0:Nat):Int)=0 from rfl,List.take_zero]at this
 rw[show([]:List (List Int))=qaA n (([]:List SB).map (SB.flip n))from rfl,this,ZB]
end
end Go.Av
end
section
namespace Go.Av
structure MdOK (n:Int) (k:Nat) (r:List Int×Int):Prop where
 bad:r.2≠0->r.1=[]
 len:r.2=0->r.1.length<=k
 let_:r.2=0-> ∀c∈r.1,qcY n c=true
end Go.Av
end
section
namespace Go.Av
theorem qpF {a b:List Int} (hl:a.length<=100000) (hab:a.length=b.length): ∀(K i:Nat),i<=a.length->a.length<K+i->ji a b K (i:Int)=some (if a.drop i=b.drop i then .inl ()else .inr false)
 |0,i,h,hK=>by omega
 |K+1,i,h,hK=>by
  unfold ji
  by_cases hi:i<a.length
  ·have hb:i<b.length:=by omega
   rw[if_pos (by omega),qx,Ya hi,qx,Ya hb,ZB,ZB,YG hi,YG hb]
   by_cases c:a[i]=b[i]
   ·rw[decide_eq_true c,if_neg (by decide),qA (by omega),qpF hl hab K (i+1) (by omega) (by omega),c]
    simp only[List.cons.injEq,true_and]
   rw[decide_eq_false c,if_pos (by decide),if_neg (fun h=>c (List.cons.inj h).1)]
  rw[if_neg (by omega),List.drop_eq_nil_of_le (by omega),List.drop_eq_nil_of_le (by omega),if_pos rfl]
theorem qnp {N:Nat} {a b:List Int} (hl:a.length<=100000) (hN:a.length<N):slices_Equal_int N a b=some (decide (a=b)):=by
 unfold slices_Equal_int
 by_cases c:(a.length:Int)=(b.length:Int)
 ·have:=qpF hl (b:=b) (by omega) N 0 (by omega) (by omega)
  rw[show((0:Nat):Int)=0 from rfl,YR,YR]at this
  rw[decide_eq_true c,if_neg (by decide),this]
  by_cases e:a=b
  ·rw[if_pos e,decide_eq_true e];rfl
  rw[if_neg e,decide_eq_false e];rfl
 rw[decide_eq_false c,if_pos (by decide),decide_eq_false (fun e=>c (by rw[e]))]
inductive WdB (n:Nat):SB->List Int->Prop
 |nil {s:SB} (h: ∀q,q+1<n-> ¬s.Begs q):WdB n s []
 |cons {s:SB} {i:Nat} {W:List Int} (hi:i+1<n) (hb:s.Begs i) (hm: ∀q,q<i-> ¬s.Begs q) (h:WdB n (s.fr i) W):WdB n s (((i+1:Nat):Int)::W)
theorem qmA {n:Nat} (s:SB):(∀q,q+1<n-> ¬s.Begs q)\/ ∃i,i+1<n/\s.Begs i/\ ∀q,q<i-> ¬s.Begs q:=by
 have go: ∀d i,i+d=n->(∀q,q<i-> ¬s.Begs q)->(∀q,q+1<n-> ¬s.Begs q)\/ ∃i,i+1<n/\s.Begs i/\ ∀q,q<i-> ¬s.Begs q:=by
  intro d
  induction d with
  |zero=>exact fun i hi h=> .inl fun q hq=>h q (by omega)
  |succ d ih=>
   intro i hi h
   by_cases c:i+1<n/\s.Begs i
   ·exact .inr ⟨i,c.1,c.2,h⟩
   by_cases e:i+1<n
   ·refine ih (i+1) (by omega) fun q hq=>?_
    by_cases g:q=i
    ·subst g;exact fun b=>c ⟨e,b⟩
    exact h q (by omega)
   exact .inl fun q hq=>h q (by omega)
 exact go n 0 (by omega) (fun q hq=>by omega)
theorem qqj {n:Nat}: ∀(M:Nat) (s:SB),s.inv n<=M-> ∃W,WdB n s W/\W.length<=M
 |M,s,hM=>by
  rcases qmA (n:=n) s with h|⟨i,hi,hb,hm⟩
  ·exact⟨[],.nil h,Nat.zero_le _⟩
  have:=SB.inv_fr hi hb
  cases M with
  |zero=>omega
  |succ M=>
   obtain⟨W,h1,h2⟩:=qqj (n:=n) M (s.fr i) (by omega)
   exact⟨_,.cons hi hb hm h1,by simp;omega⟩
theorem qnr: ∀l:List Nat,qhb l<=l.length*l.length
 |[]=>Nat.le_refl _
 |x::r=>by
  have h1:r.countP (fun y=>decide (y<x))<=r.length:=List.countP_le_length
  have h2:=qnr r
  simp only[qhb,Yr,Nat.add_mul,Nat.mul_add,Nat.one_mul,Nat.mul_one]
  omega
theorem SB.inv_le (n:Nat) (s:SB):s.inv n<=n*n:=by
 have:=qnr (s.row n)
 rwa [Ul]at this
theorem qrg (x y:Int):cmp_Less_int x y=some (decide (x<y)):=by
 unfold cmp_Less_int cmp_isNaN_int
 simp
section
variable {n:Nat} (hn:n<=12) (n1:1<=n)
include hn n1
theorem qm5 (s:SB): ∀(K i:Nat),i+1<=n->n<K+i->
 (∃j,i<=j/\j+1<n/\s.Begs j/\(∀q,i<=q->q<j-> ¬s.Begs q)/\zy (s.li n) K (i:Int)=some (j:Int))\/((∀q,i<=q->q+1<n-> ¬s.Begs q)/\zy (s.li n) K (i:Int)=some ((n-1:Nat):Int))
 |0,i,h,hK=>by omega
 |K+1,i,h,hK=>by
  unfold zy
  rw[Ud,qA (by omega)]
  by_cases hi:i+1<n
  ·rw[if_pos (by omega),qha (by omega) s hi,ZB,ZB]
   by_cases a:s.f (i+1)<s.f i
   ·rw[decide_eq_true a,if_neg (by decide)]
    exact .inl ⟨i,Nat.le_refl _,hi,a,fun q h1 h2=>by omega,rfl⟩
   rw[decide_eq_false a,if_pos (by decide)]
   rcases qm5 s K (i+1) (by omega) (by omega)with⟨j,h1,h2,h3,h4,h5⟩|⟨h1,h2⟩
   ·refine .inl ⟨j,by omega,h2,h3,fun q g1 g2=>?_,h5⟩
    by_cases e:q=i
    ·subst e;exact a
    exact h4 q (by omega) g2
   refine .inr ⟨fun q g1 g2=>?_,h2⟩
   by_cases e:q=i
   ·subst e;exact a
   exact h1 q (by omega) g2
  rw[if_neg (by omega),ZB,if_neg (by decide)]
  exact .inr ⟨fun q g1 g2=>by omega,by rw[show n-1=i by omega]⟩
theorem qnf {N:Nat} (hN:2000<N): ∀(W:List Int) {s:SB},WdB n s W-> ∀(K:Nat) (out:List Int),W.length<K->out.length+W.length<=100000->zX N K out (s.li n)=some (out++W)
 |W,s,h,0,out,hK,hb=>by omega
 |W,s,h,K+1,out,hK,hb=>by
  unfold zX
  have l1:=qm5 hn n1 s N 0 (by omega) (by omega)
  rw[show((0:Nat):Int)=0 from rfl]at l1
  cases h with
  |nil h=>
   rcases l1 with⟨j,_,h2,h3,_⟩|⟨_,h2⟩
   ·exact absurd h3 (h j h2)
   rw[h2,ZB,qA (by omega),Ud,if_pos (by omega),List.append_nil]
  |@cons _ i W hi hb' hm h=>
   rcases l1 with⟨j,_,h2,h3,h4,h5⟩|⟨h1,_⟩
   ·have e:j=i:=by
     rcases Nat.lt_trichotomy j i with c|c|c
     ·exact absurd h3 (hm j c)
     ·exact c
     exact absurd hb' (h4 i (by omega) c)
    subst e
    simp only[Yr]at hK hb
    rw[h5,ZB,qA (by omega),Ud,if_neg (by omega),qez (by omega) s hi,ZB,qb8 (by simp only[Yr,List.length_nil];omega) (by simp only[Yr,List.length_nil];omega),ZB,
     qnf hN W h K _ (by omega) (by simp;omega)]
    simp
   exact absurd hb' (h1 i (Nat.zero_le _) hi)
theorem qnx {N:Nat} (hN:2000<N) {s:SB} {W:List Int} (h:WdB n s W) (hl:W.length<=1000):vX N (s.li n)=some W:=by
 unfold vX
 have hc:qfs (s.li n)=some ():=by
  unfold qfs
  rw[Ud,if_pos (by omega)]
 rw[hc,ZB,qnf hn n1 hN W h N [] (by omega) (by simp;omega),ZB,List.nil_append]
theorem qlu (s:SB): ∀(K i:Nat),i<n->i<K->(∀q,i<=q->q+1<n-> ¬s.Begs q)-> ∃r,zB (s.li n) K (i:Int)=some r/\((r= .inl ()/\ ∀q,q+1<n-> ¬s.Begs q)\/(r= .inr false/\ ∃q,q+1<n/\s.Begs q))
 |0,i,h,hK,hd=>by omega
 |K+1,i,h,hK,hd=>by
  unfold zB
  cases i with
  |zero=>
   rw[if_neg (by omega)]
   exact⟨_,rfl,.inl ⟨rfl,fun q hq=>hd q (Nat.zero_le _) hq⟩⟩
  |succ i=>
   have e:w64 (((i+1:Nat):Int)-1)=(i:Int):=by rw[z8 (by omega) (by omega)];omega
   rw[if_pos (by omega),e,Ug h,Ug (by omega)]
   simp only[ZB,qrg]
   by_cases a:s.f (i+1)<s.f i
   ·rw[decide_eq_true (show((s.f (i+1):Nat):Int)<(s.f i:Int)by omega),if_pos rfl]
    exact⟨_,rfl,.inr ⟨rfl,i,h,a⟩⟩
   rw[decide_eq_false (show¬((s.f (i+1):Nat):Int)<(s.f i:Int)by omega),if_neg (by decide)]
   refine qlu s K i (by omega) (by omega) fun q h1 h2=>?_
   by_cases c:q=i
   ·subst c;exact a
   exact hd q (by omega) h2
theorem qls {N:Nat} (hN:2000<N) (s:SB): ∃b,vM N (s.li n)=some b/\(b=true↔ ∀q,q+1<n-> ¬s.Begs q):=by
 unfold vM slices_IsSorted_int
 have e:w64 ((((s.li n).length:Nat):Int)-1)=((n-1:Nat):Int):=by rw[Ud,z8 (by omega) (by omega)];omega
 obtain⟨r,r1,r2⟩:=qlu hn n1 s N (n-1) (by omega) (by omega) (fun q h1 h2=>by omega)
 rw[e,r1]
 rcases r2 with⟨rfl,r3⟩|⟨rfl,q,q1,q2⟩
 ·exact⟨true,rfl,fun _=>r3,fun _=>rfl⟩
 exact⟨false,rfl,fun h=>(by cases h),fun h=>absurd q2 (h q q1)⟩
theorem qke {s:SB} (hs:s.Ok n):(∀q,q+1<n-> ¬s.Begs q)↔s.li n=ve n:=by
 constructor
 ·intro h
  have lo: ∀k,k<n->k<=s.f k:=by
   intro k
   induction k with
   |zero=>exact fun _=>Nat.zero_le _
   |succ k ih=>
    intro hk
    have h1:=ih (by omega)
    have h2:=h k hk
    have h3:s.f k≠s.f (k+1):=fun c=>by have:=s.finj c;omega
    have h4: ¬s.f (k+1)<s.f k:=h2
    omega
  have hi: ∀d,d<n->s.f (n-1-d)<=n-1-d:=by
   intro d
   induction d with
   |zero=>
    intro hd
    have:=hs.f_ (n-1-0) (by omega)
    omega
   |succ d ih=>
    intro hd
    have h1:=ih (by omega)
    have h2: ¬s.f (n-1-(d+1)+1)<s.f (n-1-(d+1)):=h (n-1-(d+1)) (by omega)
    have h3:s.f (n-1-(d+1))≠s.f (n-1-(d+1)+1):=fun c=>by have:=s.finj c;omega
    have e:n-1-(d+1)+1=n-1-d:=by omega
    rw[e]at h2 h3
    omega
  refine(Uu (xh n) fun k hk=>?_).symm
  rw[qcr hk]
  have h1:=lo k hk
  have h2:=hi (n-1-k) (by omega)
  rw[show n-1-(n-1-k)=k by omega]at h2
  congr 1
  omega
 intro h q hq hb
 have e: ∀k,k<n->s.f k=k:=fun k hk=>U3 (t:=Uf) h hk
 have hb:s.f (q+1)<s.f q:=hb
 rw[e _ hq,e _ (by omega)]at hb
 omega
end
end Go.Av
end
section
namespace Go.Av
def je (n m:Nat) (L:Nat->SB):List (List Int):=(List.range m).map fun q=>(L q).li n
theorem qC (n m:Nat) (L:Nat->SB):(je n m L).length=m:=by simp[je]
theorem jc {n m q:Nat} {L:Nat->SB} (h:q<m):(je n m L)[q]? =some ((L q).li n):=by simp[je,List.getElem?_range h]
theorem qlc {n m:Nat} {L:Nat->SB} {R:List (List Int)} (hl:R.length=m) (h: ∀q,q<m->R[q]? =some ((L q).li n)):R=je n m L:=by
 apply List.ext_getElem?
 intro q
 by_cases hq:q<m
 ·rw[h q hq,jc hq]
 rw[Yg (by omega),Yg (by rw[qC];omega)]
theorem qnC {n m k i:Nat} {L:Nat->SB} (hk:k+1<m):((je n m L).set k (((L k).bk i).li n)).set (k+1) (((L (k+1)).fr i).li n)=je n m (psh L k i):=by
 refine qlc (by simp[qC]) fun q hq=>?_
 by_cases a:q=k+1
 ·subst a
  rw[List.getElem?_set_self (by simp[qC];omega),jf]
 by_cases b:q=k
 ·subst b
  rw[Yw (by omega),List.getElem?_set_self (by rw[qC];omega),yz]
 rw[Yw (by omega),Yw (by omega),jc hq,zR L b a]
def OkM (n m:Nat) (L:Nat->SB):Prop:= ∀q,q<m->(L q).Ok n
theorem OkM.psh {n m k i:Nat} {L:Nat->SB} (h:OkM n m L) (hk:k+1<m) (hi:i+1<n):OkM n m (psh L k i):=fun q hq=>by
 by_cases a:q=k
 ·subst a;rw[yz];exact(h q hq).bk hi
 by_cases b:q=k+1
 ·subst b;rw[jf];exact(h (k+1) hq).fr hi
 rw[zR L a b];exact h q hq
theorem qpi {n:Nat} {L:Nat->SB}: ∀m,mu5 n L m<=m*(m*(n*n))
 |0=>Nat.zero_le _
 |m+1=>by
  have h1:=qpi (n:=n) (L:=L) m
  have h2:=Nat.mul_le_mul_left m ((L m).inv_le n)
  simp only[mu5,Nat.add_mul,Nat.mul_add,Nat.one_mul]at*
  omega
section
variable {n m:Nat} (hn:n<=12) (n1:1<=n) (hm:m<=300) {N:Nat} (hN:2000<N)
include hn n1 hm hN
theorem qqR {L:Nat->SB} (hL:OkM n m L) {k:Nat} (hk:k+1<m):
 (∃i,qaF n m L k i/\yK N (k:Int) (je n m L)=some (je n m (psh L k i),true))\/((∀i,¬qaF n m L k i)/\yK N (k:Int) (je n m L)=some (je n m L,false)):=by
 unfold yK
 rw[qx,jc (by omega),ZB,qA (by omega),qx,jc hk,ZB]
 rcases qi3 (n:=n) (by omega) hN n1 (t:=L (k+1)) (hL k (by omega))with⟨j,j1,j2,j3,j4⟩|⟨j1,j2⟩
 ·left
  refine⟨j,⟨hk,j1,j2,j3⟩,?_⟩
  rw[j4,ZB]
  simp only[if_true]
  rw[qju (by omega) hN (hL k (by omega)) j1,ZB,qez (by omega) _ j1,ZB,jB (by rw[qC];omega),ZB,qx,Yw (by omega),jc hk,ZB,jB (by simp[qC];omega),ZB,ZB,qnC hk]
 right
 refine⟨fun i c=>c.e_ (j1 i c.i_ c.b_),?_⟩
 rw[j2,ZB]
 rfl
theorem qny {k:Nat} (hk:k+1<m): ∀(K:Nat) (L:Nat->SB) (b:Bool),OkM n m L->mu5 n L m<K->
 ∃(L':Nat->SB) (b':Bool),vJ N (k:Int) K (je n m L) b=some (je n m L',b')/\Pst n m L L'/\OkM n m L'/\(∀i,¬qaF n m L' k i)/\(∀q,q≠k->q≠k+1->L' q=L q)/\((b'=b/\L'=L)\/(b'=true/\mu5 n L' m<mu5 n L m))
 |0,L,b,hL,h=>by omega
 |K+1,L,b,hL,h=>by
  unfold vJ
  rcases qqR hn n1 hm hN hL hk with⟨i,c,e⟩|⟨c,e⟩
  ·have hmu:=qgL c
   obtain⟨L',b',h1,h2,h3,h4,h5,h6⟩:=qny hk K (psh L k i) true (hL.psh hk c.i_) (by omega)
   rw[e,ZB]
   simp only[qC,if_true,ZB]
   refine⟨L',b',h1,.head (.mk c) h2,h3,h4,fun q q1 q2=>by rw[h5 q q1 q2,zR L q1 q2],?_⟩
   rcases h6 with⟨g1,g2⟩|⟨g1,g2⟩
   ·subst g1 g2;exact .inr ⟨rfl,hmu⟩
   exact .inr ⟨g1,by omega⟩
  rw[e,ZB]
  simp only[qC,if_true,ZB,ZF,if_false]
  exact⟨L,b,rfl,.refl,hL,c,fun q _ _=>rfl,.inl ⟨rfl,rfl⟩⟩
theorem qkd (hmu: ∀L:Nat->SB,mu5 n L m<N): ∀(K k:Nat) (L:Nat->SB),OkM n m L->k<=m->2*mu5 n L m+(m-k)<K->(∀j,j<k-> ∀i,¬qaF n m L j i)->
 ∃A,vI N K (je n m L) (k:Int)=some (je n m A)/\Pst n m L A/\Nf n m A/\OkM n m A
 |0,k,L,hL,hk,h,ht=>by omega
 |K+1,k,L,hL,hk,h,ht=>by
  unfold vI
  rw[qC,qA (by omega)]
  by_cases c:k+1<m
  ·obtain⟨L',b',h1,h2,h3,h4,h5,h6⟩:=qny hn n1 hm hN c N L false hL (hmu L)
   rw[if_pos (by omega),h1]
   simp only[ZB]
   have tight: ∀j,j+1<k-> ∀i,¬qaF n m L' j i:=fun j hj i d=>ht j (by omega) i ⟨d.k_,d.i_,by have:=d.b_;rwa [h5 (j+1) (by omega) (by omega)]at this,by have:=d.e_;rwa [h5 j (by omega) (by omega)]at this⟩
   by_cases d:b'=true/\0<k
   ·obtain⟨d1,d2⟩:=d
    subst d1
    rcases h6 with⟨g1,_⟩|⟨_,g2⟩
    ·cases g1
    rw[if_pos rfl,decide_eq_true (show(k:Int)>0 by omega)]
    simp only[ZB,if_true]
    rw[show w64 ((k:Int)-1)=((k-1:Nat):Int)from qsm (by omega) d2]
    obtain⟨A,a1,a2,a3,a4⟩:=qkd hmu K (k-1) L' h3 (by omega) (by omega) (fun j hj=>tight j (by omega))
    exact⟨A,a1,h2.trans a2,a3,a4⟩
   have e:(if b'=true then some (decide ((k:Int)>0))else some false:Option Bool)=some false:=by
    cases b' with
    |false=>rfl
    |true=>rw[if_pos rfl,decide_eq_false (by have: ¬0<k:=fun g=>d ⟨rfl,g⟩;omega)]
   rw[e]
   simp only[ZB,ZF,if_false]
   have hmu2:mu5 n L' m<=mu5 n L m:=by
    rcases h6 with⟨_,g2⟩|⟨_,g2⟩
    ·rw[g2];exact Nat.le_refl _
    omega
   obtain⟨A,a1,a2,a3,a4⟩:=qkd hmu K (k+1) L' h3 (by omega) (by omega) (fun j hj i g=>by
    by_cases f:j=k
    ·subst f;exact h4 i g
    rcases h6 with⟨_,g2⟩|⟨g1,_⟩
    ·rw[g2]at g;exact ht j (by omega) i g
    exact d ⟨g1,by omega⟩)
   exact⟨A,a1,h2.trans a2,a3,a4⟩
  rw[if_neg (by omega)]
  exact⟨L,rfl,.refl,fun j i g=>by have:=g.k_;exact ht j (by omega) i g,hL⟩
end
end Go.Av
end
section
namespace Go.Av
def qbk (i:Nat) (p:List Nat):List Nat:=p.map (tr5 i)
def qfr:Nat->List Nat->List Nat
 |0,a::b::l=>b::a::l
 |i+1,a::l=>a::qfr i l
 |_,l=>l
def qmw:List Nat->Nat->Nat
 |[],_=>0
 |a::_,0=>a
 |_::l,k+1=>qmw l k
def ql4 (v:Nat):List Nat->Nat
 |[]=>0
 |a::l=>bif Nat.beq a v then 0 else ql4 v l+1
def qlv (i:Nat) (p:List Nat):Bool:=Nat.blt (qmw p (i+1)) (qmw p i)
def qlA (i:Nat) (p:List Nat):Bool:=Nat.blt (ql4 (i+1) p) (ql4 i p)
def qkz (s t:List Nat):Nat->Option Nat
 |0=>none
 |i+1=>bif qlv i t&&!qlA i s then some i else qkz s t i
def qgG (n:Nat):Nat->List Nat->List Nat->List Nat×List Nat
 |0,s,t=>(s,t)
 |K+1,s,t=>match qkz s t (n-1)with
  |none=>(s,t)
  |some i=>qgG n K (qbk i s) (qfr i t)
def qjL (n:Nat):List Nat->List (List Nat)->List (List Nat)
 |x,[]=>[x]
 |x,s::r=>match qgG n (n*n) s x with
  |(s',x')=>x'::qjL n s' r
theorem qns: ∀(l:List Nat) (k:Nat),qmw l k=l.getD k 0
 |[],k=>by simp[qmw]
 |a::l,0=>rfl
 |a::l,k+1=>by rw[qmw,qns l k];rfl
theorem qnv: ∀(i:Nat) (l:List Nat) (k:Nat),i+1<l.length->(qfr i l)[k]? =l[tr5 i k]?
 |0,[],k,h=>by simp at h
 |0,[a],k,h=>by simp at h
 |0,a::b::l,0,h=>by simp[qfr,tr5]
 |0,a::b::l,1,h=>by simp[qfr,tr5]
 |0,a::b::l,k+2,h=>by simp[qfr,tr5]
 |i+1,[],k,h=>by simp at h
 |i+1,a::l,0,h=>by simp[qfr,tr5]
 |i+1,a::l,k+1,h=>by
  rw[qfr,YK,qnv i l k (by simp at h;omega)]
  rcases yI i k with⟨c,e⟩|⟨c,e⟩|⟨c,c',e⟩<;>rw[e]
  ·subst c;rw[qcx,YK]
  ·subst c;rw[qcH,YK]
  rw[vW (by omega) (by omega),YK]
theorem qkj (n i:Nat) (s:SB):(s.bk i).row n=qbk i (s.row n):=by
 unfold SB.row qbk
 rw[List.map_map]
 rfl
theorem qj0 {n i:Nat} (hi:i+1<n) (s:SB):(s.fr i).row n=qfr i (s.row n):=by
 apply List.ext_getElem?
 intro k
 rw[qnv i _ k (by rw[Ul];exact hi)]
 by_cases hk:k<n
 ·rw[Uk _ hk,Uk _ (qio hi hk)]
  rfl
 rw[vW (by omega) (by omega),Yg (by rw[Ul];omega),Yg (by rw[Ul];omega)]
theorem qk3 {n k:Nat} (s:SB) (h:k<n):qmw (s.row n) k=s.f k:=by
 rw[qns,Yy,Uk s h]
 rfl
theorem qnm: ∀(l:List Nat) (k v:Nat),l[k]? =some v->(∀j,j<k->l[j]? ≠some v)->ql4 v l=k
 |[],k,v,h,hj=>by simp at h
 |a::l,0,v,h,hj=>by
  simp at h
  subst h
  simp[ql4]
 |a::l,k+1,v,h,hj=>by
  have:=hj 0 (by omega)
  have ne:a≠v:=fun e=>this (by simp[e])
  have hb:Nat.beq a v=false:=by
   cases c:Nat.beq a v with
   |false=>rfl
   |true=>exact absurd (Nat.eq_of_beq_eq_true c) ne
  rw[ql4,hb,cond_false,qnm l k v (by simpa using h) (fun j hjk=>by have:=hj (j+1) (by omega);simpa using this)]
theorem qk0 {n v:Nat} {s:SB} (hs:s.Ok n) (h:v<n):ql4 v (s.row n)=s.g v:=by
 refine qnm _ _ _ (by rw[Uk s (hs.g_ v h),s.fg]) (fun j hj=>?_)
 rw[Uk s (by have:=hs.g_ v h;omega)]
 intro e
 have:=Ye e
 have e2:j=s.g v:=by rw[<-this,s.gf]
 omega
theorem qn0 {n i:Nat} (hi:i+1<n) (s:SB):qlv i (s.row n)=true↔s.Begs i:=by
 unfold qlv SB.Begs
 rw[qk3 s hi,qk3 s (by omega)]
 simp[Nat.blt_eq]
theorem qnF {n i:Nat} (hi:i+1<n) {s:SB} (hs:s.Ok n):qlA i (s.row n)=true↔s.Ends i:=by
 unfold qlA SB.Ends
 rw[qk0 hs hi,qk0 hs (by omega)]
 simp[Nat.blt_eq]
theorem qif {s t:List Nat}: ∀{j i:Nat},qkz s t j=some i->i<j/\qlv i t=true/\qlA i s=false
 |0,i,h=>by cases h
 |j+1,i,h=>by
  unfold qkz at h
  cases c:(qlv j t&&!qlA j s)with
  |false=>
   rw[c,cond_false]at h
   have:=qif h
   exact⟨by omega,this.2⟩
  |true=>
   rw[c,cond_true]at h
   have:=Ye h
   subst this
   simp only[Bool.and_eq_true,Bool.not_eq_true']at c
   exact⟨by omega,c⟩
theorem qh8 {n m k:Nat} (hk:k+1<m): ∀(K:Nat) (L:Nat->SB),OkM n m L-> ∃A,Pst n m L A/\qgG n K ((L k).row n) ((L (k+1)).row n)=((A k).row n,(A (k+1)).row n)/\(∀q,q≠k->q≠k+1->A q=L q)/\OkM n m A
 |0,L,hL=>⟨L,.refl,rfl,fun _ _ _=>rfl,hL⟩
 |K+1,L,hL=>by
  unfold qgG
  cases c:qkz ((L k).row n) ((L (k+1)).row n) (n-1)with
  |none=>exact⟨L,.refl,rfl,fun _ _ _=>rfl,hL⟩
  |some i=>
   obtain⟨h1,h2,h3⟩:=qif c
   have hi:i+1<n:=by omega
   have can:qaF n m L k i:=⟨hk,hi,(qn0 hi _).1 h2,fun e=>by
    have:=(qnF hi (hL k (by omega))).2 e
    rw[h3]at this
    cases this⟩
   obtain⟨A,a1,a2,a3,a4⟩:=qh8 hk K (psh L k i) (hL.psh hk hi)
   refine⟨A,.head (.mk can) a1,?_,fun q q1 q2=>by rw[a3 q q1 q2,zR L q1 q2],a4⟩
   dsimp only
   rw[yz,jf,qkj,qj0 hi]at a2
   exact a2
def qbK (n:Nat) (L:Nat->SB):Nat->List (List Nat)
 |0=>[]
 |k+1=>(L k).row n::qbK n L k
theorem qi4 {n:Nat} {L A:Nat->SB}: ∀{k:Nat},(∀q,q<k->A q=L q)->qbK n A k=qbK n L k
 |0,h=>rfl
 |k+1,h=>by rw[qbK,qbK,h k (by omega),qi4 fun q hq=>h q (by omega)]
theorem qkF {n m:Nat}: ∀(k:Nat) (L:Nat->SB),k<m->OkM n m L-> ∃A,Pst n m L A/\qjL n ((L k).row n) (qbK n L k)=qbK n A (k+1)/\(∀q,k<q->A q=L q)/\OkM n m A
 |0,L,hk,hL=>⟨L,.refl,rfl,fun _ _=>rfl,hL⟩
 |k+1,L,hk,hL=>by
  obtain⟨B,b1,b2,b3,b4⟩:=qh8 (n:=n) (m:=m) (k:=k) hk (n*n) L hL
  obtain⟨A,a1,a2,a3,a4⟩:=qkF k B (by omega) b4
  refine⟨A,b1.trans a1,?_,fun q hq=>by rw[a3 q (by omega),b3 q (by omega) (by omega)],a4⟩
  rw[qbK,qjL,b2]
  dsimp only
  rw[qi4 (A:=L) (L:=B) fun q hq=>(b3 q (by omega) (by omega)).symm,a2,<-a3 (k+1) (by omega)]
  rfl
end Go.Av
end
section
namespace Go.Av
theorem qaF.up {n m k i:Nat} {L:Nat->SB} (h:qaF n m L k i):qaF n (m+1) L k i:=⟨by have:=h.k_;omega,h.i_,h.b_,h.e_⟩
theorem Pst.up {n m:Nat} {L A:Nat->SB} (h:Pst n m L A):Pst n (m+1) L A:=by
 induction h with
 |refl=>exact .refl
 |head h _ ih=>cases h with|mk h=>exact .head (.mk h.up) ih
def qhO (L:Nat->SB) (m:Nat) (s:SB):Nat->SB:=fun q=>if q=m then s else L q
theorem qgK (L:Nat->SB) (m:Nat) (s:SB):qhO L m s m=s:=if_pos rfl
theorem qeP {L:Nat->SB} {m q:Nat} {s:SB} (h:q≠m):qhO L m s q=L q:=if_neg h
theorem qox {L:Nat->SB} {m k i:Nat} {s:SB} (h:k+1<m):psh (qhO L m s) k i=qhO (psh L k i) m s:=by
 funext q
 by_cases a:q=m
 ·subst a
  rw[qgK,zR _ (by omega) (by omega),qgK]
 rw[qeP a]
 by_cases b:q=k
 ·subst b;rw[yz,yz,qeP a]
 by_cases c:q=k+1
 ·subst c;rw[jf,jf,qeP a]
 rw[zR _ b c,zR _ b c,qeP a]
theorem Pst.upd {n m:Nat} {L A:Nat->SB} (h:Pst n m L A) (s:SB):Pst n m (qhO L m s) (qhO A m s):=by
 induction h with
 |refl=>exact .refl
 |head h _ ih=>
  cases h with
  |@mk k i h=>
   have hk:=h.k_
   refine .head (L1:=qhO (psh _ k i) m s) ?_ ih
   rw[<-qox hk]
   refine .mk ⟨hk,h.i_,?_,?_⟩
   ·rw[qeP (by omega)];exact h.b_
   rw[qeP (by omega)];exact h.e_
theorem Pst.beyond {n m:Nat} {L A:Nat->SB} (h:Pst n m L A): ∀q,m<=q->A q=L q:=by
 induction h with
 |refl=>exact fun _ _=>rfl
 |head h _ ih=>
  cases h with
  |mk h=>
   intro q hq
   have:=h.k_
   rw[ih q hq,zR _ (by omega) (by omega)]
theorem qaw {n k:Nat} (h:k<n):rv5 n k=n-1-k:=if_pos h
theorem qoY {n i:Nat} (hi:i+1<n) (k:Nat):rv5 n (tr5 i k)=tr5 (n-2-i) (rv5 n k):=by
 by_cases hk:k<n
 ·have e:=qaw hk
  rcases yI i k with⟨a,b⟩|⟨a,b⟩|⟨a,a',b⟩<;>rw[b]
  ·subst a
   rw[e,qaw (by omega),show n-1-k=n-2-k+1 by omega,qcH]
   omega
  ·subst a
   rw[e,qaw (by omega),show n-1-(i+1)=n-2-i by omega,qcx]
   omega
  rw[e,vW (by omega) (by omega)]
 rw[vW (by omega) (by omega)]
 have:rv5 n k=k:=if_neg hk
 rw[this,vW (by omega) (by omega)]
theorem qnl {n i:Nat} (hi:i+1<n) (s:SB):(s.bk i).flip n=(s.flip n).bk (n-2-i):=SB.ext fun k=>by
 show rv5 n (tr5 i (s.f (rv5 n k)))=tr5 (n-2-i) (rv5 n (s.f (rv5 n k)))
 exact qoY hi _
theorem qnc {n i:Nat} (hi:i+1<n) (s:SB):(s.fr i).flip n=(s.flip n).fr (n-2-i):=SB.ext fun k=>by
 show rv5 n (s.f (tr5 i (rv5 n k)))=rv5 n (s.f (rv5 n (tr5 (n-2-i) k)))
 have:=qoY (n:=n) (i:=n-2-i) (by omega) k
 rw[show n-2-(n-2-i)=i by omega]at this
 rw[this]
theorem qnV {n i:Nat} (hi:i+1<n) {s:SB} (hs:s.Ok n) (h:s.Begs i):(s.flip n).Begs (n-2-i):=by
 unfold SB.Begs at*
 show rv5 n (s.f (rv5 n (n-2-i+1)))<rv5 n (s.f (rv5 n (n-2-i)))
 have h1:=hs.f_ i (by omega)
 have h2:=hs.f_ (i+1) hi
 rw[qaw (k:=n-2-i+1) (by omega),qaw (k:=n-2-i) (by omega),show n-1-(n-2-i+1)=i by omega,show n-1-(n-2-i)=i+1 by omega,qaw h1,qaw h2]
 omega
theorem qod {n i:Nat} (hi:i+1<n) {s:SB} (hs:s.Ok n) (h: ¬s.Ends i): ¬(s.flip n).Ends (n-2-i):=by
 have h:=SB.nEnds h
 unfold SB.Ends
 show¬rv5 n (s.g (rv5 n (n-2-i+1)))<rv5 n (s.g (rv5 n (n-2-i)))
 have h1:=hs.g_ i (by omega)
 have h2:=hs.g_ (i+1) hi
 rw[qaw (k:=n-2-i+1) (by omega),qaw (k:=n-2-i) (by omega),show n-1-(n-2-i+1)=i by omega,show n-1-(n-2-i)=i+1 by omega,qaw h1,qaw h2]
 omega
def qdR (n:Nat) (L:Nat->SB):Nat->SB:=fun q=>(L q).flip n
theorem qnW {n k i:Nat} (hi:i+1<n) (L:Nat->SB):psh (qdR n L) k (n-2-i)=qdR n (psh L k i):=by
 funext q
 by_cases b:q=k
 ·subst b;rw[yz];unfold qdR;rw[yz,qnl hi]
 by_cases c:q=k+1
 ·subst c;rw[jf];unfold qdR;rw[jf,qnc hi]
 rw[zR _ b c];unfold qdR;rw[zR _ b c]
theorem OkM.flip {n m:Nat} {L:Nat->SB} (h:OkM n m L):OkM n m (qdR n L):=fun q hq=>(h q hq).flip
theorem Pst.flip {n m:Nat} {L A:Nat->SB} (h:Pst n m L A) (hL:OkM n m L):Pst n m (qdR n L) (qdR n A)/\OkM n m A:=by
 induction h with
 |refl=>exact⟨.refl,hL⟩
 |head h _ ih=>
  cases h with
  |@mk k i h=>
   have hk:=h.k_
   have hi:=h.i_
   obtain⟨a,b⟩:=ih (hL.psh hk hi)
   refine⟨.head (L1:=qdR n (psh _ k i)) ?_ a,b⟩
   rw[<-qnW hi]
   exact .mk ⟨hk,by omega,qnV hi (hL _ hk) h.b_,qod hi (hL _ (by omega)) h.e_⟩
def qjx (n:Nat) (p:List Nat):List Nat:=p.reverse.map fun k=>n-1-k
def qeY (n:Nat):List Nat:=(List.range n).reverse
theorem qfw (n:Nat):(Ue n).row n=qeY n:=by
 apply List.ext_getElem?
 intro k
 unfold qeY
 by_cases hk:k<n
 ·rw[Uk _ hk,List.getElem?_reverse (by simpa using hk)]
  simp only[List.length_range]
  rw[List.getElem?_range (by omega)]
  show some (rv5 n k)=_
  rw[qaw hk]
 rw[Yg (by rw[Ul];omega),Yg (by simp;omega)]
theorem qiL (n:Nat):Uf.row n=List.range n:=by
 unfold SB.row
 exact List.map_id' _
theorem qly {n:Nat} {s:SB} (hs:s.Ok n):(s.flip n).row n=qjx n (s.row n):=by
 apply List.ext_getElem?
 intro k
 unfold qjx
 by_cases hk:k<n
 ·rw[Uk _ hk,YA,List.getElem?_reverse (by rw[Ul];exact hk),Ul,Uk _ (by omega)]
  show some (rv5 n (s.f (rv5 n k)))=_
  rw[qaw hk,qaw (hs.f_ _ (by omega))]
  rfl
 rw[Yg (by rw[Ul];omega),Yg (by simp[Ul];omega)]
theorem qi8 {n m:Nat} {L:Nat->SB} (hL:OkM n m L): ∀{k:Nat},k<=m->qbK n (qdR n L) k=(qbK n L k).map (qjx n)
 |0,h=>rfl
 |k+1,h=>by
  rw[qbK,qbK,List.map_cons,qi8 hL (k:=k) (by omega),<-qly (hL k (by omega))]
  rfl
def y9 (l:List SB):Nat->SB:=fun q=>l.getD q Uf
def qcM (n:Nat) (l:List SB) (c:Int):List SB:=if 0<c then l++[Uf.fr (c.natAbs-1)]else l.map (SB.flip n)++[(Ue n).bk (c.natAbs-1)]
theorem qiK (l:List SB) (s:SB):y9 (l++[s])=qhO (y9 l) l.length s:=by
 funext q
 show(l++[s]).getD q Uf=if q=l.length then s else l.getD q Uf
 rw[Yy,Yy]
 by_cases h:q=l.length
 ·subst h;simp
 rw[if_neg h]
 by_cases h2:q<l.length
 ·rw[Yf h2]
 rw[Yg (by simp;omega),Yg (by omega)]
theorem qfN (n:Nat) (l:List SB):y9 (l.map (SB.flip n))=qdR n (y9 l):=by
 funext q
 show(l.map (SB.flip n)).getD q Uf=(l.getD q Uf).flip n
 rw[Yy,Yy,YA]
 cases l[q]? with
 |some s=>rfl
 |none=>
  refine SB.ext fun k=>?_
  show k=rv5 n (rv5 n k)
  rw[qaD]
def qm8 (n:Nat) (R:List (List Nat)) (c:Int):List (List Nat):=
 if 0<c then qjL n (qfr (c.natAbs-1) (List.range n)) R else qjL n (qbk (c.natAbs-1) (qeY n)) (R.map (qjx n))
structure QOK (n:Nat) (l:List SB) (R:List (List Nat)):Prop where
 ok: ∀s∈l,s.Ok n
 ex: ∃A,Pst n l.length (y9 l) A/\OkM n l.length A/\R=qbK n A l.length
theorem qet {n:Nat} {l:List SB} (h: ∀s∈l,s.Ok n):OkM n l.length (y9 l):=fun q hq=>by
 unfold y9
 rw[Yy,Ya hq]
 exact h _ (List.getElem_mem hq)
theorem QOK.step {n:Nat} {l:List SB} {R:List (List Nat)} (h:QOK n l R) {c:Int} (hc:c≠0/\ -(n:Int)<c/\c<n):QOK n (qcM n l c) (qm8 n R c)/\(qcM n l c).length=l.length+1:=by
 obtain⟨i,hi⟩: ∃i,c.natAbs=i+1:=⟨c.natAbs-1,by omega⟩
 have hin:i+1<n:=by omega
 obtain⟨A,a1,a2,rfl⟩:=h.ex
 have key: ∀{l':List SB} {B:Nat->SB} {s:SB},l'.length=l.length->(∀t∈l',t.Ok n)->s.Ok n->Pst n l.length (y9 l') B->OkM n l.length B->QOK n (l'++[s]) (qjL n (s.row n) (qbK n B l.length)):=fun {l' B s} hl hk hs p ok=>by
  refine⟨fun t ht=>(List.mem_append.1 ht).elim (hk t) (fun e=>by rw[List.mem_singleton.1 e];exact hs),?_⟩
  have ok':OkM n (l.length+1) (qhO B l.length s):=fun q hq=>by
   by_cases e:q=l.length
   ·subst e;rw[qgK];exact hs
   rw[qeP e];exact ok q (by omega)
  obtain⟨D,d1,d2,d3,d4⟩:=qkF (n:=n) (m:=l.length+1) l.length (qhO B l.length s) (by omega) ok'
  rw[qgK,qi4 (A:=qhO B l.length s) (L:=B) fun q hq=>qeP (by omega)]at d2
  rw[qiK,Yq,hl]
  refine⟨D,?_,d4,d2⟩
  have:=(p.upd s).up
  exact this.trans d1
 unfold qcM qm8
 rw[hi,Nat.add_sub_cancel]
 by_cases hp:0<c
 ·rw[if_pos hp,if_pos hp]
  refine⟨?_,by simp⟩
  have:=key (s:=Uf.fr i) rfl h.ok ((Un n).fr hin) a1 a2
  rwa [qj0 hin,qiL]at this
 rw[if_neg hp,if_neg hp]
 refine⟨?_,by simp⟩
 obtain⟨f1,f2⟩:=a1.flip (qet h.ok)
 have:=key (l':=l.map (SB.flip n)) (B:=qdR n A) (s:=(Ue n).bk i) (by simp) (fun t ht=>by
  obtain⟨u,hu,rfl⟩:=List.mem_map.1 ht
  exact(h.ok u hu).flip) ((Uq n).bk hin) (by rw[qfN];exact f1) a2.flip
 rwa [qkj,qfw,qi8 a2 (Nat.le_refl _)]at this
end Go.Av
end
section
namespace Go.Av
def jnL (a:Nat) (P L:Nat->SB):Nat->SB:=fun q=>if q<a then P q else L (q-a)
theorem qcl {a q:Nat} {P L:Nat->SB} (h:q<a):jnL a P L q=P q:=if_pos h
theorem qcU {a k:Nat} {P L:Nat->SB}:jnL a P L (a+k)=L k:=by
 unfold jnL
 rw[if_neg (by omega),Nat.add_sub_cancel_left]
theorem qgF (p l:List SB):y9 (p++l)=jnL p.length (y9 p) (y9 l):=by
 funext q
 unfold jnL y9
 by_cases h:q<p.length
 ·rw[if_pos h,Yy,Yf h,Yy]
 rw[if_neg h,Yy,Yo (by omega),Yy]
theorem qqe {a k i:Nat} {P L:Nat->SB}:psh (jnL a P L) (a+k) i=jnL a P (psh L k i):=by
 funext q
 by_cases h:q<a
 ·rw[zR _ (by omega) (by omega),qcl h,qcl h]
 obtain⟨j,rfl⟩: ∃j,q=a+j:=⟨q-a,by omega⟩
 rw[qcU]
 by_cases h1:j=k
 ·subst h1;rw[yz,yz,qcU]
 by_cases h2:j=k+1
 ·subst h2;rw[show a+(k+1)=a+k+1 by omega,jf,jf,show a+k+1=a+(k+1)by omega,qcU]
 rw[zR _ (by omega) (by omega),zR _ h1 h2,qcU]
theorem qpy {a k i:Nat} {P L:Nat->SB} (hk:k+1<a):psh (jnL a P L) k i=jnL a (psh P k i) L:=by
 funext q
 by_cases h1:q=k
 ·subst h1;rw[yz,qcl (by omega),qcl (by omega),yz]
 by_cases h2:q=k+1
 ·subst h2;rw[jf,qcl hk,qcl hk,jf]
 rw[zR _ h1 h2]
 by_cases h:q<a
 ·rw[qcl h,qcl h,zR _ h1 h2]
 unfold jnL;rw[if_neg h,if_neg h]
theorem Pst.pre {n m a:Nat} {P L A:Nat->SB} (h:Pst n m L A):Pst n (a+m) (jnL a P L) (jnL a P A):=by
 induction h with
 |refl=>exact .refl
 |head h _ ih=>
  cases h with
  |@mk k i h=>
   refine .head (L1:=jnL a P (psh _ k i)) ?_ ih
   rw[<-qqe]
   refine .mk ⟨by have:=h.k_;omega,h.i_,?_,?_⟩
   ·rw[show a+k+1=a+(k+1)by omega,qcU];exact h.b_
   rw[qcU];exact h.e_
theorem Pst.suf {n m a:Nat} {P A L:Nat->SB} (h:Pst n a P A):Pst n (a+m) (jnL a P L) (jnL a A L):=by
 induction h with
 |refl=>exact .refl
 |head h _ ih=>
  cases h with
  |@mk k i h=>
   have hk:=h.k_
   refine .head (L1:=jnL a (psh _ k i) L) ?_ ih
   rw[<-qpy hk]
   refine .mk ⟨by omega,h.i_,?_,?_⟩
   ·rw[qcl hk];exact h.b_
   rw[qcl (by omega)];exact h.e_
structure Jn (n:Nat) (l l':List SB):Prop where
 len:l.length=l'.length
 o1: ∀s∈l,s.Ok n
 o2: ∀s∈l',s.Ok n
 meet: ∃D,Pst n l.length (y9 l) D/\Pst n l.length (y9 l') D
theorem Jn.refl {n:Nat} {l:List SB} (h: ∀s∈l,s.Ok n):Jn n l l:=⟨rfl,h,h,_,.refl,.refl⟩
theorem Jn.symm {n:Nat} {l l':List SB} (h:Jn n l l'):Jn n l' l:=by
 obtain⟨D,a,b⟩:=h.meet
 exact⟨h.len.symm,h.o2,h.o1,D,h.len▸b,h.len▸a⟩
theorem Jn.trans {n:Nat} {l l' l2:List SB} (h:Jn n l l') (k:Jn n l' l2):Jn n l l2:=by
 obtain⟨D,a,b⟩:=h.meet
 obtain⟨E,c,d⟩:=k.meet
 rw[<-h.len]at c d
 obtain⟨F,f1,f2⟩:=qlD _ D (Nat.le_refl _)
 obtain⟨G,g1,g2⟩:=qlD _ E (Nat.le_refl _)
 obtain rfl:=qhQ _ (Nat.le_refl _) (b.trans f1) (c.trans g1) f2 g2
 exact⟨h.len.trans k.len,h.o1,k.o2,F,a.trans f1,d.trans g1⟩
theorem Jn.app {n:Nat} {p p' l l':List SB} (h:Jn n p p') (k:Jn n l l'):Jn n (p++l) (p'++l'):=by
 obtain⟨D,a,b⟩:=h.meet
 obtain⟨E,c,d⟩:=k.meet
 refine⟨by rw[Yq,Yq,h.len,k.len],fun s hs=>(List.mem_append.1 hs).elim (h.o1 s) (k.o1 s),fun s hs=>(List.mem_append.1 hs).elim (h.o2 s) (k.o2 s),jnL p.length D E,?_,?_⟩
 ·rw[qgF,Yq]
  exact a.suf.trans c.pre
 rw[qgF,Yq,<-h.len]
 exact b.suf.trans d.pre
theorem Jn.flip {n:Nat} {l l':List SB} (h:Jn n l l'):Jn n (l.map (SB.flip n)) (l'.map (SB.flip n)):=by
 obtain⟨D,a,b⟩:=h.meet
 have f1:=(a.flip (qet h.o1)).1
 have f2:=(b.flip (by rw[h.len];exact qet h.o2)).1
 refine⟨by simp[h.len],fun s hs=>?_,fun s hs=>?_,qdR n D,?_,?_⟩
 ·obtain⟨u,hu,rfl⟩:=List.mem_map.1 hs;exact(h.o1 u hu).flip
 ·obtain⟨u,hu,rfl⟩:=List.mem_map.1 hs;exact(h.o2 u hu).flip
 ·rw[qfN,List.length_map];exact f1
 rw[qfN,List.length_map];exact f2
theorem Jn.nf {n:Nat} {l l':List SB} (h:Jn n l l') {A:Nat->SB} (a:Pst n l.length (y9 l) A) (nA:Nf n l.length A):Pst n l'.length (y9 l') A:=by
 obtain⟨D,d1,d2⟩:=h.meet
 obtain⟨E,e1,e2⟩:=qlD _ D (Nat.le_refl _)
 obtain rfl:=qhQ _ (Nat.le_refl _) a (d1.trans e1) nA e2
 rw[<-h.len]
 exact d2.trans e1
def SB.Fix (n:Nat) (s:SB):Prop:= ∀k,n<=k->s.f k=k
theorem SB.Fix.fr {n i:Nat} {s:SB} (h:s.Fix n) (hi:i+1<n):(s.fr i).Fix n:=fun k hk=>by
 show s.f (tr5 i k)=k
 rw[vW (by omega) (by omega)]
 exact h k hk
theorem SB.Fix.bk {n i:Nat} {s:SB} (h:s.Fix n) (hi:i+1<n):(s.bk i).Fix n:=fun k hk=>by
 show tr5 i (s.f k)=k
 rw[h k hk,vW (by omega) (by omega)]
theorem qmj {n k:Nat} (h:n<=k):rv5 n k=k:=if_neg (by omega)
theorem SB.Fix.flip {n:Nat} {s:SB} (h:s.Fix n):(s.flip n).Fix n:=fun k hk=>by
 show rv5 n (s.f (rv5 n k))=k
 rw[qmj hk,h k hk,qmj hk]
theorem U2 (n:Nat):Uf.Fix n:=fun _ _=>rfl
theorem Uv (n:Nat):(Ue n).Fix n:=fun k hk=>qmj hk
theorem qqA {n:Nat} {s t:SB} (hs:s.Fix n) (ht:t.Fix n) (h:s.row n=t.row n):s=t:=SB.ext fun k=>by
 by_cases hk:k<n
 ·have a:=Uk s hk
  rw[h,Uk t hk]at a
  exact(Ye a).symm
 rw[hs k (by omega),ht k (by omega)]
theorem Pst.fix {n m:Nat} {L A:Nat->SB} (h:Pst n m L A) (hL: ∀q,(L q).Fix n): ∀q,(A q).Fix n:=by
 induction h with
 |refl=>exact hL
 |head h _ ih=>
  cases h with
  |@mk k i h=>
   refine ih fun q=>?_
   by_cases h1:q=k
   ·subst h1;rw[yz];exact(hL q).bk h.i_
   by_cases h2:q=k+1
   ·subst h2;rw[jf];exact(hL _).fr h.i_
   rw[zR _ h1 h2];exact hL q
theorem qja {n:Nat} {l:List SB} (h: ∀s∈l,s.Fix n): ∀q,(y9 l q).Fix n:=fun q=>by
 unfold y9
 rw[Yy]
 cases e:l[q]? with
 |none=>exact U2 n
 |some s=>exact h s (Yn e)
theorem qhy {l:List SB} {q:Nat} (h:l.length<=q):y9 l q=Uf:=by
 unfold y9
 rw[Yy,Yg h]
 rfl
theorem qhp (n:Nat) (L:Nat->SB): ∀k,(qbK n L k).length=k
 |0=>rfl
 |k+1=>by rw[qbK,Yr,qhp n L k]
theorem qjO {n:Nat} {A B:Nat->SB}: ∀{k:Nat},qbK n A k=qbK n B k-> ∀q,q<k->(A q).row n=(B q).row n
 |0,h,q,hq=>by omega
 |k+1,h,q,hq=>by
  rw[qbK,qbK]at h
  injection h with h1 h2
  by_cases e:q=k
  ·subst e;exact h1
  exact qjO h2 q (by omega)
theorem qnu {n:Nat} {l l':List SB} {R:List (List Nat)} (h:QOK n l R) (h':QOK n l' R) (f: ∀s∈l,s.Fix n) (f': ∀s∈l',s.Fix n):Jn n l l':=by
 obtain⟨A,a1,a2,a3⟩:=h.ex
 obtain⟨B,b1,b2,b3⟩:=h'.ex
 have hl:l.length=l'.length:=by
  have:=congrArg List.length a3
  rw[b3,qhp,qhp]at this
  exact this.symm
 have e:A=B:=by
  funext q
  by_cases hq:q<l.length
  ·refine qqA (a1.fix (qja f) q) (b1.fix (qja f') q) ?_
   rw[<-hl]at b3
   exact qjO (a3.symm.trans b3) q hq
  rw[a1.beyond q (by omega),b1.beyond q (by omega),qhy (by omega),qhy (by omega)]
 subst e
 exact⟨hl,h.ok,h'.ok,A,a1,hl▸b1⟩
def fac (n:Nat) (w:List Int):List SB:=w.foldl (qcM n) []
def flW (n:Nat) (w:List Int) (p:List SB):List SB:=w.foldl (fun p c=>if 0<c then p else p.map (SB.flip n)) p
theorem qou (n:Nat) (p l:List SB) (c:Int):qcM n (p++l) c=(if 0<c then p else p.map (SB.flip n))++qcM n l c:=by
 unfold qcM
 split
 ·rw[Yz]
 rw[List.map_append,Yz]
theorem qjC (n:Nat): ∀(w:List Int) (p l:List SB),w.foldl (qcM n) (p++l)=flW n w p++w.foldl (qcM n) l
 |[],p,l=>rfl
 |c::w,p,l=>by
  rw[List.foldl_cons,qou,qjC n w,List.foldl_cons]
  rfl
theorem qka (n:Nat) (u v:List Int):fac n (u++v)=flW n v (fac n u)++fac n v:=by
 unfold fac
 rw[List.foldl_append]
 have:=qjC n v (u.foldl (qcM n) []) []
 rw[List.append_nil]at this
 exact this
def xO (n:Nat) (w:List Int):Prop:= ∀c∈w,c≠0/\ -(n:Int)<c/\c<n
theorem xO.app {n:Nat} {u v:List Int} (h:xO n u) (k:xO n v):xO n (u++v):=fun c hc=>(List.mem_append.1 hc).elim (h c) (k c)
theorem xO.left {n:Nat} {u v:List Int} (h:xO n (u++v)):xO n u:=fun c hc=>h c (List.mem_append_left _ hc)
theorem xO.right {n:Nat} {u v:List Int} (h:xO n (u++v)):xO n v:=fun c hc=>h c (List.mem_append_right _ hc)
def Gd (n:Nat) (s:SB):Prop:= ∃i,i+1<n/\(s=Uf.fr i\/s=(Ue n).bk i)
theorem qjX (n:Nat):Uf.flip n=Uf:=SB.ext fun k=>qaD n k
theorem qjJ (n:Nat):(Ue n).flip n=Ue n:=SB.ext fun k=>by
 show rv5 n (rv5 n (rv5 n k))=rv5 n k
 rw[qaD]
theorem Gd.flip {n:Nat} {s:SB} (h:Gd n s):Gd n (s.flip n):=by
 obtain⟨i,hi,h|h⟩:=h<;>subst h
 ·exact⟨n-2-i,by omega,.inl (by rw[qnc hi,qjX])⟩
 exact⟨n-2-i,by omega,.inr (by rw[qnl hi,qjJ])⟩
theorem Gd.ok {n:Nat} {s:SB} (h:Gd n s):s.Ok n:=by
 obtain⟨i,hi,h|h⟩:=h<;>subst h
 ·exact(Un n).fr hi
 exact(Uq n).bk hi
theorem Gd.fix {n:Nat} {s:SB} (h:Gd n s):s.Fix n:=by
 obtain⟨i,hi,h|h⟩:=h<;>subst h
 ·exact(U2 n).fr hi
 exact(Uv n).bk hi
theorem qqG {n:Nat} {l:List SB} (h: ∀s∈l,Gd n s) {c:Int} (hc:c≠0/\ -(n:Int)<c/\c<n): ∀s∈qcM n l c,Gd n s:=fun s hs=>by
 unfold qcM at hs
 split at hs
 ·rcases List.mem_append.1 hs with hs|hs
  ·exact h s hs
  rw[List.mem_singleton.1 hs];exact⟨c.natAbs-1,by omega,.inl rfl⟩
 rcases List.mem_append.1 hs with hs|hs
 ·obtain⟨u,hu,rfl⟩:=List.mem_map.1 hs
  exact(h u hu).flip
 rw[List.mem_singleton.1 hs];exact⟨c.natAbs-1,by omega,.inr rfl⟩
theorem qnt {n:Nat}: ∀{w:List Int} {l:List SB},(∀s∈l,Gd n s)->xO n w-> ∀s∈w.foldl (qcM n) l,Gd n s
 |[],l,h,hw=>h
 |c::w,l,h,hw=>qnt (w:=w) (qqG h (hw c (List.mem_cons_self ..))) (fun d hd=>hw d (List.mem_cons_of_mem _ hd))
theorem qgn {n:Nat} {w:List Int} (hw:xO n w): ∀s∈fac n w,Gd n s:=qnt (fun s hs=>by cases hs) hw
theorem qpQ (n:Nat) (l:List SB) (c:Int):(qcM n l c).length=l.length+1:=by unfold qcM;split<;>simp
theorem qjn (n:Nat): ∀(w:List Int) (l:List SB),(w.foldl (qcM n) l).length=l.length+w.length
 |[],l=>rfl
 |c::w,l=>by rw[List.foldl_cons,qjn n w,qpQ,Yr];omega
theorem qbr (n:Nat) (w:List Int):(fac n w).length=w.length:=by unfold fac;rw[qjn];simp
def qW (n:Nat) (w:List Int):List (List Nat):=w.foldl (qm8 n) []
theorem qpr {n:Nat}: ∀(w:List Int) {l:List SB} {R:List (List Nat)},QOK n l R->xO n w->QOK n (w.foldl (qcM n) l) (w.foldl (qm8 n) R)
 |[],l,R,h,hw=>h
 |c::w,l,R,h,hw=>qpr w (h.step (hw c (List.mem_cons_self ..))).1 (fun d hd=>hw d (List.mem_cons_of_mem _ hd))
theorem fac_q {n:Nat} {w:List Int} (hw:xO n w):QOK n (fac n w) (qW n w):=
 qpr w ⟨fun s h=>(by cases h),⟨y9 [],Pst.refl,fun q hq=>absurd hq (Nat.not_lt_zero q),rfl⟩⟩ hw
theorem qpx {n:Nat}: ∀(w:List Int) {l l':List SB},Jn n l l'->Jn n (flW n w l) (flW n w l')
 |[],l,l',h=>h
 |c::w,l,l',h=>by
  unfold flW
  rw[List.foldl_cons,List.foldl_cons]
  refine qpx w ?_
  split
  ·exact h
  exact h.flip
theorem qh0 (n:Nat): ∀(w:List Int) (p q:List SB),flW n w (p++q)=flW n w p++flW n w q
 |[],p,q=>rfl
 |c::w,p,q=>by
  unfold flW
  rw[List.foldl_cons,List.foldl_cons,List.foldl_cons]
  split
  ·exact qh0 n w p q
  rw[List.map_append];exact qh0 n w _ _
theorem qps {n:Nat}: ∀(w:List Int) {l:List SB},(∀s∈l,Gd n s)-> ∀s∈flW n w l,Gd n s
 |[],l,h=>h
 |c::w,l,h=>by
  unfold flW
  rw[List.foldl_cons]
  refine qps w ?_
  split
  ·exact h
  intro s hs
  obtain⟨u,hu,rfl⟩:=List.mem_map.1 hs
  exact(h u hu).flip
theorem qhZ {n:Nat} {s:SB} (h:s.flip n=s): ∀w:List Int,flW n w [s]=[s]
 |[]=>rfl
 |c::w=>by
  unfold flW
  rw[List.foldl_cons]
  split
  ·exact qhZ h w
  rw[List.map_singleton,h];exact qhZ h w
theorem qkH {n:Nat} {l:List SB} (h: ∀s∈l,Gd n s):Jn n l l:= .refl fun s hs=>(h s hs).ok
end Go.Av
end
section
namespace Go.Av
def qd4 (H I:List Int):List (List Int)->Prop
 |x::y::r=>(y=H->x=H)/\(x=I->y=I)/\qd4 H I (y::r)
 |_=>True
theorem qpO {H I:List Int}: ∀R:List (List Int),(∀q x y,R[q]? =some x->R[q+1]? =some y->(y=H->x=H)/\(x=I->y=I))->qd4 H I R
 |[],_=>trivial
 |[_],_=>trivial
 |x::y::r,h=>by
  have h0:=h 0 x y rfl rfl
  exact⟨h0.1,h0.2,qpO (y::r) fun q a b ha hb=>h (q+1) a b ha hb⟩
theorem qd4.tail {H I x:List Int} {r:List (List Int)} (h:qd4 H I (x::r)):qd4 H I r:=by
 cases r with
 |nil=>trivial
 |cons y r=>exact h.2.2
theorem qd4.noH {H I:List Int}: ∀{r:List (List Int)} {x:List Int},qd4 H I (x::r)->x≠H-> ∀y∈x::r,y≠H
 |[],x,h,hx,y,hy=>by
  rw[List.mem_singleton.1 hy];exact hx
 |z::r,x,h,hx,y,hy=>by
  have hz:z≠H:=fun e=>hx (h.1 e)
  rcases List.mem_cons.1 hy with rfl|hy
  ·exact hx
  exact qd4.noH h.tail hz y hy
theorem qd4.allI {H I:List Int}: ∀{r:List (List Int)},qd4 H I (I::r)-> ∀y∈r,y=I
 |[],h,y,hy=>by cases hy
 |z::r,h,y,hy=>by
  have hz:z=I:=h.2.1 rfl
  subst hz
  rcases List.mem_cons.1 hy with rfl|hy
  ·rfl
  exact qd4.allI h.tail y hy
theorem qmI {I:List Int}: ∀{r:List (List Int)},(∀y∈r,y=I)->r=List.replicate r.length I
 |[],_=>rfl
 |z::r,h=>by
  rw[Yr,List.replicate_succ,h z List.mem_cons_self,<-qmI (r:=r) fun y hy=>h y (List.mem_cons_of_mem _ hy)]
theorem qd4.split {H I:List Int}: ∀{r:List (List Int)},qd4 H I r-> ∃(M:List (List Int)) (d:Nat),r=M++List.replicate d I/\I∉M
 |[],_=>⟨[],0,rfl,by simp⟩
 |x::r,h=>by
  by_cases c:x=I
  ·subst c
   refine⟨[],(x::r).length,?_,by simp⟩
   rw[List.nil_append]
   exact qmI fun y hy=>by
    rcases List.mem_cons.1 hy with rfl|hy
    ·rfl
    exact qd4.allI h y hy
  obtain⟨M,d,h1,h2⟩:=qd4.split h.tail
  exact⟨x::M,d,by rw[h1];rfl,fun g=>by
   rcases List.mem_cons.1 g with g|g
   ·exact c g.symm
   exact h2 g⟩
theorem qd4.heads {H I:List Int}: ∀{r:List (List Int)},qd4 H I r-> ∃(c:Nat) (R:List (List Int)),r=List.replicate c H++R/\(∀y∈R,y≠H)/\qd4 H I R
 |[],_=>⟨0,[],rfl,fun y hy=>(by cases hy),trivial⟩
 |x::r,h=>by
  by_cases c:x=H
  ·subst c
   obtain⟨d,R,h1,h2,h3⟩:=qd4.heads h.tail
   exact⟨d+1,R,by rw[h1];rfl,h2,h3⟩
  exact⟨0,x::r,rfl,qd4.noH h c,h⟩
section
variable {n m:Nat} (hn:n<=12) (n2:2<=n)
include hn n2
theorem qkf:(Ue n).li n≠ve n:=fun h=>by
 have:=U3 (t:=Uf) h (k:=0) (by omega)
 have e:rv5 n 0=0:=this
 unfold rv5 at e
 rw[if_pos (by omega)]at e
 omega
theorem qrK {A:Nat->SB} (hA:OkM n m A) (hf:Nf n m A):qd4 ((Ue n).li n) (ve n) (je n m A):=by
 refine qpO _ fun q x y hx hy=>?_
 have hq:q+1<m:=by
  have:=(Yb.1 hy).1
  rwa [qC]at this
 rw[jc (by omega)]at hx
 rw[jc hq]at hy
 obtain rfl:=Ye hx
 obtain rfl:=Ye hy
 have s1:=hA q (by omega)
 have s2:=hA (q+1) hq
 constructor
 ·intro h
  have hy: ∀k,k<n->(A (q+1)).f k=n-1-k:=fun k hk=>by
   have:=U3 h hk
   rw[this]
   show rv5 n k=_
   unfold rv5
   rw[if_pos hk]
  have he: ∀i,i+1<n->(A q).g (i+1)<(A q).g i:=fun i hi=>by
   have hb:(A (q+1)).Begs i:=by
    show(A (q+1)).f (i+1)<(A (q+1)).f i
    rw[hy _ hi,hy _ (by omega)]
    omega
   by_cases c:(A q).Ends i
   ·exact c
   exact absurd ⟨hq,hi,hb,c⟩ (hf q i)
  have up: ∀k,k<n->(A q).g k+k<=n-1:=by
   intro k
   induction k with
   |zero=>intro _;have:=s1.g_ 0 (by omega);omega
   |succ k ih=>intro hk;have:=ih (by omega);have:=he k hk;omega
  have lo: ∀d,d<n->d<=(A q).g (n-1-d):=by
   intro d
   induction d with
   |zero=>exact fun _=>Nat.zero_le _
   |succ d ih=>
    intro hd
    have h1:=ih (by omega)
    have h2:=he (n-1-(d+1)) (by omega)
    rw[show n-1-(d+1)+1=n-1-d by omega]at h2
    omega
  refine(Uu (Ud n _) fun k hk=>?_).symm
  rw[Ui _ hk]
  have h3:(A q).g (n-1-k)=k:=by
   have a:=up (n-1-k) (by omega)
   have b:=lo k hk
   omega
  have h4:=(A q).fg (n-1-k)
  rw[h3]at h4
  show some ((rv5 n k:Nat):Int)=_
  unfold rv5
  rw[if_pos hk,h4]
 intro h
 have hx: ∀k,k<n->(A q).f k=k:=fun k hk=>U3 (t:=Uf) h hk
 refine(qke hn (by omega) s2).1 fun i hi hb=>hf q i ⟨hq,hi,hb,fun c=>?_⟩
 have c:(A q).g (i+1)<(A q).g i:=c
 have e1:=(A q).gf (i+1)
 have e2:=(A q).gf i
 rw[hx _ hi]at e1
 rw[hx _ (by omega)]at e2
 omega
variable {N:Nat} (hN:2000<N)
include hN
theorem qhY {A:Nat->SB} (hm:m<=300) (hA:OkM n m A): ∀(K i:Nat) (h:Int) (out:List (List Int)),i<=m->m<K+i-> -1000<=h->h<=300+i->out.length<=i->
 ym N (n:Int) (je n m A) K h out (i:Int)=some (h+((((je n m A).drop i).countP fun x=>decide (x=(Ue n).li n):Nat):Int),out++((je n m A).drop i).filter fun x=>!decide (x=ve n)&&!decide (x=(Ue n).li n))
 |0,i,h,out,hi,hK,h1,h2,ho=>by omega
 |K+1,i,h,out,hi,hK,h1,h2,ho=>by
  unfold ym
  rw[qC]
  by_cases c:i<m
  ·have hl:i<(je n m A).length:=by rw[qC];exact c
   have hg:(je n m A)[i]=(A i).li n:=by
    have:=jc (n:=n) (L:=A) c
    rw[Ya hl]at this
    exact Ye this
   obtain⟨b,b1,b2⟩:=qls hn (by omega) (N:=N) hN (A i)
   rw[qke hn (by omega) (hA i c)]at b2
   have e24: ∀o:List (List Int),o.length<=i->app 24 o [(A i).li n]=some (o++[(A i).li n]):=fun o ho=>qb8 (by simp;omega) (by simp;omega)
   rw[if_pos (by omega),qx,jc c,YG hl,hg,List.countP_cons,List.filter_cons]
   simp only[ZB,b1]
   by_cases p:(A i).li n=ve n
   ·have q:(A i).li n≠(Ue n).li n:=fun e=>qkf hn n2 (e▸p)
    rw[b2.2 p]
    simp only[if_true,ZB]
    rw[qA (by omega),qhY hm hA K (i+1) h out (by omega) (by omega) (by omega) (by omega) (by omega),decide_eq_true p,decide_eq_false q]
    simp
   have bf:b=false:=by
    cases b with
    |false=>rfl
    |true=>exact absurd (b2.1 rfl) p
   subst bf
   simp only[ZF,if_false]
   rw[qhV hN (by omega)]
   simp only[ZB]
   have hln:=Ud n (A i)
   rw[qnp (by omega) (by omega)]
   simp only[ZB]
   by_cases q:(A i).li n=(Ue n).li n
   ·rw[decide_eq_true q,decide_eq_false p]
    simp only[if_true,ZB]
    rw[qA (by omega),z8 (n:=h+1) (by omega) (by omega),qhY hm hA K (i+1) (h+1) out (by omega) (by omega) (by omega) (by omega) (by omega)]
    simp
    omega
   rw[decide_eq_false q,decide_eq_false p,e24 out ho]
   simp only[ZF,if_false,ZB]
   rw[qA (by omega),qhY hm hA K (i+1) h _ (by omega) (by omega) (by omega) (by omega) (by simp;omega)]
   simp
  rw[if_neg (by omega),List.drop_eq_nil_of_le (by rw[qC];omega)]
  simp
end
end Go.Av
end
section
namespace Go.Av
def lets (n:Nat):List Int:=(List.range (n-1)).flatMap fun i=>[((i+1:Nat):Int),-((i+1:Nat):Int)]
theorem qqk {n:Nat} {c:Int} (h:c≠0/\ -(n:Int)<c/\c<n):c∈lets n:=by
 refine List.mem_flatMap.2 ⟨c.natAbs-1,List.mem_range.2 (by omega),?_⟩
 by_cases p:0<c
 ·exact List.mem_cons.2 (.inl (by omega))
 exact List.mem_cons_of_mem _ (List.mem_singleton.2 (by omega))
def far5 (x y:Int):Bool:=Nat.ble (x.natAbs+2) y.natAbs||Nat.ble (y.natAbs+2) x.natAbs
def sg5 (c:Int):Int:=if c<0 then-1 else 1
def trn5 (x y z:Int):Option (List Int):=
 if x.natAbs=z.natAbs/\(x.natAbs=y.natAbs+1\/y.natAbs=x.natAbs+1)then
  if sg5 x=sg5 y then some [sg5 z*(y.natAbs:Int),x,y]else if sg5 y=sg5 z then some [y,z,sg5 x*(y.natAbs:Int)]else none
 else none
def ngs (w:List Int):Nat:=w.countP fun c=>!decide (0<c)
def qiq:List (List Nat)->List (List Nat)->Bool
 |[],[]=>true
 |x::a,y::b=>rowB x y&&qiq a b
 |_,_=>false
where rowB:List Nat->List Nat->Bool
 |[],[]=>true
 |x::a,y::b=>Nat.beq x y&&rowB a b
 |_,_=>false
theorem qm4: ∀{a b:List Nat},qiq.rowB a b=true->a=b
 |[],[],h=>rfl
 |x::a,y::b,h=>by
  unfold qiq.rowB at h
  simp only[Bool.and_eq_true]at h
  rw[Nat.eq_of_beq_eq_true h.1,qm4 h.2]
 |[],y::b,h=>by cases h
 |x::a,[],h=>by cases h
theorem qic: ∀{a b:List (List Nat)},qiq a b=true->a=b
 |[],[],h=>rfl
 |x::a,y::b,h=>by
  unfold qiq at h
  simp only[Bool.and_eq_true]at h
  rw[qm4 h.1,qic h.2]
 |[],y::b,h=>by cases h
 |x::a,[],h=>by cases h
def okIns (n:Nat):Bool:=(lets n).all fun x=>qiq (qW n [x,-x]) [List.range n,qeY n]
def qkw (n:Nat) (s t s' t':List Nat):Bool:=qiq [(qgG n (n*n) s t).1,(qgG n (n*n) s t).2] [s',t']
def okGd (n:Nat):Bool:=(List.range (n-1)).all fun i=>
 (qkw n (qfr i (List.range n)) (qeY n) (qeY n) (qjx n (qfr i (List.range n)))&&qkw n (qbk i (qeY n)) (qeY n) (qeY n) (qjx n (qbk i (qeY n))))&&
 (qkw n (List.range n) (qfr i (List.range n)) (qfr i (List.range n)) (List.range n)&&qkw n (List.range n) (qbk i (qeY n)) (qbk i (qeY n)) (List.range n))
theorem qse:((List.range 7).all okIns)=true:=by kernel_rfl
theorem qrv:((List.range 7).all okGd)=true:=by kernel_rfl
theorem ql0 {f:Nat->Bool} (h:((List.range 7).all f)=true) {n:Nat} (hn:n<=6):f n=true:=Yp.1 h n (List.mem_range.2 (by omega))
theorem qsh {n:Nat} {s t:SB} (hs:s.Ok n) (ht:t.Ok n):QOK n [s,t] [(qgG n (n*n) (s.row n) (t.row n)).2,(qgG n (n*n) (s.row n) (t.row n)).1]:=by
 have ho: ∀u∈[s,t],u.Ok n:=fun u hu=>by
  rcases List.mem_cons.1 hu with rfl|hu
  ·exact hs
  rw[List.mem_singleton.1 hu];exact ht
 obtain⟨A,a1,a2,a3,a4⟩:=qh8 (n:=n) (m:=2) (k:=0) (by omega) (n*n) (y9 [s,t]) (qet ho)
 refine⟨ho,A,a1,a4,?_⟩
 have e:qgG n (n*n) (s.row n) (t.row n)=((A 0).row n,(A 1).row n):=a2
 rw[e]
 rfl
theorem qrC {n:Nat} {s t:SB} (hs:s.Ok n) (ht:t.Ok n):QOK n [s,t] [t.row n,s.row n]:=by
 have ho: ∀u∈[s,t],u.Ok n:=fun u hu=>by
  rcases List.mem_cons.1 hu with rfl|hu
  ·exact hs
  rw[List.mem_singleton.1 hu];exact ht
 exact⟨ho,_,.refl,qet ho,rfl⟩
theorem qkV {n:Nat} {s t s' t':SB} (hs:s.Ok n) (ht:t.Ok n) (hs':s'.Ok n) (ht':t'.Ok n) (f1:s.Fix n) (f2:t.Fix n) (f3:s'.Fix n) (f4:t'.Fix n) (h:qkw n (s.row n) (t.row n) (s'.row n) (t'.row n)=true):Jn n [s,t] [s',t']:=by
 have e:=qic h
 injection e with e1 e2
 injection e2 with e2 _
 have q:=qsh hs ht
 rw[e1,e2]at q
 refine qnu q (qrC hs' ht') (fun u hu=>?_) (fun u hu=>?_)
 ·rcases List.mem_cons.1 hu with rfl|hu
  ·exact f1
  rw[List.mem_singleton.1 hu];exact f2
 rcases List.mem_cons.1 hu with rfl|hu
 ·exact f3
 rw[List.mem_singleton.1 hu];exact f4
theorem qlO (n:Nat) (s:SB):(s.flip n).flip n=s:=SB.ext fun k=>by
 show rv5 n (rv5 n (s.f (rv5 n (rv5 n k))))=s.f k
 rw[qaD,qaD]
theorem qg9 {n:Nat} {s:SB} (h:s.Ok n): ∀t∈[s],t.Ok n:=fun t ht=>by rw[List.mem_singleton.1 ht];exact h
section
variable {n:Nat} (hn:n<=6)
include hn
theorem qrf {s:SB} (h:Gd n s):Jn n [s,Ue n] [Ue n,s.flip n]:=by
 refine qkV h.ok (Uq n) (Uq n) h.ok.flip h.fix (Uv n) (Uv n) h.fix.flip ?_
 rw[qly h.ok,qfw]
 obtain⟨i,hi,h⟩:=h
 have c:=Yp.1 (ql0 qrv hn) i (List.mem_range.2 (by omega))
 simp only[Bool.and_eq_true]at c
 rcases h with rfl|rfl
 ·rw[qj0 hi,qiL];exact c.1.1
 rw[qkj,qfw];exact c.1.2
theorem gd_id {s:SB} (h:Gd n s):Jn n [Uf,s] [s,Uf]:=by
 refine qkV (Un n) h.ok h.ok (Un n) (U2 n) h.fix h.fix (U2 n) ?_
 rw[qiL]
 obtain⟨i,hi,h⟩:=h
 have c:=Yp.1 (ql0 qrv hn) i (List.mem_range.2 (by omega))
 simp only[Bool.and_eq_true]at c
 rcases h with rfl|rfl
 ·rw[qj0 hi,qiL];exact c.2.1
 rw[qkj,qfw];exact c.2.2
theorem qmO: ∀{l:List SB},(∀s∈l,Gd n s)->Jn n (l.map (SB.flip n)++[Ue n]) (Ue n::l)
 |[],h=> .refl (qg9 (Uq n))
 |s::l,h=>by
  have hs:=h s (List.mem_cons_self ..)
  have hl:=fun t ht=>h t (List.mem_cons_of_mem s ht)
  have a:Jn n ([s.flip n]++(l.map (SB.flip n)++[Ue n])) ([s.flip n]++(Ue n::l)):=(Jn.refl (qg9 hs.flip.ok)).app (qmO hl)
  have b:Jn n ([s.flip n,Ue n]++l) ([Ue n,s]++l):=by
   have:=qrf hn hs.flip
   rw[qlO]at this
   exact this.app (qkH hl)
  exact a.trans b
theorem qrq: ∀{l:List SB},(∀s∈l,Gd n s)->Jn n (Uf::l) (l++[Uf])
 |[],h=> .refl (qg9 (Un n))
 |s::l,h=>by
  have hs:=h s (List.mem_cons_self ..)
  have hl:=fun t ht=>h t (List.mem_cons_of_mem s ht)
  have b:Jn n ([Uf,s]++l) ([s,Uf]++l):=(gd_id hn hs).app (qkH hl)
  have a:Jn n ([s]++(Uf::l)) ([s]++(l++[Uf])):=(Jn.refl (qg9 hs.ok)).app (qrq hl)
  exact b.trans a
theorem qr1 {x:Int} (hx:x≠0/\ -(n:Int)<x/\x<n):Jn n (fac n [x,-x]) [Ue n,Uf]:=by
 have c:=Yp.1 (ql0 qse hn) x (qqk hx)
 have l1:xO n [x,-x]:=fun c hc=>by
  rcases List.mem_cons.1 hc with rfl|hc
  ·exact hx
  rw[List.mem_singleton.1 hc];omega
 have q:=fac_q l1
 rw[qic c]at q
 have q2:=qrC (Uq n) (Un n)
 rw[qiL,qfw]at q2
 refine qnu q q2 (fun s hs=>(qgn l1 s hs).fix) (fun s hs=>?_)
 rcases List.mem_cons.1 hs with rfl|hs
 ·exact Uv n
 rw[List.mem_singleton.1 hs];exact U2 n
theorem qrj {u v:List Int} {x:Int} (hu:xO n u) (hv:xO n v) (hx:x≠0/\ -(n:Int)<x/\x<n):Jn n (fac n (u++[x,-x]++v)) (Ue n::(fac n (u++v)++[Uf])):=by
 have e1:flW n [x,-x] (fac n u)=(fac n u).map (SB.flip n):=by
  unfold flW
  rw[List.foldl_cons,List.foldl_cons,List.foldl_nil]
  by_cases p:0<x
  ·rw[if_pos p,if_neg (by omega)]
  rw[if_neg p,if_pos (by omega)]
 have g1:=qgn hu
 have a:Jn n (fac n (u++[x,-x])) ((Ue n::fac n u)++[Uf]):=by
  rw[qka,e1]
  have a1:Jn n ((fac n u).map (SB.flip n)++fac n [x,-x]) ((fac n u).map (SB.flip n)++[Ue n,Uf]):=(qkH g1).flip.app (qr1 hn hx)
  have a2:Jn n (((fac n u).map (SB.flip n)++[Ue n])++[Uf]) ((Ue n::fac n u)++[Uf]):=(qmO hn g1).app (.refl (qg9 (Un n)))
  rw[Yz]at a2
  exact a1.trans a2
 rw[qka,qka n u v]
 have b:=(qpx v a).app (qkH (qgn hv))
 rw[qh0,show Ue n::fac n u=[Ue n]++fac n u from rfl,qh0,qhZ (qjJ n),qhZ (qjX n)]at b
 refine b.trans ?_
 have c:Jn n (Uf::fac n v) (fac n v++[Uf]):=qrq hn (qgn hv)
 have d:=((Jn.refl (qg9 (Uq n))).app (qkH (qps v g1))).app c
 simpa using d
end
end Go.Av
end
section
namespace Go.Av
theorem qlI (n:Int):jF n=some (if n<1\/12<n then 3 else 0):=by
 unfold jF
 by_cases a:n<1
 ·rw[if_pos a,if_pos (.inl a)];rfl
 rw[if_neg a,qdv]
 by_cases b:12<n
 ·rw[decide_eq_true (show n>12 from b),if_pos rfl,if_pos (.inr b)];rfl
 rw[decide_eq_false (show¬n>12 from b),if_neg (by decide),if_neg (by omega)];rfl
section
variable {k:Nat} (hk:k<=12) (k1:1<=k)
include hk k1
end
structure FOK (k:Nat) (f:qb5):Prop where
 k1:1<=k
 k2:k<=12
 half: -200<=f.Half/\f.Half<=200
 one:k=1->f.Half=0
 few:f.Factors.length<=200
 at_: ∀j,j<f.Factors.length-> ∃s:SB,s.Ok k/\f.Factors[j]? =some (s.li k)
end Go.Av
end
section
namespace Go.Av
def qiQ (n m:Nat) (A:Nat->SB) (h:Int):qb5:=⟨h+(((je n m A).countP fun x=>decide (x=(Ue n).li n):Nat):Int),(je n m A).filter fun x=>!decide (x=ve n)&&!decide (x=(Ue n).li n)⟩
def qgl (n:Nat) (w:List Int) (f:qb5):Prop:= ∃A,Pst n w.length (y9 (fac n w)) A/\Nf n w.length A/\f=qiQ n w.length A (-((ngs w:Nat):Int))
theorem qgl.jn {n:Nat} {w v:List Int} {f:qb5} (h:qgl n w f) (j:Jn n (fac n w) (fac n v)) (hg:ngs w=ngs v):qgl n v f:=by
 obtain⟨A,a1,a2,a3⟩:=h
 have hl:w.length=v.length:=by have:=j.len;rw[qbr,qbr]at this;exact this
 have a:=j.nf (A:=A) (by rw[qbr];exact a1) (by rw[qbr];exact a2)
 rw[qbr]at a
 exact⟨A,a,hl▸a2,by rw[a3,hl,hg]⟩
theorem qnK {n i:Nat} (hi:i+1<n):(Ue n).Ends i:=by
 show rv5 n (i+1)<rv5 n i
 rw[qaw hi,qaw (by omega)]
 omega
theorem qqs (i:Nat): ¬Uf.Begs i:=fun h=>by
 have h:i+1<i:=h
 omega
theorem qqO {n:Nat} {l:List SB} {A:Nat->SB} (a:Pst n l.length (y9 l) A) (nA:Nf n l.length A): ∃B,Pst n (l.length+2) (y9 (Ue n::(l++[Uf]))) B/\Nf n (l.length+2) B/\je n (l.length+2) B=(Ue n).li n::(je n l.length A++[Uf.li n]):=by
 have e:y9 (Ue n::(l++[Uf]))=jnL 1 (y9 [Ue n]) (jnL l.length (y9 l) (y9 [Uf])):=by
  rw[show Ue n::(l++[Uf])=[Ue n]++(l++[Uf])from rfl,qgF,qgF]
  rfl
 refine⟨jnL 1 (y9 [Ue n]) (jnL l.length A (y9 [Uf])),?_,fun k i c=>?_,?_⟩
 ·rw[e,show l.length+2=1+(l.length+1)by omega]
  exact(a.suf (m:=1)).pre
 ·obtain⟨k1,k2,k3,k4⟩:=c
  cases k with
  |zero=>exact k4 (qnK k2)
  |succ j=>
   rw[show j+1=1+j by omega,qcU]at k4
   rw[show j+1+1=1+(j+1)by omega,qcU]at k3
   by_cases h:j+1<l.length
   ·rw[qcl h]at k3
    rw[qcl (by omega)]at k4
    exact nA j i ⟨h,k2,k3,k4⟩
   have h2:j+1=l.length+0:=by omega
   rw[h2,qcU]at k3
   exact qqs i k3
 apply List.ext_getElem?
 intro q
 cases q with
 |zero=>rw[jc (by omega)];rfl
 |succ q=>
  rw[YK]
  by_cases h:q<l.length
  ·rw[jc (by omega),Yf (by rw[qC];exact h),jc h,show q+1=1+q by omega,qcU,qcl h]
  by_cases h2:q=l.length
  ·subst h2
   rw[jc (by omega),Yo (by rw[qC];omega),qC,show l.length+1=1+(l.length+0)by omega,qcU,qcU]
   simp
   rfl
  rw[Yg (by rw[qC];omega),Yg (by simp[qC];omega)]
theorem qki (u v:List Int):ngs (u++v)=ngs u+ngs v:=List.countP_append ..
theorem qom {x:Int} (hx:x≠0):ngs [x,-x]=1:=by
 unfold ngs
 rw[List.countP_cons,List.countP_cons,List.countP_nil]
 by_cases h:0<x
 ·simp[h];omega
 simp[h];omega
section
variable {n:Nat} (hn:n<=6)
include hn
theorem qgl.ins (n2:2<=n) {u v:List Int} {x:Int} (hu:xO n u) (hv:xO n v) (hx:x≠0/\ -(n:Int)<x/\x<n) {f:qb5} (h:qgl n (u++v) f):qgl n (u++[x,-x]++v) f:=by
 obtain⟨A,a1,a2,a3⟩:=h
 have j:=qrj hn hu hv hx
 rw[<-qbr n]at a1 a2
 obtain⟨B,b1,b2,b3⟩:=qqO a1 a2
 have hl:(u++[x,-x]++v).length=(fac n (u++v)).length+2:=by rw[qbr];simp;omega
 have hl2:(Ue n::(fac n (u++v)++[Uf])).length=(fac n (u++v)).length+2:=by simp
 have c:=j.symm.nf (A:=B) (by rw[hl2];exact b1) (by rw[hl2];exact b2)
 rw[qbr,hl]at c
 refine⟨B,by rw[hl];exact c,by rw[hl];exact b2,?_⟩
 rw[a3,hl]
 unfold qiQ
 rw[b3,qbr]
 have ne:(Ue n).li n≠ve n:=qkf (n:=n) (by omega) n2
 have hg:ngs (u++[x,-x]++v)=ngs (u++v)+1:=by
  rw[qki,qki,qki,qom hx.1];omega
 rw[hg,U1]
 simp[List.countP_cons,List.filter_cons,List.filter_append,ne,Ne.symm ne]
 omega
end
inductive Mv (n:Nat):List Int->List Int->Prop
 |ins {u v:List Int} {x:Int} (hx:x≠0/\ -(n:Int)<x/\x<n):Mv n (u++v) (u++[x,-x]++v)
 |can {u v:List Int} {x:Int}:Mv n (u++[x,-x]++v) (u++v)
 |swp {u v:List Int} {x y:Int} (h:far5 x y=true):Mv n (u++[x,y]++v) (u++[y,x]++v)
 |trn {u v l:List Int} {x y z:Int} (h:trn5 x y z=some l):Mv n (u++[x,y,z]++v) (u++l++v)
theorem qpI {n:Nat} {x y z:Int} {l:List Int} (hx:x≠0/\ -(n:Int)<x/\x<n) (hy:y≠0/\ -(n:Int)<y/\y<n) (hz:z≠0/\ -(n:Int)<z/\z<n) (h:trn5 x y z=some l):xO n l:=by
 have sg: ∀c d:Int,d≠0/\ -(n:Int)<d/\d<n->sg5 c*(d.natAbs:Int)≠0/\ -(n:Int)<sg5 c*(d.natAbs:Int)/\sg5 c*(d.natAbs:Int)<n:=fun c d hd=>by
  unfold sg5
  split<;>omega
 unfold trn5 at h
 split at h
 ·split at h
  ·have h:=Ye h
   subst h
   intro c hc
   rcases List.mem_cons.1 hc with rfl|hc
   ·exact sg z y hy
   rcases List.mem_cons.1 hc with rfl|hc
   ·exact hx
   rw[List.mem_singleton.1 hc];exact hy
  split at h
  ·have h:=Ye h
   subst h
   intro c hc
   rcases List.mem_cons.1 hc with rfl|hc
   ·exact hy
   rcases List.mem_cons.1 hc with rfl|hc
   ·exact hz
   rw[List.mem_singleton.1 hc];exact sg x y hy
  cases h
 cases h
theorem Mv.let_ {n:Nat} {w v:List Int} (h:Mv n w v) (hw:xO n w):xO n v:=by
 cases h with
 |ins hx=>exact(hw.left.app (fun c hc=>by
  rcases List.mem_cons.1 hc with rfl|hc
  ·exact hx
  rw[List.mem_singleton.1 hc];omega)).app hw.right
 |can=>exact hw.left.left.app hw.right
 |swp h=>exact(hw.left.left.app fun c hc=>hw c (by simp at hc⊢;rcases hc with rfl|rfl<;>simp)).app hw.right
 |trn h=>exact(hw.left.left.app (qpI (hw _ (by simp)) (hw _ (by simp)) (hw _ (by simp)) h)).app hw.right
end Go.Av
end
section
namespace Go.Av
section
variable {n:Nat} (hn:n<=12) {N:Nat} (hN:2000<N)
include hn hN
theorem qiV {w:List Int} (W:qa7 n w) (n2:2<=n): ∀(K i k:Nat) (l:List SB),l.length=i->(∀s∈l,s.Ok n)->k<=i->i<=w.length->w.length<K+i->
 yl N (n:Int) w K (-(k:Int)) (qaA n l) (i:Int)=some (-((k+ngs (w.drop i):Nat):Int),qaA n ((w.drop i).foldl (qcM n) l))
 |0,i,k,l,hl,ho,h1,hi,hK=>by omega
 |K+1,i,k,l,hl,ho,h1,hiw,hK=>by
  have wl:=W.len
  unfold yl
  by_cases hi:i<w.length
  ·have hx:w[i]? =some w[i]:=Ya hi
   have hc:=W.let_ _ (List.getElem_mem hi)
   rw[YG hi,List.foldl_cons]
   generalize w[i]=c at*
   obtain⟨m,hm⟩: ∃m:Nat,c.natAbs=m+1:=⟨c.natAbs-1,by omega⟩
   have hm2:m+1<n:=by omega
   have q1:w64 (((m+1:Nat):Int)-1)=(m:Int):=by rw[z8 (by omega) (by omega)];omega
   rw[if_pos (by omega),qx,hx]
   simp only[ZB,qhR (show-1000<c/\c<1000 by omega),hm,q1]
   unfold ngs qcM
   rw[hm,Nat.add_sub_cancel,List.countP_cons]
   by_cases pos:c>0
   ·rw[if_pos pos,qig hN (by omega),ZB,<-U1,qez (by omega) Uf hm2]
    simp only[ZB]
    rw[qb8 (by rw[qbN];simp;omega) (by rw[qbN];simp;omega)]
    simp only[ZB]
    rw[qA (by omega),show qaA n l++[(Uf.fr m).li n]=qaA n (l++[Uf.fr m])by simp[qaA],if_pos (show 0<c from pos),decide_eq_true (show 0<c from pos)]
    exact qiV W n2 K (i+1) k _ (by simp[hl]) (fun s hs=>by
     rcases List.mem_append.1 hs with hs|hs
     ·exact ho s hs
     rw[List.mem_singleton.1 hs];exact(Un n).fr hm2) (by omega) (by omega) (by omega)
   rw[if_neg pos,qlb hn hN (by omega) ho,ZB,qhV hN (by omega),ZB,qju (by omega) hN (Uq n) hm2]
   simp only[ZB]
   rw[qb8 (by rw[qbN];simp;omega) (by rw[qbN];simp;omega)]
   simp only[ZB]
   rw[qA (by omega),z8 (n:= -(k:Int)-1) (by omega) (by omega),if_neg (show¬0<c from pos),decide_eq_false (show¬0<c from pos),show-(k:Int)-1= -((k+1:Nat):Int)by omega,show qaA n (l.map (SB.flip n))++[((Ue n).bk m).li n]=qaA n (l.map (SB.flip n)++[(Ue n).bk m])by simp[qaA]]
   have:=qiV W n2 K (i+1) (k+1) (l.map (SB.flip n)++[(Ue n).bk m]) (by simp[hl]) (fun s hs=>by
    rcases List.mem_append.1 hs with hs|hs
    ·obtain⟨u,hu,rfl⟩:=List.mem_map.1 hs
     exact(ho u hu).flip
    rw[List.mem_singleton.1 hs];exact(Uq n).bk hm2) (by omega) (by omega) (by omega)
   rw[this]
   unfold ngs
   simp only[Bool.not_false,if_true]
   congr 3
   omega
  rw[if_neg (by omega),List.drop_eq_nil_of_le (by omega)]
  rfl
end
theorem nform {n:Nat} (n2:2<=n) (n6:n<=6) {N:Nat} (hN:300000<N) {w:List Int} (W:qa7 n w) (hl:w.length<=60):
 ∃f,qa0 N (n:Int) w=some f/\qgl n w f/\f.Factors.length<=300/\ ∀x∈f.Factors,x.length<=300:=by
 have hw:xO n w:=W.let_
 have lok:=qet (n:=n) (l:=fac n w) fun s hs=>(qgn hw s hs).ok
 have ll:=qbr n w
 rw[ll]at lok
 have hmu: ∀L:Nat->SB,mu5 n L w.length<=129600:=fun L=>by
  refine Nat.le_trans (qpi w.length) ?_
  have h1:n*n<=6*6:=Nat.mul_le_mul n6 n6
  have h2:w.length*(n*n)<=60*36:=Nat.mul_le_mul hl h1
  exact Nat.mul_le_mul hl h2
 have hmu0:=hmu (y9 (fac n w))
 obtain⟨A,a1,a2,a3,a4⟩:=qkd (n:=n) (m:=w.length) (by omega) (by omega) (by omega) (N:=N) (by omega) (fun L=>by have:=hmu L;omega) N 0 (y9 (fac n w)) lok (Nat.zero_le _) (by omega) (fun j hj=>by omega)
 refine⟨qiQ n w.length A (-((ngs w:Nat):Int)),?_,⟨A,a2,a3,rfl⟩,?_,?_⟩
 ·unfold qa0
  have b0:=qiV (n:=n) (by omega) (N:=N) (by omega) W n2 N 0 0 [] rfl (fun s hs=>by cases hs) (Nat.le_refl _) (Nat.zero_le _) (by omega)
  rw[show qaA n ([]:List SB)=[]from rfl,show(-((0:Nat):Int))=0 from rfl,show((0:Nat):Int)=0 from rfl,YR,Nat.zero_add]at b0
  have rF:qaA n (fac n w)=je n w.length (y9 (fac n w)):=qlc (by rw[qbN,ll]) fun q hq=>by
   rw[qjD (by rw[ll];exact hq)]
   unfold y9
   rw[Yy,Ya (by rw[ll];exact hq)]
   rfl
  have rF':qaA n (w.foldl (qcM n) [])=je n w.length (y9 (fac n w)):=rF
  rw[if_neg (by omega),b0,ZB,rF']
  have p0:qbg N (je n w.length (y9 (fac n w)))=some (je n w.length A):=by
   unfold qbg
   rw[show((0:Nat):Int)=0 from rfl]at a1
   rw[a1,ZB]
  dsimp only
  rw[p0,ZB,qC,qC,if_pos rfl,ZB]
  have hk:ngs w<=w.length:=List.countP_le_length
  have f0:=qhY (n:=n) (by omega) n2 (N:=N) (by omega) (by omega) a4 N 0 (-((ngs w:Nat):Int)) [] (Nat.zero_le _) (by omega) (by omega) (by omega) (Nat.zero_le _)
  rw[show((0:Nat):Int)=0 from rfl,YR,List.nil_append]at f0
  rw[f0,ZB]
  rfl
 ·show(List.filter _ (je n w.length A)).length<=300
  have:=List.length_filter_le (fun x=>!decide (x=ve n)&&!decide (x=(Ue n).li n)) (je n w.length A)
  rw[qC]at this
  omega
 intro x hx
 have hx:x∈(je n w.length A).filter _:=hx
 obtain⟨q,_,rfl⟩:=List.mem_map.1 (List.mem_filter.1 hx).1
 rw[Ud]
 omega
def pmF (s:SB) (w:List Int):SB:=w.foldl (fun s c=>s.bk (c.natAbs-1)) s
theorem qkp (s:SB) (u v:List Int):pmF s (u++v)=pmF (pmF s u) v:=List.foldl_append ..
theorem qin {n:Nat}: ∀{w:List Int} {s:SB},s.Ok n->xO n w->(pmF s w).Ok n
 |[],s,h,hw=>h
 |c::w,s,h,hw=>qin (w:=w) (h.bk (by have:=hw c (List.mem_cons_self ..);omega)) (fun d hd=>hw d (List.mem_cons_of_mem _ hd))
section
variable {n:Nat} (hn:n<=12) {N:Nat} (hN:2000<N)
include hn hN
theorem qm6 {w:List Int} (W:qa7 n w): ∀(K i:Nat) (s:SB),s.Ok n->i<=w.length->w.length<K+i->ze w K (s.li n) (s.rev.li n) (i:Int)=some ((pmF s (w.drop i)).li n)
 |0,i,s,hs,h,hK=>by omega
 |K+1,i,s,hs,hiw,hK=>by
  have wl:=W.len
  unfold ze qcu
  by_cases hi:i<w.length
  ·have hx:w[i]? =some w[i]:=Ya hi
   have hc:=W.let_ _ (List.getElem_mem hi)
   rw[YG hi]
   unfold pmF
   rw[List.foldl_cons]
   generalize w[i]=c at*
   obtain⟨m,hm⟩: ∃m:Nat,c.natAbs=m+1:=⟨c.natAbs-1,by omega⟩
   have hm2:m+1<n:=by omega
   have q1:w64 (((m+1:Nat):Int)-1)=(m:Int):=by rw[z8 (by omega) (by omega)];omega
   have q2:w64 ((m:Int)+1)=((m+1:Nat):Int):=qA (by omega)
   have g0:=hs.g_ m (by omega)
   have g1:=hs.g_ (m+1) hm2
   have r0:idx (s.rev.li n) (m:Int)=some ((s.g m:Nat):Int):=Ug (by omega)
   have r1:idx (s.rev.li n) ((m+1:Nat):Int)=some ((s.g (m+1):Nat):Int):=Ug hm2
   have ne:s.g m≠s.g (m+1):=fun e=>by have:=s.ginj e;omega
   have p0:idx (s.li n) ((s.g m:Nat):Int)=some (m:Int):=by rw[Ug g0,s.fg]
   have lset:((s.li n).set (s.g m) ((m+1:Nat):Int)).length=n:=by simp[Ud]
   have p1:idx ((s.li n).set (s.g m) ((m+1:Nat):Int)) ((s.g (m+1):Nat):Int)=some ((m+1:Nat):Int):=by
    rw[qx,Yw ne,Ui s g1,s.fg]
   have q3:w64 (((m+1:Nat):Int)-1)=(m:Int):=q1
   rw[if_pos (by omega),qx,hx]
   simp only[ZB,qhR (show-1000<c/\c<1000 by omega),hm,q1,q2,r0,r1,p0]
   rw[jB (by rw[Ud];exact g0)]
   simp only[ZB,p1,q3]
   rw[jB (by rw[lset];exact g1)]
   simp only[ZB]
   rw[jB (by rw[Ud];omega)]
   simp only[ZB]
   have e17:idx ((s.rev.li n).set m ((s.g (m+1):Nat):Int)) ((m+1:Nat):Int)=some ((s.g (m+1):Nat):Int):=by
    rw[qx,Yw (by omega),Ui s.rev hm2]
    rfl
   rw[e17]
   simp only[ZB]
   rw[jB (by simp[Ud];omega)]
   simp only[ZB]
   have e1:((s.li n).set (s.g m) ((m+1:Nat):Int)).set (s.g (m+1)) (m:Int)=(s.bk m).li n:=Uu (by simp[Ud]) fun k hk=>by
    show _=some ((tr5 m (s.f k):Nat):Int)
    by_cases a:k=s.g (m+1)
    ·subst a
     rw[List.getElem?_set_self (by rw[lset];exact g1),s.fg,qcH]
    rw[Yw (fun e=>a e.symm)]
    by_cases b:k=s.g m
    ·subst b
     rw[List.getElem?_set_self (by rw[Ud];exact g0),s.fg,qcx]
    rw[Yw (fun e=>b e.symm),Ui s hk,vW (fun e=>b (by rw[<-e,s.gf])) (fun e=>a (by rw[<-e,s.gf]))]
   have e2:((s.rev.li n).set m ((s.g (m+1):Nat):Int)).set (m+1) ((s.g m:Nat):Int)=(s.bk m).rev.li n:=Uu (by simp[Ud]) fun k hk=>by
    show _=some ((s.g (tr5 m k):Nat):Int)
    by_cases a:k=m+1
    ·subst a
     rw[List.getElem?_set_self (by simp[Ud];omega),qcH]
    rw[Yw (fun e=>a e.symm)]
    by_cases b:k=m
    ·subst b
     rw[List.getElem?_set_self (by rw[Ud];omega),qcx]
    rw[Yw (fun e=>b e.symm),Ui s.rev hk,vW b a]
    rfl
   rw[e1,e2,qA (by omega)]
   rw[show(m+1-1:Nat)=m by omega]
   exact qm6 W K (i+1) _ (hs.bk hm2) (by omega) (by omega)
  rw[if_neg (by omega),List.drop_eq_nil_of_le (by omega)]
  rfl
theorem qqK {w:List Int} (W:qa7 n w):qdq N (n:Int) w=some ((pmF Uf w).li n):=by
 unfold qdq yZ
 have wl:=W.len
 have:=qm6 hn hN W N 0 Uf (Un n) (Nat.zero_le _) (by omega)
 rw[YR,show Uf.rev=Uf from rfl,U1,show((0:Nat):Int)=0 from rfl]at this
 rw[qig hN (by omega),ZB,ZB,this]
 rfl
end
theorem bk_bk (s:SB) (i:Nat):(s.bk i).bk i=s:=SB.ext fun k=>qey i (s.f k)
end Go.Av
end
section
namespace Go.Av
def NoX (u v:SB):Prop:= ∀a b,a<b->u.g b<u.g a->v.f a<v.f b
theorem qqm {j a b:Nat} (h:a<b):tr5 j a<tr5 j b\/(a=j/\b=j+1):=by
 rcases yI j a with⟨e,f⟩|⟨e,f⟩|⟨e,e',f⟩<;>rcases yI j b with⟨g,k⟩|⟨g,k⟩|⟨g,g',k⟩<;>rw[f,k]<;>omega
theorem NoX.psh {u v:SB} {j:Nat} (h:NoX u v) (hb:v.Begs j):NoX (u.bk j) (v.fr j):=fun a b hab hc=>by
 have hc:u.g (tr5 j b)<u.g (tr5 j a):=hc
 show v.f (tr5 j a)<v.f (tr5 j b)
 rcases qqm (j:=j) hab with e|⟨rfl,rfl⟩
 ·exact h _ _ e hc
 rw[qcx,qcH]
 exact hb
def PosW (w:List Int):Prop:= ∀c∈w,0<c
theorem WdB.pos {n:Nat} {s:SB} {W:List Int} (h:WdB n s W):PosW W/\xO n W:=by
 induction h with
 |nil h=>exact⟨fun c hc=>(by cases hc),fun c hc=>(by cases hc)⟩
 |@cons s i W hi hb hm h ih=>
  refine⟨fun c hc=>?_,fun c hc=>?_⟩
  ·rcases List.mem_cons.1 hc with rfl|hc
   ·omega
   exact ih.1 c hc
  rcases List.mem_cons.1 hc with rfl|hc
  ·omega
  exact ih.2 c hc
section
variable {n:Nat} (hn:n<=6)
include hn
end
end Go.Av
end
section
namespace Go.Av
def CInv (p:List Int) (from_:Nat) (S:List Bool) (at_:Nat):Prop:= ∀y:Nat,(S[y]? =some true\/y=at_)->y≠from_-> ∃z:Nat,S[z]? =some true/\p[z]? =some ((y:Nat):Int)
def qrr (p:List Int) (S:List Bool):Prop:= ∀y:Nat,S[y]? =some true-> ∃z:Nat,S[z]? =some true/\p[z]? =some ((y:Nat):Int)
def cntF (S:List Bool):Nat:=S.countP (fun b=>!b)
theorem qiZ {S:List Bool} {i:Nat} (h:S[i]? =some false):cntF (S.set i true)+1=cntF S:=by
 obtain⟨hi,e⟩:=Yb.1 h
 unfold cntF
 have hp:0<S.countP (fun b=>!b):=List.countP_pos_iff.2 ⟨S[i],List.getElem_mem hi,by rw[e];rfl⟩
 rw[List.countP_set hi,e]
 simp
 omega
def nxP (p:List Int) (x:Nat):Nat:=((p[x]?).getD 0).toNat
def itP (p:List Int) (x:Nat):Nat->Nat
 |0=>x
 |k+1=>nxP p (itP p x k)
theorem qkg {p:List Int} (hp:IsP p) {x:Nat} (hx:x<p.length):p[x]? =some ((nxP p x:Nat):Int)/\nxP p x<p.length:=by
 obtain⟨v,v1,v2⟩:=hp.at_ x hx
 have e:nxP p x=v:=by
  unfold nxP
  rw[v2]
  simp
 rw[e]
 exact⟨v2,v1⟩
theorem qgs {p:List Int} (hp:IsP p) {x:Nat} (hx:x<p.length): ∀k,itP p x k<p.length
 |0=>hx
 |k+1=>(qkg hp (qgs hp hx k)).2
theorem qfH (p:List Int) (x a:Nat): ∀b,itP p x (a+b)=itP p (itP p x a) b
 |0=>rfl
 |b+1=>by
  show nxP p (itP p x (a+b))=nxP p (itP p (itP p x a) b)
  rw[qfH p x a b]
theorem qkc {p:List Int} {x L:Nat} (h:itP p x L=x): ∀a,itP p x (L*a)=x
 |0=>rfl
 |a+1=>by rw[Nat.mul_succ,qfH,qkc h a,h]
theorem qrk {p:List Int} {x L:Nat} (h:itP p x L=x) (m:Nat):itP p x m=itP p x (m%L):=by
 have e:=Nat.div_add_mod m L
 have e2:itP p x (L*(m/L)+m%L)=itP p x (m%L):=by rw[qfH,qkc h]
 rw[e]at e2
 exact e2
theorem qrb {p:List Int} (hp:IsP p) {x y:Nat} (hx:x<p.length) (hy:y<p.length) (h:nxP p x=nxP p y):x=y:=
 hp.inj x y _ (qkg hp hx).1 (by rw[h];exact(qkg hp hy).1)
theorem qmS {p:List Int} (hp:IsP p) {x y:Nat} (hx:x<p.length) (hy:y<p.length): ∀k,itP p x k=itP p y k->x=y
 |0,h=>h
 |k+1,h=>qmS hp hx hy k (qrb hp (qgs hp hx k) (qgs hp hy k) h)
def IsCy (p c:List Int):Prop:= ∃s:Nat,0<c.length/\c.length<=p.length/\s<p.length/\(∀j,j<c.length->c[j]? =some ((itP p s j:Nat):Int))/\itP p s c.length=s/\ ∀j,0<j->j<c.length->itP p s j≠s
theorem qrB {p:List Int} (hp:IsP p) (fr:Nat) (hfr0:fr<p.length): ∀(c:Nat) (S:List Bool) (l:List Int) (o:Option (List Int)) (at_ K1:Nat),((o=none/\l=[])\/o=some l)->cntF S=c->c<=K1->S.length=p.length->at_<p.length->S[at_]? =some false->CInv p fr S at_->(S[fr]? =some true\/at_=fr)->l.length+c<=p.length->at_=itP p fr l.length->(∀j,j<l.length->l[j]? =some ((itP p fr j:Nat):Int))->(∀j,0<j->j<=l.length->itP p fr j≠fr)->
 ∃(S':List Bool) (rest:List Int),zL (fr:Int) p K1 S o (at_:Int)=some (S',l++rest)/\S'.length=p.length/\qrr p S'/\IsCy p (l++rest)/\(∀y:Nat,S'[y]? =some true↔(S[y]? =some true\/(y:Int)∈rest))/\(∀y:Nat,(y:Int)∈rest->S[y]? =some false)/\rest.Nodup/\S'[fr]? =some true/\rest.length+cntF S'=c
 |0,S,l,o,at_,K1,ho,hc,h1,hl,ha,hf,hi,hfr,hb,hat,hel,hne=>by
  have:=qiZ hf
  omega
 |c+1,S,l,o,at_,K1,ho,hc,h1,hl,ha,hf,hi,hfr,hb,hat,hel,hne=>by
  obtain⟨K1,rfl⟩: ∃K,K1=K+1:=⟨K1-1,by omega⟩
  have hcs:=qiZ hf
  have hfew:=hp.few
  obtain⟨x,hx,ex⟩:=hp.at_ at_ ha
  have enx:nxP p at_=x:=by
   have:=(qkg hp ha).1
   rw[ex]at this
   have:=Ye this
   omega
  have eit:itP p fr (l.length+1)=x:=by
   show nxP p (itP p fr l.length)=x
   rw[<-hat,enx]
  have r2:xL S o (at_:Int)=some (S.set at_ true,l++[(at_:Int)]):=by
   unfold xL
   rw[qx,hf,ZB,jB (by omega),ZB]
   rcases ho with⟨rfl,rfl⟩|rfl
   ·rfl
   simp only
   rw[qb8 (by simp only[Yr,List.length_nil];omega) (by simp only[Yr,List.length_nil];omega)]
   rfl
  have hl':(S.set at_ true).length=p.length:=by simpa using hl
  have atT:(S.set at_ true)[at_]? =some true:=by rw[List.getElem?_set_self (by omega)]
  have cov: ∀y:Nat,(S.set at_ true)[y]? =some true↔(S[y]? =some true\/y=at_):=fun y=>by
   by_cases e:y=at_
   ·subst e
    exact⟨fun _=> .inr rfl,fun _=>atT⟩
   rw[Yw (fun h=>e h.symm)]
   exact⟨fun h=> .inl h,fun h=>h.elim id (fun h=>absurd h e)⟩
  have frT:(S.set at_ true)[fr]? =some true:=by
   rcases hfr with h|h
   ·exact(cov fr).2 (.inl h)
   exact(cov fr).2 (.inr h.symm)
  have nth: ∀rest:List Int,rest[0]? =some (at_:Int)->(l++rest)[l.length]? =some (at_:Int):=fun rest h=>by
   rw[Yo (by omega),Nat.sub_self,h]
  unfold zL
  rw[r2,ZB]
  simp only
  rw[qx,ex,ZB]
  by_cases e:x=fr
  ·rw[if_pos (by omega)]
   have hlen:(l++[(at_:Int)]).length=l.length+1:=by simp
   refine⟨S.set at_ true,[(at_:Int)],rfl,hl',?_,⟨fr,by omega,by omega,hfr0,?_,by rw[hlen,eit,e],?_⟩,?_,?_,by simp,frT,?_⟩
   ·intro y hy
    by_cases c2:y=fr
    ·subst c2
     exact⟨at_,atT,by rw[ex,e]⟩
    obtain⟨z,z1,z2⟩:=hi y ((cov y).1 hy) c2
    exact⟨z,(cov z).2 (.inl z1),z2⟩
   ·intro j hj
    by_cases c2:j<l.length
    ·rw[Yf c2,hel j c2]
    have:j=l.length:=by omega
    subst this
    rw[nth _ rfl,<-hat]
   ·intro j j0 hj
    exact hne j j0 (by omega)
   ·intro y
    rw[cov y,List.mem_singleton]
    exact⟨fun h=>h.elim .inl (fun h=> .inr (by rw[h])),fun h=>h.elim .inl (fun h=> .inr (by omega))⟩
   ·intro y hy
    have:y=at_:=by
     have:=List.mem_singleton.1 hy
     omega
    rw[this]
    exact hf
   rw[List.length_singleton]
   omega
  rw[if_neg (by omega)]
  have hxF:(S.set at_ true)[x]? =some false:=by
   have hxl:x<(S.set at_ true).length:=by omega
   have h0:(S.set at_ true)[x]? =some (S.set at_ true)[x]:=Ya hxl
   cases hb2:(S.set at_ true)[x]with
   |false=>rw[h0,hb2]
   |true=>
    exfalso
    rw[hb2]at h0
    obtain⟨z,z1,z2⟩:=hi x ((cov x).1 h0) e
    have:=hp.inj z at_ _ z2 ex
    subst this
    rw[hf]at z1
    cases z1
  have hlen:(l++[(at_:Int)]).length=l.length+1:=by simp
  obtain⟨S',rest,g1,g3,g4,g5,g6,g7,g8,g9,g10⟩:=qrB hp fr hfr0 c (S.set at_ true) (l++[(at_:Int)]) (some (l++[(at_:Int)])) x K1 (.inr rfl) (by omega) (by omega) hl' hx hxF (fun y hy hne=>by
   rcases hy with hy|hy
   ·obtain⟨z,z1,z2⟩:=hi y ((cov y).1 hy) hne
    exact⟨z,(cov z).2 (.inl z1),z2⟩
   ·subst hy
    exact⟨at_,atT,ex⟩) (.inl frT) (by omega) (by rw[hlen,eit]) (fun j hj=>by
   by_cases c2:j<l.length
   ·rw[Yf c2,hel j c2]
   ·have:j=l.length:=by omega
    subst this
    rw[nth _ rfl,<-hat]) (fun j j0 hj=>by
   by_cases c2:j<=l.length
   ·exact hne j j0 c2
   have:j=l.length+1:=by omega
   subst this
   rw[eit]
   exact e)
  have ass:(l++[(at_:Int)])++rest=l++((at_:Int)::rest):=by simp
  rw[ass]at g1 g5
  have fresh:(at_:Int)∉rest:=fun h=>by
   have:=g7 at_ h
   rw[atT]at this
   cases this
  refine⟨S',(at_:Int)::rest,g1,g3,g4,g5,fun y=>?_,fun y hy=>?_,List.nodup_cons.2 ⟨fresh,g8⟩,g9,by rw[Yr];omega⟩
  ·rw[g6 y,cov y,List.mem_cons]
   constructor
   ·rintro((h|h)|h)
    ·exact .inl h
    ·exact .inr (.inl (by rw[h]))
    exact .inr (.inr h)
   rintro(h|h|h)
   ·exact .inl (.inl h)
   ·exact .inl (.inr (by omega))
   exact .inr h
  rcases List.mem_cons.1 hy with h|h
  ·have:y=at_:=by omega
   rw[this]
   exact hf
  have:=g7 y h
  by_cases e2:y=at_
  ·rw[e2]
   exact hf
  rw[Yw (fun h=>e2 h.symm)]at this
  exact this
theorem qo5 {N:Nat} (hN:2000<N) {p:List Int} (hp:IsP p): ∀(K i:Nat) (S:List Bool) (out:List (List Int)),i<=p.length->p.length<K+i->S.length=p.length->qrr p S->out.length<=i->(∀y,y<i->S[y]? =some true)->(∀c∈out,IsCy p c)->(∀y:Nat,S[y]? =some true↔(y:Int)∈out.flatten)->out.flatten.Nodup->out.flatten.length+cntF S=p.length->
 ∃r,jh N p K out S (i:Int)=some r/\r.length<=p.length/\(∀c∈r,IsCy p c)/\r.flatten.Nodup/\(∀y:Nat,y<p.length->(y:Int)∈r.flatten)/\r.flatten.length=p.length
 |0,i,S,out,h,hK,hl,hc,ho,hlo,hm,hcov,hnd,hct=>by omega
 |K+1,i,S,out,h,hK,hl,hc,ho,hlo,hm,hcov,hnd,hct=>by
  have hfew:=hp.few
  unfold jh
  by_cases hi:i<p.length
  ·have hs:S[i]? =some S[i]:=Ya (by omega)
   rw[if_pos (by omega),qx,hs,ZB]
   cases hb:S[i]with
   |true=>
    rw[hb]at hs
    rw[if_pos rfl,ZB]
    simp only
    rw[qA (by omega)]
    exact qo5 hN hp K (i+1) S out (by omega) (by omega) hl hc (by omega) (fun y hy=>by
     by_cases c:y=i
     ·subst c
      exact hs
     exact hlo y (by omega)) hm hcov hnd hct
   |false=>
    rw[hb]at hs
    have hcl:cntF S<=S.length:=List.countP_le_length
    obtain⟨S1,cy,e1,e3,e4,e5,e6,e7,e8,e9,e10⟩:=qrB hp i hi (cntF S) S [] none i N (.inl ⟨rfl,rfl⟩) rfl (by omega) hl hi hs (fun y hy hne=>by
     rcases hy with hy|hy
     ·exact hc y hy
     exact absurd hy hne) (.inr rfl) (by simp;omega) rfl (fun j hj=>by simp at hj) (fun j j0 hj=>by simp at hj;omega)
    rw[List.nil_append]at e1 e5
    have e0:qbt p (i:Int)=some ():=rfl
    have e11:yO N S (i:Int) p=some (S1,cy):=by
     unfold yO
     rw[e1,ZB]
    rw[if_neg (by decide),e0,ZB,e11,ZB]
    simp only
    rw[qb8 (by simp only[Yr,List.length_nil];omega) (by simp only[Yr,List.length_nil];omega)]
    simp only[ZB]
    rw[qA (by omega)]
    have hfl:(out++[cy]).flatten=out.flatten++cy:=by simp
    refine qo5 hN hp K (i+1) S1 (out++[cy]) (by omega) (by omega) e3 e4 (by simp;omega) (fun y hy=>by
     by_cases c:y=i
     ·subst c
      exact e9
     ·exact(e6 y).2 (.inl (hlo y (by omega)))) (fun c hc=>by
     rcases List.mem_append.1 hc with c|c
     ·exact hm _ c
     obtain rfl:=List.mem_singleton.1 c
     exact e5) (fun y=>by rw[hfl,List.mem_append,e6 y,hcov y]) ?_ ?_
    ·rw[hfl,List.nodup_append]
     refine⟨hnd,e8,fun a ha b hb hab=>?_⟩
     subst hab
     obtain⟨s,c0,c1,c2,c3,_⟩:=e5
     obtain⟨j,hj⟩:=List.mem_iff_getElem?.1 hb
     have hjl:=(Yb.1 hj).1
     have:=c3 j hjl
     rw[hj]at this
     have:=Ye this
     subst this
     have h1:=(hcov _).2 ha
     rw[e7 _ hb]at h1
     cases h1
    rw[hfl,Yq]
    omega
  rw[if_neg (by omega)]
  have hin:i=p.length:=by omega
  have hz:cntF S=0:=by
   unfold cntF
   rw[List.countP_eq_zero]
   intro b hb
   obtain⟨j,hj⟩:=List.mem_iff_getElem?.1 hb
   have hjl:=(Yb.1 hj).1
   have:=hlo j (by omega)
   rw[hj]at this
   obtain rfl:=Ye this
   simp
  exact⟨out,rfl,by omega,hm,hnd,fun y hy=>(hcov y).1 (hlo y (by omega)),by omega⟩
theorem qib {N:Nat} (hN:2000<N) {p:List Int} (hp:IsP p): ∃r,xD N p=some r/\r.length<=p.length/\(∀c∈r,IsCy p c)/\r.flatten.Nodup/\(∀y:Nat,y<p.length->(y:Int)∈r.flatten)/\r.flatten.length=p.length:=by
 have hfew:=hp.few
 have hmk:mk 1 (p.length:Int) false=some (List.replicate p.length false):=by
  unfold mk
  rw[if_pos (by omega)]
  simp
 obtain⟨r,g1,g2⟩:=qo5 hN hp N 0 (List.replicate p.length false) [] (by omega) (by omega) (by simp) (fun y hy=>by
  rw[List.getElem?_replicate]at hy
  split at hy<;>cases hy) (by simp) (fun y hy=>by omega) (fun l h=>by cases h) (fun y=>by
  rw[List.getElem?_replicate]
  constructor
  ·intro hy
   split at hy<;>cases hy
  intro hy
  simp at hy) (by simp) (by simp[cntF,List.countP_replicate])
 rw[show((0:Nat):Int)=0 from rfl]at g1
 refine⟨r,?_,g2⟩
 unfold xD
 rw[hmk,ZB,g1,ZB]
theorem qjb {p:List Int} (hp:IsP p) {s:Nat} (hs:s<p.length) (j m:Nat):itP p (itP p s j) m=itP p s j↔itP p s m=s:=by
 rw[<-qfH,Nat.add_comm,qfH]
 exact⟨fun h=>qmS hp (qgs hp hs m) hs j h,fun h=>by rw[h]⟩
end Go.Av
end
section
namespace Go.Av
theorem qpl {p:List Int} (hp:IsP p): ∀(K i:Nat) (m:List (Int×Bool)),i<=p.length->p.length<K+i->(∀x,(qcT m x).getD false=true↔ ∃k,k<i/\p[k]? =some x)->zl p K m (i:Int)=some (.inl ())
 |0,i,m,h,hK,hm=>by omega
 |K+1,i,m,h,hK,hm=>by
  have few:=hp.few
  unfold zl
  by_cases hi:i<p.length
  ·obtain⟨v,hv,hx⟩:=hp.at_ i hi
   rw[if_pos (by omega),qx,hx]
   simp only[ZB]
   rw[if_neg (by omega),if_neg (by omega)]
   have hf:(qcT m (v:Int)).getD false=false:=by
    cases c:(qcT m (v:Int)).getD false with
    |false=>rfl
    |true=>
     obtain⟨k,k1,k2⟩:=(hm _).1 c
     have:=hp.inj k i _ k2 hx
     omega
   rw[hf,qA (by omega)]
   simp only[ZF,if_false,ZB]
   refine qpl hp K (i+1) _ (by omega) (by omega) (fun y=>?_)
   rw[qkW]
   by_cases e:y=(v:Int)
   ·rw[if_pos e]
    exact⟨fun _=>⟨i,by omega,by rw[hx,e]⟩,fun _=>rfl⟩
   rw[if_neg e,hm y]
   constructor
   ·rintro⟨k,k1,k2⟩
    exact⟨k,by omega,k2⟩
   rintro⟨k,k1,k2⟩
   refine⟨k,?_,k2⟩
   rcases Nat.lt_or_ge k i with c|c
   ·exact c
   have:k=i:=by omega
   subst this
   rw[hx]at k2
   exact absurd (Ye k2).symm e
  rw[if_neg (by omega)]
theorem ql7 {N:Nat} (hN:2000<N) {p:List Int} (hp:IsP p):jL N p=some 0:=by
 have few:=hp.few
 unfold jL
 rw[if_neg (by omega),show(0:Int)=((0:Nat):Int)from rfl,qpl hp N 0 [] (by omega) (by omega) (fun x=>by
  constructor
  ·intro c;simp[qcT]at c
  rintro⟨k,k1,_⟩;omega)]
 rfl
theorem qdM {n:Nat} (hn:n<=256) {s:SB} (hs:s.Ok n):IsP (s.li n):=by
 refine⟨by rw[Ud];exact hn,fun k hk=>?_,fun k k' v h h'=>?_⟩
 ·rw[Ud]at hk⊢
  exact⟨s.f k,hs.f_ k hk,Ui s hk⟩
 have l1:=(Yb.1 h).1
 have l2:=(Yb.1 h').1
 rw[Ud]at l1 l2
 rw[Ui s l1]at h
 rw[Ui s l2]at h'
 have e:=Ye (h.trans h'.symm)
 exact s.finj (by omega)
theorem qj6 {n k:Nat} {s:SB} (hk:k<n):nxP (s.li n) k=s.f k:=by
 unfold nxP
 rw[Ui s hk]
 simp
theorem qmD {n:Nat} {w:List Int} (W:qa7 n w):chkW (n:Int) w=0:=by
 have:=W.n1
 have:=W.n2
 have:=W.len
 unfold chkW
 rw[if_neg (by omega),if_neg (by omega),if_pos (Yp.2 fun c hc=>qej.2 (W.let_ c hc))]
theorem qa7.app {n:Nat} {a b:List Int} (A:qa7 n a) (B:qa7 n b) (hl:a.length+b.length<=200):qa7 n (a++b):=by
 refine⟨A.n1,A.n2,by rw[Yq];exact hl,?_⟩
 have h:xO n (a++b):=xO.app A.let_ B.let_
 exact h
end Go.Av
end
section
namespace Go.Av
def qks (n:Int) (w:List Int):Int:=if n<2\/12<n then 3 else if w.length=0 then 12 else if 24<w.length then 5 else if w.all (qcY n)=true then 0 else 3
theorem qgW (n l m:Int):qbE n l m=some (decide (n<l)||decide (n>m)):=by
 unfold qbE
 by_cases a:n<l
 ·rw[if_pos a,decide_eq_true a];rfl
 rw[if_neg a,decide_eq_false a];rfl
theorem qp0 {n:Int} (h1:1<=n) (h2:n<=12) {w:List Int} (hl:w.length<=300): ∀(K i:Nat),i<=w.length->w.length<K+i->zT n w K (i:Int)=some (if(w.drop i).all (qcY n)=true then .inl ()else .inr 3)
 |0,i,h,hK=>by omega
 |K+1,i,h,hK=>by
  unfold zT
  by_cases hi:i<w.length
  ·rw[if_pos (by omega),qx,Ya hi,qk8 hi]
   generalize w[i]=c
   have q1:w64 (1-n)=1-n:=z8 (by omega) (by omega)
   have q2:w64 (n-1)=n-1:=z8 (by omega) (by omega)
   rw[ZB,qgW,q1,q2]
   cases hb:qcY n c with
   |true=>
    have:=qej.1 hb
    rw[if_neg this.1]
    simp only[ZB]
    rw[decide_eq_false (show¬c<1-n by omega),decide_eq_false (show¬c>n-1 by omega),if_neg (by decide),qA (by omega),qp0 h1 h2 hl K (i+1) (by omega) (by omega),Bool.true_and]
   |false=>
    have hn: ¬(c≠0/\ -n<c/\c<n):=fun e=>by rw[qej.2 e]at hb;cases hb
    rw[Bool.false_and,if_neg (show¬false=true by decide)]
    by_cases z:c=0
    ·rw[if_pos z];rfl
    rw[if_neg z]
    simp only[ZB]
    have:(decide (c<1-n)||decide (c>n-1))=true:=by
     simp only[Bool.or_eq_true,decide_eq_true_eq]
     omega
    rw[this,if_pos rfl]
  rw[if_neg (by omega),List.drop_eq_nil_of_le (by omega)]
  rfl
theorem qj4 {N:Nat} (hN:2000<N) {n:Int} {w:List Int} (hl:w.length<=300):zO N n w=some (qks n w):=by
 unfold zO qks
 rw[qgW,ZB]
 by_cases a:n<2\/12<n
 ·rw[if_pos a,if_pos]
  simp only[Bool.or_eq_true,decide_eq_true_eq]
  omega
 rw[if_neg a,if_neg (by simp only[Bool.or_eq_true,decide_eq_true_eq];omega)]
 by_cases b:w.length=0
 ·rw[if_pos b,if_pos (by omega)]
 rw[if_neg b,if_neg (by omega)]
 by_cases c:24<w.length
 ·rw[if_pos c,if_pos (by omega)]
 rw[if_neg c,if_neg (by omega)]
 have:=qp0 (n:=n) (by omega) (by omega) hl N 0 (Nat.zero_le _) (by omega)
 rw[show((0:Nat):Int)=0 from rfl,YR]at this
 rw[this]
 split<;>rfl
structure qdk (n:Nat) (w:List Int):Prop where
 n2:2<=n
 n12:n<=12
 w1:1<=w.length
 w24:w.length<=24
 let_:xO n w
theorem qpA {n:Nat} {w:List Int} (h:qks (n:Int) w=0):qdk n w:=by
 unfold qks at h
 split at h
 ·cases h
 split at h
 ·cases h
 split at h
 ·cases h
 split at h
 ·rename_i a b c d
  exact⟨by omega,by omega,by omega,by omega,fun x hx=>qej.1 (Yp.1 d x hx)⟩
 cases h
theorem qdk.word {n:Nat} {w:List Int} (h:qdk n w):qa7 n w:=⟨by have:=h.n2;omega,h.n12,by have:=h.w24;omega,h.let_⟩
theorem qqu {n:Nat} {w:List Int} (h:qdk n w):qks (n:Int) w=0:=by
 obtain⟨a,b,c,d,e⟩:=h
 unfold qks
 rw[if_neg (by omega),if_neg (by omega),if_neg (by omega),if_pos (Yp.2 fun x hx=>qej.2 (e x hx))]
theorem qkA {l:List Int} (hl:l.length<=100) (hz: ∀x∈l,x=0): ∀(K i:Nat),i<=l.length->l.length<K+i->vL l K (i:Int)=some (.inl ())
 |0,i,h,hK=>by omega
 |K+1,i,h,hK=>by
  unfold vL
  by_cases hi:i<l.length
  ·rw[if_pos (by omega),qx,Ya hi,ZB,decide_eq_true (hz _ (List.getElem_mem hi)),if_neg (by decide),qA (by omega)]
   exact qkA hl hz K (i+1) (by omega) (by omega)
  rw[if_neg (by omega)]
theorem qfx {N:Nat} (hN:200<N) {l:List Int} (hl:l.length<=100) (hz: ∀x∈l,x=0):vP N l=some 0:=by
 unfold vP
 have:=qkA hl hz N 0 (Nat.zero_le _) (by omega)
 rw[show((0:Nat):Int)=0 from rfl]at this
 rw[this]
 rfl
theorem qfJ {n l m:Int} (h1:l<=n) (h2:n<=m):yT n l m=some 0:=by
 unfold yT jC
 rw[if_neg (by omega),decide_eq_false (by omega)]
 rfl
theorem qoh {n:Nat} {w:List Int} (h:qdk n w): ∀(K i:Nat),i<=w.length->w.length<K+i->qY w (n:Int) K (i:Int)=some (.inl ())
 |0,i,h0,hK=>by omega
 |K+1,i,h0,hK=>by
  have:=h.w24
  have:=h.n12
  unfold qY vB
  by_cases hi:i<w.length
  ·have hc:=h.let_ _ (List.getElem_mem hi)
   rw[if_pos (by omega),qx,Ya hi,ZB,if_neg hc.1,z8 (by omega) (by omega),if_neg (by omega),decide_eq_false (by omega)]
   simp only[ZB,ZF,if_false]
   rw[qA (by omega)]
   exact qoh h K (i+1) (by omega) (by omega)
  rw[if_neg (by omega)]
theorem qhX {N:Nat} (hN:2000<N) {n:Nat} {w:List Int} (h:qdk n w):zJ N (n:Int) w=some 0:=by
 have h1:=h.w24
 have h2:=h.w1
 have h3:=h.n2
 have h4:=h.n12
 unfold zJ jQ yc jK jC
 have:=qoh h N 0 (Nat.zero_le _) (by omega)
 rw[show((0:Nat):Int)=0 from rfl]at this
 rw[this]
 simp only[ZB]
 rw[qfJ (by omega) (by omega),decide_eq_false (show¬(w.length:Int)=0 by omega),decide_eq_false (show¬(w.length:Int)>24 by omega),decide_eq_false (show¬(-1:Int)>=0 by omega)]
 simp only[ZB,ZF,if_false]
 rw[qfx (by omega) (by simp) (by simp)]
 rfl
theorem qqn {n:Nat} (hn:n<=12) {c:List Int} (hc:c.length=n): ∀(K i:Nat),i<=n->n<K+i->zk (n:Int) c K (i:Int)=some (.inr 3)\/(zk (n:Int) c K (i:Int)=some (.inl ())/\ ∀j,i<=j->j<n-> ∃x,c[j]? =some x/\0<=x/\x<=7)
 |0,i,h0,hK=>by omega
 |K+1,i,h0,hK=>by
  unfold zk
  by_cases hi:i<n
  ·rw[if_pos (by omega),qx,Ya (by omega),ZB,qgW,ZB]
   by_cases g:0<=c[i]'(by omega)/\c[i]'(by omega)<=7
   ·rw[decide_eq_false (by omega),decide_eq_false (by omega),if_neg (by decide),qA (by omega)]
    rcases qqn hn hc K (i+1) (by omega) (by omega)with h|⟨h,k⟩
    ·exact .inl h
    refine .inr ⟨h,fun j h1 h2=>?_⟩
    by_cases e:j=i
    ·subst e;exact⟨_,Ya (by omega),g⟩
    exact k j (by omega) h2
   left
   rw[if_pos]
   simp only[Bool.or_eq_true,decide_eq_true_eq]
   omega
  rw[if_neg (by omega)]
  exact .inr ⟨rfl,fun j h1 h2=>by omega⟩
structure qrA (n:Nat) (c:List Int):Prop where
 len:c.length=n
 rng: ∀x∈c,0<=x/\x<=7
theorem qq4 {N:Nat} (hN:2000<N) {n:Nat} (n2:2<=n) (n12:n<=12) (c:List Int): ∃e,yV N (n:Int) c=some e/\(e=0->qrA n c):=by
 unfold yV
 rw[qgW,ZB,if_neg (by simp only[Bool.or_eq_true,decide_eq_true_eq];omega)]
 by_cases a:(c.length:Int)=(n:Int)
 ·rw[decide_eq_true a,if_neg (by decide)]
  have hc:c.length=n:=by omega
  rcases qqn n12 hc N 0 (Nat.zero_le _) (by omega)with h|⟨h,k⟩
  ·rw[show((0:Nat):Int)=0 from rfl]at h
   rw[h]
   exact⟨3,rfl,fun z=>absurd z (by decide)⟩
  rw[show((0:Nat):Int)=0 from rfl]at h
  rw[h]
  refine⟨0,rfl,fun _=>⟨hc,fun x hx=>?_⟩⟩
  obtain⟨j,hj⟩:=List.mem_iff_getElem?.1 hx
  obtain⟨y,y1,y2⟩:=k j (Nat.zero_le _) (by have:=(Yb.1 hj).1;omega)
  rw[hj]at y1
  obtain rfl:=Ye y1
  exact y2
 rw[decide_eq_false a,if_pos (by decide)]
 exact⟨2,rfl,fun z=>absurd z (by decide)⟩
theorem qp7 {c:List Int} (hl:c.length<=12) (h: ∀x∈c,0<=x/\x<=7): ∀(K i:Nat),i<=c.length->c.length<K+i->qX c K (i:Int)=some (.inl ())
 |0,i,h0,hK=>by omega
 |K+1,i,h0,hK=>by
  unfold qX xB qa5
  by_cases hi:i<c.length
  ·have hc:=h _ (List.getElem_mem hi)
   rw[if_pos (by omega),qx,Ya hi,ZB,if_pos hc.1,decide_eq_true (by omega)]
   simp only[ZB,Bool.not_true,ZF,if_false]
   rw[qA (by omega)]
   exact qp7 hl h K (i+1) (by omega) (by omega)
  rw[if_neg (by omega)]
theorem qnO {N:Nat} (hN:2000<N) {n:Nat} {w c:List Int} (h:qdk n w) (k:qrA n c):yB N (n:Int) w c=some 0:=by
 have h3:=h.n2
 have h4:=h.n12
 have h5:=k.len
 unfold yB xu jK qaZ jP vY jC
 have:=qp7 (c:=c) (by omega) k.rng N 0 (Nat.zero_le _) (by omega)
 rw[show((0:Nat):Int)=0 from rfl]at this
 rw[qhX hN h,this]
 simp only[ZB]
 rw[qfJ (by omega) (by omega),decide_eq_true (show(c.length:Int)=(n:Int)by omega),decide_eq_false (show¬(-1:Int)>=0 by omega)]
 simp only[ZB,Bool.not_true,ZF,if_false]
 rw[qfx (by omega) (by simp) (by simp)]
 simp only[ZB]
 rw[qfx (by omega) (by simp) (by simp)]
 rfl
def qcX (s:SB):List Int->List Int
 |[]=>[]
 |c::w=>((if 0<c then s.g (c.natAbs-1)else s.g c.natAbs:Nat):Int)::qcX (s.bk (c.natAbs-1)) w
theorem qdj: ∀(w:List Int) (s:SB),(qcX s w).length=w.length
 |[],s=>rfl
 |c::w,s=>by rw[qcX,Yr,Yr,qdj w]
section
variable {n:Nat} (hn:n<=12) {N:Nat} (hN:2000<N)
include hn hN
theorem qkK: ∀(K i:Nat),i<=n->n<K+i->yo (n:Int) K (ve i) (i:Int)=some (ve n)
 |0,i,h,hK=>by omega
 |K+1,i,h,hK=>by
  unfold yo
  by_cases hi:i<n
  ·rw[if_pos (by omega),qb8 (by rw[xh];simp;omega) (by rw[xh];simp;omega),ZB,qA (by omega)]
   have:=qkK K (i+1) (by omega) (by omega)
   rw[qmr]at this
   exact this
  rw[if_neg (by omega),show i=n by omega]
theorem qkR (s:SB) {m:Nat} (hm2:m+1<n):((s.rev.li n).set m ((s.g (m+1):Nat):Int)).set (m+1) ((s.g m:Nat):Int)=(s.bk m).rev.li n:=Uu (by simp[Ud]) fun k hk=>by
 show _=some ((s.g (tr5 m k):Nat):Int)
 by_cases a:k=m+1
 ·subst a
  rw[List.getElem?_set_self (by simp[Ud];omega),qcH]
 rw[Yw (fun e=>a e.symm)]
 by_cases b:k=m
 ·subst b
  rw[List.getElem?_set_self (by rw[Ud];omega),qcx]
 rw[Yw (fun e=>b e.symm),Ui s.rev hk,vW b a]
 rfl
theorem qie {w:List Int} (W:qa7 n w): ∀(K i:Nat) (s:SB) (l:List Int),l.length=i->i<=w.length->w.length<K+i->yh w K l (s.rev.li n) (i:Int)=some (l++qcX s (w.drop i),(pmF s (w.drop i)).rev.li n)
 |0,i,s,l,hl,h,hK=>by omega
 |K+1,i,s,l,hl,hiw,hK=>by
  have wl:=W.len
  unfold yh
  by_cases hi:i<w.length
  ·have hx:w[i]? =some w[i]:=Ya hi
   have hc:=W.let_ _ (List.getElem_mem hi)
   rw[YG hi,qcX]
   unfold pmF
   rw[List.foldl_cons]
   generalize w[i]=c at*
   obtain⟨m,hm⟩: ∃m:Nat,c.natAbs=m+1:=⟨c.natAbs-1,by omega⟩
   have hm2:m+1<n:=by omega
   have r0:idx (s.rev.li n) (m:Int)=some ((s.g m:Nat):Int):=Ug (by omega)
   have r1:idx (s.rev.li n) ((m+1:Nat):Int)=some ((s.g (m+1):Nat):Int):=Ug hm2
   have q1:w64 (((m+1:Nat):Int)-1)=(m:Int):=by rw[z8 (by omega) (by omega)];omega
   have e17:idx ((s.rev.li n).set m ((s.g (m+1):Nat):Int)) ((m+1:Nat):Int)=some ((s.g (m+1):Nat):Int):=by
    rw[qx,Yw (by omega),Ui s.rev hm2]
    rfl
   rw[if_pos (by omega),qx,hx,ZB,hm]
   by_cases p:0<c
   ·have ec:c=((m+1:Nat):Int):=by omega
    rw[if_neg (show¬c<0 by omega),if_pos p,ec]
    simp only[ZB]
    rw[q1,z8 (n:=(m:Int)+0) (by omega) (by omega),Int.add_zero,r0,ZB,qb8 (by simp;omega) (by simp;omega),ZB,r1,ZB,ZB,jB (by rw[Ud];omega),ZB,e17,ZB,jB (by simp[Ud];omega),ZB,qkR hn hN s hm2,qA (by omega)]
    rw[qie W K (i+1) _ _ (by simp[hl]) (by omega) (by omega)]
    simp[pmF]
   have ec:w64 (0-c)=((m+1:Nat):Int):=by rw[z8 (by omega) (by omega)];omega
   rw[if_pos (show c<0 by omega),if_neg p,ec]
   simp only[ZB]
   rw[q1,show w64 ((m:Int)+1)=((m+1:Nat):Int)from qA (by omega),r1,ZB,qb8 (by simp;omega) (by simp;omega),ZB,ZB,r0,ZB,jB (by rw[Ud];omega),ZB,e17,ZB,jB (by simp[Ud];omega),ZB,qkR hn hN s hm2,qA (by omega)]
   rw[qie W K (i+1) _ _ (by simp[hl]) (by omega) (by omega)]
   simp[pmF]
  rw[if_neg (by omega),List.drop_eq_nil_of_le (by omega)]
  simp[qcX,pmF]
theorem qgS {w:List Int} (W:qa7 n w):xw N (n:Int) w=some ⟨qcX Uf w,(pmF Uf w).rev.li n⟩:=by
 have wl:=W.len
 unfold xw
 have a:=qkK hn hN N 0 (Nat.zero_le _) (by omega)
 have b:=qie hn hN W N 0 Uf [] rfl (Nat.zero_le _) (by omega)
 rw[show((0:Nat):Int)=0 from rfl]at a b
 rw[show Uf.rev=Uf from rfl,U1,YR,List.nil_append]at b
 rw[show ve 0=[]from rfl]at a
 rw[a,ZB,b]
 rfl
end
end Go.Av
end
section
namespace Go.Av
theorem qnw {n:Nat} (hn:n<=12) {q:SB} (hq:q.Ok n) {c:List Int} (hc:c.length=n) (a:List Int): ∀(K i:Nat) (l:List Int),l.length=n->i<=n->n<K+i->(∀k,k<i->l[k]? =c[q.f k]?)->
 ∃r,zq ⟨a,q.li n⟩ c K l (i:Int)=some r/\r.length=n/\ ∀k,k<n->r[k]? =c[q.f k]?
 |0,i,l,hl,h,hK,hk=>by omega
 |K+1,i,l,hl,h,hK,hk=>by
  unfold zq
  rw[Ud]
  by_cases hi:i<n
  ·have g:=hq.f_ i hi
   rw[if_pos (by omega),Ug hi,ZB,qx,Ya (show q.f i<c.length by omega),ZB,qx,Ya (show i<l.length by omega),ZB,jB (by omega),ZB,qA (by omega)]
   refine qnw hn hq hc a K (i+1) _ (by simpa using hl) (by omega) (by omega) (fun k hk1=>?_)
   by_cases e:k=i
   ·subst e;rw[List.getElem?_set_self (by omega),Ya (show q.f k<c.length by omega)]
   rw[Yw (fun z=>e z.symm),hk k (by omega)]
  rw[if_neg (by omega)]
  exact⟨l,rfl,hl,fun k hk1=>hk k (by omega)⟩
theorem qjN {N n:Nat} (hN:2000<N) (hn:n<=12) {q:SB} (hq:q.Ok n) {c:List Int} (hc:c.length=n) (a:List Int): ∃r,zW N ⟨a,q.li n⟩ c=some r/\r.length=n/\ ∀k,k<n->r[k]? =c[q.f k]? :=by
 obtain⟨r,r1,r2⟩:=qnw hn hq hc a N 0 (List.replicate n 0) (by simp) (Nat.zero_le _) (by omega) (fun k hk=>by omega)
 refine⟨r,?_,r2⟩
 rw[show((0:Nat):Int)=0 from rfl]at r1
 unfold zW
 rw[hc,qgq (by omega),ZB,r1]
 rfl
theorem qoQ {N n:Nat} (hN:2000<N) (hn:n<=12) {q t:SB} (hq:q.Ok n) (ht:t.Ok n) (a:List Int):zW N ⟨a,q.li n⟩ (t.li n)=some ((q.comp t).li n):=by
 obtain⟨r,r1,r2,r3⟩:=qjN hN hn hq (Ud n t) a
 rw[r1]
 congr 1
 refine Uu r2 fun k hk=>?_
 rw[r3 k hk,Ui t (hq.f_ k hk)]
 rfl
def qhD (p:List Int) (x L:Nat):Prop:=0<L/\L<=p.length/\itP p x L=x/\ ∀j,0<j->j<L->itP p x j≠x
theorem qpp {p:List Int} (hp:IsP p) {x:Nat} (hx:x<p.length): ∃L,qhD p x L:=by
 obtain⟨r,_,_,r3,_,r5,_⟩:=qib (N:=2001) (by omega) hp
 have hm:=r5 x hx
 obtain⟨c,c1,c2⟩:=List.mem_flatten.1 hm
 obtain⟨s,b0,b1,b2,b3,b4,b5⟩:=r3 c c1
 obtain⟨j,hj⟩:=List.mem_iff_getElem?.1 c2
 have hjl:=(Yb.1 hj).1
 have e:=b3 j hjl
 rw[hj]at e
 have e:x=itP p s j:=by have:=Ye e;omega
 refine⟨c.length,b0,b1,?_,fun i i0 il h=>?_⟩
 ·rw[e];exact(qjb hp b2 j c.length).2 b4
 rw[e]at h
 exact b5 i i0 il ((qjb hp b2 j i).1 h)
theorem qhD.dvd {p:List Int} {x L m:Nat} (h:qhD p x L) (e:itP p x m=x):L∣m:=by
 obtain⟨h0,_,h1,h2⟩:=h
 rw[qrk h1]at e
 by_cases z:m%L=0
 ·exact Nat.dvd_of_mod_eq_zero z
 exact absurd e (h2 _ (by omega) (Nat.mod_lt _ h0))
theorem qnk {n:Nat} (hn:n<=12) {q:SB} (hq:q.Ok n) {x L:Nat} (hx:x<n) (h:qhD (q.li n) x L) (a:List Int): ∀(K j:Nat),0<j->j<=L->L<K+j->zo ⟨a,q.li n⟩ (x:Int) K (j:Int) ((itP (q.li n) x j:Nat):Int)=some (L:Int)
 |0,j,j0,hj,hK=>by omega
 |K+1,j,j0,hj,hK=>by
  have hp:=qdM (n:=n) (by omega) hq
  have hlt:itP (q.li n) x j<n:=by have:=qgs hp (x:=x) (by rw[Ud];exact hx) j;rwa [Ud]at this
  have hL:=h.2.1
  rw[Ud]at hL
  unfold zo
  by_cases e:itP (q.li n) x j=x
  ·have:j=L:=by
    rcases Nat.lt_or_ge j L with c|c
    ·exact absurd e (h.2.2.2 j j0 c)
    omega
   subst this
   rw[decide_eq_true (by rw[e]),if_neg (by decide)]
  have hjL:j<L:=by
   rcases Nat.lt_or_ge j L with c|c
   ·exact c
   have:j=L:=by omega
   subst this
   exact absurd h.2.2.1 e
  rw[decide_eq_false (by omega),if_pos (by decide)]
  dsimp only
  rw[Ug hlt,ZB,qA (by omega)]
  have:itP (q.li n) x (j+1)=q.f (itP (q.li n) x j):=by
   show nxP (q.li n) (itP (q.li n) x j)=_
   rw[qj6 hlt]
  rw[<-this]
  exact qnk hn hq hx h a K (j+1) (by omega) (by omega) (by omega)
theorem qhm {N n:Nat} (hN:2000<N) (hn:n<=12) {q:SB} (hq:q.Ok n) {x L:Nat} (hx:x<n) (h:qhD (q.li n) x L) (a:List Int):zS N ⟨a,q.li n⟩ (x:Int)=some (L:Int):=by
 unfold zS
 have hL:=h.2.1
 rw[Ud]at hL
 have e:itP (q.li n) x 1=q.f x:=by
  show nxP (q.li n) x=_
  rw[qj6 hx]
 have:=qnk hn hq hx h a N 1 (by omega) h.1 (by omega)
 rw[e]at this
 dsimp only
 rw[Ug hx,ZB,show(1:Int)=((1:Nat):Int)from rfl,this]
 rfl
theorem qk5: ∀(K a b:Nat),b<K->a<=100000->b<=100000->jX K (a:Int) (b:Int)=some ((Nat.gcd a b:Nat):Int)
 |0,a,b,h,ha,hb=>by omega
 |K+1,a,b,h,ha,hb=>by
  unfold jX
  by_cases z:b=0
  ·subst z
   rw[decide_eq_true (show((0:Nat):Int)=0 from rfl),if_neg (by decide),Nat.gcd_zero_right]
  have hm:a%b<b:=Nat.mod_lt _ (by omega)
  have e:qjj .i64 (a:Int) (b:Int)=some ((a%b:Nat):Int):=by
   unfold qjj
   rw[if_neg (by omega)]
   congr 1
  rw[decide_eq_false (by omega),if_pos (by decide),e,ZB,qk5 K b (a%b) (by omega) hb (by omega),Nat.gcd_comm b,<-Nat.gcd_rec,Nat.gcd_comm]
theorem qlL {N a b:Nat} (hN:200000<N) (ha:0<a) (ha2:a<=1000) (hb:0<b) (hb2:b<=1000):yY N (a:Int) (b:Int)=some ((Nat.lcm a b:Nat):Int):=by
 unfold yY
 rw[qk5 N a b (by omega) (by omega) (by omega),ZB]
 have g0:0<Nat.gcd a b:=Nat.gcd_pos_of_pos_left _ ha
 have gd:=Nat.gcd_dvd_left a b
 have hq:a/Nat.gcd a b<=a:=Nat.div_le_self _ _
 have e:qfV .i64 (a:Int) ((Nat.gcd a b:Nat):Int)=some ((a/Nat.gcd a b:Nat):Int):=by
  unfold qfV
  rw[if_neg (by omega)]
  have:((a:Int)).tdiv ((Nat.gcd a b:Nat):Int)=((a/Nat.gcd a b:Nat):Int):=rfl
  rw[this]
  congr 1
  have w: ∀k:Nat,k<=1000->w64 (k:Int)=k:=fun k hk=>z8 (by omega) (by omega)
  exact w _ (Nat.le_trans hq ha2)
 have hm:a/Nat.gcd a b*b<=1000*1000:=Nat.mul_le_mul (by omega) hb2
 rw[e,ZB]
 have e2:((a/Nat.gcd a b:Nat):Int)*(b:Int)=((a/Nat.gcd a b*b:Nat):Int):=by simp
 rw[e2,z8 (by omega) (by omega)]
 congr 2
 unfold Nat.lcm
 obtain⟨k,hk⟩:=gd
 have:a/Nat.gcd a b=k:=by
  conv=>lhs;lhs;rw[hk]
  exact Nat.mul_div_cancel_left _ g0
 rw[this]
 conv=>rhs;lhs;rw[hk]
 rw[Nat.mul_assoc,Nat.mul_div_cancel_left _ g0]
section
variable {n:Nat} (hn:n<=12) {N:Nat} (hN:600000<N) {q:SB} (hq:q.Ok n) {P:Nat} (hP:0<P) (hP6:P<=60) (hall: ∀x L,x<n->qhD (q.li n) x L->L∣P)
include hn hN hq hP hP6 hall
theorem qli {x a:Nat} (hx:x<n) (ha:0<a) (hd:a∣P): ∃L,qhD (q.li n) x L/\yY N (a:Int) (L:Int)=some ((Nat.lcm a L:Nat):Int)/\0<Nat.lcm a L/\Nat.lcm a L∣P:=by
 obtain⟨L,h⟩:=qpp (qdM (n:=n) (by omega) hq) (x:=x) (by rw[Ud];exact hx)
 have hL:=h.2.1
 rw[Ud]at hL
 have h1:=Nat.le_of_dvd hP hd
 exact⟨L,h,qlL (by omega) ha (by omega) h.1 (by omega),Nat.lcm_pos ha h.1,Nat.lcm_dvd hd (hall x L hx h)⟩
theorem qjA (sn:List Int) (hs: ∀v∈sn,∃x:Nat,x<n/\v=(x:Int)) (hsl:sn.length<=300): ∀(K i a:Nat),i<=sn.length->sn.length<K+i->0<a->a∣P-> ∃h:Nat,zh N ⟨sn,q.li n⟩ K (a:Int) (i:Int)=some (h:Int)/\0<h/\h∣P
 |0,i,a,h,hK,ha,hd=>by omega
 |K+1,i,a,h,hK,ha,hd=>by
  unfold zh
  by_cases hi:i<sn.length
  ·obtain⟨x,hx,ex⟩:=hs _ (List.getElem_mem hi)
   obtain⟨L,l1,l2,l3,l4⟩:=qli hn hN hq hP hP6 hall hx ha hd
   rw[if_pos (by exact_mod_cast hi)]
   dsimp only
   rw[qx,Ya hi,ex,ZB,qhm (by omega) hn hq hx l1 sn,ZB,l2,ZB,qA (by omega)]
   exact qjA sn hs hsl K (i+1) _ (by omega) (by omega) l3 l4
  rw[if_neg (by intro z;exact hi (by exact_mod_cast z))]
  exact⟨a,rfl,ha,hd⟩
theorem qmQ: ∀(K i a:Nat),i<=n->n<K+i->0<a->a∣P-> ∃h:Nat,(∀sn,qO N ⟨sn,q.li n⟩ K (i:Int) (a:Int)=some (h:Int))/\0<h/\h∣P
 |0,i,a,h,hK,ha,hd=>by omega
 |K+1,i,a,h,hK,ha,hd=>by
  by_cases hi:i<n
  ·obtain⟨L,l1,l2,l3,l4⟩:=qli hn hN hq hP hP6 hall hi ha hd
   obtain⟨k,k1,k2⟩:=qmQ K (i+1) _ (by omega) (by omega) l3 l4
   refine⟨k,fun sn=>?_,k2⟩
   unfold qO
   dsimp only
   rw[Ud,if_pos (by omega),qhm (by omega) hn hq hi l1 sn,ZB,l2,ZB,qA (by omega)]
   exact k1 sn
  refine⟨a,fun sn=>?_,ha,hd⟩
  unfold qO
  dsimp only
  rw[Ud,if_neg (by omega)]
end
theorem qoO {n:Nat} (hn:n<=12) {q:SB} (hq:q.Ok n) (a:List Int): ∀(c:Nat) (S:List Bool) (K x:Nat),S.length=n->x<n->cntF S=c->c<K-> ∃S',kr ⟨a,q.li n⟩ K S (x:Int)=some S'/\S'.length=n
 |c,S,0,x,hS,hx,hc,hK=>by omega
 |c,S,K+1,x,hS,hx,hc,hK=>by
  unfold kr
  have hg:S[x]? =some S[x]:=Ya (by omega)
  rw[qx,hg,ZB]
  cases hb:S[x]with
  |true=>
   rw[if_neg (by decide)]
   exact⟨S,rfl,hS⟩
  |false=>
   rw[hb]at hg
   have hs:=qiZ hg
   rw[if_pos (by decide),jB (by omega),ZB]
   dsimp only
   rw[Ug hx,ZB]
   cases c with
   |zero=>omega
   |succ c=>exact qoO hn hq a c _ K (q.f x) (by simpa using hS) (hq.f_ x hx) (by omega) (by omega)
theorem qmx {n:Nat} (hn:n<=12) {N:Nat} (hN:2000<N) {q:SB} (hq:q.Ok n) (a:List Int): ∀(K i:Nat) (l:List Int) (S:List Bool),S.length=n->l.length<=i->i<=n->n<K+i-> ∃r,ko N ⟨a,q.li n⟩ K l S (i:Int)=some r/\r.length<=n
 |0,i,l,S,hS,hl,h,hK=>by omega
 |K+1,i,l,S,hS,hl,h,hK=>by
  unfold ko
  dsimp only
  rw[Ud]
  by_cases hi:i<n
  ·have hg:S[i]? =some S[i]:=Ya (by omega)
   rw[if_pos (by omega),qx,hg,ZB]
   cases hb:S[i]with
   |true=>
    rw[if_pos rfl,ZB]
    dsimp only
    rw[qA (by omega)]
    exact qmx hn hN hq a K (i+1) l S hS (by omega) (by omega) (by omega)
   |false=>
    obtain⟨L,hL⟩:=qpp (qdM (n:=n) (by omega) hq) (x:=i) (by rw[Ud];exact hi)
    obtain⟨S',s1,s2⟩:=qoO hn hq a (cntF S) S N i hS hi rfl (by have:cntF S<=S.length:=List.countP_le_length;omega)
    rw[if_neg (by decide),qhm hN hn hq hi hL a,ZB,qb8 (by simp;omega) (by simp;omega),ZB,s1]
    simp only[ZB]
    rw[qA (by omega)]
    exact qmx hn hN hq a K (i+1) _ S' s2 (by simp;omega) (by omega) (by omega)
  rw[if_neg (by omega)]
  exact⟨l,rfl,by omega⟩
theorem qqZ {n:Nat} (hn:n<=12) {N:Nat} (hN:2000<N) {q:SB} (hq:q.Ok n) (a:List Int): ∃r,jV N ⟨a,q.li n⟩=some r/\r.length<=n:=by
 obtain⟨r,r1,r2⟩:=qmx hn hN hq a N 0 [] (List.replicate n false) (by simp) (by simp) (Nat.zero_le _) (by omega)
 refine⟨r,?_,r2⟩
 have hmk:mk 1 (n:Int) false=some (List.replicate n false):=by
  unfold mk
  rw[if_pos (by omega)]
  simp
 unfold jV
 dsimp only
 rw[Ud,hmk,ZB,show(0:Int)=((0:Nat):Int)from rfl,r1]
 rfl
theorem qrD (a:Int) {k:Nat} (hk:k<=1000): ∀(K i:Nat) (v:Int),i<=k->k<K+i-> ∃r,vO a (k:Int) K v (i:Int)=some r
 |0,i,v,h,hK=>by omega
 |K+1,i,v,h,hK=>by
  unfold vO
  by_cases hi:i<k
  ·rw[if_pos (by omega),qA (by omega)]
   exact qrD a hk K (i+1) _ (by omega) (by omega)
  rw[if_neg (by omega)]
  exact⟨v,rfl⟩
theorem qsp {N:Nat} (hN:2000<N) {l:List Int} (hl:l.length<=12) (a:Int): ∃r,vE N l a=some r:=by
 unfold vE qcv
 obtain⟨r,h⟩:=qrD a (k:=l.length) (by omega) N 0 1 (Nat.zero_le _) (by omega)
 rw[show((0:Nat):Int)=0 from rfl]at h
 rw[h]
 exact⟨r,rfl⟩
theorem qmX {n:Nat} (hn:n<=12) {l8:List Int} (h8:l8.length=n): ∀(K i:Nat) (l:List Int),l.length=n->i<=n->n<K+i->(∀k,k<i->l[k]? =some (k:Int))->ku l8 K l (i:Int)=some (ve n)
 |0,i,l,hl,h,hK,hk=>by omega
 |K+1,i,l,hl,h,hK,hk=>by
  unfold ku
  rw[h8]
  by_cases hi:i<n
  ·rw[if_pos (by omega),qx,Ya (by omega),ZB,jB (by omega),ZB,qA (by omega)]
   refine qmX hn h8 K (i+1) _ (by simpa using hl) (by omega) (by omega) (fun k hk1=>?_)
   by_cases e:k=i
   ·subst e;rw[List.getElem?_set_self (by omega)]
   rw[Yw (fun z=>e z.symm),hk k (by omega)]
  rw[if_neg (by omega)]
  congr 1
  apply List.ext_getElem?
  intro k
  by_cases hkn:k<n
  ·rw[hk k (by omega),qcr hkn]
  rw[Yg (by omega),Yg (by rw[xh];omega)]
theorem qnj {n:Nat} (hn:n<=12) {N:Nat} (hN:2000<N) {q:SB} (hq:q.Ok n) (c:Int) {m:Nat} (hm:m<=1000): ∀(K i:Nat) (t:SB) (v:Int),t.Ok n->i<=m->m<K+i-> ∃r,∀sn,qM N ⟨sn,q.li n⟩ c (m:Int) K (t.li n) (i:Int) v=some r
 |0,i,t,v,ht,h,hK=>by omega
 |K+1,i,t,v,ht,h,hK=>by
  by_cases hi:i<m
  ·obtain⟨l,l1,l2⟩:=qqZ hn hN ht []
   obtain⟨r,r1⟩:=qsp hN (l:=l) (by omega) c
   obtain⟨z,hz⟩:=qnj hn hN hq c hm K (i+1) (q.comp t) (w64 (v+r)) (hq.comp ht) (by omega) (by omega)
   refine⟨z,fun sn=>?_⟩
   unfold qM
   rw[if_pos (by omega),l1,ZB,r1,ZB,qoQ hN hn hq ht sn,ZB,qA (by omega)]
   exact hz sn
  refine⟨v,fun sn=>?_⟩
  unfold qM
  rw[if_neg (by omega)]
theorem qqL {n:Nat} (hn:n<=12) {N:Nat} (hN:600000<N) {q:SB} (hq:q.Ok n) {P:Nat} (hP:0<P) (hP6:P<=60) (hall: ∀x L,x<n->qhD (q.li n) x L->L∣P) (c:Int): ∃r,∀sn,jS N ⟨sn,q.li n⟩ c=some r:=by
 obtain⟨m,m1,m2,m3⟩:=qmQ hn hN hq hP hP6 hall N 0 1 (Nat.zero_le _) (by omega) (by omega) (Nat.one_dvd _)
 have hm:=Nat.le_of_dvd hP m3
 obtain⟨z,hz⟩:=qnj hn (N:=N) (by omega) hq c (m:=m) (by omega) N 0 Uf 0 (Un n) (Nat.zero_le _) (by omega)
 have h1:=qmX hn (l8:=List.replicate n 0) (by simp) N 0 (List.replicate n 0) (by simp) (Nat.zero_le _) (by omega) (fun k hk=>by omega)
 rw[show((0:Nat):Int)=0 from rfl]at m1 hz h1
 rw[show((1:Nat):Int)=1 from rfl]at m1
 refine⟨IntKind.wrap .i64 (z.tdiv (m:Int)),fun sn=>?_⟩
 unfold jS
 rw[m1 sn,ZB]
 dsimp only
 rw[Ud,qgq (by omega),ZB,h1,ZB,<-U1,hz sn,ZB]
 unfold qfV
 rw[if_neg (show¬(m:Int)=0 by omega)]
 rfl
end Go.Av
end
section
namespace Go.Av
def cmN (A:Nat->SB):Nat->SB
 |0=>Uf
 |m+1=>(cmN A m).comp (A m)
theorem qg1 {A B:Nat->SB}: ∀{m:Nat},(∀q,q<m->A q=B q)->cmN A m=cmN B m
 |0,h=>rfl
 |m+1,h=>by rw[cmN,cmN,qg1 fun q hq=>h q (by omega),h m (by omega)]
theorem qmK {A:Nat->SB} {k i:Nat}: ∀{m:Nat},k+1<m->cmN (psh A k i) m=cmN A m
 |0,h=>by omega
 |m+1,h=>by
  by_cases e:m=k+1
  ·subst e
   rw[cmN,cmN,cmN,cmN,qg1 (A:=psh A k i) (B:=A) fun q hq=>zR A (by omega) (by omega),yz,jf]
   refine SB.ext fun x=>?_
   show(A (k+1)).f (tr5 i (tr5 i _))=_
   rw[qey]
   rfl
  rw[cmN,cmN,qmK (by omega),zR A (by omega) (by omega)]
theorem Pst.cm {n m:Nat} {L A:Nat->SB} (h:Pst n m L A):cmN A m=cmN L m:=by
 induction h with
 |refl=>rfl
 |head h _ ih=>
  cases h with
  |mk h=>rw[ih,qmK h.k_]
theorem qk1 (n:Nat) (L:Nat->SB): ∀m,cmN (qdR n L) m=(cmN L m).flip n
 |0=>(qjX n).symm
 |m+1=>by
  rw[cmN,cmN,qk1 n L m]
  refine SB.ext fun k=>?_
  show rv5 n ((L m).f (rv5 n (rv5 n ((cmN L m).f (rv5 n k)))))=rv5 n ((L m).f ((cmN L m).f (rv5 n k)))
  rw[qaD]
def hpS (n k:Nat):SB:=if k%2=0 then Uf else Ue n
theorem qhn (n:Nat):(Ue n).comp (Ue n)=Uf:=SB.ext fun k=>qaD n k
theorem qcA (a b c:SB):(a.comp b).comp c=a.comp (b.comp c):=SB.ext fun _=>rfl
theorem qgC (a:SB):Uf.comp a=a:=SB.ext fun _=>rfl
theorem qil (a:SB):a.comp Uf=a:=SB.ext fun _=>rfl
theorem qpS (n k:Nat):(hpS n (k+1)).comp (Ue n)=hpS n k:=by
 unfold hpS
 by_cases h:k%2=0
 ·rw[if_neg (by omega),if_pos h,qhn]
 rw[if_pos (by omega),if_neg h,qgC]
theorem qkk (n a b:Nat):(hpS n a).comp (hpS n b)=hpS n (a+b):=by
 unfold hpS
 by_cases h:a%2=0<;>by_cases k:b%2=0
 ·rw[if_pos h,if_pos k,if_pos (by omega),qgC]
 ·rw[if_pos h,if_neg k,if_neg (by omega),qgC]
 ·rw[if_neg h,if_pos k,if_neg (by omega),qil]
 rw[if_neg h,if_neg k,if_pos (by omega),qhn]
theorem qqT {n a b:Nat} (h:a%2=b%2):hpS n a=hpS n b:=by unfold hpS;rw[h]
theorem qnb (L:Nat->SB) (m:Nat) (t:SB):cmN (qhO L m t) (m+1)=(cmN L m).comp t:=by
 rw[cmN,qgK,qg1 fun q hq=>qeP (by omega)]
theorem qoq {n:Nat}: ∀(w:List Int),xO n w-> ∀(l:List SB) (s:SB) (k:Nat),s=(hpS n k).comp (cmN (y9 l) l.length)->pmF s w=(hpS n (k+ngs w)).comp (cmN (y9 (w.foldl (qcM n) l)) (w.foldl (qcM n) l).length)
 |[],hw,l,s,k,h=>h
 |c::w,hw,l,s,k,h=>by
  have hc:=hw c (List.mem_cons_self ..)
  have step:s.bk (c.natAbs-1)=(hpS n (k+(if 0<c then 0 else 1))).comp (cmN (y9 (qcM n l c)) (qcM n l c).length):=by
   subst h
   unfold qcM
   by_cases p:0<c
   ·rw[if_pos p,if_pos p,qiK,Yq,List.length_singleton,qnb]
    exact SB.ext fun _=>rfl
   have e1:(cmN (y9 (l.map (SB.flip n))) l.length)=(cmN (y9 l) l.length).flip n:=by rw[qfN,qk1]
   have e2:(l.map (SB.flip n)).length=l.length:=List.length_map ..
   rw[if_neg p,if_neg p,qiK,Yq,List.length_singleton,qnb,e2,e1]
   have e3:hpS n k=(hpS n (k+1)).comp (Ue n):=(qpS n k).symm
   rw[e3]
   refine SB.ext fun x=>?_
   show tr5 _ ((cmN (y9 l) l.length).f (rv5 n ((hpS n (k+1)).f x)))=tr5 _ (rv5 n (rv5 n ((cmN (y9 l) l.length).f (rv5 n ((hpS n (k+1)).f x)))))
   rw[qaD]
  have:=qoq w (fun d hd=>hw d (List.mem_cons_of_mem _ hd)) (qcM n l c) _ _ step
  show pmF (s.bk (c.natAbs-1)) w=_
  rw[this]
  have eg:ngs (c::w)=(if 0<c then 0 else 1)+ngs w:=by
   unfold ngs
   rw[List.countP_cons]
   by_cases p:0<c
   ·simp[p]
   simp[p];omega
  rw[eg,Nat.add_assoc]
  rfl
theorem qpU {n m:Nat} (n12:n<=12) (n2:2<=n) {A:Nat->SB} (hA:OkM n m A) (hf:Nf n m A) (fx: ∀q,(A q).Fix n):
 ∃c M d,m=c+(M+d)/\(∀q,q<c->A q=Ue n)/\(∀q,q<d->A (c+(M+q))=Uf)/\(∀q,q<M->(A (c+q)).li n≠(Ue n).li n/\(A (c+q)).li n≠ve n):=by
 obtain⟨c,R,r1,r2,r3⟩:=(qrK n12 n2 hA hf).heads
 obtain⟨M,d,m1,m2⟩:=r3.split
 have hl:=congrArg List.length r1
 rw[qC,m1]at hl
 simp at hl
 have eqS: ∀{s t:SB},s.Fix n->t.Fix n->s.li n=t.li n->s=t:=fun {s t} h k e=>SB.ext fun x=>by
  by_cases hx:x<n
  ·exact U3 e hx
  rw[h x (by omega),k x (by omega)]
 have at_: ∀q,q<m->(List.replicate c ((Ue n).li n)++(M++List.replicate d (ve n)))[q]? =some ((A q).li n):=fun q hq=>by
  rw[<-m1,<-r1,jc hq]
 refine⟨c,M.length,d,by omega,fun q hq=>?_,fun q hq=>?_,fun q hq=>?_⟩
 ·have:=at_ q (by omega)
  rw[Yf (by simpa using hq),List.getElem?_replicate,if_pos hq]at this
  exact eqS (fx q) (Uv n) (Ye this).symm
 ·have:=at_ (c+(M.length+q)) (by omega)
  rw[Yo (by simp),List.length_replicate,Nat.add_sub_cancel_left,Yo (by omega),Nat.add_sub_cancel_left,List.getElem?_replicate,if_pos hq]at this
  exact eqS (fx _) (U2 n) (by rw[U1];exact(Ye this).symm)
 have:=at_ (c+q) (by omega)
 rw[Yo (by simp),List.length_replicate,Nat.add_sub_cancel_left,Yf hq]at this
 have hm:(A (c+q)).li n∈M:=Yn this
 refine⟨fun e=>r2 _ (m1▸List.mem_append_left _ hm) e,fun e=>m2 (e▸hm)⟩
theorem qmE {n m:Nat} (n12:n<=12) (n2:2<=n) {A:Nat->SB} (hA:OkM n m A) (hf:Nf n m A) (fx: ∀q,(A q).Fix n) (h:Int):
 ∃c M,c+M<=m/\qiQ n m A h=⟨h+(c:Int),je n M (fun j=>A (c+j))⟩/\cmN A m=(hpS n c).comp (cmN (fun j=>A (c+j)) M)/\(∀q,q<M->(A (c+q)).li n≠(Ue n).li n/\(A (c+q)).li n≠ve n):=by
 obtain⟨c,M,d,e,h1,h2,h3⟩:=qpU n12 n2 hA hf fx
 have ne:(Ue n).li n≠ve n:=qkf (n:=n) n12 n2
 have rows:je n m A=List.replicate c ((Ue n).li n)++(je n M (fun j=>A (c+j))++List.replicate d (ve n)):=by
  apply List.ext_getElem?
  intro q
  by_cases hq:q<m
  ·rw[jc hq]
   by_cases a:q<c
   ·rw[Yf (by simpa using a),List.getElem?_replicate,if_pos a,h1 q a]
   obtain⟨j,rfl⟩: ∃j,q=c+j:=⟨q-c,by omega⟩
   rw[Yo (by simp),List.length_replicate,Nat.add_sub_cancel_left]
   by_cases b:j<M
   ·rw[Yf (by rw[qC];exact b),jc b]
   obtain⟨i,rfl⟩: ∃i,j=M+i:=⟨j-M,by omega⟩
   rw[Yo (by rw[qC];omega),qC,Nat.add_sub_cancel_left,List.getElem?_replicate,if_pos (by omega),h2 i (by omega),U1]
  rw[Yg (by rw[qC];omega),Yg (by simp[qC];omega)]
 have mem3: ∀x∈je n M (fun j=>A (c+j)),x≠(Ue n).li n/\x≠ve n:=fun x hx=>by
  obtain⟨q,hq,rfl⟩:=List.mem_map.1 hx
  exact h3 q (List.mem_range.1 hq)
 refine⟨c,M,by omega,?_,?_,h3⟩
 ·unfold qiQ
  rw[rows]
  have z1:(je n M (fun j=>A (c+j))).countP (fun x=>decide (x=(Ue n).li n))=0:=List.countP_eq_zero.2 fun x hx=>by simpa using(mem3 x hx).1
  have z2:(je n M (fun j=>A (c+j))).filter (fun x=>!decide (x=ve n)&&!decide (x=(Ue n).li n))=je n M (fun j=>A (c+j)):=List.filter_eq_self.2 fun x hx=>by
   have:=mem3 x hx
   simp[this.1,this.2]
  rw[List.countP_append,List.countP_append,List.filter_append,List.filter_append,z1,z2,List.countP_replicate,List.countP_replicate,List.filter_replicate,List.filter_replicate]
  simp[Ne.symm ne]
 have a: ∀k,k<=c->cmN A k=hpS n k:=by
  intro k
  induction k with
  |zero=>intro _;rfl
  |succ k ih=>
   intro hk
   have e1:Ue n=hpS n 1:=by unfold hpS;rw[if_neg (by decide)]
   rw[cmN,ih (by omega),h1 k (by omega),e1,qkk]
 have b: ∀k,k<=M->cmN A (c+k)=(hpS n c).comp (cmN (fun j=>A (c+j)) k):=by
  intro k
  induction k with
  |zero=>intro _;rw[Nat.add_zero,a c (Nat.le_refl _)];rfl
  |succ k ih=>intro hk;rw[show c+(k+1)=(c+k)+1 by omega,cmN,ih (by omega),cmN,qcA]
 have g: ∀k,k<=d->cmN A (c+(M+k))=(hpS n c).comp (cmN (fun j=>A (c+j)) M):=by
  intro k
  induction k with
  |zero=>intro _;rw[Nat.add_zero,b M (Nat.le_refl _)]
  |succ k ih=>intro hk;rw[show c+(M+(k+1))=(c+(M+k))+1 by omega,cmN,ih (by omega),h2 k (by omega),qil]
 rw[e]
 exact g d (Nat.le_refl _)
end Go.Av
end
