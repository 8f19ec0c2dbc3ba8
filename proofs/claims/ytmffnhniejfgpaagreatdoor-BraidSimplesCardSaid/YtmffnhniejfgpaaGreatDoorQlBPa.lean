/-
  Words of crossings: what the program and the reference make of them, and the law of words.
-/
import Derived.Test.YtmffnhniejfgpaaGreatDoorQGenB
import Derived.Test.YtmffnhniejfgpaaGreatDoorAvPt
noncomputable section
set_option linter.unusedVariables false
set_option linter.unusedSimpArgs false
set_option maxRecDepth 100000
set_option linter.unusedSectionVars false
section
namespace Go.Av
def qg0 (n c:Int):Bool:=decide (c≠0)&&decide (-n<c)&&decide (c<n)
theorem qcn (b:Bool) (e:Int):kR b e=some (if b=true then e else 0):=by
 unfold kR
 cases b<;>rfl
structure WordOK (n:Nat) (w:List Int):Prop where
 n1:1<=n
 n2:n<=12
 len:w.length<=200
 let_: ∀c∈w,c≠0/\ -(n:Int)<c/\c<n
theorem qhI {a:List Int} (hl:a.length<=100000): ∀(K i:Nat),i<=a.length->a.length<K+i->qO a a K (i:Int)=some (.inl ())
 |0,i,h,hK=>by omega
 |K+1,i,h,hK=>by
  unfold qO
  by_cases hi:i<a.length
  ·rw[if_pos (by omega),qN,Ya hi,ZB,ZB,if_neg (by simp),za (by omega)]
   exact qhI hl K (i+1) (by omega) (by omega)
  rw[if_neg (by omega)]
theorem qcH {N:Nat} {a:List Int} (hN:a.length<N) (hl:a.length<=100000):zb N a 0 0 a=some true:=by
 unfold zb zA
 rw[if_neg (by decide),if_pos rfl,if_neg (by simp),show(0:Int)=((0:Nat):Int)from rfl,qhI hl N 0 (by omega) (by omega)]
 rfl
theorem qbZ {N:Nat} {e:Int} (h:e≠0) (l:List Int):zb N [] e e l=some true:=by
 unfold zb
 rw[if_pos (by simp[h]),if_pos (show((([]:List Int).length:Nat):Int)=0 from rfl),decide_eq_true rfl]
 rfl
theorem qiv {w:List Int} (hl:w.length<=300): ∀(K i:Nat),i<=w.length->w.length<K+i->qA w K ((w.take i).map fun x=>w64 (0-x)) (i:Int)=some (w.map fun x=>w64 (0-x))
 |0,i,h,hK=>by omega
 |K+1,i,h,hK=>by
  unfold qA vT
  by_cases hi:i<w.length
  ·rw[if_pos (by omega),qN,Ya hi,ZB,ZB,xQ (by simp;omega) (by simp;omega),ZB,za (by omega)]
   have e:(w.take i).map (fun x=>w64 (0-x))++[w64 (0-w[i])]=(w.take (i+1)).map fun x=>w64 (0-x):=by
    rw[List.take_succ_eq_append_getElem hi,List.map_append]
    rfl
   rw[e]
   exact qiv hl K (i+1) (by omega) (by omega)
  rw[if_neg (by omega),List.take_of_length_le (by omega)]
theorem qfV {N:Nat} (hN:2000<N) {w:List Int} (hl:w.length<=300):zJ N w=some (w.map fun x=>w64 (0-x)):=by
 unfold zJ
 have:=qiv hl N 0 (by omega) (by omega)
 rw[List.take_zero,List.map_nil]at this
 rw[show(0:Int)=((0:Nat):Int)from rfl,this]
 rfl
theorem qhp {w:List Int} (hl:w.length<=300): ∀(K i:Nat) (l:List Int),i<=w.length->i<K->l.length+i=w.length->zl w K l ((i:Int)-1)=some (l++((w.take i).reverse.map fun x=>w64 (0-x)))
 |0,i,l,h,hK,hs=>by omega
 |K+1,i,l,h,hK,hs=>by
  unfold zl
  cases i with
  |zero=>rw[if_neg (by omega),List.take_zero];simp
  |succ i=>
   have hi:i<w.length:=by omega
   rw[show((i+1:Nat):Int)-1=(i:Int)by omega,if_pos (by omega),qN,Ya hi,ZB,xQ (by simp only[Yr,List.length_nil];omega) (by simp only[Yr,List.length_nil];omega),ZB,show w64 ((i:Int)-1)=(i:Int)-1 from jy (by omega) (by omega),
    qhp hl K i _ (by omega) (by omega) (by simp;omega),List.take_succ_eq_append_getElem hi,List.reverse_append,List.map_append,Yz]
   rfl
theorem qdE {N:Nat} (hN:2000<N) {w:List Int} (hl:w.length<=300):jJ N w=some ((w.map fun x=>w64 (0-x)).reverse):=by
 unfold jJ
 rw[jy (by omega) (by omega),qhp hl N w.length [] (by omega) (by omega) (by simp),List.take_length]
 simp
theorem qip {l0:List Int} {n:Nat} (hn:l0.length=n) (hb:n<=100000): ∀(K i:Nat) (l:List Int),l.length=n->2*i<=n+1->n+1<K+2*i->(∀k:Nat,k<n->l[k]? =if k<i\/n<=k+i then l0[n-1-k]? else l0[k]?)->qw K l (i:Int) ((n:Int)-1-i)=some l0.reverse
 |0,i,l,hl,h2,hK,hk=>by omega
 |K+1,i,l,hl,h2,hK,hk=>by
  unfold qw
  by_cases hi:(i:Int)<(n:Int)-1-i
  ·have e1:(n:Int)-1-i=((n-1-i:Nat):Int):=by omega
   have e2:w64 (((n-1-i:Nat):Int)-1)=(n:Int)-1-((i+1:Nat):Int):=by rw[jy (by omega) (by omega)];omega
   have q1:=hk (n-1-i) (by omega)
   have q2:=hk i (by omega)
   rw[if_neg (by omega)]at q1 q2
   have g1:l0[n-1-i]? =some l0[n-1-i]:=Ya (by omega)
   have g2:l0[i]? =some l0[i]:=Ya (by omega)
   rw[g1]at q1
   rw[g2]at q2
   rw[if_pos hi,e1,qN,q1,ZB,qN,q2,ZB,vH (by omega),ZB,qN,Yw (by omega),q1,ZB,vH (by simp;omega),ZB,za (by omega),e2]
   refine qip hn hb K (i+1) _ (by simp;omega) (by omega) (by omega) (fun k hkn=>?_)
   by_cases c1:k=n-1-i
   ·subst c1
    rw[List.getElem?_set_self (by simp;omega),if_pos (by omega),show n-1-(n-1-i)=i by omega,g2]
   rw[Yw (fun e=>c1 e.symm)]
   by_cases c2:k=i
   ·subst c2
    rw[List.getElem?_set_self (by omega),if_pos (by omega),g1]
   rw[Yw (fun e=>c2 e.symm),hk k hkn]
   by_cases c3:k<i\/n<=k+i
   ·rw[if_pos c3,if_pos (by omega)]
   rw[if_neg c3,if_neg (by omega)]
  rw[if_neg hi]
  congr 1
  apply List.ext_getElem?
  intro k
  by_cases hkn:k<n
  ·rw[hk k hkn,List.getElem?_reverse (by omega),hn]
   by_cases c3:k<i\/n<=k+i
   ·rw[if_pos c3]
   rw[if_neg c3,show n-1-k=k by omega]
  rw[Yg (by omega),Yg (by simp;omega)]
theorem qes {N:Nat} {l:List Int} (hN:l.length+1<N) (hb:l.length<=100000):zk N l=some l.reverse:=by
 unfold zk
 have:=qip (l0:=l) rfl hb N 0 l rfl (by omega) (by omega) (fun k hk=>by rw[if_neg (by omega)])
 rw[jy (by omega) (by omega),show((l.length:Int)-1)=(l.length:Int)-1-((0:Nat):Int)by omega,show(0:Int)=((0:Nat):Int)from rfl]
 rw[this]
 rfl
theorem qeT {N:Nat} (hN:2000<N) {w:List Int} (hl:w.length<=300):zM N w=some ((w.map fun x=>w64 (0-x)).reverse):=by
 unfold zM
 rw[qfV hN hl,ZB,qes (by simp;omega) (by simp;omega),ZB,if_pos (by simp),ZB]
end Go.Av
end
section
namespace Go.Av
def j5 (n:Nat):List Int:=(List.range n).map fun k:Nat=>(k:Int)
theorem jU (n:Nat):(j5 n).length=n:=by simp[j5]
theorem qbl {n k:Nat} (h:k<n):(j5 n)[k]? =some (k:Int):=by
 simp[j5,List.getElem?_map,List.getElem?_range h]
theorem qej (n:Nat):j5 (n+1)=j5 n++[(n:Int)]:=by simp[j5,List.range_succ]
theorem qh7 {c:Int} (h: -1000<c/\c<1000):ji c=some ((c.natAbs:Nat):Int):=by
 unfold ji
 rw[jy (by omega) (by omega)]
 by_cases a:0-c>c
 ·rw[if_pos a];congr 1;omega
 rw[if_neg a];congr 1;omega
theorem qgh {c:Int} (h: -1000<c/\c<1000):yB c=some ((c.natAbs:Nat):Int):=by
 unfold yB
 rw[jy (by omega) (by omega)]
 by_cases a:0-c>c
 ·rw[if_pos a];congr 1;omega
 rw[if_neg a];congr 1;omega
theorem qfq {n:Nat} (hn:n<=1000) {l2:List Int} (h2:l2.length=n): ∀(K i:Nat) (l:List Int),l.length=n->i<=n->n<K+i->(∀k,k<i->l[k]? =some (k:Int))->qX l2 K l (i:Int)=some (j5 n)
 |0,i,l,hl,h,hK,hk=>by omega
 |K+1,i,l,hl,h,hK,hk=>by
  unfold qX
  by_cases hi:i<n
  ·rw[if_pos (by omega),qN,Ya (by omega),ZB,vH (by omega),ZB,za (by omega)]
   refine qfq hn h2 K (i+1) _ (by simpa using hl) (by omega) (by omega) (fun k hki=>?_)
   by_cases e:k=i
   ·subst e;rw[List.getElem?_set_self (by omega)]
   rw[Yw (fun c=>e c.symm)];exact hk k (by omega)
  rw[if_neg (by omega)]
  congr 1
  apply List.ext_getElem?
  intro k
  by_cases hkn:k<n
  ·rw[hk k (by omega),qbl hkn]
  rw[Yg (by omega),Yg (by rw[jU];omega)]
theorem qeO {n:Nat} (hn:n<=1000):mk 8 (n:Int) (0:Int)=some (List.replicate n 0):=by
 unfold mk
 rw[if_pos (by omega)]
 simp
theorem qhl {N n:Nat} (hN:2000<N) (hn:n<=1000):jb N (n:Int)=some (j5 n):=by
 unfold jb
 rw[qeO hn,ZB,show(0:Int)=((0:Nat):Int)from rfl,qfq hn (by simp) N 0 _ (by simp) (by omega) (by omega) (fun k hk=>by omega),ZB]
theorem qdy {n:Nat} (hn:n<=1000): ∀(K i:Nat),i<=n->n<K+i->qV (n:Int) K (j5 i) (i:Int)=some (j5 n)
 |0,i,h,hK=>by omega
 |K+1,i,h,hK=>by
  unfold qV
  by_cases hi:i<n
  ·rw[if_pos (by omega),xQ (by rw[jU];simp only[Yr,List.length_nil];omega) (by rw[jU];simp only[Yr,List.length_nil];omega),ZB,za (by omega),<-qej]
   exact qdy hn K (i+1) (by omega) (by omega)
  rw[if_neg (by omega),show i=n by omega]
theorem qfQ {N n:Nat} (hN:2000<N) (hn:n<=1000):ja N (n:Int)=some (j5 n):=by
 unfold ja
 have:=qdy hn N 0 (by omega) (by omega)
 rw[show j5 0=([]:List Int)from rfl]at this
 rw[show(0:Int)=((0:Nat):Int)from rfl,this,ZB]
structure PInv (n:Nat) (row p:List Int):Prop where
 rl:row.length=n
 pl:p.length=n
 at_: ∀k,k<n-> ∃v:Nat,v<n/\row[k]? =some (v:Int)/\p[v]? =some (k:Int)
 all: ∀v,v<n-> ∃k,k<n/\row[k]? =some (v:Int)
theorem PInv.back {n:Nat} {row p:List Int} (h:PInv n row p) {k v:Nat} (hk:k<n) (e:row[k]? =some (v:Int)):v<n/\p[v]? =some (k:Int):=by
 obtain⟨u,hu,e1,e2⟩:=h.at_ k hk
 rw[e]at e1
 have:v=u:=by have:=Ye e1;omega
 subst this
 exact⟨hu,e2⟩
theorem PInv.inj {n:Nat} {row p:List Int} (h:PInv n row p) {k k' v:Nat} (hk:k<n) (hk':k'<n) (e:row[k]? =some (v:Int)) (e':row[k']? =some (v:Int)):k=k':=by
 have h1:=(h.back hk e).2
 have h2:=(h.back hk' e').2
 rw[h1]at h2
 have:=Ye h2
 omega
end Go.Av
end
section
namespace Go.Av
theorem bwu (n:Int):IntKind.wrap .u64 n=n%18446744073709551616:=rfl
theorem qbd {n:Int} (h0:0<=n) (h:n<18446744073709551616):IntKind.wrap .u64 n=n:=by rw[bwu];exact Int.emod_eq_of_lt h0 h
theorem qf5 {n:Int} (h0:0<=n) (h:n<18446744073709551616):(BitVec.ofInt 64 n).toNat=n.toNat:=by
 rw[BitVec.toNat_ofInt]
 have:n%((2:Nat)^64:Nat)=n:=Int.emod_eq_of_lt h0 (by simpa using h)
 rw[this]
theorem band {x:Int} (h0:0<=x) (h:x<4294967296):qP .u64 x 4294967295=x:=by
 show IntKind.wrap .u64 _=_
 have e:(BitVec.ofInt IntKind.u64.bits x&&&BitVec.ofInt IntKind.u64.bits 4294967295).toNat=x.toNat%4294967296:=by
  rw[BitVec.toNat_and]
  show(BitVec.ofInt 64 x).toNat&&&(BitVec.ofInt 64 4294967295).toNat=_
  rw[qf5 h0 (by omega),qf5 (by omega) (by omega)]
  exact Nat.and_two_pow_sub_one_eq_mod x.toNat 32
 rw[e,bwu]
 omega
theorem bshr {x:Int} (h0:0<=x) (h:x<4294967296):qZ .u64 x 32=0:=by
 show x.fdiv 4294967296=0
 rw[Int.fdiv_eq_ediv_of_nonneg _ (by omega)]
 omega
theorem bmul {x y:Int} (hx:0<=x/\x<=1000) (hy:0<=y/\y<=1000):bits_Mul x y=some (0,x*y):=by
 have h0:0<=x*y:=Int.mul_nonneg hx.1 hy.1
 have h1:x*y<=1000*1000:=Int.mul_le_mul hx.2 hy.2 hy.1 (by omega)
 unfold bits_Mul bits_Mul64
 rw[band hx.1 (by omega),band hy.1 (by omega),bshr hx.1 (by omega),bshr hy.1 (by omega),Int.zero_mul,Int.zero_mul,Int.mul_zero,qbd (n:=0) (by omega) (by omega),qbd h0 (by omega),bshr h0 (by omega)]
 have z:IntKind.wrap .u64 (0+0)=0:=rfl
 have s:qZ .u64 0 32=0:=rfl
 have a:qP .u64 0 4294967295=0:=rfl
 rw[z,a,s,z,s,z,ZB]
theorem nmin (a b:Nat):Nat.min a b=min a b:=rfl
def Rep (w l:List Int) (n:Nat):Prop:= ∀i,i<n->l[i]? =w[i%w.length]?
theorem qgp {w l:List Int} {n L:Nat} (hL:l.length=L) (hn:n<=L) (hd:w.length∣n) (h:Rep w l n):(yY l n (l.take n)).length=L/\Rep w (yY l n (l.take n)) (n+Nat.min n (L-n)):=by
 have e1:(l.take n).length=n:=by rw[Ym];omega
 have e2:(l.drop n).length=L-n:=by rw[YJ,hL]
 have hlen:(yY l n (l.take n)).length=L:=by
  unfold yY cpy
  simp only[Yq,Ym,YJ,nmin]
  omega
 refine⟨hlen,fun i hi=>?_⟩
 have hm:Nat.min n (L-n)=min n (L-n):=rfl
 rw[hm]at hi
 unfold yY cpy
 by_cases c:i<n
 ·rw[Yf (by omega),List.getElem?_take_of_lt c]
  exact h i c
 rw[Yo (by omega),e1,Yf (by simp only[Ym,YJ,nmin];omega),List.getElem?_take_of_lt (by simp only[Ym,YJ,nmin];omega),List.getElem?_take_of_lt (by omega),h (i-n) (by omega)]
 obtain⟨q,rfl⟩:=hd
 rw[show i=i-w.length*q+w.length*q by omega,Nat.add_mul_mod_self_left,Nat.add_sub_cancel]
theorem qiu {w:List Int} {L:Nat} (hb:L<=40000): ∀(K n:Nat) (l:List Int),l.length=L->n<=L->(n=L\/(0<n/\w.length∣n))->Rep w l n->L<K+n-> ∃r,qx K l (n:Int)=some r/\r.length=L/\Rep w r L
 |0,n,l,hl,hn,hd,h,hK=>by omega
 |K+1,n,l,hl,hn,hd,h,hK=>by
  unfold qx
  by_cases c:n<L
  ·rcases hd with e|⟨hp,hd⟩
   ·omega
   obtain⟨s1,s2⟩:=qgp hl hn hd h
   have e1:(l.take n).length=n:=by rw[Ym];omega
   rw[if_pos (by omega),qiB (by omega),ZB,ZB,e1,hl]
   have hm:Nat.min n (L-n)=min n (L-n):=rfl
   rw[show w64 ((n:Int)+((Nat.min n (L-n):Nat):Int))=((n+Nat.min n (L-n):Nat):Int)by rw[hm];rw[jy (by omega) (by omega)];rfl]
   refine qiu hb K _ _ s1 (by rw[hm];omega) ?_ s2 (by rw[hm];omega)
   rw[hm]
   by_cases g:n<=L-n
   ·right
    rw[Nat.min_eq_left g]
    exact⟨by omega,Nat.dvd_add hd hd⟩
   left
   omega
  rw[if_neg (by omega)]
  have:n=L:=by omega
  subst this
  exact⟨l,rfl,hl,h⟩
theorem qfB {N:Nat} (hN:50000<N) {w:List Int} {k:Nat} (h0:0<w.length) (hl:w.length<=200) (hk:k<=200): ∃r,qW N w (k:Int)=some r/\r.length=w.length*k/\Rep w r (w.length*k):=by
 have hb:w.length*k<=200*200:=Nat.mul_le_mul hl hk
 have hp:((w.length:Int)*(k:Int))=((w.length*k:Nat):Int):=by simp
 unfold qW
 rw[if_neg (by omega),ZB,qbd (by omega) (by omega),qbd (by omega) (by omega),bmul (by omega) (by omega),ZB,if_neg (show¬((0:Int),(w.length:Int)*(k:Int)).1>0 by simp),decide_eq_false (show¬((0:Int),(w.length:Int)*(k:Int)).2>9223372036854775807 by simp only;omega),ZB,if_neg (by decide),ZB,hp,jy (by omega) (by omega)]
 have hm:mk 8 ((w.length*k:Nat):Int) (0:Int)=some (List.replicate (w.length*k) 0):=by
  unfold mk
  rw[if_pos (by omega),Int.toNat_natCast]
 rw[hm,ZB,ZB,List.length_replicate]
 have hc:(cpy (List.replicate (w.length*k) 0) w).length=w.length*k:=by
  unfold cpy
  simp only[Yq,Ym,YJ,List.length_replicate,nmin]
  omega
 have hmn:Nat.min w.length (w.length*k)=min w.length (w.length*k):=rfl
 have hk1:k=0\/w.length<=w.length*k:=by
  rcases Nat.eq_zero_or_pos k with h|h
  ·exact .inl h
  exact .inr (Nat.le_mul_of_pos_right _ h)
 obtain⟨r,r1,r2,r3⟩:=qiu (w:=w) (L:=w.length*k) (by omega) N (Nat.min w.length (w.length*k)) (cpy (List.replicate (w.length*k) 0) w) hc (by rw[hmn];omega) (by
  rcases hk1 with e|e
  ·left;subst e;rw[hmn];simp
  ·right;rw[hmn,Nat.min_eq_left e];exact⟨h0,Nat.dvd_refl _⟩) (fun i hi=>by
  rw[hmn]at hi
  unfold cpy
  rw[List.length_replicate,Yf (by simp only[Ym];omega),List.getElem?_take_of_lt (by omega),Nat.mod_eq_of_lt (by omega)]) (by omega)
 exact⟨r,by rw[r1];rfl,r2,r3⟩
theorem qha {w a b:List Int} {L:Nat} (ha:a.length=L) (hb:b.length=L) (ra:Rep w a L) (rb:Rep w b L):a=b:=by
 apply List.ext_getElem?
 intro i
 by_cases c:i<L
 ·rw[ra i c,rb i c]
 rw[Yg (by omega),Yg (by omega)]
theorem qeU (w:List Int):jZ w=some (if 200<w.length then([],5)else(w,0)):=by
 unfold jZ
 by_cases c:200<w.length
 ·rw[if_pos (by omega),if_pos c]
 rw[if_neg (by omega),if_neg c]
end Go.Av
end
section
namespace Go.Av
def qaU (l:List Int):Int:=(l.find? fun x=>!decide (x=0)).getD 0
theorem qdH {l:List Int} (hl:l.length<=100): ∀(K i:Nat),i<=l.length->l.length<K+i->zT l K (i:Int)=some (match(l.drop i).find? (fun x=>!decide (x=0))with|some x=> .inr x|none=> .inl ())
 |0,i,h,hK=>by omega
 |K+1,i,h,hK=>by
  unfold zT
  by_cases hi:i<l.length
  ·rw[if_pos (by omega),qN,Ya hi,ZB,YG hi,List.find?_cons]
   by_cases c:l[i]=0
   ·rw[if_neg (by simp[c]),za (by omega),qdH hl K (i+1) (by omega) (by omega)]
    simp[c]
   rw[if_pos (by simp[c])]
   simp[c]
  rw[if_neg (by omega),List.drop_eq_nil_of_le (by omega)]
  rfl
theorem qbu {N:Nat} {l:List Int} (hl:l.length<=100) (hN:l.length<N):zy N l=some (qaU l):=by
 unfold zy qaU
 have:=qdH hl N 0 (by omega) (by omega)
 rw[YR,show((0:Nat):Int)=0 from rfl]at this
 rw[this]
 cases l.find? (fun x=>!decide (x=0))<;>rfl
theorem qdK {l:List Int} (hl:l.length<=100): ∀(K i:Nat),i<=l.length->l.length<K+i->zS l K (i:Int)=some (match(l.drop i).find? (fun x=>!decide (x=0))with|some x=> .inr x|none=> .inl ())
 |0,i,h,hK=>by omega
 |K+1,i,h,hK=>by
  unfold zS
  by_cases hi:i<l.length
  ·rw[if_pos (by omega),qN,Ya hi,ZB,YG hi,List.find?_cons]
   by_cases c:l[i]=0
   ·rw[if_neg (by simp[c]),za (by omega),qdK hl K (i+1) (by omega) (by omega)]
    simp[c]
   rw[if_pos (by simp[c])]
   simp[c]
  rw[if_neg (by omega),List.drop_eq_nil_of_le (by omega)]
  rfl
theorem qfY {N:Nat} {l:List Int} (hl:l.length<=100) (hN:l.length<N):vD N l=some (qaU l):=by
 unfold vD qaU
 have:=qdK hl N 0 (by omega) (by omega)
 rw[YR,show((0:Nat):Int)=0 from rfl]at this
 rw[this]
 cases l.find? (fun x=>!decide (x=0))<;>rfl
theorem yG (l:List Int):qaU (0::l)=qaU l:=by simp[qaU]
theorem xZ {x:Int} (h:x≠0) (l:List Int):qaU (x::l)=x:=by simp[qaU,h]
theorem qcs (x:Int):qaU [x]=x:=by
 by_cases h:x=0
 ·subst h;rfl
 exact xZ h []
theorem qa1 (b:Bool) (e:Int):zm b e=some (if b=true then e else 0):=by
 unfold zm
 cases b<;>rfl
def MvOK (n:Int) (w:List Int) (r:List Int×Int):Prop:=(r.2≠0->r.1=[])/\(r.2=0->r.1.length<=w.length+2/\ ∀c∈r.1,qg0 n c=true)
theorem MvOK.bad {n:Int} {w:List Int} {e:Int} (h:e≠0):MvOK n w ([],e):=⟨fun _=>rfl,fun g=>absurd g h⟩
section
variable {N:Nat} (hN:2000<N) {n:Int} (h1:1<=n) (h2:n<=12) {w:List Int} (hw:w.length<=400) (hv: ∀c∈w,qg0 n c=true) {m:qiy}
include hN h1 h2 hw hv
end
end Go.Av
end
section
namespace Go.Av
def tr5 (i k:Nat):Nat:=if k=i then i+1 else if k=i+1 then i else k
theorem qbI (i k:Nat):tr5 i (tr5 i k)=k:=by
 unfold tr5
 by_cases a:k=i
 ·subst a;simp
 by_cases b:k=i+1
 ·subst b;simp
 simp[a,b]
theorem qhh (i:Nat):tr5 i i=i+1:=by simp[tr5]
theorem qgC (i:Nat):tr5 i (i+1)=i:=by simp[tr5]
theorem qfv {i k:Nat} (a:k≠i) (b:k≠i+1):tr5 i k=k:=by simp[tr5,a,b]
theorem y7 (i k:Nat):(k=i/\tr5 i k=i+1)\/(k=i+1/\tr5 i k=i)\/(k≠i/\k≠i+1/\tr5 i k=k):=by
 by_cases a:k=i
 ·subst a;exact .inl ⟨rfl,qhh k⟩
 by_cases b:k=i+1
 ·subst b;exact .inr (.inl ⟨rfl,qgC i⟩)
 exact .inr (.inr ⟨a,b,qfv a b⟩)
structure SB where
 f:Nat->Nat
 g:Nat->Nat
 gf: ∀k,g (f k)=k
 fg: ∀k,f (g k)=k
theorem SB.ext {s t:SB} (h: ∀k,s.f k=t.f k):s=t:=by
 obtain⟨f,g,a,b⟩:=s
 obtain⟨f',g',a',b'⟩:=t
 have e:f=f':=funext h
 subst e
 have e:g=g':=funext fun k=>by
  have:=a (g' k)
  rwa [b']at this
 subst e
 rfl
theorem SB.finj (s:SB) {a b:Nat} (h:s.f a=s.f b):a=b:=by
 have:=congrArg s.g h
 rwa [s.gf,s.gf]at this
def SB.fr (s:SB) (i:Nat):SB:=⟨fun k=>s.f (tr5 i k),fun k=>tr5 i (s.g k),fun k=>by rw[s.gf,qbI],fun k=>by rw[qbI,s.fg]⟩
def SB.bk (s:SB) (i:Nat):SB:=⟨fun k=>tr5 i (s.f k),fun k=>s.g (tr5 i k),fun k=>by rw[qbI,s.gf],fun k=>by rw[s.fg,qbI]⟩
def SB.Begs (s:SB) (i:Nat):Prop:=s.f (i+1)<s.f i
def SB.Ends (s:SB) (i:Nat):Prop:=s.g (i+1)<s.g i
def psh (L:Nat->SB) (k i:Nat):Nat->SB:=fun q=>if q=k then(L k).bk i else if q=k+1 then(L (k+1)).fr i else L q
theorem psh_k (L:Nat->SB) (k i:Nat):psh L k i k=(L k).bk i:=by simp[psh]
theorem qjd (L:Nat->SB) (k i:Nat):psh L k i (k+1)=(L (k+1)).fr i:=by simp[psh]
theorem qir (L:Nat->SB) {k i q:Nat} (a:q≠k) (b:q≠k+1):psh L k i q=L q:=by simp[psh,a,b]
structure CanP (n m:Nat) (L:Nat->SB) (k i:Nat):Prop where
 k_:k+1<m
 i_:i+1<n
 b_:(L (k+1)).Begs i
 e_: ¬(L k).Ends i
inductive Psh (n m:Nat):(Nat->SB)->(Nat->SB)->Prop
 |mk {L:Nat->SB} {k i:Nat} (h:CanP n m L k i):Psh n m L (psh L k i)
inductive Pst (n m:Nat):(Nat->SB)->(Nat->SB)->Prop
 |refl {L:Nat->SB}:Pst n m L L
 |head {L L1 A:Nat->SB} (h:Psh n m L L1) (t:Pst n m L1 A):Pst n m L A
theorem Pst.trans {n m:Nat} {L A B:Nat->SB} (h:Pst n m L A) (k:Pst n m A B):Pst n m L B:=by
 induction h with
 |refl=>exact k
 |head h _ ih=>exact .head h (ih k)
theorem Pst.one {n m:Nat} {L A:Nat->SB} (h:Psh n m L A):Pst n m L A:= .head h .refl
def qbm:List Nat->Nat
 |[]=>0
 |x::r=>r.countP (fun y=>decide (y<x))+qbm r
theorem qcV {x y:Nat} (h:y<x) (b:List Nat): ∀a:List Nat,qbm (a++y::x::b)+1=qbm (a++x::y::b)
 |[]=>by
  simp only[List.nil_append,qbm,List.countP_cons]
  rw[decide_eq_true h,decide_eq_false (show¬x<y by omega)]
  simp only[if_true,ZF,if_false]
  omega
 |z::a=>by
  simp only[List.cons_append,qbm]
  have:=qcV h b a
  simp only[List.countP_append,List.countP_cons]
  omega
theorem qiw {i:Nat}: ∀r:List Nat,r.Nodup->i∉r->r.countP (fun y=>decide (tr5 i y<i+1))<=r.countP (fun y=>decide (y<i))+(if i+1∈r then 1 else 0)
 |[],_,_=>by simp
 |y::r,hn,hi=>by
  have hn2:=(List.nodup_cons.1 hn)
  have hi2:i∉r:=fun h=>hi (List.mem_cons_of_mem _ h)
  have hy:y≠i:=fun e=>hi (e▸List.mem_cons_self)
  have ih:=qiw r hn2.2 hi2
  rw[List.countP_cons,List.countP_cons]
  by_cases c:y=i+1
  ·subst c
   rw[qgC,decide_eq_true (by omega),decide_eq_false (by omega),if_pos rfl,if_neg (by decide),if_pos List.mem_cons_self]
   rw[if_neg hn2.1]at ih
   omega
  rw[qfv hy c]
  have e1:decide (y<i+1)=decide (y<i):=by
   by_cases d:y<i
   ·rw[decide_eq_true d,decide_eq_true (by omega)]
   rw[decide_eq_false d,decide_eq_false (by omega)]
  rw[e1]
  have e2:(if i+1∈y::r then 1 else 0)=(if i+1∈r then 1 else 0:Nat):=by
   by_cases d:i+1∈r
   ·rw[if_pos d,if_pos (List.mem_cons_of_mem _ d)]
   rw[if_neg d,if_neg (fun h=>by rcases List.mem_cons.1 h with h|h;exact c h.symm;exact d h)]
  rw[e2]
  omega
theorem qdB {i:Nat}: ∀p:List Nat,p.Nodup->qbm (p.map (tr5 i))<=qbm p+(if i∈p then 1 else 0)
 |[],_=>by simp[qbm]
 |x::r,hn=>by
  have hn2:=(List.nodup_cons.1 hn)
  have ih:=qdB (i:=i) r hn2.2
  simp only[List.map_cons,qbm,List.countP_map]
  have e:(fun y=>decide (y<tr5 i x))∘tr5 i=fun y=>decide (tr5 i y<tr5 i x):=rfl
  rw[e]
  by_cases c:x=i
  ·subst c
   have hc:=qiw r hn2.2 hn2.1
   rw[qhh,if_pos List.mem_cons_self]
   rw[if_neg hn2.1]at ih
   have:(if x+1∈r then 1 else 0:Nat)<=1:=by split<;>omega
   omega
  have h1:r.countP (fun y=>decide (tr5 i y<tr5 i x))<=r.countP (fun y=>decide (y<x)):=by
   refine List.countP_mono_left fun y hy h=>?_
   have hyx:y≠x:=fun e=>hn2.1 (e▸hy)
   simp only[decide_eq_true_eq]at h⊢
   rcases y7 i x with⟨a,ea⟩|⟨a,ea⟩|⟨a,a',ea⟩<;>rcases y7 i y with⟨b,eb⟩|⟨b,eb⟩|⟨b,b',eb⟩<;>rw[ea,eb]at h<;>omega
  have e2:(if i∈x::r then 1 else 0)=(if i∈r then 1 else 0:Nat):=by
   by_cases d:i∈r
   ·rw[if_pos d,if_pos (List.mem_cons_of_mem _ d)]
   rw[if_neg d,if_neg (fun h=>by rcases List.mem_cons.1 h with h|h;exact c h.symm;exact d h)]
  rw[e2]
  omega
def SB.row (n:Nat) (s:SB):List Nat:=(List.range n).map s.f
theorem Uo (n:Nat) (s:SB):(s.row n).length=n:=by simp[SB.row]
theorem SB.row_get {n k:Nat} (s:SB) (h:k<n):(s.row n)[k]? =some (s.f k):=by simp[SB.row,List.getElem?_range h]
theorem qaM {f:Nat->Nat} (hf: ∀a b,f a=f b->a=b): ∀l:List Nat,l.Nodup->(l.map f).Nodup
 |[],_=>List.nodup_nil
 |x::l,h=>by
  have h2:=List.nodup_cons.1 h
  rw[List.map_cons,List.nodup_cons]
  refine⟨fun hx=>?_,qaM hf l h2.2⟩
  obtain⟨y,hy,e⟩:=List.mem_map.1 hx
  exact h2.1 (hf _ _ e▸hy)
theorem SB.row_nodup (n:Nat) (s:SB):(s.row n).Nodup:=qaM (fun _ _ h=>s.finj h) _ List.nodup_range
def SB.inv (n:Nat) (s:SB):Nat:=qbm (s.row n)
theorem qgY {l:List Nat} {i:Nat} (h:i+1<l.length):l=l.take i++l[i]::l[i+1]::l.drop (i+2):=by
 rw[<-YG h,<-YG (by omega),List.take_append_drop]
theorem SB.inv_fr {n i:Nat} {s:SB} (hi:i+1<n) (h:s.Begs i):(s.fr i).inv n+1=s.inv n:=by
 unfold SB.inv
 have e1:=qgY (l:=s.row n) (i:=i) (by rw[Uo];omega)
 have e2:=qgY (l:=(s.fr i).row n) (i:=i) (by rw[Uo];omega)
 have g: ∀(t:SB) (k:Nat) (hk:k<(t.row n).length),(t.row n)[k]=t.f k:=fun t k hk=>by simp[SB.row]
 have t1:((s.fr i).row n).take i=(s.row n).take i:=by
  apply List.ext_getElem?
  intro k
  by_cases hk:k<i
  ·rw[List.getElem?_take_of_lt hk,List.getElem?_take_of_lt hk,SB.row_get _ (by omega),SB.row_get _ (by omega)]
   show some (s.f (tr5 i k))=_
   rw[qfv (by omega) (by omega)]
  rw[Yg (by simp;omega),Yg (by simp;omega)]
 have t2:((s.fr i).row n).drop (i+2)=(s.row n).drop (i+2):=by
  apply List.ext_getElem?
  intro k
  rw[YI,YI]
  by_cases hk:i+2+k<n
  ·rw[SB.row_get _ hk,SB.row_get _ hk]
   show some (s.f (tr5 i _))=_
   rw[qfv (by omega) (by omega)]
  rw[Yg (by rw[Uo];omega),Yg (by rw[Uo];omega)]
 rw[e1,e2,t1,t2,g,g,g,g]
 show qbm (_++s.f (tr5 i i)::s.f (tr5 i (i+1))::_)+1=_
 rw[qhh,qgC]
 exact qcV h _ _
theorem SB.inv_bk (n i:Nat) (s:SB):(s.bk i).inv n<=s.inv n+1:=by
 unfold SB.inv
 have e:(s.bk i).row n=(s.row n).map (tr5 i):=by
  unfold SB.row
  rw[List.map_map]
  rfl
 rw[e]
 have:=qdB (i:=i) (s.row n) (s.row_nodup n)
 have h2:(if i∈s.row n then 1 else 0:Nat)<=1:=by split<;>omega
 omega
def mu5 (n:Nat) (L:Nat->SB):Nat->Nat
 |0=>0
 |m+1=>mu5 n L m+m*(L m).inv n
theorem qho {n k:Nat} {L L':Nat->SB} (h: ∀q,q<k->L' q=L q): ∀m,m<=k->mu5 n L' m=mu5 n L m
 |0,_=>rfl
 |m+1,hm=>by simp only[mu5];rw[qho h m (by omega),h m (by omega)]
theorem qh8 {n m k i:Nat} {L:Nat->SB} (h:CanP n m L k i):mu5 n (psh L k i) m<mu5 n L m:=by
 have base:mu5 n (psh L k i) (k+2)+1<=mu5 n L (k+2):=by
  simp only[mu5]
  rw[qho (L':=psh L k i) (L:=L) (k:=k) (fun q hq=>qir L (by omega) (by omega)) k (Nat.le_refl _),psh_k,qjd]
  have a:=SB.inv_fr h.i_ h.b_
  have b:=Nat.mul_le_mul_left k (SB.inv_bk n i (L k))
  rw[<-a,Nat.mul_add,Nat.mul_one]
  rw[Nat.mul_add,Nat.mul_one]at b
  omega
 have up: ∀d,mu5 n (psh L k i) (k+2+d)+1<=mu5 n L (k+2+d):=by
  intro d
  induction d with
  |zero=>exact base
  |succ d ih=>
   show mu5 n (psh L k i) (k+2+d)+(k+2+d)*(psh L k i (k+2+d)).inv n+1<=mu5 n L (k+2+d)+(k+2+d)*(L (k+2+d)).inv n
   rw[qir L (q:=k+2+d) (by omega) (by omega)]
   omega
 have hk:=h.k_
 have:=up (m-(k+2))
 rw[show k+2+(m-(k+2))=m by omega]at this
 omega
theorem Psh.lt {n m:Nat} {L A:Nat->SB} (h:Psh n m L A):mu5 n A m<mu5 n L m:=by
 cases h with
 |mk h=>exact qh8 h
end Go.Av
end
section
namespace Go.Av
theorem qgF {m:List (Int×Bool)} (k k':Int) (v:Bool):yS (qaA m k v) k'=if k'=k then some v else yS m k':=by
 induction m with
 |nil=>
  unfold qaA yS
  by_cases h:k'=k
  ·simp[h]
  simp[h]
 |cons p m ih=>
  obtain⟨a,b⟩:=p
  unfold qaA
  by_cases h:(k==a)=true
  ·have e:k=a:=by simpa using h
   subst e
   rw[if_pos h]
   unfold yS
   by_cases c:k'=k
   ·simp[c]
   have c2:(k'==k)=false:=by simpa using c
   rw[List.find?_cons_of_neg (by simp[c2]),List.find?_cons_of_neg (by simp[c2]),if_neg c]
  rw[if_neg h]
  have e:k≠a:=by simpa using h
  unfold yS at ih⊢
  by_cases c:k'=a
  ·have c2:(k'==a)=true:=by simpa using c
   rw[List.find?_cons_of_pos (by simpa using c2),List.find?_cons_of_pos (by simpa using c2),if_neg (by rw[c];exact fun x=>e x.symm)]
  have c2:(k'==a)=false:=by simpa using c
  rw[List.find?_cons_of_neg (by simp[c2]),List.find?_cons_of_neg (by simp[c2])]
  exact ih
structure IsP (p:List Int):Prop where
 few:p.length<=256
 at_: ∀k,k<p.length-> ∃v:Nat,v<p.length/\p[k]? =some (v:Int)
 inj: ∀(k k':Nat) (v:Int),p[k]? =some v->p[k']? =some v->k=k'
theorem qhb {p:List Int} (hl:p.length<=256) {i:Nat} (hi:i<p.length) {x:Int} (hx:p[i]? =some x): ∀(K j:Nat),j<=i->i<K+j->(∀k,k<j->p[k]? ≠some x)->
 (qR p (i:Int) K (j:Int)=some (.inl ())/\ ∀k,k<i->p[k]? ≠some x)\/(qR p (i:Int) K (j:Int)=some (.inr 15)/\ ∃k,k<i/\p[k]? =some x)
 |0,j,h,hK,hn=>by omega
 |K+1,j,h,hK,hn=>by
  unfold qR
  by_cases hj:j<i
  ·have hy:p[j]? =some p[j]:=Ya (by omega)
   rw[if_pos (by omega),qN,hy,ZB,qN,hx,ZB]
   by_cases e:p[j]=x
   ·rw[if_pos e]
    exact .inr ⟨rfl,j,hj,by rw[hy,e]⟩
   rw[if_neg e,za (by omega)]
   refine qhb hl hi hx K (j+1) (by omega) (by omega) (fun k hk=>?_)
   by_cases c:k=j
   ·subst c
    rw[hy]
    exact fun z=>e (Ye z)
   exact hn k (by omega)
  rw[if_neg (by omega)]
  exact .inl ⟨rfl,fun k hk=>hn k (by omega)⟩
theorem qfc {N:Nat} (hN:2000<N) {p:List Int} (hl:p.length<=256): ∀(K i:Nat) (m:List (Int×Bool)),i<=p.length->p.length<K+i->(∀x,(yS m x).getD false=true↔ ∃k,k<i/\p[k]? =some x)->
 ∃r,q8 p K m (i:Int)=some r/\kL N p K (i:Int)=some r/\((r= .inl ()/\ ∀j,i<=j->j<p.length-> ∃v:Nat,v<p.length/\p[j]? =some (v:Int)/\ ∀k,k<j->p[k]? ≠some (v:Int))\/r= .inr 15)
 |0,i,m,h,hK,hm=>by omega
 |K+1,i,m,h,hK,hm=>by
  unfold q8 kL
  by_cases hi:i<p.length
  ·have hx:p[i]? =some p[i]:=Ya hi
   generalize p[i]=x at hx
   rw[if_pos (by omega),if_pos (by omega),qN,hx]
   simp only[ZB]
   by_cases h1:x<0
   ·rw[if_pos h1,if_pos h1]
    exact⟨_,rfl,rfl,.inr rfl⟩
   by_cases h2:x>=(p.length:Int)
   ·rw[if_neg h1,if_pos h2,if_neg h1,decide_eq_true h2]
    exact⟨_,rfl,rfl,.inr rfl⟩
   rw[if_neg h1,if_neg h2,if_neg h1,decide_eq_false h2]
   simp only[ZB,ZF,if_false]
   rcases qhb hl hi hx N 0 (by omega) (by omega) (fun k hk=>by omega)with⟨g1,g2⟩|⟨g1,k,g2,g3⟩
   ·have hf:(yS m x).getD false=false:=by
     cases c:(yS m x).getD false with
     |false=>rfl
     |true=>
      obtain⟨k,k1,k2⟩:=(hm x).1 c
      exact absurd k2 (g2 k k1)
    rw[show((0:Nat):Int)=0 from rfl]at g1
    rw[hf,g1,za (by omega)]
    simp only[ZF,if_false,ZB]
    obtain⟨r,r1,r2,r3⟩:=qfc hN hl K (i+1) (qaA m x true) (by omega) (by omega) (fun y=>by
     rw[qgF]
     by_cases e:y=x
     ·rw[if_pos e]
      exact⟨fun _=>⟨i,by omega,by rw[hx,e]⟩,fun _=>rfl⟩
     rw[if_neg e,hm y]
     constructor
     ·rintro⟨k,k1,k2⟩
      exact⟨k,by omega,k2⟩
     rintro⟨k,k1,k2⟩
     refine⟨k,?_,k2⟩
     rcases Nat.lt_or_ge k i with c|c
     ·exact c
     have:k=i:=by omega
     subst this
     rw[hx]at k2
     exact absurd (Ye k2).symm e)
    refine⟨r,r1,r2,?_⟩
    rcases r3 with⟨r3,r4⟩|r3
    ·refine .inl ⟨r3,fun j hj hjl=>?_⟩
     by_cases c:j=i
     ·subst c
      refine⟨x.toNat,by omega,by rw[hx];congr 1;omega,fun k hk=>?_⟩
      rw[show((x.toNat:Nat):Int)=x by omega]
      exact g2 k hk
     exact r4 j (by omega) hjl
    exact .inr r3
   have ht:(yS m x).getD false=true:=(hm x).2 ⟨k,g2,g3⟩
   rw[show((0:Nat):Int)=0 from rfl]at g1
   rw[ht,g1]
   exact⟨_,rfl,rfl,.inr rfl⟩
  rw[if_neg (by omega),if_neg (by omega)]
  exact⟨_,rfl,rfl,.inl ⟨rfl,fun j hj hjl=>by omega⟩⟩
theorem qfE {N:Nat} (hN:2000<N) {p:List Int} (hl:p.length<=1000): ∃e,zN N p=some e/\ze N p=some e/\(e=0->IsP p)/\(p.length<=256->e=0\/e=15):=by
 unfold zN ze
 by_cases h:256<p.length
 ·rw[if_pos (by omega),if_pos (by omega)]
  exact⟨5,rfl,rfl,fun c=>absurd c (by decide),fun h2=>by omega⟩
 rw[if_neg (by omega),if_neg (by omega)]
 obtain⟨r,r1,r2,r3⟩:=qfc hN (p:=p) (by omega) N 0 [] (by omega) (by omega) (fun x=>by
  constructor
  ·intro c;simp[yS]at c
  rintro⟨k,k1,_⟩;omega)
 rw[show(0:Int)=((0:Nat):Int)from rfl,r1,r2]
 rcases r3 with⟨rfl,r4⟩|rfl
 ·refine⟨0,rfl,rfl,fun _=>⟨by omega,fun k hk=>?_,fun k k' v hk hk'=>?_⟩,fun _=> .inl rfl⟩
  ·obtain⟨v,v1,v2,_⟩:=r4 k (by omega) hk
   exact⟨v,v1,v2⟩
  have l1:k<p.length:=(Yb.1 hk).1
  have l2:k'<p.length:=(Yb.1 hk').1
  rcases Nat.lt_trichotomy k k' with c|c|c
  ·obtain⟨w,w1,w2,w3⟩:=r4 k' (by omega) l2
   rw[hk']at w2
   have:=Ye w2
   subst this
   exact absurd hk (w3 k c)
  ·exact c
  obtain⟨w,w1,w2,w3⟩:=r4 k (by omega) l1
  rw[hk]at w2
  have:=Ye w2
  subst this
  exact absurd hk' (w3 k' c)
 exact⟨15,rfl,rfl,fun c=>absurd c (by decide),fun _=> .inr rfl⟩
structure SB.Ok (n:Nat) (s:SB):Prop where
 f_: ∀k,k<n->s.f k<n
 g_: ∀k,k<n->s.g k<n
def SB.li (n:Nat) (s:SB):List Int:=(List.range n).map fun k=>(s.f k:Int)
theorem Ud (n:Nat) (s:SB):(s.li n).length=n:=by simp[SB.li]
theorem Ui {n k:Nat} (s:SB) (h:k<n):(s.li n)[k]? =some (s.f k:Int):=by simp[SB.li,List.getElem?_range h]
theorem Un {n:Nat} {s:SB} {p:List Int} (hl:p.length=n) (h: ∀k,k<n->p[k]? =some (s.f k:Int)):p=s.li n:=by
 apply List.ext_getElem?
 intro k
 by_cases hk:k<n
 ·rw[h k hk,Ui s hk]
 rw[Yg (by omega),Yg (by rw[Ud];omega)]
theorem SB.li_inj {n:Nat} {s t:SB} (h:s.li n=t.li n) {k:Nat} (hk:k<n):s.f k=t.f k:=by
 have h1:=Ui s hk
 have h2:=Ui t hk
 rw[h,h2]at h1
 have:=Ye h1
 omega
theorem qdc {n i k:Nat} (hi:i+1<n) (h:k<n):tr5 i k<n:=by
 rcases y7 i k with⟨a,e⟩|⟨a,e⟩|⟨a,a',e⟩<;>omega
theorem SB.Ok.fr {n i:Nat} {s:SB} (h:s.Ok n) (hi:i+1<n):(s.fr i).Ok n:=⟨fun k hk=>h.f_ _ (qdc hi hk),fun k hk=>qdc hi (h.g_ k hk)⟩
theorem SB.Ok.bk {n i:Nat} {s:SB} (h:s.Ok n) (hi:i+1<n):(s.bk i).Ok n:=⟨fun k hk=>qdc hi (h.f_ k hk),fun k hk=>h.g_ _ (qdc hi hk)⟩
def SB.rev (s:SB):SB:=⟨s.g,s.f,s.fg,s.gf⟩
theorem SB.Ok.rev {n:Nat} {s:SB} (h:s.Ok n):s.rev.Ok n:=⟨h.g_,h.f_⟩
def SB.id:SB:=⟨fun k=>k,fun k=>k,fun _=>rfl,fun _=>rfl⟩
def rv5 (n k:Nat):Nat:=if k<n then n-1-k else k
theorem qav (n k:Nat):rv5 n (rv5 n k)=k:=by
 unfold rv5
 by_cases h:k<n
 ·rw[if_pos h,if_pos (by omega)];omega
 rw[if_neg h,if_neg h]
theorem qda {n k:Nat} (h:k<n):rv5 n k<n:=by unfold rv5;rw[if_pos h];omega
def Uj (n:Nat):SB:=⟨rv5 n,rv5 n,qav n,qav n⟩
def SB.flip (n:Nat) (s:SB):SB:=⟨fun k=>rv5 n (s.f (rv5 n k)),fun k=>rv5 n (s.g (rv5 n k)),fun k=>by rw[qav,s.gf,qav],fun k=>by rw[qav,s.fg,qav]⟩
theorem SB.Ok.flip {n:Nat} {s:SB} (h:s.Ok n):(s.flip n).Ok n:=⟨fun k hk=>qda (h.f_ _ (qda hk)),fun k hk=>qda (h.g_ _ (qda hk))⟩
theorem qe6: ∀(n:Nat) (l:List Nat),l.Nodup->(∀x∈l,x<n)->l.length<=n
 |0,[],_,_=>Nat.le_refl _
 |0,x::l,_,h=>absurd (h x List.mem_cons_self) (Nat.not_lt_zero _)
 |n+1,l,hn,h=>by
  have:=qe6 n (l.erase n) (hn.erase n) (fun x hx=>by
   have:=hn.mem_erase_iff.1 hx
   have:=h x this.2
   omega)
  have e:=List.length_erase (a:=n) (l:=l)
  split at e<;>omega
theorem qij {n v:Nat} {l:List Nat} (hn:l.Nodup) (h: ∀x∈l,x<n) (hl:n<=l.length) (hv:v<n):v∈l:=by
 by_cases c:v∈l
 ·exact c
 have:=qe6 n (v::l) (List.nodup_cons.2 ⟨c,hn⟩) (fun x hx=>by
  rcases List.mem_cons.1 hx with e|e
  ·omega
  exact h x e)
 simp only[Yr]at this
 omega
theorem sb_of {p:List Int} (hp:IsP p): ∃s:SB,s.Ok p.length/\p=s.li p.length:=by
 have n0: ∀k,k<p.length-> ∃v:Nat,v<p.length/\p[k]? =some (v:Int):=hp.at_
 let F:Nat->Nat:=fun k=>if h:k<p.length then(Classical.choose (n0 k h))else k
 have hF: ∀k (h:k<p.length),F k<p.length/\p[k]? =some (F k:Int):=fun k h=>by
  have:=Classical.choose_spec (n0 k h)
  simp only[F,dif_pos h]
  exact this
 have hO: ∀k,¬k<p.length->F k=k:=fun k h=>by simp only[F,dif_neg h]
 have inj: ∀a b,F a=F b->a=b:=fun a b e=>by
  by_cases ha:a<p.length
  ·by_cases hb:b<p.length
   ·have h1:=(hF a ha).2
    have h2:=(hF b hb).2
    rw[e]at h1
    exact hp.inj a b _ h1 h2
   have:=(hF a ha).1
   rw[e,hO b hb]at this
   omega
  by_cases hb:b<p.length
  ·have:=(hF b hb).1
   rw[<-e,hO a ha]at this
   omega
  rw[hO a ha,hO b hb]at e
  exact e
 have sur: ∀v,∃k,F k=v:=fun v=>by
  by_cases hv:v<p.length
  ·have hs: ∀x∈(List.range p.length).map F,x∈List.range p.length:=fun x hx=>by
    obtain⟨k,hk,rfl⟩:=List.mem_map.1 hx
    exact List.mem_range.2 (hF k (List.mem_range.1 hk)).1
   have nd:=qaM inj _ (List.nodup_range (n:=p.length))
   have hm:v∈(List.range p.length).map F:=qij nd (fun x hx=>List.mem_range.1 (hs x hx)) (by simp) hv
   obtain⟨k,_,e⟩:=List.mem_map.1 hm
   exact⟨k,e⟩
  exact⟨v,hO v hv⟩
 let G:Nat->Nat:=fun v=>Classical.choose (sur v)
 have fg: ∀v,F (G v)=v:=fun v=>Classical.choose_spec (sur v)
 have gf: ∀k,G (F k)=k:=fun k=>inj _ _ (fg (F k))
 refine⟨⟨F,G,gf,fg⟩,⟨fun k hk=>(hF k hk).1,fun v hv=>?_⟩,Un rfl fun k hk=>(hF k hk).2⟩
 show G v<p.length
 rcases Nat.lt_or_ge (G v) p.length with h|h
 ·exact h
 have:=fg v
 rw[hO _ (by omega)]at this
 omega
end Go.Av
end
section
namespace Go.Av
theorem Uf {n k:Nat} {s:SB} (h:k<n):idx (s.li n) (k:Int)=some (s.f k:Int):=by rw[qN,Ui s h]
section
variable {n:Nat} (hn:n<=300)
include hn
theorem qfw {s:SB} (hs:s.Ok n): ∀(K i:Nat) (l:List Int),l.length=n->i<=n->n<K+i->(∀k,k<i->l[s.f k]? =some (k:Int))->qK (s.li n) K l (i:Int)=some (s.rev.li n)
 |0,i,l,hl,h,hK,hk=>by omega
 |K+1,i,l,hl,h,hK,hk=>by
  unfold qK
  rw[Ud]
  by_cases hi:i<n
  ·have hf:=hs.f_ i hi
   rw[if_pos (by omega),Uf hi,ZB,qN,Ya (by omega),ZB,vH (by omega),ZB,za (by omega)]
   refine qfw hs K (i+1) _ (by simpa using hl) (by omega) (by omega) (fun k hki=>?_)
   by_cases e:k=i
   ·subst e;rw[List.getElem?_set_self (by omega)]
   rw[Yw (fun c=>e (s.finj c.symm))];exact hk k (by omega)
  rw[if_neg (by omega)]
  congr 1
  refine Un hl fun v hv=>?_
  have:=hk (s.g v) (by have:=hs.g_ v hv;omega)
  rw[s.fg]at this;exact this
theorem qhJ {N:Nat} (hN:2000<N) {s:SB} (hs:s.Ok n):zO N (s.li n)=some (s.rev.li n):=by
 unfold zO
 have:=qfw hn hs N 0 (List.replicate n 0) (by simp) (by omega) (by omega) (fun k hk=>by omega)
 rw[show((0:Nat):Int)=0 from rfl]at this
 rw[Ud,qeO (by omega),ZB,this,ZB]
theorem qfl {s:SB} (hs:s.Ok n): ∀(K i:Nat) (l:List Int),l.length=n->i<=n->n<K+i->(∀k,k<i->l[s.f k]? =some (k:Int))->zq (s.li n) K l (i:Int)=some (s.rev.li n)
 |0,i,l,hl,h,hK,hk=>by omega
 |K+1,i,l,hl,h,hK,hk=>by
  unfold zq
  rw[Ud]
  by_cases hi:i<n
  ·have hf:=hs.f_ i hi
   rw[if_pos (by omega),Uf hi,ZB,qN,Ya (by omega),ZB,vH (by omega),ZB,za (by omega)]
   refine qfl hs K (i+1) _ (by simpa using hl) (by omega) (by omega) (fun k hki=>?_)
   by_cases e:k=i
   ·subst e;rw[List.getElem?_set_self (by omega)]
   rw[Yw (fun c=>e (s.finj c.symm))];exact hk k (by omega)
  rw[if_neg (by omega)]
  congr 1
  refine Un hl fun v hv=>?_
  have:=hk (s.g v) (by have:=hs.g_ v hv;omega)
  rw[s.fg]at this;exact this
theorem qgW {N:Nat} (hN:2000<N) {s:SB} (hs:s.Ok n):j6 N (s.li n)=some (s.rev.li n):=by
 unfold j6
 have:=qfl hn hs N 0 (List.replicate n 0) (by simp) (by omega) (by omega) (fun k hk=>by omega)
 rw[show((0:Nat):Int)=0 from rfl]at this
 rw[Ud,qeO (by omega),ZB,this,ZB]
theorem qex (s:SB) {i:Nat} (hi:i+1<n):zB (s.li n) (i:Int)=some ((s.fr i).li n):=by
 unfold zB
 have hl:=Ud n s
 have hc:qai (s.li n)=some ():=by
  unfold qai
  rw[if_pos (by omega)]
 rw[hc,ZB,za (by omega),Uf hi,ZB,Uf (by omega),ZB,vH (by omega),ZB,qN,Yw (by omega),Ui _ hi,ZB,vH (by simp;omega),ZB]
 congr 1
 refine Un (by simp[hl]) fun k hk=>?_
 show _=some ((s.f (tr5 i k):Nat):Int)
 rcases y7 i k with⟨rfl,e⟩|⟨rfl,e⟩|⟨a,b,e⟩<;>rw[e]
 ·rw[Yw (by omega),List.getElem?_set_self (by omega)]
 ·rw[List.getElem?_set_self (by simp;omega)]
 rw[Yw (by omega),Yw (by omega),Ui s hk]
theorem qbp (s:SB) {i:Nat} (hi:i+1<n):kg (s.li n) (i:Int)=some (decide (s.f (i+1)<s.f i)):=by
 unfold kg
 rw[Uf (by omega),ZB,za (by omega),Uf hi,ZB]
 congr 1
 exact decide_eq_decide.2 (by omega)
theorem qbR (s:SB) {i:Nat} (hi:i+1<n):jV (s.li n) ((i+1:Nat):Int)=some (decide (s.f (i+1)<s.f i)):=by
 unfold jV
 rw[show w64 (((i+1:Nat):Int)-1)=(i:Int)by rw[jy (by omega) (by omega)];omega,Uf (by omega),ZB,Uf hi,ZB]
 congr 1
 exact decide_eq_decide.2 (by omega)
theorem qic {N:Nat} (hN:2000<N) {s:SB} (hs:s.Ok n) {i:Nat} (hi:i+1<n):zY N (s.li n) (i:Int)=some (decide (s.g (i+1)<s.g i)):=by
 unfold zY
 rw[qhJ hn hN hs,ZB,qbp hn s.rev hi,ZB]
 rfl
theorem qgr {N:Nat} (hN:2000<N) {s:SB} (hs:s.Ok n) {i:Nat} (hi:i+1<n):yC N (s.li n) ((i+1:Nat):Int)=some (decide (s.g (i+1)<s.g i)):=by
 unfold yC
 rw[qgW hn hN hs,ZB,qbR hn s.rev hi,ZB]
 rfl
theorem qbk {N:Nat} (hN:2000<N) {s t:SB} (hs:s.Ok n): ∀(K i:Nat),i+1<=n->n<K+i->
 (∃j,i<=j/\j+1<n/\t.Begs j/\ ¬s.Ends j/\kT N (s.li n) (t.li n) K (i:Int) ((n:Int)-1)=some (.inr ((j:Int),true)))\/
 ((∀j,i<=j->j+1<n->t.Begs j->s.Ends j)/\kT N (s.li n) (t.li n) K (i:Int) ((n:Int)-1)=some (.inl ()))
 |0,i,h,hK=>by omega
 |K+1,i,h,hK=>by
  unfold kT
  by_cases hi:i+1<n
  ·rw[if_pos (by omega),qbp hn t hi,ZB]
   by_cases a:t.f (i+1)<t.f i
   ·rw[decide_eq_true a,if_pos rfl,qic hn hN hs hi,ZB,ZB]
    by_cases b:s.g (i+1)<s.g i
    ·rw[decide_eq_true b,if_neg (by decide),za (by omega)]
     rcases qbk hN hs K (i+1) (by omega) (by omega)with⟨j,h1,h2⟩|⟨h1,h2⟩
     ·exact .inl ⟨j,by omega,h2⟩
     refine .inr ⟨fun j hj hj2 hb=>?_,h2⟩
     by_cases e:j=i
     ·subst e;exact b
     exact h1 j (by omega) hj2 hb
    rw[decide_eq_false b,if_pos (by decide)]
    exact .inl ⟨i,Nat.le_refl _,hi,a,b,rfl⟩
   rw[decide_eq_false a,if_neg (by decide),ZB,if_neg (by decide),za (by omega)]
   rcases qbk hN hs K (i+1) (by omega) (by omega)with⟨j,h1,h2⟩|⟨h1,h2⟩
   ·exact .inl ⟨j,by omega,h2⟩
   refine .inr ⟨fun j hj hj2 hb=>?_,h2⟩
   by_cases e:j=i
   ·subst e;exact absurd hb a
   exact h1 j (by omega) hj2 hb
  rw[if_neg (by omega)]
  exact .inr ⟨fun j hj hj2=>by omega,rfl⟩
theorem qeC {N:Nat} (hN:2000<N) (n1:1<=n) {s t:SB} (hs:s.Ok n):
 (∃j:Nat,j+1<n/\t.Begs j/\ ¬s.Ends j/\je N (s.li n) (t.li n)=some ((j:Int),true))\/((∀j,j+1<n->t.Begs j->s.Ends j)/\je N (s.li n) (t.li n)=some (0,false)):=by
 unfold je
 rw[Ud,show w64 ((n:Int)-1)=(n:Int)-1 from jy (by omega) (by omega)]
 have:=qbk hn hN (t:=t) hs N 0 (by omega) (by omega)
 rw[show((0:Nat):Int)=0 from rfl]at this
 rcases this with⟨j,_,h2,h3,h4,h5⟩|⟨h1,h2⟩
 ·exact .inl ⟨j,h2,h3,h4,by rw[h5];rfl⟩
 exact .inr ⟨fun j=>h1 j (Nat.zero_le _),by rw[h2];rfl⟩
end
theorem qgy {l0:List Int} {n:Nat} (hn:l0.length=n) (hb:n<=100000): ∀(K i:Nat) (l:List Int),l.length=n->2*i<=n+1->n+1<K+2*i->(∀k:Nat,k<n->l[k]? =if k<i\/n<=k+i then l0[n-1-k]? else l0[k]?)->qp K l (i:Int) ((n:Int)-1-i)=some l0.reverse
 |0,i,l,hl,h2,hK,hk=>by omega
 |K+1,i,l,hl,h2,hK,hk=>by
  unfold qp
  by_cases hi:(i:Int)<(n:Int)-1-i
  ·have e1:(n:Int)-1-i=((n-1-i:Nat):Int):=by omega
   have e2:w64 (((n-1-i:Nat):Int)-1)=(n:Int)-1-((i+1:Nat):Int):=by rw[jy (by omega) (by omega)];omega
   have q1:=hk (n-1-i) (by omega)
   have q2:=hk i (by omega)
   rw[if_neg (by omega)]at q1 q2
   have g1:l0[n-1-i]? =some l0[n-1-i]:=Ya (by omega)
   have g2:l0[i]? =some l0[i]:=Ya (by omega)
   rw[g1]at q1
   rw[g2]at q2
   rw[if_pos hi,e1,qN,q1,ZB,qN,q2,ZB,vH (by omega),ZB,qN,Yw (by omega),q1,ZB,vH (by simp;omega),ZB,za (by omega),e2]
   refine qgy hn hb K (i+1) _ (by simp;omega) (by omega) (by omega) (fun k hkn=>?_)
   by_cases c1:k=n-1-i
   ·subst c1
    rw[List.getElem?_set_self (by simp;omega),if_pos (by omega),show n-1-(n-1-i)=i by omega,g2]
   rw[Yw (fun e=>c1 e.symm)]
   by_cases c2:k=i
   ·subst c2
    rw[List.getElem?_set_self (by omega),if_pos (by omega),g1]
   rw[Yw (fun e=>c2 e.symm),hk k hkn]
   by_cases c3:k<i\/n<=k+i
   ·rw[if_pos c3,if_pos (by omega)]
   rw[if_neg c3,if_neg (by omega)]
  rw[if_neg hi]
  congr 1
  apply List.ext_getElem?
  intro k
  by_cases hkn:k<n
  ·rw[hk k hkn,List.getElem?_reverse (by omega),hn]
   by_cases c3:k<i\/n<=k+i
   ·rw[if_pos c3]
   rw[if_neg c3,show n-1-k=k by omega]
  rw[Yg (by omega),Yg (by simp;omega)]
theorem qdA {N:Nat} {l:List Int} (hN:l.length+1<N) (hb:l.length<=100000):zg N l=some l.reverse:=by
 unfold zg
 have:=qgy (l0:=l) rfl hb N 0 l rfl (by omega) (by omega) (fun k hk=>by rw[if_neg (by omega)])
 rw[jy (by omega) (by omega),show((l.length:Int)-1)=(l.length:Int)-1-((0:Nat):Int)by omega,show(0:Int)=((0:Nat):Int)from rfl]
 rw[this]
 rfl
theorem qh6 (n:Nat):(j5 n).reverse=(Uj n).li n:=by
 refine Un (by simp[jU]) fun k hk=>?_
 rw[List.getElem?_reverse (by rw[jU];exact hk),jU,qbl (by omega)]
 show _=some ((rv5 n k:Nat):Int)
 unfold rv5
 rw[if_pos hk]
theorem qft {N n:Nat} (hN:2000<N) (hn:n<=300):vP N (n:Int)=some ((Uj n).li n):=by
 unfold vP
 rw[qhl hN (by omega),ZB,qdA (by rw[jU];omega) (by rw[jU];omega),ZB,if_pos (by simp),ZB,qh6]
theorem qgR {n:Nat} (hn:n<=300): ∀(K i:Nat) (l:List Int),l.length=i->i<=n->n<K+i->(∀k,k<i->l[k]? =some ((rv5 n k:Nat):Int))->kY (n:Int) K l (i:Int)=some ((Uj n).li n)
 |0,i,l,hl,h,hK,hk=>by omega
 |K+1,i,l,hl,h,hK,hk=>by
  unfold kY
  by_cases hi:i<n
  ·have e:w64 (w64 ((n:Int)-1)-(i:Int))=((rv5 n i:Nat):Int):=by
    unfold rv5
    rw[if_pos hi,jy (n:=(n:Int)-1) (by omega) (by omega),jy (by omega) (by omega)]
    omega
   rw[if_pos (by omega),e,xQ (by simp only[Yr,List.length_nil];omega) (by simp only[Yr,List.length_nil];omega),ZB,za (by omega)]
   refine qgR hn K (i+1) _ (by simp[hl]) (by omega) (by omega) (fun k hki=>?_)
   by_cases c:k<i
   ·rw[Yf (by omega)];exact hk k c
   rw[Yo (by omega),show k-l.length=0 by omega,show k=i by omega]
   rfl
  rw[if_neg (by omega)]
  congr 1
  exact Un (by omega) fun k hkn=>hk k (by omega)
theorem qfk {N n:Nat} (hN:2000<N) (hn:n<=300):jk N (n:Int)=some ((Uj n).li n):=by
 unfold jk
 have:=qgR hn N 0 [] rfl (by omega) (by omega) (fun k hk=>by omega)
 rw[show((0:Nat):Int)=0 from rfl]at this
 rw[this,ZB]
end Go.Av
end
section
namespace Go.Av
def SB.comp (s t:SB):SB:=⟨fun k=>t.f (s.f k),fun k=>s.g (t.g k),fun k=>by rw[t.gf,s.gf],fun k=>by rw[s.fg,t.fg]⟩
theorem SB.Ok.comp {n:Nat} {s t:SB} (hs:s.Ok n) (ht:t.Ok n):(s.comp t).Ok n:=⟨fun k hk=>ht.f_ _ (hs.f_ k hk),fun k hk=>hs.g_ _ (ht.g_ k hk)⟩
section
variable {n:Nat} (hn:n<=300)
include hn
end
section
variable {n:Nat} (hn:n<=12) {N:Nat} (hN:2000<N)
include hn hN
end
end Go.Av
end
section
namespace Go.Av
structure MdOK (n:Int) (k:Nat) (r:List Int×Int):Prop where
 bad:r.2≠0->r.1=[]
 len:r.2=0->r.1.length<=k
 let_:r.2=0-> ∀c∈r.1,qg0 n c=true
theorem qfr {a b:List Int} (hl:a.length<=100000) (hab:a.length=b.length): ∀(K i:Nat),i<=a.length->a.length<K+i->qO a b K (i:Int)=some (if a.drop i=b.drop i then .inl ()else .inr false)
 |0,i,h,hK=>by omega
 |K+1,i,h,hK=>by
  unfold qO
  by_cases hi:i<a.length
  ·have hb:i<b.length:=by omega
   rw[if_pos (by omega),qN,Ya hi,qN,Ya hb,ZB,ZB,YG hi,YG hb]
   by_cases c:a[i]=b[i]
   ·rw[decide_eq_true c,if_neg (by decide),za (by omega),qfr hl hab K (i+1) (by omega) (by omega),c]
    simp only[List.cons.injEq,true_and]
   rw[decide_eq_false c,if_pos (by decide),if_neg (fun h=>c (List.cons.inj h).1)]
  rw[if_neg (by omega),List.drop_eq_nil_of_le (by omega),List.drop_eq_nil_of_le (by omega),if_pos rfl]
theorem qdW {N:Nat} {a b:List Int} (hl:a.length<=100000) (hN:a.length<N):zA N a b=some (decide (a=b)):=by
 unfold zA
 by_cases c:(a.length:Int)=(b.length:Int)
 ·have:=qfr hl (b:=b) (by omega) N 0 (by omega) (by omega)
  rw[show((0:Nat):Int)=0 from rfl,YR,YR]at this
  rw[decide_eq_true c,if_neg (by decide),this]
  by_cases e:a=b
  ·rw[if_pos e,decide_eq_true e];rfl
  rw[if_neg e,decide_eq_false e];rfl
 rw[decide_eq_false c,if_pos (by decide),decide_eq_false (fun e=>c (by rw[e]))]
end Go.Av
end
section
namespace Go.Av
theorem qgJ {a b:List Int} (hl:a.length<=100000) (hab:a.length=b.length): ∀(K i:Nat),i<=a.length->a.length<K+i->ko a b K (i:Int)=some (if a.drop i=b.drop i then .inl ()else .inr false)
 |0,i,h,hK=>by omega
 |K+1,i,h,hK=>by
  unfold ko
  by_cases hi:i<a.length
  ·have hb:i<b.length:=by omega
   rw[if_pos (by omega),qN,Ya hi,qN,Ya hb,ZB,ZB,YG hi,YG hb]
   by_cases c:a[i]=b[i]
   ·rw[decide_eq_true c,if_neg (by decide),za (by omega),qgJ hl hab K (i+1) (by omega) (by omega),c]
    simp only[List.cons.injEq,true_and]
   rw[decide_eq_false c,if_pos (by decide),if_neg (fun h=>c (List.cons.inj h).1)]
  rw[if_neg (by omega),List.drop_eq_nil_of_le (by omega),List.drop_eq_nil_of_le (by omega),if_pos rfl]
theorem qhN {N:Nat} {a b:List Int} (hl:a.length<=100000) (hN:a.length<N):slices_Equal_int N a b=some (decide (a=b)):=by
 unfold slices_Equal_int
 by_cases c:(a.length:Int)=(b.length:Int)
 ·have:=qgJ hl (b:=b) (by omega) N 0 (by omega) (by omega)
  rw[show((0:Nat):Int)=0 from rfl,YR,YR]at this
  rw[decide_eq_true c,if_neg (by decide),this]
  by_cases e:a=b
  ·rw[if_pos e,decide_eq_true e];rfl
  rw[if_neg e,decide_eq_false e];rfl
 rw[decide_eq_false c,if_pos (by decide),decide_eq_false (fun e=>c (by rw[e]))]
inductive WdB (n:Nat):SB->List Int->Prop
 |nil {s:SB} (h: ∀q,q+1<n-> ¬s.Begs q):WdB n s []
 |cons {s:SB} {i:Nat} {W:List Int} (hi:i+1<n) (hb:s.Begs i) (hm: ∀q,q<i-> ¬s.Begs q) (h:WdB n (s.fr i) W):WdB n s (((i+1:Nat):Int)::W)
theorem qeR {n:Nat} (s:SB):(∀q,q+1<n-> ¬s.Begs q)\/ ∃i,i+1<n/\s.Begs i/\ ∀q,q<i-> ¬s.Begs q:=by
 have go: ∀d i,i+d=n->(∀q,q<i-> ¬s.Begs q)->(∀q,q+1<n-> ¬s.Begs q)\/ ∃i,i+1<n/\s.Begs i/\ ∀q,q<i-> ¬s.Begs q:=by
  intro d
  induction d with
  |zero=>exact fun i hi h=> .inl fun q hq=>h q (by omega)
  |succ d ih=>
   intro i hi h
   by_cases c:i+1<n/\s.Begs i
   ·exact .inr ⟨i,c.1,c.2,h⟩
   by_cases e:i+1<n
   ·refine ih (i+1) (by omega) fun q hq=>?_
    by_cases g:q=i
    ·subst g;exact fun b=>c ⟨e,b⟩
    exact h q (by omega)
   exact .inl fun q hq=>h q (by omega)
 exact go n 0 (by omega) (fun q hq=>by omega)
theorem qhH {n:Nat}: ∀(M:Nat) (s:SB),s.inv n<=M-> ∃W,WdB n s W/\W.length<=M
 |M,s,hM=>by
  rcases qeR (n:=n) s with h|⟨i,hi,hb,hm⟩
  ·exact⟨[],.nil h,Nat.zero_le _⟩
  have:=SB.inv_fr hi hb
  cases M with
  |zero=>omega
  |succ M=>
   obtain⟨W,h1,h2⟩:=qhH (n:=n) M (s.fr i) (by omega)
   exact⟨_,.cons hi hb hm h1,by simp;omega⟩
theorem qfe: ∀l:List Nat,qbm l<=l.length*l.length
 |[]=>Nat.le_refl _
 |x::r=>by
  have h1:r.countP (fun y=>decide (y<x))<=r.length:=List.countP_le_length
  have h2:=qfe r
  simp only[qbm,Yr,Nat.add_mul,Nat.mul_add,Nat.one_mul,Nat.mul_one]
  omega
theorem SB.inv_le (n:Nat) (s:SB):s.inv n<=n*n:=by
 have:=qfe (s.row n)
 rwa [Uo]at this
theorem qhM (x y:Int):cmp_Less_int x y=some (decide (x<y)):=by
 unfold cmp_Less_int cmp_isNaN_int
 simp
section
variable {n:Nat} (hn:n<=12) (n1:1<=n)
include hn n1
theorem qe2 (s:SB): ∀(K i:Nat),i+1<=n->n<K+i->
 (∃j,i<=j/\j+1<n/\s.Begs j/\(∀q,i<=q->q<j-> ¬s.Begs q)/\qz (s.li n) K (i:Int)=some (j:Int))\/((∀q,i<=q->q+1<n-> ¬s.Begs q)/\qz (s.li n) K (i:Int)=some ((n-1:Nat):Int))
 |0,i,h,hK=>by omega
 |K+1,i,h,hK=>by
  unfold qz
  rw[Ud,za (by omega)]
  by_cases hi:i+1<n
  ·rw[if_pos (by omega),qbp (by omega) s hi,ZB,ZB]
   by_cases a:s.f (i+1)<s.f i
   ·rw[decide_eq_true a,if_neg (by decide)]
    exact .inl ⟨i,Nat.le_refl _,hi,a,fun q h1 h2=>by omega,rfl⟩
   rw[decide_eq_false a,if_pos (by decide)]
   rcases qe2 s K (i+1) (by omega) (by omega)with⟨j,h1,h2,h3,h4,h5⟩|⟨h1,h2⟩
   ·refine .inl ⟨j,by omega,h2,h3,fun q g1 g2=>?_,h5⟩
    by_cases e:q=i
    ·subst e;exact a
    exact h4 q (by omega) g2
   refine .inr ⟨fun q g1 g2=>?_,h2⟩
   by_cases e:q=i
   ·subst e;exact a
   exact h1 q (by omega) g2
  rw[if_neg (by omega),ZB,if_neg (by decide)]
  exact .inr ⟨fun q g1 g2=>by omega,by rw[show n-1=i by omega]⟩
theorem qe0 {N:Nat} (hN:2000<N): ∀(W:List Int) {s:SB},WdB n s W-> ∀(K:Nat) (out:List Int),W.length<K->out.length+W.length<=100000->qU N K out (s.li n)=some (out++W)
 |W,s,h,0,out,hK,hb=>by omega
 |W,s,h,K+1,out,hK,hb=>by
  unfold qU
  have l1:=qe2 hn n1 s N 0 (by omega) (by omega)
  rw[show((0:Nat):Int)=0 from rfl]at l1
  cases h with
  |nil h=>
   rcases l1 with⟨j,_,h2,h3,_⟩|⟨_,h2⟩
   ·exact absurd h3 (h j h2)
   rw[h2,ZB,za (by omega),Ud,if_pos (by omega),List.append_nil]
  |@cons _ i W hi hb' hm h=>
   rcases l1 with⟨j,_,h2,h3,h4,h5⟩|⟨h1,_⟩
   ·have e:j=i:=by
     rcases Nat.lt_trichotomy j i with c|c|c
     ·exact absurd h3 (hm j c)
     ·exact c
     exact absurd hb' (h4 i (by omega) c)
    subst e
    simp only[Yr]at hK hb
    rw[h5,ZB,za (by omega),Ud,if_neg (by omega),qex (by omega) s hi,ZB,xQ (by simp only[Yr,List.length_nil];omega) (by simp only[Yr,List.length_nil];omega),ZB,
     qe0 hN W h K _ (by omega) (by simp;omega)]
    simp
   exact absurd hb' (h1 i (Nat.zero_le _) hi)
theorem qfs {N:Nat} (hN:2000<N) {s:SB} {W:List Int} (h:WdB n s W) (hl:W.length<=1000):kr N (s.li n)=some W:=by
 unfold kr
 have hc:qai (s.li n)=some ():=by
  unfold qai
  rw[Ud,if_pos (by omega)]
 rw[hc,ZB,qe0 hn n1 hN W h N [] (by omega) (by simp;omega),ZB,List.nil_append]
theorem qbv {N:Nat}: ∀(K:Nat) (W:List Int) {s:SB},WdB n s W-> ∀(i:Nat) (out:List Int),1<=i->i<=n->(∀q,q+1<i-> ¬s.Begs q)->(W.length+1)*(n+1)<K+i->out.length+W.length<=100000->zF K (s.li n) out (i:Int)=some (out++W)
 |0,W,s,h,i,out,h1,h2,hd,hK,hb=>by
  rw[Nat.succ_mul]at hK
  omega
 |K+1,W,s,h,i,out,h1,h2,hd,hK,hb=>by
  unfold zF
  rw[Ud]
  by_cases hi:i<n
  ·obtain⟨m,rfl⟩: ∃m,i=m+1:=⟨i-1,by omega⟩
   have e:w64 (((m+1:Nat):Int)-1)=(m:Int):=by rw[jy (by omega) (by omega)];omega
   rw[if_pos (by omega),e,Uf (by omega),Uf hi]
   simp only[ZB]
   by_cases a:s.f m<s.f (m+1)
   ·rw[if_pos (by omega),za (by omega)]
    simp only[ZB]
    refine qbv (N:=N) K W h (m+1+1) out (by omega) (by omega) (fun q hq=>?_) (by omega) hb
    by_cases c:q=m
    ·subst c
     show¬s.f (q+1)<s.f q
     omega
    exact hd q (by omega)
   have hb2:s.Begs m:=by
    show s.f (m+1)<s.f m
    have:s.f m≠s.f (m+1):=fun c=>by have:=s.finj c;omega
    omega
   cases h with
   |nil h=>exact absurd hb2 (h m hi)
   |@cons _ j W hj hb' hm h=>
    have e2:j=m:=by
     rcases Nat.lt_trichotomy j m with c|c|c
     ·exact absurd hb' (hd j (by omega))
     ·exact c
     exact absurd hb2 (hm m c)
    subst e2
    simp only[Yr]at hK hb
    rw[Nat.succ_mul]at hK
    have hl:=Ud n s
    have sw:((s.li n).set j ((s.f (j+1):Nat):Int)).set (j+1) ((s.f j:Nat):Int)=(s.fr j).li n:=by
     refine Un (by simp[hl]) fun k hk=>?_
     show _=some ((s.f (tr5 j k):Nat):Int)
     rcases y7 j k with⟨rfl,e⟩|⟨rfl,e⟩|⟨a,b,e⟩<;>rw[e]
     ·rw[Yw (by omega),List.getElem?_set_self (by omega)]
     ·rw[List.getElem?_set_self (by simp;omega)]
     rw[Yw (by omega),Yw (by omega),Ui s hk]
    rw[if_neg (by omega),xQ (by simp only[Yr,List.length_nil];omega) (by simp only[Yr,List.length_nil];omega)]
    simp only[ZB]
    rw[vH (by omega)]
    simp only[ZB]
    rw[qN,Yw (by omega),Ui s hi]
    simp only[ZB]
    rw[vH (by simp;omega)]
    simp only[ZB]
    rw[sw]
    have:=qbv (N:=N) K W h 1 (out++[((j+1:Nat):Int)]) (Nat.le_refl _) (by omega) (fun q hq=>by omega) (by omega) (by simp;omega)
    rw[show((1:Nat):Int)=1 from rfl]at this
    rw[this]
    simp
  rw[if_neg (by omega)]
  cases h with
  |nil h=>rw[List.append_nil]
  |@cons _ j W hj hb' hm h=>exact absurd hb' (hd j (by omega))
theorem qet {N:Nat} (hN:20000<N) {s:SB} {W:List Int} (h:WdB n s W) (hl:W.length<=1000):kD N (s.li n)=some W:=by
 unfold kD
 have hk:(W.length+1)*(n+1)<=1001*13:=Nat.mul_le_mul (by omega) (by omega)
 have:=qbv hn n1 (N:=N) N W h 1 [] (Nat.le_refl _) n1 (fun q hq=>by omega) (by omega) (by simp;omega)
 rw[show((1:Nat):Int)=1 from rfl]at this
 rw[xQ (by simp[Ud];omega) (by simp[Ud];omega),ZB,List.nil_append,this,ZB,List.nil_append]
theorem qbe {N:Nat} (hN:20000<N) (s:SB): ∃W,kr N (s.li n)=some W/\kD N (s.li n)=some W/\W.length<=n*n/\ ∀c∈W,1<=c/\c<n:=by
 have hi:=SB.inv_le n s
 have hnn:n*n<=12*12:=Nat.mul_le_mul hn hn
 obtain⟨W,h1,h2⟩:=qhH (n:=n) (n*n) s hi
 refine⟨W,qfs hn n1 (by omega) h1 (by omega),qet hn n1 hN h1 (by omega),h2,?_⟩
 clear h2 hi
 induction h1 with
 |nil=>intro c hc;cases hc
 |cons hi _ _ _ ih=>
  intro c hc
  rcases List.mem_cons.1 hc with rfl|hc
  ·omega
  exact ih c hc
theorem qd7 (s:SB): ∀(K i:Nat),i<n->i<K->(∀q,i<=q->q+1<n-> ¬s.Begs q)-> ∃r,qC (s.li n) K (i:Int)=some r/\((r= .inl ()/\ ∀q,q+1<n-> ¬s.Begs q)\/(r= .inr false/\ ∃q,q+1<n/\s.Begs q))
 |0,i,h,hK,hd=>by omega
 |K+1,i,h,hK,hd=>by
  unfold qC
  cases i with
  |zero=>
   rw[if_neg (by omega)]
   exact⟨_,rfl,.inl ⟨rfl,fun q hq=>hd q (Nat.zero_le _) hq⟩⟩
  |succ i=>
   have e:w64 (((i+1:Nat):Int)-1)=(i:Int):=by rw[jy (by omega) (by omega)];omega
   rw[if_pos (by omega),e,Uf h,Uf (by omega)]
   simp only[ZB,qhM]
   by_cases a:s.f (i+1)<s.f i
   ·rw[decide_eq_true (show((s.f (i+1):Nat):Int)<(s.f i:Int)by omega),if_pos rfl]
    exact⟨_,rfl,.inr ⟨rfl,i,h,a⟩⟩
   rw[decide_eq_false (show¬((s.f (i+1):Nat):Int)<(s.f i:Int)by omega),if_neg (by decide)]
   refine qd7 s K i (by omega) (by omega) fun q h1 h2=>?_
   by_cases c:q=i
   ·subst c;exact a
   exact hd q (by omega) h2
theorem qhB {N:Nat} (hN:2000<N) (s:SB): ∃b,zQ N (s.li n)=some b/\(b=true↔ ∀q,q+1<n-> ¬s.Begs q):=by
 unfold zQ slices_IsSorted_int
 have e:w64 ((((s.li n).length:Nat):Int)-1)=((n-1:Nat):Int):=by rw[Ud,jy (by omega) (by omega)];omega
 obtain⟨r,r1,r2⟩:=qd7 hn n1 s N (n-1) (by omega) (by omega) (fun q h1 h2=>by omega)
 rw[e,r1]
 rcases r2 with⟨rfl,r3⟩|⟨rfl,q,q1,q2⟩
 ·exact⟨true,rfl,fun _=>r3,fun _=>rfl⟩
 exact⟨false,rfl,fun h=>(by cases h),fun h=>absurd q2 (h q q1)⟩
theorem qiU {s:SB} (hs:s.Ok n):(∀q,q+1<n-> ¬s.Begs q)↔s.li n=j5 n:=by
 constructor
 ·intro h
  have lo: ∀k,k<n->k<=s.f k:=by
   intro k
   induction k with
   |zero=>exact fun _=>Nat.zero_le _
   |succ k ih=>
    intro hk
    have h1:=ih (by omega)
    have h2:=h k hk
    have h3:s.f k≠s.f (k+1):=fun c=>by have:=s.finj c;omega
    have h4: ¬s.f (k+1)<s.f k:=h2
    omega
  have hi: ∀d,d<n->s.f (n-1-d)<=n-1-d:=by
   intro d
   induction d with
   |zero=>
    intro hd
    have:=hs.f_ (n-1-0) (by omega)
    omega
   |succ d ih=>
    intro hd
    have h1:=ih (by omega)
    have h2: ¬s.f (n-1-(d+1)+1)<s.f (n-1-(d+1)):=h (n-1-(d+1)) (by omega)
    have h3:s.f (n-1-(d+1))≠s.f (n-1-(d+1)+1):=fun c=>by have:=s.finj c;omega
    have e:n-1-(d+1)+1=n-1-d:=by omega
    rw[e]at h2 h3
    omega
  refine(Un (jU n) fun k hk=>?_).symm
  rw[qbl hk]
  have h1:=lo k hk
  have h2:=hi (n-1-k) (by omega)
  rw[show n-1-(n-1-k)=k by omega]at h2
  congr 1
  omega
 intro h q hq hb
 have e: ∀k,k<n->s.f k=k:=fun k hk=>SB.li_inj (t:=SB.id) h hk
 have hb:s.f (q+1)<s.f q:=hb
 rw[e _ hq,e _ (by omega)]at hb
 omega
end
end Go.Av
end
section
namespace Go.Av
theorem qbV (n:Int):zn n=some (if n<1\/12<n then 3 else 0):=by
 unfold zn
 by_cases a:n<1
 ·rw[if_pos a,if_pos (.inl a)];rfl
 rw[if_neg a,qcn]
 by_cases b:12<n
 ·rw[decide_eq_true (show n>12 from b),if_pos rfl,if_pos (.inr b)];rfl
 rw[decide_eq_false (show¬n>12 from b),if_neg (by decide),if_neg (by omega)];rfl
theorem qdL {N:Nat} (hN:2000<N) (n:Int) {p:List Int} (hl:p.length<=1000): ∃e,zN N p=some e/\ze N p=some e/\zX N n p=some (qaU [if(p.length:Int)=n then 0 else 2,e])/\(p.length<=256->e=0\/e=15)/\(e=0-> ∃s:SB,s.Ok p.length/\p=s.li p.length):=by
 obtain⟨e,e1,e2,e3,e4⟩:=qfE hN hl
 refine⟨e,e1,e2,?_,e4,fun h=>sb_of (e3 h)⟩
 unfold zX
 rw[qcn,ZB,e1,ZB,qbu (by simp) (by simp;omega),ZB]
 by_cases c:(p.length:Int)=n
 ·rw[decide_eq_true c,if_pos c,if_neg (by decide)]
 rw[decide_eq_false c,if_neg c,if_pos (show(!false)=true from rfl)]
theorem qdw {N:Nat} (hN:20000<N) (n:Int) {p:List Int} (hl:p.length<=1000): ∃(o:Int) (W:List Int) (e:Int),ze N p=some e/\qaU [if n<1\/12<n then 3 else 0,if(p.length:Int)=n then 0 else 2,if e=0 then 0 else 15]=o/\vE N n p=some (W,o)/\(o≠0->W=[])/\(o=0->kD N p=some W/\W.length<=200):=by
 obtain⟨e,e1,e2,e3,e4,e5⟩:=qdL (N:=N) (by omega) n hl
 unfold vE
 rw[qbV,ZB,e3,ZB,qbu (by simp) (by simp;omega),ZB]
 by_cases a:n<1\/12<n
 ·rw[if_pos a,xZ (show(3:Int)≠0 by decide),if_pos (show(!decide ((3:Int)=0))=true from rfl)]
  exact⟨3,[],e,e2,by rw[xZ (by decide)],rfl,fun _=>rfl,fun h=>absurd h (by decide)⟩
 rw[if_neg a,yG,qcs]
 by_cases b:(p.length:Int)=n
 ·rw[if_pos b,yG,qcs]
  by_cases c:e=0
  ·subst c
   obtain⟨s,s1,s2⟩:=e5 rfl
   rw[if_neg (by decide)]
   have hn:p.length<=12:=by omega
   obtain⟨W,w1,w2,w3,w4⟩:=qbe hn (by omega) hN s
   rw[<-s2]at w1 w2
   have hnn:p.length*p.length<=12*12:=Nat.mul_le_mul hn hn
   refine⟨0,W,0,e2,?_,by rw[w1,ZB],fun h=>absurd rfl h,fun _=>⟨w2,by omega⟩⟩
   rw[yG,yG,if_pos rfl]
   rfl
  have e15:e=15:=by rcases e4 (by omega)with h|h;exact absurd h c;exact h
  subst e15
  rw[if_pos (by decide)]
  exact⟨15,[],15,e2,by rw[yG,yG,if_neg (by decide)];rfl,rfl,fun _=>rfl,fun h=>absurd h (by decide)⟩
 rw[if_neg b,xZ (show(2:Int)≠0 by decide),if_pos (by decide)]
 exact⟨2,[],e,e2,by rw[yG,xZ (by decide)],rfl,fun _=>rfl,fun h=>absurd h (by decide)⟩
section
variable {k:Nat} (hk:k<=12) (k1:1<=k)
include hk k1
theorem qfS {N:Nat} (hN:2000<N) (s:SB):vZ N (s.li k)=some (decide (s.li k=j5 k)||decide (s.li k=(Uj k).li k)):=by
 unfold vZ
 have hl:=Ud k s
 rw[hl,qfQ hN (by omega),ZB,qdW (by omega) (by omega),ZB]
 by_cases c:s.li k=j5 k
 ·rw[decide_eq_true c,if_pos rfl];rfl
 rw[decide_eq_false c,if_neg (by decide),qfk hN (by omega),ZB,qdW (by omega) (by omega),ZB];rfl
theorem qdY {N:Nat} (hN:2000<N) {f:zV} {i:Nat} {s t:SB} (hi:i<f.Factors.length) (hf:f.Factors.length<=300) (ht:i=0\/(t.Ok k/\f.Factors[i-1]? =some (t.li k))): ∀(K q:Nat),q+1<=k->k<K+q->
 ∃r,kG N (k:Int) f (i:Int) (s.li k) K ((q+1:Nat):Int)=some r/\((r= .inr 1/\0<i/\ ∃j,q<=j/\j+1<k/\s.Begs j/\ ¬t.Ends j)\/(r= .inl ()/\(0<i-> ∀j,q<=j->j+1<k->s.Begs j->t.Ends j)))
 |0,q,h,hK=>by omega
 |K+1,q,h,hK=>by
  unfold kG
  by_cases hq:q+1<k
  ·rw[if_pos (by omega)]
   rcases Nat.eq_zero_or_pos i with i0|ip
   ·subst i0
    simp only[ZB]
    rw[if_neg (by simp)]
    exact⟨_,rfl,.inr ⟨rfl,fun h=>by omega⟩⟩
   obtain⟨t1,t2⟩:=ht.resolve_left (by omega)
   simp only[ZB]
   rw[if_pos (by simp;omega),qbR (by omega) s hq]
   simp only[ZB]
   have ei:w64 ((i:Int)-1)=((i-1:Nat):Int):=qgt (by omega) ip
   have next:=qdY hN (s:=s) hi hf ht K (q+1) (by omega) (by omega)
   by_cases a:s.f (q+1)<s.f q
   ·rw[decide_eq_true a,if_pos rfl,ei,qN,t2]
    simp only[ZB]
    rw[qgr (by omega) hN t1 hq]
    simp only[ZB]
    by_cases b:t.g (q+1)<t.g q
    ·rw[decide_eq_true b,if_neg (by decide),za (by omega)]
     obtain⟨r,r1,r2⟩:=next
     refine⟨r,r1,?_⟩
     rcases r2 with⟨g1,g2,j,g3,g4⟩|⟨g1,g2⟩
     ·exact .inl ⟨g1,g2,j,by omega,g4⟩
     refine .inr ⟨g1,fun _ j h1 h2 h3=>?_⟩
     by_cases c:j=q
     ·subst c;exact b
     exact g2 ip j (by omega) h2 h3
    rw[decide_eq_false b,if_pos (by decide)]
    exact⟨_,rfl,.inl ⟨rfl,ip,q,Nat.le_refl _,hq,a,b⟩⟩
   rw[decide_eq_false a,if_neg (by decide)]
   simp only[ZB]
   rw[if_neg (by decide),za (by omega)]
   obtain⟨r,r1,r2⟩:=next
   refine⟨r,r1,?_⟩
   rcases r2 with⟨g1,g2,j,g3,g4⟩|⟨g1,g2⟩
   ·exact .inl ⟨g1,g2,j,by omega,g4⟩
   refine .inr ⟨g1,fun _ j h1 h2 h3=>?_⟩
   by_cases c:j=q
   ·subst c;exact absurd h3 a
   exact g2 ip j (by omega) h2 h3
  rw[if_neg (by omega)]
  simp only[ZB]
  rw[if_neg (by decide)]
  exact⟨_,rfl,.inr ⟨rfl,fun _ j h1 h2=>by omega⟩⟩
theorem qfb {N:Nat} (hN:20000<N) {f:zV} (hf:f.Factors.length<=300) (hx: ∀x∈f.Factors,x.length<=14): ∀(K i:Nat),i<=f.Factors.length->f.Factors.length<K+i->(∀j,j<i-> ∃s:SB,s.Ok k/\f.Factors[j]? =some (s.li k))->
 ∃r,kF N (k:Int) f K (i:Int)=some r/\kN N (k:Int) f K (i:Int)=some r/\((∃e,e≠0/\r= .inr e)\/(r= .inl ()/\ ∀j,j<f.Factors.length-> ∃s:SB,s.Ok k/\f.Factors[j]? =some (s.li k)))
 |0,i,h,hK,hp=>by omega
 |K+1,i,h,hK,hp=>by
  unfold kF kN
  by_cases hi:i<f.Factors.length
  ·obtain⟨x,hxi⟩: ∃x,f.Factors[i]? =some x:=⟨_,Ya hi⟩
   have hxl:=hx x (Yn hxi)
   obtain⟨e,e1,e2,e3,e4,e5⟩:=qdL (N:=N) (by omega) (k:Int) (p:=x) (by omega)
   rw[if_pos (by omega),if_pos (by omega),qN,hxi]
   simp only[ZB]
   rw[e3]
   simp only[ZB]
   by_cases c:(x.length:Int)=(k:Int)
   ·rw[if_pos c,yG,qcs,decide_eq_true c,if_neg (show¬(!true)=true by decide),e2]
    simp only[ZB]
    rcases e4 (by omega)with z|z
    ·subst z
     obtain⟨s,s1,s2⟩:=e5 rfl
     have hxk:x.length=k:=by omega
     rw[hxk]at s1 s2
     subst s2
     simp only[decide_true,Bool.not_true,ZF,if_false]
     obtain⟨b,b1,b2⟩:=qhB hk k1 (N:=N) (by omega) s
     rw[qiU hk k1 s1]at b2
     have bd:b=decide (s.li k=j5 k):=by
      by_cases g:s.li k=j5 k
      ·rw[decide_eq_true g];exact b2.2 g
      rw[decide_eq_false g]
      cases b with
      |false=>rfl
      |true=>exact absurd (b2.1 rfl) g
     rw[bd]at b1
     have hl:=Ud k s
     rw[qfS hk k1 (by omega) s]
     simp only[ZB,b1]
     rw[qft (N:=N) (by omega) (by omega)]
     simp only[ZB]
     have seq:slices_Equal_int N (s.li k) ((Uj k).li k)=some (decide (s.li k=(Uj k).li k)):=qhN (by omega) (by omega)
     rw[seq]
     have T: ∃t:SB,i=0\/(t.Ok k/\f.Factors[i-1]? =some (t.li k)):=by
      rcases Nat.eq_zero_or_pos i with i0|ip
      ·exact⟨SB.id,.inl i0⟩
      obtain⟨t,t1,t2⟩:=hp (i-1) (by omega)
      exact⟨t,.inr ⟨t1,t2⟩⟩
     obtain⟨t,ht⟩:=T
     obtain⟨r,r1,r2⟩:=qdY hk k1 (N:=N) (by omega) (s:=s) hi hf ht N 0 (by omega) (by omega)
     rw[show((0+1:Nat):Int)=1 from rfl]at r1
     have next:=qfb hN hf hx K (i+1) (by omega) (by omega) (fun j hj=>by
      by_cases g:j=i
      ·subst g;exact⟨s,s1,hxi⟩
      exact hp j (by omega))
     have L:(if(i:Int)>0 then(idx f.Factors (w64 ((i:Int)-1))).bind fun x34=>(je N x34 (s.li k)).bind fun r35=>some r35.2 else some false:Option Bool)=some (decide (r= .inr 1)):=by
      rcases Nat.eq_zero_or_pos i with i0|ip
      ·subst i0
       rw[if_neg (by omega)]
       rcases r2 with⟨_,g,_⟩|⟨g1,_⟩
       ·omega
       subst g1;rfl
      obtain⟨t1,t2⟩:=ht.resolve_left (by omega)
      rw[if_pos (by omega),show w64 ((i:Int)-1)=((i-1:Nat):Int)from qgt (by omega) ip,qN,t2,ZB]
      rcases qeC (n:=k) (by omega) (N:=N) (by omega) k1 (t:=s) t1 with⟨j,j1,j2,j3,j4⟩|⟨j1,j2⟩
      ·rw[j4]
       rcases r2 with⟨g1,_⟩|⟨g1,g2⟩
       ·subst g1;rfl
       exact absurd (g2 ip j (Nat.zero_le _) j1 j2) j3
      rw[j2]
      rcases r2 with⟨g1,_,j,g2,g3,g4,g5⟩|⟨g1,g2⟩
      ·exact absurd (j1 j g3 g4) g5
      subst g1;rfl
     rw[L]
     simp only[ZB]
     by_cases d1:r= .inr 1
     ·subst d1
      rw[decide_eq_true rfl,if_pos rfl,ZB,if_pos rfl]
      refine⟨.inr 1,rfl,?_,.inl ⟨1,by decide,rfl⟩⟩
      by_cases d2:(decide (s.li k=j5 k)||decide (s.li k=(Uj k).li k))=true
      ·rw[if_pos d2]
      rw[if_neg d2,r1];rfl
     have d3:r= .inl ():=by
      rcases r2 with⟨g,_⟩|⟨g,_⟩
      ·exact absurd g d1
      exact g
     subst d3
     rw[decide_eq_false d1,if_neg (by decide)]
     by_cases d2:s.li k=j5 k
     ·rw[decide_eq_true d2]
      simp only[if_true,ZB,Bool.true_or]
      exact⟨.inr 1,rfl,rfl,.inl ⟨1,by decide,rfl⟩⟩
     rw[decide_eq_false d2]
     simp only[ZF,if_false,ZB,Bool.false_or]
     by_cases d4:s.li k=(Uj k).li k
     ·rw[decide_eq_true d4]
      exact⟨.inr 1,rfl,rfl,.inl ⟨1,by decide,rfl⟩⟩
     rw[decide_eq_false d4,if_neg (by decide),if_neg (by decide),r1,za (by omega)]
     exact next
    subst z
    rw[if_pos (by decide),if_pos (by decide)]
    exact⟨_,rfl,rfl,.inl ⟨15,by decide,rfl⟩⟩
   rw[if_neg c,xZ (by decide),if_pos (by decide),decide_eq_false c,if_pos (by decide)]
   exact⟨_,rfl,rfl,.inl ⟨2,by decide,rfl⟩⟩
  rw[if_neg (by omega),if_neg (by omega)]
  exact⟨_,rfl,rfl,.inr ⟨rfl,fun j hj=>hp j (by omega)⟩⟩
end
structure FOK (k:Nat) (f:zV):Prop where
 k1:1<=k
 k2:k<=12
 half: -200<=f.Half/\f.Half<=200
 one:k=1->f.Half=0
 few:f.Factors.length<=200
 at_: ∀j,j<f.Factors.length-> ∃s:SB,s.Ok k/\f.Factors[j]? =some (s.li k)
theorem qfg (h:Int) (hh: -200<=h/\h<=200):ji h=some ((h.natAbs:Nat):Int):=qh7 (by omega)
theorem qif {h:Int} (hh:200<h): ∃a:Int,ji h=some a/\a>200:=by
 unfold ji
 by_cases c:w64 (0-h)>h
 ·rw[if_pos c];exact⟨_,rfl,by omega⟩
 rw[if_neg c];exact⟨_,rfl,by omega⟩
theorem qib (h:Int): ∃a:Int,ji h=some a:=by
 unfold ji
 split<;>exact⟨_,rfl⟩
theorem qei {N:Nat} (hN:20000<N) {n:Int} {f:zV} (hf:f.Factors.length<=300) (hx: ∀x∈f.Factors,x.length<=14):
 ∃e,zH N n f=some e/\jG N n f=some e/\(e=0-> ∃k:Nat,n=k/\FOK k f):=by
 have bf: ∀a b c:Int,zy N [a,b,c]=some (qaU [a,b,c]):=fun a b c=>qbu (by simp) (by simp;omega)
 unfold zH jG
 rw[qbV]
 simp only[ZB,bf,qcn,if_true]
 obtain⟨a,ha⟩:=qib f.Half
 rw[ha]
 simp only[ZB]
 by_cases A:n<1\/12<n
 ·have R:(if n<1 then some true else if n>12 then some true else if f.Half<(-200)then some true else if f.Half>200 then some true else if n=1 then some (!decide (f.Half=0))else some false:Option Bool)=some true:=by
   by_cases c:n<1
   ·rw[if_pos c]
   rw[if_neg c,if_pos (by omega)]
  rw[R]
  simp only[ZB,if_true,if_pos A,xZ (show(3:Int)≠0 by decide)]
  refine⟨3,?_,rfl,fun h=>absurd h (by decide)⟩
  by_cases c1:a>200
  ·rw[if_pos c1];rfl
  rw[if_neg c1]
  by_cases c2:f.Half< -200
  ·rw[if_pos c2];rfl
  rw[if_neg c2]
  by_cases c3:n=1
  ·rw[if_pos c3];rfl
  rw[if_neg c3];rfl
 by_cases B:f.Half< -200\/200<f.Half\/(n=1/\f.Half≠0)
 ·have R:(if n<1 then some true else if n>12 then some true else if f.Half<(-200)then some true else if f.Half>200 then some true else if n=1 then some (!decide (f.Half=0))else some false:Option Bool)=some true:=by
   rw[if_neg (by omega),if_neg (by omega)]
   by_cases c:f.Half< -200
   ·rw[if_pos c]
   rw[if_neg c]
   by_cases d:f.Half>200
   ·rw[if_pos d]
   have g:n=1/\f.Half≠0:=by omega
   rw[if_neg d,if_pos g.1,decide_eq_false g.2];rfl
  rw[R]
  simp only[ZB,if_true,if_neg A,yG,xZ (show(3:Int)≠0 by decide)]
  refine⟨3,?_,rfl,fun h=>absurd h (by decide)⟩
  by_cases c1:a>200
  ·rw[if_pos c1];rfl
  rw[if_neg c1]
  by_cases c2:f.Half< -200
  ·rw[if_pos c2];rfl
  rw[if_neg c2]
  by_cases d:f.Half>200
  ·obtain⟨a',h1,h2⟩:=qif (h:=f.Half) d
   rw[ha]at h1
   have:=Ye h1
   omega
  have g:n=1/\f.Half≠0:=by omega
  rw[if_pos g.1,decide_eq_false g.2];rfl
 obtain⟨k,rfl⟩: ∃k:Nat,n=k:=⟨n.toNat,by omega⟩
 have hab:=qfg f.Half (by omega)
 rw[ha]at hab
 obtain rfl:=Ye hab
 have R:(if(k:Int)<1 then some true else if(k:Int)>12 then some true else if f.Half<(-200)then some true else if f.Half>200 then some true else if(k:Int)=1 then some (!decide (f.Half=0))else some false:Option Bool)=some false:=by
  rw[if_neg (by omega),if_neg (by omega),if_neg (by omega),if_neg (by omega)]
  by_cases c:(k:Int)=1
  ·rw[if_pos c,decide_eq_true (show f.Half=0 by omega)];rfl
  rw[if_neg c]
 rw[R]
 simp only[ZB,if_neg A,yG,qcs,ZF,if_false]
 rw[if_neg (show¬((f.Half.natAbs:Nat):Int)>200 by omega),if_neg (show¬f.Half< -200 by omega)]
 have T: ∀X:Int×Int×Int×Int->Option Int,(Option.bind (if(k:Int)=1 then some ((0:Int),(if(!decide (f.Half=0))=true then(3:Int)else 0),(if decide ((f.Factors.length:Int)>200)=true then(5:Int)else 0),qaU [(if(!decide (f.Half=0))=true then(3:Int)else 0),(if decide ((f.Factors.length:Int)>200)=true then(5:Int)else 0)])else some (0,0,(if decide ((f.Factors.length:Int)>200)=true then(5:Int)else 0),(if decide ((f.Factors.length:Int)>200)=true then(5:Int)else 0))) X)=X (0,0,(if decide ((f.Factors.length:Int)>200)=true then 5 else 0),(if decide ((f.Factors.length:Int)>200)=true then 5 else 0)):=by
  intro X
  by_cases c:(k:Int)=1
  ·rw[if_pos c,decide_eq_true (show f.Half=0 by omega)]
   simp only[Bool.not_true,ZF,if_false,yG,qcs,ZB]
  rw[if_neg c,ZB]
 rw[T]
 by_cases C:200<f.Factors.length
 ·rw[if_pos (show(f.Factors.length:Int)>200 by omega),decide_eq_true (show(f.Factors.length:Int)>200 by omega)]
  exact⟨5,rfl,rfl,fun h=>absurd h (by decide)⟩
 rw[if_neg (show¬(f.Factors.length:Int)>200 by omega),decide_eq_false (show¬(f.Factors.length:Int)>200 by omega)]
 obtain⟨r,r1,r2,r3⟩:=qfb (k:=k) (by omega) (by omega) hN (f:=f) hf hx N 0 (by omega) (by omega) (fun j hj=>by omega)
 rw[show((0:Nat):Int)=0 from rfl]at r1 r2
 simp only[ZF,if_false,decide_true,Bool.not_true]
 rw[r1,r2]
 rcases r3 with⟨e,e1,rfl⟩|⟨rfl,h⟩
 ·exact⟨e,rfl,rfl,fun h=>absurd h e1⟩
 exact⟨0,rfl,rfl,fun _=>⟨k,rfl,by omega,by omega,by omega,by omega,by omega,h⟩⟩
end Go.Av
end
section
namespace Go.Av
theorem qiz {f:zV} {w:List Int} (hh: -200<=f.Half/\f.Half<=200) (hl:w.length<=200): ∀(K i:Nat) (l:List Int),i<=f.Half.natAbs->f.Half.natAbs<K+i->l.length=w.length*i->Rep w l (w.length*i)-> ∃r,zP f w K l (i:Int)=some r/\r.length=w.length*f.Half.natAbs/\Rep w r (w.length*f.Half.natAbs)
 |0,i,l,h,hK,hl',hr=>by omega
 |K+1,i,l,h,hK,hl',hr=>by
  unfold zP
  rw[qgh (by omega),ZB]
  by_cases c:i<f.Half.natAbs
  ·have hb:w.length*i<=200*200:=Nat.mul_le_mul hl (by omega)
   rw[if_pos (by omega),xQ (by omega) (by omega),ZB,za (by omega)]
   refine qiz hh hl K (i+1) _ (by omega) (by omega) (by rw[Yq,hl',Nat.mul_succ]) (fun j hj=>?_)
   rw[Nat.mul_succ]at hj
   by_cases g:j<w.length*i
   ·rw[Yf (by omega)]
    exact hr j g
   rw[Yo (by omega),hl',show j=j-w.length*i+w.length*i by omega,Nat.add_mul_mod_self_left,Nat.add_sub_cancel,Nat.mod_eq_of_lt (by omega)]
  rw[if_neg (by omega)]
  have:i=f.Half.natAbs:=by omega
  subst this
  exact⟨l,rfl,hl',hr⟩
theorem qeS {N:Nat} (hN:50000<N) {w:List Int} {k:Nat} (hl:w.length<=200) (hk:k<=200) (h0:w.length=0->k=0): ∃r,qW N w (k:Int)=some r/\r.length=w.length*k/\Rep w r (w.length*k):=by
 by_cases c:0<w.length
 ·exact qfB hN c hl hk
 obtain rfl:w=[]:=List.eq_nil_of_length_eq_zero (by omega)
 obtain rfl:=h0 rfl
 obtain⟨K,rfl⟩: ∃K,N=K+1:=⟨N-1,by omega⟩
 refine⟨[],?_,rfl,fun i hi=>by simp at hi⟩
 unfold qW
 rw[if_neg (by omega),ZB,qbd (by simp) (by simp),qbd (by omega) (by omega),bmul (by simp) (by omega)]
 rfl
section
variable {k:Nat} {f:zV} (F:FOK k f) {N:Nat} (hN:100000<N)
include F hN
theorem qfa: ∀(K i:Nat) (out:List Int),i<=f.Factors.length->f.Factors.length<K+i->out.length<=40000+200*i-> ∃r,zR N f K out (i:Int)=some r/\zW N f K out (i:Int)=some r/\r.length<=90000
 |0,i,out,h,hK,ho=>by omega
 |K+1,i,out,h,hK,ho=>by
  have ff:=F.few
  unfold zR zW
  by_cases hi:i<f.Factors.length
  ·obtain⟨s,s1,s2⟩:=F.at_ i hi
   obtain⟨W,w1,w2,w3,w4⟩:=qbe F.k2 F.k1 (N:=N) (by omega) s
   have hkk:k*k<=12*12:=Nat.mul_le_mul F.k2 F.k2
   rw[if_pos (by omega),if_pos (by omega),qN,s2]
   simp only[ZB]
   rw[w1,w2]
   simp only[ZB]
   rw[xQ (by omega) (by omega)]
   simp only[ZB]
   rw[za (by omega)]
   exact qfa K (i+1) _ (by omega) (by omega) (by rw[Yq];omega)
  rw[if_neg (by omega),if_neg (by omega)]
  exact⟨out,rfl,rfl,by omega⟩
theorem qer: ∃r,vV N (k:Int) f=some r/\r.length<=90000/\(zH N (k:Int) f=some 0->jQ N (k:Int) f=some (if 200<r.length then([],5)else(r,0))):=by
 have k1:=F.k1
 have k2:=F.k2
 have hh:=F.half
 obtain⟨W,w1,w2,w3,w4⟩:=qbe k2 k1 (N:=N) (by omega) (Uj k)
 have hkk:k*k<=12*12:=Nat.mul_le_mul k2 k2
 have e0:W.length=0->f.Half.natAbs=0:=fun h=>by
  by_cases c:k=1
  ·rw[F.one c];rfl
  exfalso
  obtain⟨W2,g1,g2⟩:=qhH (n:=k) (k*k) (Uj k) (SB.inv_le k _)
  have g3:=qfs k2 k1 (N:=N) (by omega) g1 (by omega)
  rw[w1]at g3
  have g4:=Ye g3
  subst g4
  cases g1 with
  |nil g=>
   refine g 0 (by omega) ?_
   show rv5 k 1<rv5 k 0
   unfold rv5
   rw[if_pos (by omega),if_pos (by omega)]
   omega
  |cons=>simp at h
 have V: ∃v:List Int,v.length=W.length/\(if f.Half<0 then(zM N W).bind fun l9=>some l9 else some W:Option (List Int))=some v/\(if f.Half<0 then(jJ N W).bind fun r6=>some r6 else some W:Option (List Int))=some v:=by
  by_cases c:f.Half<0
  ·refine⟨(W.map fun x=>w64 (0-x)).reverse,by simp,?_,?_⟩
   ·rw[if_pos c,qeT (by omega) (by omega),ZB]
   rw[if_pos c,qdE (by omega) (by omega),ZB]
  exact⟨W,rfl,by rw[if_neg c],by rw[if_neg c]⟩
 obtain⟨v,v1,v2,v3⟩:=V
 have hb:v.length*f.Half.natAbs<=200*200:=Nat.mul_le_mul (by omega) (by omega)
 obtain⟨r,r1,r2,r3⟩:=qeS (N:=N) (by omega) (w:=v) (k:=f.Half.natAbs) (by omega) (by omega) (by rw[v1];exact e0)
 obtain⟨q,q1,q2,q3⟩:=qiz (f:=f) (w:=v) hh (by omega) N 0 [] (by omega) (by omega) (by simp) (fun i hi=>by omega)
 obtain rfl:=qha r2 q2 r3 q3
 rw[show((0:Nat):Int)=0 from rfl]at q1
 obtain⟨z,z1,z2,z3⟩:=qfa F hN N 0 r (by omega) (by have:=F.few;omega) (by omega)
 rw[show((0:Nat):Int)=0 from rfl]at z1 z2
 refine⟨z,?_,z3,fun hc=>?_⟩
 ·unfold vV
  rw[qfk (by omega) (by omega),ZB,w2,ZB,v3,ZB,q1,ZB,z2,ZB]
 unfold jQ
 rw[hc,ZB,if_neg (by decide),qft (by omega) (by omega),ZB,w1,ZB,v2,ZB,qfg _ hh,ZB,r1,ZB,if_pos (by omega),ZB,z1,ZB,qeU,ZB]
end
theorem qff {f:zV} (hl:f.Factors.length<=300): ∀(K i:Nat),i<=f.Factors.length->f.Factors.length<K+i-> ∃r,qJ f K (i:Int)=some r/\(r= .inr true\/(r= .inl ()/\ ∀x∈f.Factors.drop i,x.length<=14))
 |0,i,h,hK=>by omega
 |K+1,i,h,hK=>by
  unfold qJ
  by_cases hi:i<f.Factors.length
  ·rw[if_pos (by omega),qN,Ya hi,ZB,za (by omega)]
   by_cases c:(f.Factors[i].length:Int)>14
   ·rw[if_pos c]
    exact⟨_,rfl,.inl rfl⟩
   rw[if_neg c]
   obtain⟨r,r1,r2⟩:=qff hl K (i+1) (by omega) (by omega)
   refine⟨r,r1,?_⟩
   rcases r2 with r2|⟨r2,r3⟩
   ·exact .inl r2
   refine .inr ⟨r2,fun x hx=>?_⟩
   rw[YG hi]at hx
   rcases List.mem_cons.1 hx with rfl|hx
   ·omega
   exact r3 x hx
  rw[if_neg (by omega)]
  exact⟨_,rfl,.inr ⟨rfl,fun x hx=>by rw[List.drop_eq_nil_of_le (by omega)]at hx;cases hx⟩⟩
theorem qaT {N:Nat} (hN:100000<N) (n:Int) (p:List Int) (f:zV):jw N n p f=some true:=by
 unfold jw awk
 simp only[ZB,Bool.not_true,ZF,if_false]
 by_cases hp:(p.length:Int)>260
 ·rw[if_pos hp];rfl
 by_cases hf:(f.Factors.length:Int)>220
 ·rw[if_neg hp,decide_eq_true hf];rfl
 rw[if_neg hp,decide_eq_false hf]
 simp only[ZB,ZF,if_false]
 obtain⟨r,r1,r2⟩:=qff (f:=f) (by omega) N 0 (by omega) (by omega)
 rw[show((0:Nat):Int)=0 from rfl]at r1
 rw[r1]
 rcases r2 with rfl|⟨rfl,hx⟩
 ·rfl
 rw[YR]at hx
 have lf: ∀a b c:Int,vD N [a,b,c]=some (qaU [a,b,c]):=fun a b c=>qfY (by simp) (by simp;omega)
 have S:(if n<1 then(zm true 3).bind fun r15=>some r15 else(zm (decide (n>12)) 3).bind fun r16=>some r16:Option Int)=some (if n<1\/12<n then 3 else 0):=by
  by_cases a:n<1
  ·rw[if_pos a,if_pos (.inl a)];rfl
  rw[if_neg a,qa1]
  by_cases b:12<n
  ·rw[decide_eq_true (show n>12 from b),if_pos rfl,if_pos (.inr b)];rfl
  rw[decide_eq_false (show¬n>12 from b),if_neg (by decide),if_neg (by omega)];rfl
 obtain⟨o,W,e,e1,e2,e3,e4,e5⟩:=qdw (N:=N) (by omega) n (p:=p) (by omega)
 obtain⟨g,g1,g2,g3⟩:=qei (N:=N) (by omega) (n:=n) (f:=f) (by omega) hx
 have w1:zm (!decide ((p.length:Int)=n)) 2=some (if(p.length:Int)=n then 0 else 2):=by
  rw[qa1]
  by_cases c:(p.length:Int)=n
  ·rw[decide_eq_true c,if_pos c];rfl
  rw[decide_eq_false c,if_neg c];rfl
 have w2:zm (!decide (e=0)) 15=some (if e=0 then 0 else 15):=by
  rw[qa1]
  by_cases c:e=0
  ·rw[decide_eq_true c,if_pos c];rfl
  rw[decide_eq_false c,if_neg c];rfl
 rw[S]
 simp only[ZB,w1,e1,w2,lf,e2,e3]
 have first:(if(!decide (o=0))=true then(zb N W o o []).bind fun r25=>if(!r25)=true then some true else if o=0 then(kD N p).bind fun r28=>(zb N W o 0 r28).bind fun r29=>some (!r29)else some false else if o=0 then(kD N p).bind fun r31=>(zb N W o 0 r31).bind fun r32=>some (!r32)else some false:Option Bool)=some false:=by
  by_cases c:o=0
  ·subst c
   obtain⟨h1,h2⟩:=e5 rfl
   rw[if_neg (by decide),if_pos rfl,h1,ZB,qcH (by omega) (by omega)]
   rfl
  rw[if_pos (by simp[c]),e4 c,qbZ c,ZB,if_neg (by decide),if_neg c]
 rw[first]
 simp only[ZB,ZF,if_false]
 have own:y9 f=some f:=rfl
 rw[own]
 simp only[ZB]
 rw[g2,ZB,g1]
 simp only[ZB,decide_true,Bool.not_true,ZF,if_false]
 by_cases c:g=0
 ·subst c
  obtain⟨k,rfl,F⟩:=g3 rfl
  obtain⟨z,z1,z2,z3⟩:=qer F (N:=N) (by omega)
  rw[z3 g1,z1]
  simp only[ZB,qa1]
  rw[if_neg (by decide)]
  by_cases d:200<z.length
  ·rw[if_pos d,decide_eq_true (show(z.length:Int)>200 by omega),if_pos rfl,qbZ (by decide)]
   rfl
  rw[if_neg d,decide_eq_false (show¬(z.length:Int)>200 by omega),if_neg (by decide),qcH (a:=z) (by omega) (by omega)]
  rfl
 have sp:jQ N n f=some ([],g):=by
  unfold jQ
  rw[g1,ZB,if_pos (by simp[c])]
 rw[sp]
 simp only[ZB]
 rw[if_pos (by simp[c]),qbZ c,ZB]
end Go.Av
end
