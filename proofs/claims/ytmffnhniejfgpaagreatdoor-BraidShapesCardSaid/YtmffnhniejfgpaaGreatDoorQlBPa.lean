/-
  Words of crossings: what the program and the reference make of them, and the law of words.
-/
import Derived.Test.YtmffnhniejfgpaaGreatDoorQGenB
import Derived.Test.YtmffnhniejfgpaaGreatDoorAvPt
noncomputable section
set_option linter.unusedVariables false
set_option linter.unusedSimpArgs false
set_option maxRecDepth 100000
section
namespace Go.Av
def vC (n c:Int):Bool:=decide (c≠0)&&decide (-n<c)&&decide (c<n)
def xO (n:Int) (w:List Int):Int:=if n<1\/12<n then 3 else if 200<w.length then 5 else if w.all (vC n)=true then 0 else 3
theorem letter_eq {n:Int} (h1:1<=n) (h2:n<=12) (c:Int):jr n c=some (vC n c):=by
 unfold jr vC
 have hw:w64 (0-n)= -n:=by rw[zU (by omega) (by omega)];omega
 rw[hw]
 by_cases a:c=0
 ·simp[a]
 by_cases b: -n<c
 ·simp[a,b]
 simp[a,b]
theorem qdp {n:Int} (h1:1<=n) (h2:n<=12) (c:Int):jb n c=some (!vC n c):=by
 unfold jb vC
 have hw:w64 (0-n)= -n:=by rw[zU (by omega) (by omega)];omega
 rw[hw]
 by_cases a:c=0
 ·simp[a]
 by_cases b: -n<c
 ·rw[if_neg a,if_neg (by omega)]
  by_cases d:c<n
  ·simp[a,b,d]
  simp[a,b,d];omega
 rw[if_neg a,if_pos (by omega)]
 simp[a,b]
theorem qco {n:Int} {w:List Int} {i:Nat} (h:i<w.length):(w.drop i).all (vC n)=(vC n w[i]&&(w.drop (i+1)).all (vC n)):=by
 rw[List.drop_eq_getElem_cons h,List.all_cons]
theorem qe8 {n:Int} (h1:1<=n) (h2:n<=12) {w:List Int} (hl:w.length<=300): ∀(K i:Nat),i<=w.length->w.length<K+i->qW n w K (i:Int)=some (if(w.drop i).all (vC n)=true then .inl ()else .inr 3)
 |0,i,h,hK=>by omega
 |K+1,i,h,hK=>by
  unfold qW
  by_cases hi:i<w.length
  ·rw[if_pos (by omega),jW,Ya hi,ZB,letter_eq h1 h2,ZB,qco hi]
   cases c:vC n w[i]with
   |false=>rfl
   |true=>
    rw[if_neg (by decide),xP (by omega),qe8 h1 h2 hl K (i+1) (by omega) (by omega),Bool.true_and]
  rw[if_neg (by omega),List.drop_eq_nil_of_le (by omega)]
  rfl
theorem qaW {N:Nat} (hN:2000<N) {n:Int} {w:List Int} (hl:w.length<=300):zt N n w=some (xO n w):=by
 unfold zt xO
 by_cases a:n<1
 ·rw[if_pos a,ZB,if_pos rfl,if_pos (.inl a)]
 by_cases b:12<n
 ·rw[if_neg a,decide_eq_true (by omega),ZB,if_pos rfl,if_pos (.inr b)]
 rw[if_neg a,decide_eq_false (by omega),ZB,if_neg (by decide),if_neg (show¬(n<1\/12<n)by omega)]
 by_cases c:200<w.length
 ·rw[if_pos (by omega),if_pos c]
 rw[if_neg (by omega),if_neg c,show(0:Int)=((0:Nat):Int)from rfl,qe8 (by omega) (by omega) hl N 0 (by omega) (by omega),List.drop_zero]
 cases w.all (vC n)<;>rfl
theorem qeO {n:Int} (h1:1<=n) (h2:n<=12) {w:List Int} (hl:w.length<=300): ∀(K i:Nat),i<=w.length->w.length<K+i->((w.drop i).all (vC n)=true/\qg w n K (i:Int)=some (.inl ()))\/((w.drop i).all (vC n)=false/\ ∃j:Nat,qg w n K (i:Int)=some (.inr (j:Int)))
 |0,i,h,hK=>by omega
 |K+1,i,h,hK=>by
  unfold qg zo
  by_cases hi:i<w.length
  ·rw[if_pos (by omega),jW,Ya hi,ZB,qdp h1 h2,ZB,ZB,qco hi]
   cases c:vC n w[i]with
   |false=>exact .inr ⟨rfl,i,rfl⟩
   |true=>
    rw[if_neg (by decide),xP (by omega),Bool.true_and]
    exact qeO h1 h2 hl K (i+1) (by omega) (by omega)
  rw[if_neg (by omega),List.drop_eq_nil_of_le (by omega)]
  exact .inl ⟨rfl,rfl⟩
theorem qb8 {N:Nat} (hN:10<N) (a b:Int):jl N [a,b]=some (if a=0 then b else a):=by
 obtain⟨K,rfl⟩: ∃K,N=K+1+1+1:=⟨N-3,by omega⟩
 have w1:w64 1=1:=rfl
 have w2:w64 2=2:=rfl
 have i0: ∀a b:Int,idx [a,b] 0=some a:=fun _ _=>rfl
 have i1: ∀a b:Int,idx [a,b] 1=some b:=fun _ _=>rfl
 unfold jl
 by_cases ha:a=0
 ·by_cases hb:b=0
  ·simp[kR,i0,i1,ha,hb,w1,w2]
  simp[kR,i0,i1,ha,hb,w1,w2]
 simp[kR,i0,ha]
theorem qbo (b:Bool) (e:Int):ze b e=some (if b=true then e else 0):=by
 unfold ze
 cases b<;>rfl
theorem vR {N:Nat} (hN:2000<N) {n:Int} {w:List Int} (hl:w.length<=300):ku N n w=some (xO n w):=by
 unfold ku zJ xO
 by_cases a:n<1\/12<n
 ·have:(Option.bind (if n<1 then(ze true 3).bind fun r2=>some r2 else(ze (decide (n>12)) 3).bind fun r3=>some r3:Option Int) fun n4=>some n4)=some 3:=by
   by_cases b:n<1
   ·rw[if_pos b];rfl
   rw[if_neg b,decide_eq_true (by omega)];rfl
  rw[this,ZB,qbo,ZB,qb8 (by omega),if_neg (by decide),ZB,if_pos (by decide),if_pos a]
 have:(Option.bind (if n<1 then(ze true 3).bind fun r2=>some r2 else(ze (decide (n>12)) 3).bind fun r3=>some r3:Option Int) fun n4=>some n4)=some 0:=by
  rw[if_neg (by omega),decide_eq_false (by omega)];rfl
 rw[this,ZB,qbo,ZB,qb8 (by omega),if_pos rfl,ZB,if_neg a]
 by_cases c:200<w.length
 ·rw[decide_eq_true (show(w.length:Int)>200 by omega),if_pos rfl,if_pos (by decide),if_pos c]
 rw[decide_eq_false (show¬(w.length:Int)>200 by omega),if_neg Bool.false_ne_true,if_neg (show¬(!decide ((0:Int)=0))=true by decide),if_neg c]
 unfold qY kY
 rcases qeO (n:=n) (by omega) (by omega) hl N 0 (by omega) (by omega)with⟨g1,g2⟩|⟨g1,j,g2⟩<;>rw[show((0:Nat):Int)=0 from rfl]at g2
 ·rw[g2,<-List.drop_zero (l:=w),g1]
  rfl
 rw[g2,<-List.drop_zero (l:=w),g1]
 simp only[ZB]
 rw[decide_eq_true (show(j:Int)>=0 by omega),qbo]
 rfl
structure qdc (n:Nat) (w:List Int):Prop where
 n1:1<=n
 n2:n<=12
 len:w.length<=200
 let_: ∀c∈w,c≠0/\ -(n:Int)<c/\c<n
theorem qdO {n:Int} {w:List Int} (h:xO n w=0): ∃k:Nat,n=k/\qdc k w:=by
 unfold xO at h
 split at h
 ·omega
 rename_i a
 split at h
 ·omega
 rename_i b
 split at h
 ·rename_i c
  refine⟨n.toNat,by omega,by omega,by omega,by omega,fun x hx=>?_⟩
  have:=Yp.1 c x hx
  simp only[vC,Bool.and_eq_true,decide_eq_true_eq]at this
  omega
 omega
theorem qez {a:List Int} (hl:a.length<=100000): ∀(K i:Nat),i<=a.length->a.length<K+i->qX a a K (i:Int)=some (.inl ())
 |0,i,h,hK=>by omega
 |K+1,i,h,hK=>by
  unfold qX
  by_cases hi:i<a.length
  ·rw[if_pos (by omega),jW,Ya hi,ZB,ZB,if_neg (by simp),xP (by omega)]
   exact qez hl K (i+1) (by omega) (by omega)
  rw[if_neg (by omega)]
theorem qay {N:Nat} {a:List Int} (hN:a.length<N) (hl:a.length<=100000):qN N a 0 0 a=some true:=by
 unfold qN jy
 rw[if_neg (by decide),if_pos rfl,if_neg (by simp),show(0:Int)=((0:Nat):Int)from rfl,qez hl N 0 (by omega) (by omega)]
 rfl
theorem qbn {N:Nat} {e:Int} (h:e≠0) (l:List Int):qN N [] e e l=some true:=by
 unfold qN
 rw[if_pos (by simp[h]),if_pos (show((([]:List Int).length:Nat):Int)=0 from rfl),decide_eq_true rfl]
 rfl
theorem qgw {w:List Int} (hl:w.length<=300): ∀(K i:Nat),i<=w.length->w.length<K+i->qz w K ((w.take i).map fun x=>w64 (0-x)) (i:Int)=some (w.map fun x=>w64 (0-x))
 |0,i,h,hK=>by omega
 |K+1,i,h,hK=>by
  unfold qz jK
  by_cases hi:i<w.length
  ·rw[if_pos (by omega),jW,Ya hi,ZB,ZB,yY (by simp;omega) (by simp;omega),ZB,xP (by omega)]
   have e:(w.take i).map (fun x=>w64 (0-x))++[w64 (0-w[i])]=(w.take (i+1)).map fun x=>w64 (0-x):=by
    rw[List.take_succ_eq_append_getElem hi,List.map_append]
    rfl
   rw[e]
   exact qgw hl K (i+1) (by omega) (by omega)
  rw[if_neg (by omega),List.take_of_length_le (by omega)]
theorem qek {N:Nat} (hN:2000<N) {w:List Int} (hl:w.length<=300):zg N w=some (w.map fun x=>w64 (0-x)):=by
 unfold zg
 have:=qgw hl N 0 (by omega) (by omega)
 rw[List.take_zero,List.map_nil]at this
 rw[show(0:Int)=((0:Nat):Int)from rfl,this]
 rfl
theorem qfN {w:List Int} (hl:w.length<=300): ∀(K i:Nat) (l:List Int),i<=w.length->i<K->l.length+i=w.length->kE w K l ((i:Int)-1)=some (l++((w.take i).reverse.map fun x=>w64 (0-x)))
 |0,i,l,h,hK,hs=>by omega
 |K+1,i,l,h,hK,hs=>by
  unfold kE
  cases i with
  |zero=>rw[if_neg (by omega),List.take_zero];simp
  |succ i=>
   have hi:i<w.length:=by omega
   rw[show((i+1:Nat):Int)-1=(i:Int)by omega,if_pos (by omega),jW,Ya hi,ZB,yY (by simp only[Yr,List.length_nil];omega) (by simp only[Yr,List.length_nil];omega),ZB,show w64 ((i:Int)-1)=(i:Int)-1 from zU (by omega) (by omega),
    qfN hl K i _ (by omega) (by omega) (by simp;omega),List.take_succ_eq_append_getElem hi,List.reverse_append,List.map_append,Yz]
   rfl
theorem qcn {N:Nat} (hN:2000<N) {w:List Int} (hl:w.length<=300):zN N w=some ((w.map fun x=>w64 (0-x)).reverse):=by
 unfold zN
 rw[zU (by omega) (by omega),qfN hl N w.length [] (by omega) (by omega) (by simp),List.take_length]
 simp
theorem qgB {l0:List Int} {n:Nat} (hn:l0.length=n) (hb:n<=100000): ∀(K i:Nat) (l:List Int),l.length=n->2*i<=n+1->n+1<K+2*i->(∀k:Nat,k<n->l[k]? =if k<i\/n<=k+i then l0[n-1-k]? else l0[k]?)->qw K l (i:Int) ((n:Int)-1-i)=some l0.reverse
 |0,i,l,hl,h2,hK,hk=>by omega
 |K+1,i,l,hl,h2,hK,hk=>by
  unfold qw
  by_cases hi:(i:Int)<(n:Int)-1-i
  ·have e1:(n:Int)-1-i=((n-1-i:Nat):Int):=by omega
   have e2:w64 (((n-1-i:Nat):Int)-1)=(n:Int)-1-((i+1:Nat):Int):=by rw[zU (by omega) (by omega)];omega
   have q1:=hk (n-1-i) (by omega)
   have q2:=hk i (by omega)
   rw[if_neg (by omega)]at q1 q2
   have g1:l0[n-1-i]? =some l0[n-1-i]:=Ya (by omega)
   have g2:l0[i]? =some l0[i]:=Ya (by omega)
   rw[g1]at q1
   rw[g2]at q2
   rw[if_pos hi,e1,jW,q1,ZB,jW,q2,ZB,qdW (by omega),ZB,jW,List.getElem?_set_ne (by omega),q1,ZB,qdW (by simp;omega),ZB,xP (by omega),e2]
   refine qgB hn hb K (i+1) _ (by simp;omega) (by omega) (by omega) (fun k hkn=>?_)
   by_cases c1:k=n-1-i
   ·subst c1
    rw[List.getElem?_set_self (by simp;omega),if_pos (by omega),show n-1-(n-1-i)=i by omega,g2]
   rw[List.getElem?_set_ne (fun e=>c1 e.symm)]
   by_cases c2:k=i
   ·subst c2
    rw[List.getElem?_set_self (by omega),if_pos (by omega),g1]
   rw[List.getElem?_set_ne (fun e=>c2 e.symm),hk k hkn]
   by_cases c3:k<i\/n<=k+i
   ·rw[if_pos c3,if_pos (by omega)]
   rw[if_neg c3,if_neg (by omega)]
  rw[if_neg hi]
  congr 1
  apply List.ext_getElem?
  intro k
  by_cases hkn:k<n
  ·rw[hk k hkn,List.getElem?_reverse (by omega),hn]
   by_cases c3:k<i\/n<=k+i
   ·rw[if_pos c3]
   rw[if_neg c3,show n-1-k=k by omega]
  rw[Yg (by omega),Yg (by simp;omega)]
theorem qdt {N:Nat} {l:List Int} (hN:l.length+1<N) (hb:l.length<=100000):ky N l=some l.reverse:=by
 unfold ky
 have:=qgB (l0:=l) rfl hb N 0 l rfl (by omega) (by omega) (fun k hk=>by rw[if_neg (by omega)])
 rw[zU (by omega) (by omega),show((l.length:Int)-1)=(l.length:Int)-1-((0:Nat):Int)by omega,show(0:Int)=((0:Nat):Int)from rfl]
 rw[this]
 rfl
theorem qdA {N:Nat} (hN:2000<N) {w:List Int} (hl:w.length<=300):zk N w=some ((w.map fun x=>w64 (0-x)).reverse):=by
 unfold zk
 rw[qek hN hl,ZB,qdt (by simp;omega) (by simp;omega),ZB,if_pos (by simp),ZB]
theorem qec {x:Int} (h:x≠0):vw x=ji x:=by
 unfold vw ji
 by_cases a:x<0
 ·rw[if_pos a,if_pos (show x<1 by omega),if_neg (by omega)]
 rw[if_neg a,if_neg (show¬x<1 by omega),if_pos (by decide)]
theorem qfj (x:Int):ji x=some (if x<0 then-1 else 1):=by
 unfold ji
 split<;>rfl
end Go.Av
end
section
namespace Go.Av
theorem qf4 {c:Int} (h: -1000<c/\c<1000):vP c=some ((c.natAbs:Nat):Int):=by
 unfold vP
 rw[zU (by omega) (by omega)]
 by_cases a:0-c>c
 ·rw[if_pos a];congr 1;omega
 rw[if_neg a];congr 1;omega
theorem qbf {c:Int} (h: -1000<c/\c<1000):jf c=some ((c.natAbs:Nat):Int):=by
 unfold jf
 rw[zU (by omega) (by omega)]
 by_cases a:0-c>c
 ·rw[if_pos a];congr 1;omega
 rw[if_neg a];congr 1;omega
structure PInv (n:Nat) (row p:List Int):Prop where
 rl:row.length=n
 pl:p.length=n
 at_: ∀k,k<n-> ∃v:Nat,v<n/\row[k]? =some (v:Int)/\p[v]? =some (k:Int)
 all: ∀v,v<n-> ∃k,k<n/\row[k]? =some (v:Int)
theorem PInv.back {n:Nat} {row p:List Int} (h:PInv n row p) {k v:Nat} (hk:k<n) (e:row[k]? =some (v:Int)):v<n/\p[v]? =some (k:Int):=by
 obtain⟨u,hu,e1,e2⟩:=h.at_ k hk
 rw[e]at e1
 have:v=u:=by have:=Ye e1;omega
 subst this
 exact⟨hu,e2⟩
theorem PInv.inj {n:Nat} {row p:List Int} (h:PInv n row p) {k k' v:Nat} (hk:k<n) (hk':k'<n) (e:row[k]? =some (v:Int)) (e':row[k']? =some (v:Int)):k=k':=by
 have h1:=(h.back hk e).2
 have h2:=(h.back hk' e').2
 rw[h1]at h2
 have:=Ye h2
 omega
end Go.Av
end
section
namespace Go.Av
theorem bwu (n:Int):IntKind.wrap .u64 n=n%18446744073709551616:=rfl
theorem qcc {n:Int} (h0:0<=n) (h:n<18446744073709551616):IntKind.wrap .u64 n=n:=by rw[bwu];exact Int.emod_eq_of_lt h0 h
theorem qfO {n:Int} (h0:0<=n) (h:n<18446744073709551616):(BitVec.ofInt 64 n).toNat=n.toNat:=by
 rw[BitVec.toNat_ofInt]
 have:n%((2:Nat)^64:Nat)=n:=Int.emod_eq_of_lt h0 (by simpa using h)
 rw[this]
theorem band {x:Int} (h0:0<=x) (h:x<4294967296):qK .u64 x 4294967295=x:=by
 show IntKind.wrap .u64 _=_
 have e:(BitVec.ofInt IntKind.u64.bits x&&&BitVec.ofInt IntKind.u64.bits 4294967295).toNat=x.toNat%4294967296:=by
  rw[BitVec.toNat_and]
  show(BitVec.ofInt 64 x).toNat&&&(BitVec.ofInt 64 4294967295).toNat=_
  rw[qfO h0 (by omega),qfO (by omega) (by omega)]
  exact Nat.and_two_pow_sub_one_eq_mod x.toNat 32
 rw[e,bwu]
 omega
theorem bshr {x:Int} (h0:0<=x) (h:x<4294967296):qM .u64 x 32=0:=by
 show x.fdiv 4294967296=0
 rw[Int.fdiv_eq_ediv_of_nonneg _ (by omega)]
 omega
theorem bmul {x y:Int} (hx:0<=x/\x<=1000) (hy:0<=y/\y<=1000):bits_Mul x y=some (0,x*y):=by
 have h0:0<=x*y:=Int.mul_nonneg hx.1 hy.1
 have h1:x*y<=1000*1000:=Int.mul_le_mul hx.2 hy.2 hy.1 (by omega)
 unfold bits_Mul bits_Mul64
 rw[band hx.1 (by omega),band hy.1 (by omega),bshr hx.1 (by omega),bshr hy.1 (by omega),Int.zero_mul,Int.zero_mul,Int.mul_zero,qcc (n:=0) (by omega) (by omega),qcc h0 (by omega),bshr h0 (by omega)]
 have z:IntKind.wrap .u64 (0+0)=0:=rfl
 have s:qM .u64 0 32=0:=rfl
 have a:qK .u64 0 4294967295=0:=rfl
 rw[z,a,s,z,s,z,ZB]
theorem nmin (a b:Nat):Nat.min a b=min a b:=rfl
def Rep (w l:List Int) (n:Nat):Prop:= ∀i,i<n->l[i]? =w[i%w.length]?
theorem qeZ {w l:List Int} {n L:Nat} (hL:l.length=L) (hn:n<=L) (hd:w.length∣n) (h:Rep w l n):(vU l n (l.take n)).length=L/\Rep w (vU l n (l.take n)) (n+Nat.min n (L-n)):=by
 have e1:(l.take n).length=n:=by rw[Ym];omega
 have e2:(l.drop n).length=L-n:=by rw[YJ,hL]
 have hlen:(vU l n (l.take n)).length=L:=by
  unfold vU cpy
  simp only[Yq,Ym,YJ,nmin]
  omega
 refine⟨hlen,fun i hi=>?_⟩
 have hm:Nat.min n (L-n)=min n (L-n):=rfl
 rw[hm]at hi
 unfold vU cpy
 by_cases c:i<n
 ·rw[Yf (by omega),List.getElem?_take_of_lt c]
  exact h i c
 rw[Yo (by omega),e1,Yf (by simp only[Ym,YJ,nmin];omega),List.getElem?_take_of_lt (by simp only[Ym,YJ,nmin];omega),List.getElem?_take_of_lt (by omega),h (i-n) (by omega)]
 obtain⟨q,rfl⟩:=hd
 rw[show i=i-w.length*q+w.length*q by omega,Nat.add_mul_mod_self_left,Nat.add_sub_cancel]
theorem qgC {w:List Int} {L:Nat} (hb:L<=40000): ∀(K n:Nat) (l:List Int),l.length=L->n<=L->(n=L\/(0<n/\w.length∣n))->Rep w l n->L<K+n-> ∃r,qx K l (n:Int)=some r/\r.length=L/\Rep w r L
 |0,n,l,hl,hn,hd,h,hK=>by omega
 |K+1,n,l,hl,hn,hd,h,hK=>by
  unfold qx
  by_cases c:n<L
  ·rcases hd with e|⟨hp,hd⟩
   ·omega
   obtain⟨s1,s2⟩:=qeZ hl hn hd h
   have e1:(l.take n).length=n:=by rw[Ym];omega
   rw[if_pos (by omega),qhc (by omega),ZB,ZB,e1,hl]
   have hm:Nat.min n (L-n)=min n (L-n):=rfl
   rw[show w64 ((n:Int)+((Nat.min n (L-n):Nat):Int))=((n+Nat.min n (L-n):Nat):Int)by rw[hm];rw[zU (by omega) (by omega)];rfl]
   refine qgC hb K _ _ s1 (by rw[hm];omega) ?_ s2 (by rw[hm];omega)
   rw[hm]
   by_cases g:n<=L-n
   ·right
    rw[Nat.min_eq_left g]
    exact⟨by omega,Nat.dvd_add hd hd⟩
   left
   omega
  rw[if_neg (by omega)]
  have:n=L:=by omega
  subst this
  exact⟨l,rfl,hl,h⟩
theorem qem {N:Nat} (hN:50000<N) {w:List Int} {k:Nat} (h0:0<w.length) (hl:w.length<=200) (hk:k<=200): ∃r,kL N w (k:Int)=some r/\r.length=w.length*k/\Rep w r (w.length*k):=by
 have hb:w.length*k<=200*200:=Nat.mul_le_mul hl hk
 have hp:((w.length:Int)*(k:Int))=((w.length*k:Nat):Int):=by simp
 unfold kL
 rw[if_neg (by omega),ZB,qcc (by omega) (by omega),qcc (by omega) (by omega),bmul (by omega) (by omega),ZB,if_neg (show¬((0:Int),(w.length:Int)*(k:Int)).1>0 by simp),decide_eq_false (show¬((0:Int),(w.length:Int)*(k:Int)).2>9223372036854775807 by simp only;omega),ZB,if_neg (by decide),ZB,hp,zU (by omega) (by omega)]
 have hm:mk 8 ((w.length*k:Nat):Int) (0:Int)=some (List.replicate (w.length*k) 0):=by
  unfold mk
  rw[if_pos (by omega),Int.toNat_natCast]
 rw[hm,ZB,ZB,List.length_replicate]
 have hc:(cpy (List.replicate (w.length*k) 0) w).length=w.length*k:=by
  unfold cpy
  simp only[Yq,Ym,YJ,List.length_replicate,nmin]
  omega
 have hmn:Nat.min w.length (w.length*k)=min w.length (w.length*k):=rfl
 have hk1:k=0\/w.length<=w.length*k:=by
  rcases Nat.eq_zero_or_pos k with h|h
  ·exact .inl h
  exact .inr (Nat.le_mul_of_pos_right _ h)
 obtain⟨r,r1,r2,r3⟩:=qgC (w:=w) (L:=w.length*k) (by omega) N (Nat.min w.length (w.length*k)) (cpy (List.replicate (w.length*k) 0) w) hc (by rw[hmn];omega) (by
  rcases hk1 with e|e
  ·left;subst e;rw[hmn];simp
  ·right;rw[hmn,Nat.min_eq_left e];exact⟨h0,Nat.dvd_refl _⟩) (fun i hi=>by
  rw[hmn]at hi
  unfold cpy
  rw[List.length_replicate,Yf (by simp only[Ym];omega),List.getElem?_take_of_lt (by omega),Nat.mod_eq_of_lt (by omega)]) (by omega)
 exact⟨r,by rw[r1];rfl,r2,r3⟩
theorem qfG {w:List Int} {k:Int} (hk: -201<k/\k<201) (hl:w.length<=200): ∀(K i:Nat) (l:List Int),i<=k.natAbs->k.natAbs<K+i->l.length=w.length*i->Rep w l (w.length*i)-> ∃r,zn k w K l (i:Int)=some r/\r.length=w.length*k.natAbs/\Rep w r (w.length*k.natAbs)
 |0,i,l,h,hK,hl',hr=>by omega
 |K+1,i,l,h,hK,hl',hr=>by
  unfold zn
  rw[qbf (by omega),ZB]
  by_cases c:i<k.natAbs
  ·have hb:w.length*i<=200*200:=Nat.mul_le_mul hl (by omega)
   rw[if_pos (by omega),yY (by omega) (by omega),ZB,xP (by omega)]
   refine qfG hk hl K (i+1) _ (by omega) (by omega) (by rw[Yq,hl',Nat.mul_succ]) (fun j hj=>?_)
   rw[Nat.mul_succ]at hj
   by_cases g:j<w.length*i
   ·rw[Yf (by omega)]
    exact hr j g
   rw[Yo (by omega),hl',show j=j-w.length*i+w.length*i by omega,Nat.add_mul_mod_self_left,Nat.add_sub_cancel,Nat.mod_eq_of_lt (by omega)]
  rw[if_neg (by omega)]
  have:i=k.natAbs:=by omega
  subst this
  exact⟨l,rfl,hl',hr⟩
theorem qfR {w a b:List Int} {L:Nat} (ha:a.length=L) (hb:b.length=L) (ra:Rep w a L) (rb:Rep w b L):a=b:=by
 apply List.ext_getElem?
 intro i
 by_cases c:i<L
 ·rw[ra i c,rb i c]
 rw[Yg (by omega),Yg (by omega)]
theorem qbc (w:List Int):zO w=some (if 200<w.length then([],5)else(w,0)):=by
 unfold zO
 by_cases c:200<w.length
 ·rw[if_pos (by omega),if_pos c]
 rw[if_neg (by omega),if_neg c]
theorem qdi {N:Nat} (hN:50000<N) {n:Int} {w:List Int} (k:Int) (hc:xO n w=0) (hl:w.length<=200): ∃(l:List Int) (e:Int) (b:Bool),zS N n w k=some (l,e)/\jO N w k=some (l,b)/\e=(if(!b)=true then 5 else 0)/\(b=false->l=[])/\l.length<=200:=by
 unfold zS jO
 rw[vR (by omega) (by omega),ZB,hc,if_neg (by decide)]
 by_cases h0:w.length=0
 ·rw[if_pos (by omega),if_pos (by omega)]
  exact⟨[],0,true,rfl,rfl,rfl,fun h=>rfl,by simp⟩
 rw[if_neg (show¬(w.length:Int)=0 by omega),if_neg (show¬(w.length:Int)=0 by omega)]
 by_cases k1:k>200
 ·rw[if_pos k1,if_pos k1]
  exact⟨[],5,false,rfl,rfl,rfl,fun _=>rfl,by simp⟩
 by_cases k2:k< -200
 ·rw[if_neg k1,decide_eq_true k2,if_neg k1,if_pos k2]
  exact⟨[],5,false,rfl,rfl,rfl,fun _=>rfl,by simp⟩
 have hp:((w.length:Int)*((k.natAbs:Nat):Int))=((w.length*k.natAbs:Nat):Int):=by simp
 have hb:w.length*k.natAbs<=200*200:=Nat.mul_le_mul hl (by omega)
 have sz:=qbf (c:=k) (by omega)
 have e1:w64 (((k.natAbs:Nat):Int)*(w.length:Int))=((w.length*k.natAbs:Nat):Int):=by rw[Int.mul_comm,hp,zU (by omega) (by omega)]
 rw[if_neg k1,decide_eq_false k2,if_neg k1,if_neg k2,sz]
 simp only[ZB,ZF,if_false,e1]
 have V: ∃v:List Int,v.length=w.length/\(if k<0 then(zk N w).bind fun l14=>some (Sum.inl (l14,w64 (0-k)))else some (Sum.inl (w,k)):Option (((List Int)×Int)⊕((List Int)×Int)))=some (.inl (v,((k.natAbs:Nat):Int)))/\(if k<0 then(zN N w).bind fun r11=>some r11 else some w:Option (List Int))=some v:=by
  by_cases kn:k<0
  ·refine⟨(w.map fun x=>w64 (0-x)).reverse,by simp,?_,?_⟩
   ·rw[if_pos kn,qdA (by omega) (by omega),ZB,zU (by omega) (by omega),show 0-k=((k.natAbs:Nat):Int)by omega]
   rw[if_pos kn,qcn (by omega) (by omega),ZB]
  refine⟨w,rfl,?_,by rw[if_neg kn]⟩
  rw[if_neg kn,show((k.natAbs:Nat):Int)=k by omega]
 obtain⟨v,v1,v2,v3⟩:=V
 obtain⟨r,r1,r2,r3⟩:=qem hN (w:=v) (k:=k.natAbs) (by omega) (by omega) (by omega)
 rw[v2]
 simp only[ZB]
 rw[r1,ZB,qbc,r2,v1]
 by_cases g:200<w.length*k.natAbs
 ·rw[if_pos g,decide_eq_true (show((w.length*k.natAbs:Nat):Int)>200 by omega)]
  exact⟨[],5,false,rfl,rfl,rfl,fun _=>rfl,by simp⟩
 obtain⟨q,q1,q2,q3⟩:=qfG (w:=v) (k:=k) (by omega) (by omega) N 0 [] (by omega) (by omega) (by simp) (fun i hi=>by omega)
 rw[if_neg g,decide_eq_false (show¬((w.length*k.natAbs:Nat):Int)>200 by omega)]
 simp only[ZF,if_false]
 rw[show((0:Nat):Int)=0 from rfl]at q1
 simp only[v3,q1,ZB]
 rw[qfR r2 q2 r3 q3]
 exact⟨q,0,true,rfl,rfl,rfl,fun h=>(by cases h),by rw[q2,v1];omega⟩
theorem qfJ {n:Nat} {w:List Int} (W:qdc n w): ∀(K i:Nat) (l:List Int),l.length=i->i<=w.length->w.length<K+i-> ∃r,qC w (n:Int) K l (i:Int)=some r/\zA (n:Int) w K l (i:Int)=some r/\r.length=w.length
 |0,i,l,hl,h,hK=>by omega
 |K+1,i,l,hl,h,hK=>by
  have wl:=W.len
  have n2:=W.n2
  unfold qC zA zY
  by_cases hi:i<w.length
  ·have hc:=W.let_ _ (List.getElem_mem hi)
   rw[if_pos (by omega),if_pos (by omega),jW,Ya hi]
   generalize w[i]=c at*
   rw[ZB,ZB,qec hc.1,qfj,qf4 (by omega),qbf (by omega)]
   simp only[ZB]
   rw[yY (by simp only[Yr,List.length_nil];omega) (by simp only[Yr,List.length_nil];omega)]
   simp only[ZB]
   rw[xP (by omega)]
   exact qfJ W K (i+1) _ (by simp;omega) (by omega) (by omega)
  rw[if_neg (by omega),if_neg (by omega)]
  exact⟨l,rfl,rfl,by omega⟩
theorem qd4 {N n:Nat} (hN:2000<N) {w:List Int} (W:qdc n w): ∃r,zf N w (n:Int)=some r/\j5 N (n:Int) w=some r/\r.length<=200:=by
 have wl:=W.len
 obtain⟨r,h1,h2,h3⟩:=qfJ W N 0 [] rfl (by omega) (by omega)
 unfold zf j5
 rw[show(0:Int)=((0:Nat):Int)from rfl,h1,h2]
 exact⟨r,rfl,rfl,by omega⟩
theorem qd5 {N:Nat} (hN:2000<N) {a b:List Int} (ha:a.length<=300) (hb:b.length<=300):zu N [a,b]=some (a++b):=by
 obtain⟨K,rfl⟩: ∃K,N=K+1+1+1:=⟨N-3,by omega⟩
 have w1:w64 (0+1)=1:=rfl
 have w2:w64 (1+1)=2:=rfl
 have i0:idx [a,b] 0=some a:=rfl
 have i1:idx [a,b] 1=some b:=rfl
 have s1:w64 (0+(a.length:Int))=(a.length:Int):=by rw[zU (by omega) (by omega)];omega
 have s2:w64 ((a.length:Int)+(b.length:Int))=((a.length+b.length:Nat):Int):=by rw[zU (by omega) (by omega)];omega
 have len:(([a,b]:List (List Int)).length:Int)=2:=rfl
 have L0:qp [a,b] (K+1+1+1) 0 0=some ((a.length+b.length:Nat):Int):=by
  rw[qp,len,if_pos (by decide),i0,ZB,s1,if_neg (by omega),ZB,w1,qp,len,if_pos (by decide),i1,ZB,s2,if_neg (by omega),ZB,w2,qp,len,if_neg (by decide)]
 have G: ∀m:Nat,m<=600-> ∃o:Option (List Int),zm (m:Int)=some o/\((m=0/\o=none)\/o=some []):=by
  intro m hm
  unfold zm
  rw[if_neg (by omega),ZB]
  have e:w64 ((m:Int)-w64 (0-0))=(m:Int):=by
   rw[show w64 (0-0)=0 from rfl,zU (by omega) (by omega)]
   omega
  rw[e]
  by_cases h:(m:Int)>0
  ·rw[if_pos h,show cut ([]:List Int) 0 0=some []from rfl,ZB]
   have z:qcO 8 (m:Int) (0:Int)=some (List.replicate m 0):=by
    unfold qcO
    rw[if_pos (by omega)]
    simp
   have hct:cut (List.replicate m (0:Int)) 0 0=some []:=by
    have:=qfc (l:=List.replicate m (0:Int)) (k:=0) (Nat.zero_le _)
    rw[List.take_zero]at this
    exact this
   rw[z,ZB,hct,ZB,ZB]
   exact⟨some [],rfl,.inr rfl⟩
  rw[if_neg h]
  exact⟨none,rfl,.inl ⟨by omega,rfl⟩⟩
 unfold zu
 rw[L0,ZB]
 obtain⟨o,g1,g2⟩:=G (a.length+b.length) (by omega)
 rw[g1,ZB]
 rcases g2 with⟨h0,rfl⟩|rfl
 ·have ea:a=[]:=YL.1 (by omega)
  have eb:b=[]:=YL.1 (by omega)
  subst ea eb
  rw[qf,len,if_pos (by decide),i0,ZB]
  simp only[ZB]
  rw[w1,qf,len,if_pos (by decide),i1,ZB]
  simp only[ZB]
  rw[w2,qf,len,if_neg (by decide)]
  rfl
 rw[qf,len,if_pos (by decide),i0,ZB]
 simp only
 rw[yY (by simp;omega) (by simp;omega)]
 simp only[ZB,List.nil_append]
 rw[w1,qf,len,if_pos (by decide),i1,ZB]
 simp only
 rw[yY (by omega) (by omega)]
 simp only[ZB]
 rw[w2,qf,len,if_neg (by decide)]
 rfl
theorem qdv {a b:List Int} (ha:a.length<=300) (hb:b.length<=300):zy a b=some (a++b):=by
 unfold zy
 rw[yY (by simp;omega) (by simp;omega),ZB,yY (by simp;omega) (by simp;omega),ZB,List.nil_append]
theorem qcE {N:Nat} (hN:10<N) (a b c:Int):jQ N [a,b,c]=some (if a=0 then(if b=0 then c else b)else a):=by
 obtain⟨K,rfl⟩: ∃K,N=K+1+1+1+1:=⟨N-4,by omega⟩
 have w1:w64 1=1:=rfl
 have w2:w64 2=2:=rfl
 have w3:w64 3=3:=rfl
 have i0: ∀a b c:Int,idx [a,b,c] 0=some a:=fun _ _ _=>rfl
 have i1: ∀a b c:Int,idx [a,b,c] 1=some b:=fun _ _ _=>rfl
 have i2: ∀a b c:Int,idx [a,b,c] 2=some c:=fun _ _ _=>rfl
 unfold jQ
 by_cases ha:a=0
 ·by_cases hb:b=0
  ·by_cases hc:c=0
   ·simp[kg,i0,i1,i2,ha,hb,hc,w1,w2,w3]
   simp[kg,i0,i1,i2,ha,hb,hc,w1,w2,w3]
  simp[kg,i0,i1,ha,hb,w1,w2]
 simp[kg,i0,ha]
theorem qaA (b:Bool) (e:Int):jI b e=some (if b=true then e else 0):=by
 unfold jI
 cases b<;>rfl
theorem qde {N:Nat} (hN:2000<N) {n:Int} {a b:List Int} (ha:a.length<=300) (hb:b.length<=300): ∃l e,jw N n a b=some (l,e)/\e=(if xO n a=0 then(if xO n b=0 then(if 200<a.length+b.length then 5 else 0)else xO n b)else xO n a)/\(e≠0->l=[])/\(e=0->l=a++b/\l.length<=200):=by
 unfold jw je
 rw[vR hN ha,ZB,vR hN hb,ZB,qb8 (by omega),ZB,ZB]
 by_cases h1:xO n a=0
 ·by_cases h2:xO n b=0
  ·rw[if_pos h1,h2,if_neg (by decide),qd5 hN ha hb,ZB,qbc,Yq,ZB,if_pos h1,if_pos rfl]
   by_cases h3:200<a.length+b.length
   ·rw[if_pos h3]
    exact⟨[],5,rfl,by rw[if_pos h3],fun _=>rfl,fun h=>absurd h (by decide)⟩
   rw[if_neg h3]
   exact⟨a++b,0,rfl,by rw[if_neg h3],fun h=>absurd rfl h,fun _=>⟨rfl,by rw[Yq];omega⟩⟩
  rw[if_pos h1,if_pos (by simp[h2])]
  exact⟨[],_,rfl,by rw[if_pos h1,if_neg h2],fun _=>rfl,fun h=>absurd h h2⟩
 rw[if_neg h1,if_pos (by simp[h1])]
 exact⟨[],_,rfl,by rw[if_neg h1],fun _=>rfl,fun h=>absurd h h1⟩
theorem qaf {N:Nat} (hN:50000<N) (n:Int) (x:qcj):zR N n x=some true:=by
 obtain⟨a,b,k⟩:=x
 unfold zR awk
 simp only[ZB,Bool.not_true,ZF,if_false]
 by_cases la:(a.length:Int)>220
 ·rw[if_pos la]
  rfl
 rw[if_neg la]
 by_cases lb:(b.length:Int)>220
 ·rw[decide_eq_true lb]
  rfl
 rw[decide_eq_false lb]
 simp only[ZB,ZF,if_false]
 have ha:a.length<=300:=by omega
 have hb:b.length<=300:=by omega
 obtain⟨c,e,c1,c2,c3,c4⟩:=qde (N:=N) (by omega) (n:=n) ha hb
 have lw:w64 ((a.length:Int)+(b.length:Int))=((a.length+b.length:Nat):Int):=by rw[zU (by omega) (by omega)];omega
 have W:(if decide (((a.length+b.length:Nat):Int)>200)=true then 5 else 0:Int)=(if 200<a.length+b.length then 5 else 0:Int):=by
  by_cases h:200<a.length+b.length
  ·rw[if_pos (decide_eq_true (by omega)),if_pos h]
  rw[if_neg (by rw[decide_eq_true_eq];omega),if_neg h]
 rw[qaW (by omega) ha,ZB,c1,qaW (by omega) hb]
 unfold yG
 rw[vR (by omega) ha,ZB]
 have C:((if(!decide (e=0))=true then(qN N c e e []).bind fun r16=>if(!r16)=true then some true else if e=0 then(zy a b).bind fun r19=>(qN N c e 0 r19).bind fun r20=>some (!r20)else some false else if e=0 then(zy a b).bind fun r22=>(qN N c e 0 r22).bind fun r23=>some (!r23)else some false:Option Bool))=some false:=by
  by_cases h:e=0
  ·obtain⟨d1,d2⟩:=c4 h
   rw[if_neg (by simp[h]),if_pos h,qdv ha hb,ZB,<-d1,h,qay (by omega) (by omega)]
   rfl
  rw[if_pos (by simp[h]),c3 h,qbn h,ZB,if_neg (by decide),if_neg h]
 by_cases hc:xO n a=0
 ·have la2:a.length<=200:=by
   obtain⟨m,_,Wo⟩:=qdO hc
   exact Wo.len
  obtain⟨m,rfl,Wo⟩:=qdO hc
  obtain⟨r,f1,f2,f3⟩:=qd4 (N:=N) (by omega) Wo
  obtain⟨l,e',bb,p1,p2,p3,p4,p5⟩:=qdi hN k hc la2
  rw[if_neg (by simp[hc]),f1,p1]
  simp only[ZB]
  rw[lw,qaA,ZB,qcE (by omega),ZB,W,<-c2,C,ZB,if_neg (by decide),if_neg (by simp[hc]),p2,ZB,f2,ZB,qay (by omega) (by omega),ZB,if_pos rfl,qaA,ZB]
  simp only
  rw[<-p3]
  by_cases h:e'=0
  ·rw[h,qay (by omega) (by omega)]
   rfl
  have:bb=false:=by
   cases bb with
   |false=>rfl
   |true=>exact absurd p3 h
  rw[p4 this,qbn h]
  rfl
 have P:zS N n a k=some ([],xO n a):=by
  unfold zS
  rw[vR (by omega) ha,ZB,if_pos (by simp[hc])]
 rw[if_pos (by simp[hc]),P]
 simp only[ZB]
 rw[lw,qaA,ZB,qcE (by omega),ZB,W,<-c2,C,ZB,if_neg (by decide),if_pos (by simp[hc]),qbn hc,ZB,if_pos rfl]
 rfl
end Go.Av
end
