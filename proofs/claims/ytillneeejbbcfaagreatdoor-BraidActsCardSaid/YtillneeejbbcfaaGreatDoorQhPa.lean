/-
  Words of crossings: what the program and the reference make of them, and the law of words.
-/
import Derived.Test.YtillneeejbbcfaaGreatDoorQGenA
import Derived.Test.YtillneeejbbcfaaGreatDoorAvPt
import Derived.KernelRfl
noncomputable section
set_option linter.unusedVariables false
set_option linter.unusedSimpArgs false
set_option maxRecDepth 100000
set_option linter.unusedSectionVars false
section
namespace Go.Av
def qah (n c:Int):Bool:=decide (c≠0)&&decide (-n<c)&&decide (c<n)
def qbZ (n:Int) (w:List Int):Int:=if n<1\/12<n then 3 else if 200<w.length then 5 else if w.all (qah n)=true then 0 else 3
theorem letter_eq {n:Int} (h1:1<=n) (h2:n<=12) (c:Int):xX n c=some (qah n c):=by
 unfold xX qah
 have hw:w64 (0-n)= -n:=by rw[zy (by omega) (by omega)];omega
 rw[hw]
 by_cases a:c=0
 ·simp[a]
 by_cases b: -n<c
 ·simp[a,b]
 simp[a,b]
theorem qiZ {n:Int} (h1:1<=n) (h2:n<=12) (c:Int):xG n c=some (!qah n c):=by
 unfold xG qah
 have hw:w64 (0-n)= -n:=by rw[zy (by omega) (by omega)];omega
 rw[hw]
 by_cases a:c=0
 ·simp[a]
 by_cases b: -n<c
 ·rw[if_neg a,if_neg (by omega)]
  by_cases d:c<n
  ·simp[a,b,d]
  simp[a,b,d];omega
 rw[if_neg a,if_pos (by omega)]
 simp[a,b]
theorem qig {n:Int} {w:List Int} {i:Nat} (h:i<w.length):(w.drop i).all (qah n)=(qah n w[i]&&(w.drop (i+1)).all (qah n)):=by
 rw[YG h,List.all_cons]
theorem qlU {n:Int} (h1:1<=n) (h2:n<=12) {w:List Int} (hl:w.length<=300): ∀(K i:Nat),i<=w.length->w.length<K+i->zL n w K (i:Int)=some (if(w.drop i).all (qah n)=true then .inl ()else .inr 3)
 |0,i,h,hK=>by omega
 |K+1,i,h,hK=>by
  unfold zL
  by_cases hi:i<w.length
  ·rw[if_pos (by omega),qh,Ya hi,ZB,letter_eq h1 h2,ZB,qig hi]
   cases c:qah n w[i]with
   |false=>rfl
   |true=>
    rw[if_neg (by decide),qB (by omega),qlU h1 h2 hl K (i+1) (by omega) (by omega),Bool.true_and]
  rw[if_neg (by omega),List.drop_eq_nil_of_le (by omega)]
  rfl
theorem qfz {N:Nat} (hN:2000<N) {n:Int} {w:List Int} (hl:w.length<=300):vM N n w=some (qbZ n w):=by
 unfold vM qbZ
 by_cases a:n<1
 ·rw[if_pos a,ZB,if_pos rfl,if_pos (.inl a)]
 by_cases b:12<n
 ·rw[if_neg a,decide_eq_true (by omega),ZB,if_pos rfl,if_pos (.inr b)]
 rw[if_neg a,decide_eq_false (by omega),ZB,if_neg (by decide),if_neg (show¬(n<1\/12<n)by omega)]
 by_cases c:200<w.length
 ·rw[if_pos (by omega),if_pos c]
 rw[if_neg (by omega),if_neg c,show(0:Int)=((0:Nat):Int)from rfl,qlU (by omega) (by omega) hl N 0 (by omega) (by omega),YR]
 cases w.all (qah n)<;>rfl
theorem qmW {n:Int} (h1:1<=n) (h2:n<=12) {w:List Int} (hl:w.length<=300): ∀(K i:Nat),i<=w.length->w.length<K+i->((w.drop i).all (qah n)=true/\qo w n K (i:Int)=some (.inl ()))\/((w.drop i).all (qah n)=false/\ ∃j:Nat,qo w n K (i:Int)=some (.inr (j:Int)))
 |0,i,h,hK=>by omega
 |K+1,i,h,hK=>by
  unfold qo vI
  by_cases hi:i<w.length
  ·rw[if_pos (by omega),qh,Ya hi,ZB,qiZ h1 h2,ZB,ZB,qig hi]
   cases c:qah n w[i]with
   |false=>exact .inr ⟨rfl,i,rfl⟩
   |true=>
    rw[if_neg (by decide),qB (by omega),Bool.true_and]
    exact qmW h1 h2 hl K (i+1) (by omega) (by omega)
  rw[if_neg (by omega),List.drop_eq_nil_of_le (by omega)]
  exact .inl ⟨rfl,rfl⟩
theorem qeM {N:Nat} (hN:10<N) (a b:Int):ko N [a,b]=some (if a=0 then b else a):=by
 obtain⟨K,rfl⟩: ∃K,N=K+1+1+1:=⟨N-3,by omega⟩
 have w1:w64 1=1:=rfl
 have w2:w64 2=2:=rfl
 have i0: ∀a b:Int,idx [a,b] 0=some a:=fun _ _=>rfl
 have i1: ∀a b:Int,idx [a,b] 1=some b:=fun _ _=>rfl
 unfold ko
 by_cases ha:a=0
 ·by_cases hb:b=0
  ·simp[zC,i0,i1,ha,hb,w1,w2]
  simp[zC,i0,i1,ha,hb,w1,w2]
 simp[zC,i0,ha]
theorem qa4 (b:Bool) (e:Int):qF b e=some (if b=true then e else 0):=by
 unfold qF
 cases b<;>rfl
theorem qaU {N:Nat} (hN:2000<N) {n:Int} {w:List Int} (hl:w.length<=300):je N n w=some (qbZ n w):=by
 unfold je zK qbZ
 by_cases a:n<1\/12<n
 ·have:(Option.bind (if n<1 then(qF true 3).bind fun r2=>some r2 else(qF (decide (n>12)) 3).bind fun r3=>some r3:Option Int) fun n4=>some n4)=some 3:=by
   by_cases b:n<1
   ·rw[if_pos b];rfl
   rw[if_neg b,decide_eq_true (by omega)];rfl
  rw[this,ZB,qa4,ZB,qeM (by omega),if_neg (by decide),ZB,if_pos (by decide),if_pos a]
 have:(Option.bind (if n<1 then(qF true 3).bind fun r2=>some r2 else(qF (decide (n>12)) 3).bind fun r3=>some r3:Option Int) fun n4=>some n4)=some 0:=by
  rw[if_neg (by omega),decide_eq_false (by omega)];rfl
 rw[this,ZB,qa4,ZB,qeM (by omega),if_pos rfl,ZB,if_neg a]
 by_cases c:200<w.length
 ·rw[decide_eq_true (show(w.length:Int)>200 by omega),if_pos rfl,if_pos (by decide),if_pos c]
 rw[decide_eq_false (show¬(w.length:Int)>200 by omega),if_neg Bool.false_ne_true,if_neg (show¬(!decide ((0:Int)=0))=true by decide),if_neg c]
 unfold zW jN
 rcases qmW (n:=n) (by omega) (by omega) hl N 0 (by omega) (by omega)with⟨g1,g2⟩|⟨g1,j,g2⟩<;>rw[show((0:Nat):Int)=0 from rfl]at g2
 ·rw[g2,<-YR (l:=w),g1]
  rfl
 rw[g2,<-YR (l:=w),g1]
 simp only[ZB]
 rw[decide_eq_true (show(j:Int)>=0 by omega),qa4]
 rfl
structure qg6 (n:Nat) (w:List Int):Prop where
 n1:1<=n
 n2:n<=12
 len:w.length<=200
 let_: ∀c∈w,c≠0/\ -(n:Int)<c/\c<n
theorem qks {n:Int} {w:List Int} (h:qbZ n w=0): ∃k:Nat,n=k/\qg6 k w:=by
 unfold qbZ at h
 split at h
 ·omega
 rename_i a
 split at h
 ·omega
 rename_i b
 split at h
 ·rename_i c
  refine⟨n.toNat,by omega,by omega,by omega,by omega,fun x hx=>?_⟩
  have:=Yp.1 c x hx
  simp only[qah,Bool.and_eq_true,decide_eq_true_eq]at this
  omega
 omega
theorem qoP {w:List Int} (hl:w.length<=300): ∀(K i:Nat),i<=w.length->w.length<K+i->qV w K ((w.take i).map fun x=>w64 (0-x)) (i:Int)=some (w.map fun x=>w64 (0-x))
 |0,i,h,hK=>by omega
 |K+1,i,h,hK=>by
  unfold qV qap
  by_cases hi:i<w.length
  ·rw[if_pos (by omega),qh,Ya hi,ZB,ZB,y9 (by simp;omega) (by simp;omega),ZB,qB (by omega)]
   have e:(w.take i).map (fun x=>w64 (0-x))++[w64 (0-w[i])]=(w.take (i+1)).map fun x=>w64 (0-x):=by
    rw[List.take_succ_eq_append_getElem hi,List.map_append]
    rfl
   rw[e]
   exact qoP hl K (i+1) (by omega) (by omega)
  rw[if_neg (by omega),List.take_of_length_le (by omega)]
theorem qk5 {N:Nat} (hN:2000<N) {w:List Int} (hl:w.length<=300):jX N w=some (w.map fun x=>w64 (0-x)):=by
 unfold jX
 have:=qoP hl N 0 (by omega) (by omega)
 rw[List.take_zero,List.map_nil]at this
 rw[show(0:Int)=((0:Nat):Int)from rfl,this]
 rfl
theorem qoO {l0:List Int} {n:Nat} (hn:l0.length=n) (hb:n<=100000): ∀(K i:Nat) (l:List Int),l.length=n->2*i<=n+1->n+1<K+2*i->(∀k:Nat,k<n->l[k]? =if k<i\/n<=k+i then l0[n-1-k]? else l0[k]?)->qH K l (i:Int) ((n:Int)-1-i)=some l0.reverse
 |0,i,l,hl,h2,hK,hk=>by omega
 |K+1,i,l,hl,h2,hK,hk=>by
  unfold qH
  by_cases hi:(i:Int)<(n:Int)-1-i
  ·have e1:(n:Int)-1-i=((n-1-i:Nat):Int):=by omega
   have e2:w64 (((n-1-i:Nat):Int)-1)=(n:Int)-1-((i+1:Nat):Int):=by rw[zy (by omega) (by omega)];omega
   have q1:=hk (n-1-i) (by omega)
   have q2:=hk i (by omega)
   rw[if_neg (by omega)]at q1 q2
   have g1:l0[n-1-i]? =some l0[n-1-i]:=Ya (by omega)
   have g2:l0[i]? =some l0[i]:=Ya (by omega)
   rw[g1]at q1
   rw[g2]at q2
   rw[if_pos hi,e1,qh,q1,ZB,qh,q2,ZB,yh (by omega),ZB,qh,Yw (by omega),q1,ZB,yh (by simp;omega),ZB,qB (by omega),e2]
   refine qoO hn hb K (i+1) _ (by simp;omega) (by omega) (by omega) (fun k hkn=>?_)
   by_cases c1:k=n-1-i
   ·subst c1
    rw[List.getElem?_set_self (by simp;omega),if_pos (by omega),show n-1-(n-1-i)=i by omega,g2]
   rw[Yw (fun e=>c1 e.symm)]
   by_cases c2:k=i
   ·subst c2
    rw[List.getElem?_set_self (by omega),if_pos (by omega),g1]
   rw[Yw (fun e=>c2 e.symm),hk k hkn]
   by_cases c3:k<i\/n<=k+i
   ·rw[if_pos c3,if_pos (by omega)]
   rw[if_neg c3,if_neg (by omega)]
  rw[if_neg hi]
  congr 1
  apply List.ext_getElem?
  intro k
  by_cases hkn:k<n
  ·rw[hk k hkn,List.getElem?_reverse (by omega),hn]
   by_cases c3:k<i\/n<=k+i
   ·rw[if_pos c3]
   rw[if_neg c3,show n-1-k=k by omega]
  rw[Yg (by omega),Yg (by simp;omega)]
theorem qi2 {N:Nat} {l:List Int} (hN:l.length+1<N) (hb:l.length<=100000):ji N l=some l.reverse:=by
 unfold ji
 have:=qoO (l0:=l) rfl hb N 0 l rfl (by omega) (by omega) (fun k hk=>by rw[if_neg (by omega)])
 rw[zy (by omega) (by omega),show((l.length:Int)-1)=(l.length:Int)-1-((0:Nat):Int)by omega,show(0:Int)=((0:Nat):Int)from rfl]
 rw[this]
 rfl
theorem qf6 {N:Nat} (hN:2000<N) {w:List Int} (hl:w.length<=300):vo N w=some ((w.map fun x=>w64 (0-x)).reverse):=by
 unfold vo
 rw[qk5 hN hl,ZB,qi2 (by simp;omega) (by simp;omega),ZB,if_pos (by simp),ZB]
end Go.Av
end
section
namespace Go.Av
def ve (n:Nat):List Int:=(List.range n).map fun k:Nat=>(k:Int)
theorem xz (n:Nat):(ve n).length=n:=by simp[ve]
theorem qd7 {n k:Nat} (h:k<n):(ve n)[k]? =some (k:Int):=by
 simp[ve,List.getElem?_map,List.getElem?_range h]
theorem qjh (n:Nat):ve (n+1)=ve n++[(n:Int)]:=by simp[ve,List.range_succ]
theorem qjN {c:Int} (h: -1000<c/\c<1000):vg c=some ((c.natAbs:Nat):Int):=by
 unfold vg
 rw[zy (by omega) (by omega)]
 by_cases a:0-c>c
 ·rw[if_pos a];congr 1;omega
 rw[if_neg a];congr 1;omega
theorem qmJ {c:Int} (h: -1000<c/\c<1000):qa6 c=some ((c.natAbs:Nat):Int):=by
 unfold qa6
 rw[zy (by omega) (by omega)]
 by_cases a:0-c>c
 ·rw[if_pos a];congr 1;omega
 rw[if_neg a];congr 1;omega
theorem qj3 {n:Nat} (hn:n<=1000) {l2:List Int} (h2:l2.length=n): ∀(K i:Nat) (l:List Int),l.length=n->i<=n->n<K+i->(∀k,k<i->l[k]? =some (k:Int))->zf l2 K l (i:Int)=some (ve n)
 |0,i,l,hl,h,hK,hk=>by omega
 |K+1,i,l,hl,h,hK,hk=>by
  unfold zf
  by_cases hi:i<n
  ·rw[if_pos (by omega),qh,Ya (by omega),ZB,yh (by omega),ZB,qB (by omega)]
   refine qj3 hn h2 K (i+1) _ (by simpa using hl) (by omega) (by omega) (fun k hki=>?_)
   by_cases e:k=i
   ·subst e;rw[List.getElem?_set_self (by omega)]
   rw[Yw (fun c=>e c.symm)];exact hk k (by omega)
  rw[if_neg (by omega)]
  congr 1
  apply List.ext_getElem?
  intro k
  by_cases hkn:k<n
  ·rw[hk k (by omega),qd7 hkn]
  rw[Yg (by omega),Yg (by rw[xz];omega)]
theorem qhd {n:Nat} (hn:n<=1000):mk 8 (n:Int) (0:Int)=some (List.replicate n 0):=by
 unfold mk
 rw[if_pos (by omega)]
 simp
theorem qiq {N n:Nat} (hN:2000<N) (hn:n<=1000):jO N (n:Int)=some (ve n):=by
 unfold jO
 rw[qhd hn,ZB,show(0:Int)=((0:Nat):Int)from rfl,qj3 hn (by simp) N 0 _ (by simp) (by omega) (by omega) (fun k hk=>by omega),ZB]
theorem qhY {n:Nat} (hn:n<=1000): ∀(K i:Nat),i<=n->n<K+i->zg (n:Int) K (ve i) (i:Int)=some (ve n)
 |0,i,h,hK=>by omega
 |K+1,i,h,hK=>by
  unfold zg
  by_cases hi:i<n
  ·rw[if_pos (by omega),y9 (by rw[xz];simp only[Yr,List.length_nil];omega) (by rw[xz];simp only[Yr,List.length_nil];omega),ZB,qB (by omega),<-qjh]
   exact qhY hn K (i+1) (by omega) (by omega)
  rw[if_neg (by omega),show i=n by omega]
theorem qk4 {N n:Nat} (hN:2000<N) (hn:n<=1000):vP N (n:Int)=some (ve n):=by
 unfold vP
 have:=qhY hn N 0 (by omega) (by omega)
 rw[show ve 0=([]:List Int)from rfl]at this
 rw[show(0:Int)=((0:Nat):Int)from rfl,this,ZB]
structure PInv (n:Nat) (row p:List Int):Prop where
 rl:row.length=n
 pl:p.length=n
 at_: ∀k,k<n-> ∃v:Nat,v<n/\row[k]? =some (v:Int)/\p[v]? =some (k:Int)
 all: ∀v,v<n-> ∃k,k<n/\row[k]? =some (v:Int)
theorem PInv.back {n:Nat} {row p:List Int} (h:PInv n row p) {k v:Nat} (hk:k<n) (e:row[k]? =some (v:Int)):v<n/\p[v]? =some (k:Int):=by
 obtain⟨u,hu,e1,e2⟩:=h.at_ k hk
 rw[e]at e1
 have:v=u:=by have:=Ye e1;omega
 subst this
 exact⟨hu,e2⟩
theorem PInv.inj {n:Nat} {row p:List Int} (h:PInv n row p) {k k' v:Nat} (hk:k<n) (hk':k'<n) (e:row[k]? =some (v:Int)) (e':row[k']? =some (v:Int)):k=k':=by
 have h1:=(h.back hk e).2
 have h2:=(h.back hk' e').2
 rw[h1]at h2
 have:=Ye h2
 omega
end Go.Av
end
section
namespace Go.Av
theorem bwu (n:Int):IntKind.wrap .u64 n=n%18446744073709551616:=rfl
theorem qgX {n:Int} (h0:0<=n) (h:n<18446744073709551616):IntKind.wrap .u64 n=n:=by rw[bwu];exact Int.emod_eq_of_lt h0 h
theorem qmF {n:Int} (h0:0<=n) (h:n<18446744073709551616):(BitVec.ofInt 64 n).toNat=n.toNat:=by
 rw[BitVec.toNat_ofInt]
 have:n%((2:Nat)^64:Nat)=n:=Int.emod_eq_of_lt h0 (by simpa using h)
 rw[this]
theorem band {x:Int} (h0:0<=x) (h:x<4294967296):kz .u64 x 4294967295=x:=by
 show IntKind.wrap .u64 _=_
 have e:(BitVec.ofInt IntKind.u64.bits x&&&BitVec.ofInt IntKind.u64.bits 4294967295).toNat=x.toNat%4294967296:=by
  rw[BitVec.toNat_and]
  show(BitVec.ofInt 64 x).toNat&&&(BitVec.ofInt 64 4294967295).toNat=_
  rw[qmF h0 (by omega),qmF (by omega) (by omega)]
  exact Nat.and_two_pow_sub_one_eq_mod x.toNat 32
 rw[e,bwu]
 omega
theorem bshr {x:Int} (h0:0<=x) (h:x<4294967296):zu .u64 x 32=0:=by
 show x.fdiv 4294967296=0
 rw[Int.fdiv_eq_ediv_of_nonneg _ (by omega)]
 omega
theorem bmul {x y:Int} (hx:0<=x/\x<=1000) (hy:0<=y/\y<=1000):bits_Mul x y=some (0,x*y):=by
 have h0:0<=x*y:=Int.mul_nonneg hx.1 hy.1
 have h1:x*y<=1000*1000:=Int.mul_le_mul hx.2 hy.2 hy.1 (by omega)
 unfold bits_Mul bits_Mul64
 rw[band hx.1 (by omega),band hy.1 (by omega),bshr hx.1 (by omega),bshr hy.1 (by omega),Int.zero_mul,Int.zero_mul,Int.mul_zero,qgX (n:=0) (by omega) (by omega),qgX h0 (by omega),bshr h0 (by omega)]
 have z:IntKind.wrap .u64 (0+0)=0:=rfl
 have s:zu .u64 0 32=0:=rfl
 have a:kz .u64 0 4294967295=0:=rfl
 rw[z,a,s,z,s,z,ZB]
theorem nmin (a b:Nat):Nat.min a b=min a b:=rfl
def Rep (w l:List Int) (n:Nat):Prop:= ∀i,i<n->l[i]? =w[i%w.length]?
theorem qnF {w l:List Int} {n L:Nat} (hL:l.length=L) (hn:n<=L) (hd:w.length∣n) (h:Rep w l n):(qbz l n (l.take n)).length=L/\Rep w (qbz l n (l.take n)) (n+Nat.min n (L-n)):=by
 have e1:(l.take n).length=n:=by rw[Ym];omega
 have e2:(l.drop n).length=L-n:=by rw[YJ,hL]
 have hlen:(qbz l n (l.take n)).length=L:=by
  unfold qbz cpy
  simp only[Yq,Ym,YJ,nmin]
  omega
 refine⟨hlen,fun i hi=>?_⟩
 have hm:Nat.min n (L-n)=min n (L-n):=rfl
 rw[hm]at hi
 unfold qbz cpy
 by_cases c:i<n
 ·rw[Yf (by omega),List.getElem?_take_of_lt c]
  exact h i c
 rw[Yo (by omega),e1,Yf (by simp only[Ym,YJ,nmin];omega),List.getElem?_take_of_lt (by simp only[Ym,YJ,nmin];omega),List.getElem?_take_of_lt (by omega),h (i-n) (by omega)]
 obtain⟨q,rfl⟩:=hd
 rw[show i=i-w.length*q+w.length*q by omega,Nat.add_mul_mod_self_left,Nat.add_sub_cancel]
theorem qoV {w:List Int} {L:Nat} (hb:L<=40000): ∀(K n:Nat) (l:List Int),l.length=L->n<=L->(n=L\/(0<n/\w.length∣n))->Rep w l n->L<K+n-> ∃r,qJ K l (n:Int)=some r/\r.length=L/\Rep w r L
 |0,n,l,hl,hn,hd,h,hK=>by omega
 |K+1,n,l,hl,hn,hd,h,hK=>by
  unfold qJ
  by_cases c:n<L
  ·rcases hd with e|⟨hp,hd⟩
   ·omega
   obtain⟨s1,s2⟩:=qnF hl hn hd h
   have e1:(l.take n).length=n:=by rw[Ym];omega
   rw[if_pos (by omega),qpr (by omega),ZB,ZB,e1,hl]
   have hm:Nat.min n (L-n)=min n (L-n):=rfl
   rw[show w64 ((n:Int)+((Nat.min n (L-n):Nat):Int))=((n+Nat.min n (L-n):Nat):Int)by rw[hm];rw[zy (by omega) (by omega)];rfl]
   refine qoV hb K _ _ s1 (by rw[hm];omega) ?_ s2 (by rw[hm];omega)
   rw[hm]
   by_cases g:n<=L-n
   ·right
    rw[Nat.min_eq_left g]
    exact⟨by omega,Nat.dvd_add hd hd⟩
   left
   omega
  rw[if_neg (by omega)]
  have:n=L:=by omega
  subst this
  exact⟨l,rfl,hl,h⟩
theorem qlm {N:Nat} (hN:50000<N) {w:List Int} {k:Nat} (h0:0<w.length) (hl:w.length<=200) (hk:k<=200): ∃r,zR N w (k:Int)=some r/\r.length=w.length*k/\Rep w r (w.length*k):=by
 have hb:w.length*k<=200*200:=Nat.mul_le_mul hl hk
 have hp:((w.length:Int)*(k:Int))=((w.length*k:Nat):Int):=by simp
 unfold zR
 rw[if_neg (by omega),ZB,qgX (by omega) (by omega),qgX (by omega) (by omega),bmul (by omega) (by omega),ZB,if_neg (show¬((0:Int),(w.length:Int)*(k:Int)).1>0 by simp),decide_eq_false (show¬((0:Int),(w.length:Int)*(k:Int)).2>9223372036854775807 by simp only;omega),ZB,if_neg (by decide),ZB,hp,zy (by omega) (by omega)]
 have hm:mk 8 ((w.length*k:Nat):Int) (0:Int)=some (List.replicate (w.length*k) 0):=by
  unfold mk
  rw[if_pos (by omega),Int.toNat_natCast]
 rw[hm,ZB,ZB,List.length_replicate]
 have hc:(cpy (List.replicate (w.length*k) 0) w).length=w.length*k:=by
  unfold cpy
  simp only[Yq,Ym,YJ,List.length_replicate,nmin]
  omega
 have hmn:Nat.min w.length (w.length*k)=min w.length (w.length*k):=rfl
 have hk1:k=0\/w.length<=w.length*k:=by
  rcases Nat.eq_zero_or_pos k with h|h
  ·exact .inl h
  exact .inr (Nat.le_mul_of_pos_right _ h)
 obtain⟨r,r1,r2,r3⟩:=qoV (w:=w) (L:=w.length*k) (by omega) N (Nat.min w.length (w.length*k)) (cpy (List.replicate (w.length*k) 0) w) hc (by rw[hmn];omega) (by
  rcases hk1 with e|e
  ·left;subst e;rw[hmn];simp
  ·right;rw[hmn,Nat.min_eq_left e];exact⟨h0,Nat.dvd_refl _⟩) (fun i hi=>by
  rw[hmn]at hi
  unfold cpy
  rw[List.length_replicate,Yf (by simp only[Ym];omega),List.getElem?_take_of_lt (by omega),Nat.mod_eq_of_lt (by omega)]) (by omega)
 exact⟨r,by rw[r1];rfl,r2,r3⟩
theorem qfe (w:List Int):vX w=some (if 200<w.length then([],5)else(w,0)):=by
 unfold vX
 by_cases c:200<w.length
 ·rw[if_pos (by omega),if_pos c]
 rw[if_neg (by omega),if_neg c]
theorem qll {N:Nat} (hN:2000<N) {a b:List Int} (ha:a.length<=300) (hb:b.length<=300):vQ N [a,b]=some (a++b):=by
 obtain⟨K,rfl⟩: ∃K,N=K+1+1+1:=⟨N-3,by omega⟩
 have w1:w64 (0+1)=1:=rfl
 have w2:w64 (1+1)=2:=rfl
 have i0:idx [a,b] 0=some a:=rfl
 have i1:idx [a,b] 1=some b:=rfl
 have s1:w64 (0+(a.length:Int))=(a.length:Int):=by rw[zy (by omega) (by omega)];omega
 have s2:w64 ((a.length:Int)+(b.length:Int))=((a.length+b.length:Nat):Int):=by rw[zy (by omega) (by omega)];omega
 have len:(([a,b]:List (List Int)).length:Int)=2:=rfl
 have L0:qE [a,b] (K+1+1+1) 0 0=some ((a.length+b.length:Nat):Int):=by
  rw[qE,len,if_pos (by decide),i0,ZB,s1,if_neg (by omega),ZB,w1,qE,len,if_pos (by decide),i1,ZB,s2,if_neg (by omega),ZB,w2,qE,len,if_neg (by decide)]
 have G: ∀m:Nat,m<=600-> ∃o:Option (List Int),vG (m:Int)=some o/\((m=0/\o=none)\/o=some []):=by
  intro m hm
  unfold vG
  rw[if_neg (by omega),ZB]
  have e:w64 ((m:Int)-w64 (0-0))=(m:Int):=by
   rw[show w64 (0-0)=0 from rfl,zy (by omega) (by omega)]
   omega
  rw[e]
  by_cases h:(m:Int)>0
  ·rw[if_pos h,show cut ([]:List Int) 0 0=some []from rfl,ZB]
   have z:qia 8 (m:Int) (0:Int)=some (List.replicate m 0):=by
    unfold qia
    rw[if_pos (by omega)]
    simp
   have hct:cut (List.replicate m (0:Int)) 0 0=some []:=by
    have:=qil (l:=List.replicate m (0:Int)) (k:=0) (Nat.zero_le _)
    rw[List.take_zero]at this
    exact this
   rw[z,ZB,hct,ZB,ZB]
   exact⟨some [],rfl,.inr rfl⟩
  rw[if_neg h]
  exact⟨none,rfl,.inl ⟨by omega,rfl⟩⟩
 unfold vQ
 rw[L0,ZB]
 obtain⟨o,g1,g2⟩:=G (a.length+b.length) (by omega)
 rw[g1,ZB]
 rcases g2 with⟨h0,rfl⟩|rfl
 ·have ea:a=[]:=YL.1 (by omega)
  have eb:b=[]:=YL.1 (by omega)
  subst ea eb
  rw[qp,len,if_pos (by decide),i0,ZB]
  simp only[ZB]
  rw[w1,qp,len,if_pos (by decide),i1,ZB]
  simp only[ZB]
  rw[w2,qp,len,if_neg (by decide)]
  rfl
 rw[qp,len,if_pos (by decide),i0,ZB]
 simp only
 rw[y9 (by simp;omega) (by simp;omega)]
 simp only[ZB,List.nil_append]
 rw[w1,qp,len,if_pos (by decide),i1,ZB]
 simp only
 rw[y9 (by omega) (by omega)]
 simp only[ZB]
 rw[w2,qp,len,if_neg (by decide)]
 rfl
theorem qjk {N:Nat} (hN:2000<N) {n:Int} {a b:List Int} (ha:a.length<=300) (hb:b.length<=300): ∃l e,xy N n a b=some (l,e)/\e=(if qbZ n a=0 then(if qbZ n b=0 then(if 200<a.length+b.length then 5 else 0)else qbZ n b)else qbZ n a)/\(e≠0->l=[])/\(e=0->l=a++b/\l.length<=200):=by
 unfold xy jT
 rw[qaU hN ha,ZB,qaU hN hb,ZB,qeM (by omega),ZB,ZB]
 by_cases h1:qbZ n a=0
 ·by_cases h2:qbZ n b=0
  ·rw[if_pos h1,h2,if_neg (by decide),qll hN ha hb,ZB,qfe,Yq,ZB,if_pos h1,if_pos rfl]
   by_cases h3:200<a.length+b.length
   ·rw[if_pos h3]
    exact⟨[],5,rfl,by rw[if_pos h3],fun _=>rfl,fun h=>absurd h (by decide)⟩
   rw[if_neg h3]
   exact⟨a++b,0,rfl,by rw[if_neg h3],fun h=>absurd rfl h,fun _=>⟨rfl,by rw[Yq];omega⟩⟩
  rw[if_pos h1,if_pos (by simp[h2])]
  exact⟨[],_,rfl,by rw[if_pos h1,if_neg h2],fun _=>rfl,fun h=>absurd h h2⟩
 rw[if_neg h1,if_pos (by simp[h1])]
 exact⟨[],_,rfl,by rw[if_neg h1],fun _=>rfl,fun h=>absurd h h1⟩
end Go.Av
end
section
namespace Go.Av
def qeF (l:List Int):Int:=(l.find? fun x=>!decide (x=0)).getD 0
theorem qiR {l:List Int} (hl:l.length<=100): ∀(K i:Nat),i<=l.length->l.length<K+i->zC l K (i:Int)=some (match(l.drop i).find? (fun x=>!decide (x=0))with|some x=> .inr x|none=> .inl ())
 |0,i,h,hK=>by omega
 |K+1,i,h,hK=>by
  unfold zC
  by_cases hi:i<l.length
  ·rw[if_pos (by omega),qh,Ya hi,ZB,YG hi,List.find?_cons]
   by_cases c:l[i]=0
   ·rw[if_neg (by simp[c]),qB (by omega),qiR hl K (i+1) (by omega) (by omega)]
    simp[c]
   rw[if_pos (by simp[c])]
   simp[c]
  rw[if_neg (by omega),List.drop_eq_nil_of_le (by omega)]
  rfl
theorem qea {N:Nat} {l:List Int} (hl:l.length<=100) (hN:l.length<N):ko N l=some (qeF l):=by
 unfold ko qeF
 have:=qiR hl N 0 (by omega) (by omega)
 rw[YR,show((0:Nat):Int)=0 from rfl]at this
 rw[this]
 cases l.find? (fun x=>!decide (x=0))<;>rfl
theorem qdY (l:List Int):qeF (0::l)=qeF l:=by simp[qeF]
theorem qhj {x:Int} (h:x≠0) (l:List Int):qeF (x::l)=x:=by simp[qeF,h]
theorem qfL (x:Int):qeF [x]=x:=by
 by_cases h:x=0
 ·subst h;rfl
 exact qhj h []
def MvOK (n:Int) (w:List Int) (r:List Int×Int):Prop:=(r.2≠0->r.1=[])/\(r.2=0->r.1.length<=w.length+2/\ ∀c∈r.1,qah n c=true)
theorem MvOK.bad {n:Int} {w:List Int} {e:Int} (h:e≠0):MvOK n w ([],e):=⟨fun _=>rfl,fun g=>absurd g h⟩
section
end
end Go.Av
end
section
namespace Go.Av
def tr5 (i k:Nat):Nat:=if k=i then i+1 else if k=i+1 then i else k
theorem qeN (i k:Nat):tr5 i (tr5 i k)=k:=by
 unfold tr5
 by_cases a:k=i
 ·subst a;simp
 by_cases b:k=i+1
 ·subst b;simp
 simp[a,b]
theorem qbD (i:Nat):tr5 i i=i+1:=by simp[tr5]
theorem qby (i:Nat):tr5 i (i+1)=i:=by simp[tr5]
theorem vO {i k:Nat} (a:k≠i) (b:k≠i+1):tr5 i k=k:=by simp[tr5,a,b]
theorem yo (i k:Nat):(k=i/\tr5 i k=i+1)\/(k=i+1/\tr5 i k=i)\/(k≠i/\k≠i+1/\tr5 i k=k):=by
 by_cases a:k=i
 ·subst a;exact .inl ⟨rfl,qbD k⟩
 by_cases b:k=i+1
 ·subst b;exact .inr (.inl ⟨rfl,qby i⟩)
 exact .inr (.inr ⟨a,b,vO a b⟩)
theorem qhR {i j:Nat} (h:i+1<j\/j+1<i) (k:Nat):tr5 i (tr5 j k)=tr5 j (tr5 i k):=by
 by_cases a:k=i
 ·subst a;rw[vO (i:=j) (k:=k) (by omega) (by omega),qbD,vO (i:=j) (k:=k+1) (by omega) (by omega)]
 by_cases b:k=i+1
 ·subst b;rw[vO (i:=j) (k:=i+1) (by omega) (by omega),qby,vO (i:=j) (k:=i) (by omega) (by omega)]
 rw[vO (i:=i) (k:=k) a b]
 rcases yo j k with⟨c,e⟩|⟨c,e⟩|⟨c,c',e⟩<;>rw[e]
 ·exact vO (by omega) (by omega)
 ·exact vO (by omega) (by omega)
 exact vO a b
theorem qgn (i k:Nat):tr5 i (tr5 (i+1) (tr5 i k))=tr5 (i+1) (tr5 i (tr5 (i+1) k)):=by
 have a1:=qbD i
 have a2:=qby i
 have a3:tr5 i (i+1+1)=i+1+1:=vO (by omega) (by omega)
 have b1:=qbD (i+1)
 have b2:=qby (i+1)
 have b3:tr5 (i+1) i=i:=vO (by omega) (by omega)
 by_cases a:k=i
 ·subst a;rw[a1,b1,a3,b3,a1,b1]
 by_cases b:k=i+1
 ·subst b;rw[a2,b3,a1,b1,a3,b2]
 by_cases c:k=i+1+1
 ·subst c;rw[a3,b2,a2,b3]
 rw[vO (i:=i) (k:=k) a b,vO (i:=i+1) (k:=k) b c,vO (i:=i) (k:=k) a b,vO (i:=i+1) (k:=k) b c]
structure SB where
 f:Nat->Nat
 g:Nat->Nat
 gf: ∀k,g (f k)=k
 fg: ∀k,f (g k)=k
theorem SB.ext {s t:SB} (h: ∀k,s.f k=t.f k):s=t:=by
 obtain⟨f,g,a,b⟩:=s
 obtain⟨f',g',a',b'⟩:=t
 have e:f=f':=funext h
 subst e
 have e:g=g':=funext fun k=>by
  have:=a (g' k)
  rwa [b']at this
 subst e
 rfl
theorem SB.finj (s:SB) {a b:Nat} (h:s.f a=s.f b):a=b:=by
 have:=congrArg s.g h
 rwa [s.gf,s.gf]at this
theorem SB.ginj (s:SB) {a b:Nat} (h:s.g a=s.g b):a=b:=by
 have:=congrArg s.f h
 rwa [s.fg,s.fg]at this
def SB.fr (s:SB) (i:Nat):SB:=⟨fun k=>s.f (tr5 i k),fun k=>tr5 i (s.g k),fun k=>by rw[s.gf,qeN],fun k=>by rw[qeN,s.fg]⟩
def SB.bk (s:SB) (i:Nat):SB:=⟨fun k=>tr5 i (s.f k),fun k=>s.g (tr5 i k),fun k=>by rw[qeN,s.gf],fun k=>by rw[s.fg,qeN]⟩
def SB.Begs (s:SB) (i:Nat):Prop:=s.f (i+1)<s.f i
def SB.Ends (s:SB) (i:Nat):Prop:=s.g (i+1)<s.g i
theorem SB.nEnds {s:SB} {i:Nat} (h: ¬s.Ends i):s.g i<s.g (i+1):=by
 unfold SB.Ends at h
 have:s.g i≠s.g (i+1):=fun e=>by have:=s.ginj e;omega
 omega
def psh (L:Nat->SB) (k i:Nat):Nat->SB:=fun q=>if q=k then(L k).bk i else if q=k+1 then(L (k+1)).fr i else L q
theorem ym (L:Nat->SB) (k i:Nat):psh L k i k=(L k).bk i:=by simp[psh]
theorem jv (L:Nat->SB) (k i:Nat):psh L k i (k+1)=(L (k+1)).fr i:=by simp[psh]
theorem zY (L:Nat->SB) {k i q:Nat} (a:q≠k) (b:q≠k+1):psh L k i q=L q:=by simp[psh,a,b]
structure yQ (n m:Nat) (L:Nat->SB) (k i:Nat):Prop where
 k_:k+1<m
 i_:i+1<n
 b_:(L (k+1)).Begs i
 e_: ¬(L k).Ends i
inductive Psh (n m:Nat):(Nat->SB)->(Nat->SB)->Prop
 |mk {L:Nat->SB} {k i:Nat} (h:yQ n m L k i):Psh n m L (psh L k i)
inductive Pst (n m:Nat):(Nat->SB)->(Nat->SB)->Prop
 |refl {L:Nat->SB}:Pst n m L L
 |head {L L1 A:Nat->SB} (h:Psh n m L L1) (t:Pst n m L1 A):Pst n m L A
theorem Pst.trans {n m:Nat} {L A B:Nat->SB} (h:Pst n m L A) (k:Pst n m A B):Pst n m L B:=by
 induction h with
 |refl=>exact k
 |head h _ ih=>exact .head h (ih k)
theorem Pst.one {n m:Nat} {L A:Nat->SB} (h:Psh n m L A):Pst n m L A:= .head h .refl
def Nf (n m:Nat) (L:Nat->SB):Prop:= ∀k i,¬yQ n m L k i
def qd4:List Nat->Nat
 |[]=>0
 |x::r=>r.countP (fun y=>decide (y<x))+qd4 r
theorem qgr {x y:Nat} (h:y<x) (b:List Nat): ∀a:List Nat,qd4 (a++y::x::b)+1=qd4 (a++x::y::b)
 |[]=>by
  simp only[List.nil_append,qd4,List.countP_cons]
  rw[decide_eq_true h,decide_eq_false (show¬x<y by omega)]
  simp only[if_true,ZF,if_false]
  omega
 |z::a=>by
  simp only[List.cons_append,qd4]
  have:=qgr h b a
  simp only[List.countP_append,List.countP_cons]
  omega
theorem qoS {i:Nat}: ∀r:List Nat,r.Nodup->i∉r->r.countP (fun y=>decide (tr5 i y<i+1))<=r.countP (fun y=>decide (y<i))+(if i+1∈r then 1 else 0)
 |[],_,_=>by simp
 |y::r,hn,hi=>by
  have hn2:=(List.nodup_cons.1 hn)
  have hi2:i∉r:=fun h=>hi (List.mem_cons_of_mem _ h)
  have hy:y≠i:=fun e=>hi (e▸List.mem_cons_self)
  have ih:=qoS r hn2.2 hi2
  rw[List.countP_cons,List.countP_cons]
  by_cases c:y=i+1
  ·subst c
   rw[qby,decide_eq_true (by omega),decide_eq_false (by omega),if_pos rfl,if_neg (by decide),if_pos List.mem_cons_self]
   rw[if_neg hn2.1]at ih
   omega
  rw[vO hy c]
  have e1:decide (y<i+1)=decide (y<i):=by
   by_cases d:y<i
   ·rw[decide_eq_true d,decide_eq_true (by omega)]
   rw[decide_eq_false d,decide_eq_false (by omega)]
  rw[e1]
  have e2:(if i+1∈y::r then 1 else 0)=(if i+1∈r then 1 else 0:Nat):=by
   by_cases d:i+1∈r
   ·rw[if_pos d,if_pos (List.mem_cons_of_mem _ d)]
   rw[if_neg d,if_neg (fun h=>by rcases List.mem_cons.1 h with h|h;exact c h.symm;exact d h)]
  rw[e2]
  omega
theorem qiA {i:Nat}: ∀p:List Nat,p.Nodup->qd4 (p.map (tr5 i))<=qd4 p+(if i∈p then 1 else 0)
 |[],_=>by simp[qd4]
 |x::r,hn=>by
  have hn2:=(List.nodup_cons.1 hn)
  have ih:=qiA (i:=i) r hn2.2
  simp only[List.map_cons,qd4,List.countP_map]
  have e:(fun y=>decide (y<tr5 i x))∘tr5 i=fun y=>decide (tr5 i y<tr5 i x):=rfl
  rw[e]
  by_cases c:x=i
  ·subst c
   have hc:=qoS r hn2.2 hn2.1
   rw[qbD,if_pos List.mem_cons_self]
   rw[if_neg hn2.1]at ih
   have:(if x+1∈r then 1 else 0:Nat)<=1:=by split<;>omega
   omega
  have h1:r.countP (fun y=>decide (tr5 i y<tr5 i x))<=r.countP (fun y=>decide (y<x)):=by
   refine List.countP_mono_left fun y hy h=>?_
   have hyx:y≠x:=fun e=>hn2.1 (e▸hy)
   simp only[decide_eq_true_eq]at h⊢
   rcases yo i x with⟨a,ea⟩|⟨a,ea⟩|⟨a,a',ea⟩<;>rcases yo i y with⟨b,eb⟩|⟨b,eb⟩|⟨b,b',eb⟩<;>rw[ea,eb]at h<;>omega
  have e2:(if i∈x::r then 1 else 0)=(if i∈r then 1 else 0:Nat):=by
   by_cases d:i∈r
   ·rw[if_pos d,if_pos (List.mem_cons_of_mem _ d)]
   rw[if_neg d,if_neg (fun h=>by rcases List.mem_cons.1 h with h|h;exact c h.symm;exact d h)]
  rw[e2]
  omega
def SB.row (n:Nat) (s:SB):List Nat:=(List.range n).map s.f
theorem Ue (n:Nat) (s:SB):(s.row n).length=n:=by simp[SB.row]
theorem Uf {n k:Nat} (s:SB) (h:k<n):(s.row n)[k]? =some (s.f k):=by simp[SB.row,List.getElem?_range h]
theorem qdk {f:Nat->Nat} (hf: ∀a b,f a=f b->a=b): ∀l:List Nat,l.Nodup->(l.map f).Nodup
 |[],_=>List.nodup_nil
 |x::l,h=>by
  have h2:=List.nodup_cons.1 h
  rw[List.map_cons,List.nodup_cons]
  refine⟨fun hx=>?_,qdk hf l h2.2⟩
  obtain⟨y,hy,e⟩:=List.mem_map.1 hx
  exact h2.1 (hf _ _ e▸hy)
theorem SB.row_nodup (n:Nat) (s:SB):(s.row n).Nodup:=qdk (fun _ _ h=>s.finj h) _ List.nodup_range
def SB.inv (n:Nat) (s:SB):Nat:=qd4 (s.row n)
theorem qmS {l:List Nat} {i:Nat} (h:i+1<l.length):l=l.take i++l[i]::l[i+1]::l.drop (i+2):=by
 rw[<-YG h,<-YG (by omega),List.take_append_drop]
theorem SB.inv_fr {n i:Nat} {s:SB} (hi:i+1<n) (h:s.Begs i):(s.fr i).inv n+1=s.inv n:=by
 unfold SB.inv
 have e1:=qmS (l:=s.row n) (i:=i) (by rw[Ue];omega)
 have e2:=qmS (l:=(s.fr i).row n) (i:=i) (by rw[Ue];omega)
 have g: ∀(t:SB) (k:Nat) (hk:k<(t.row n).length),(t.row n)[k]=t.f k:=fun t k hk=>by simp[SB.row]
 have t1:((s.fr i).row n).take i=(s.row n).take i:=by
  apply List.ext_getElem?
  intro k
  by_cases hk:k<i
  ·rw[List.getElem?_take_of_lt hk,List.getElem?_take_of_lt hk,Uf _ (by omega),Uf _ (by omega)]
   show some (s.f (tr5 i k))=_
   rw[vO (by omega) (by omega)]
  rw[Yg (by simp;omega),Yg (by simp;omega)]
 have t2:((s.fr i).row n).drop (i+2)=(s.row n).drop (i+2):=by
  apply List.ext_getElem?
  intro k
  rw[YI,YI]
  by_cases hk:i+2+k<n
  ·rw[Uf _ hk,Uf _ hk]
   show some (s.f (tr5 i _))=_
   rw[vO (by omega) (by omega)]
  rw[Yg (by rw[Ue];omega),Yg (by rw[Ue];omega)]
 rw[e1,e2,t1,t2,g,g,g,g]
 show qd4 (_++s.f (tr5 i i)::s.f (tr5 i (i+1))::_)+1=_
 rw[qbD,qby]
 exact qgr h _ _
theorem SB.inv_bk (n i:Nat) (s:SB):(s.bk i).inv n<=s.inv n+1:=by
 unfold SB.inv
 have e:(s.bk i).row n=(s.row n).map (tr5 i):=by
  unfold SB.row
  rw[List.map_map]
  rfl
 rw[e]
 have:=qiA (i:=i) (s.row n) (s.row_nodup n)
 have h2:(if i∈s.row n then 1 else 0:Nat)<=1:=by split<;>omega
 omega
def mu5 (n:Nat) (L:Nat->SB):Nat->Nat
 |0=>0
 |m+1=>mu5 n L m+m*(L m).inv n
theorem qmc {n k:Nat} {L L':Nat->SB} (h: ∀q,q<k->L' q=L q): ∀m,m<=k->mu5 n L' m=mu5 n L m
 |0,_=>rfl
 |m+1,hm=>by simp only[mu5];rw[qmc h m (by omega),h m (by omega)]
theorem qdL {n m k i:Nat} {L:Nat->SB} (h:yQ n m L k i):mu5 n (psh L k i) m<mu5 n L m:=by
 have base:mu5 n (psh L k i) (k+2)+1<=mu5 n L (k+2):=by
  simp only[mu5]
  rw[qmc (L':=psh L k i) (L:=L) (k:=k) (fun q hq=>zY L (by omega) (by omega)) k (Nat.le_refl _),ym,jv]
  have a:=SB.inv_fr h.i_ h.b_
  have b:=Nat.mul_le_mul_left k (SB.inv_bk n i (L k))
  rw[<-a,Nat.mul_add,Nat.mul_one]
  rw[Nat.mul_add,Nat.mul_one]at b
  omega
 have up: ∀d,mu5 n (psh L k i) (k+2+d)+1<=mu5 n L (k+2+d):=by
  intro d
  induction d with
  |zero=>exact base
  |succ d ih=>
   show mu5 n (psh L k i) (k+2+d)+(k+2+d)*(psh L k i (k+2+d)).inv n+1<=mu5 n L (k+2+d)+(k+2+d)*(L (k+2+d)).inv n
   rw[zY L (q:=k+2+d) (by omega) (by omega)]
   omega
 have hk:=h.k_
 have:=up (m-(k+2))
 rw[show k+2+(m-(k+2))=m by omega]at this
 omega
theorem Psh.lt {n m:Nat} {L A:Nat->SB} (h:Psh n m L A):mu5 n A m<mu5 n L m:=by
 cases h with
 |mk h=>exact qdL h
theorem qoZ {n m:Nat}: ∀(M:Nat) (L:Nat->SB),mu5 n L m<=M-> ∃A,Pst n m L A/\Nf n m A
 |M,L,hM=>by
  by_cases h: ∃k i,yQ n m L k i
  ·obtain⟨k,i,h⟩:=h
   have:=qdL h
   cases M with
   |zero=>omega
   |succ M=>
    obtain⟨A,h1,h2⟩:=qoZ (n:=n) (m:=m) M (psh L k i) (by omega)
    exact⟨A,.head (.mk h) h1,h2⟩
  exact⟨L,.refl,fun k i c=>h ⟨k,i,c⟩⟩
theorem qiH {s:SB} {i j:Nat} (h:i+1<j\/j+1<i):(s.fr i).Begs j↔s.Begs j:=by
 show s.f (tr5 i (j+1))<s.f (tr5 i j)↔_
 rw[vO (by omega) (by omega),vO (by omega) (by omega)]
 rfl
theorem qiJ {s:SB} {i j:Nat} (h:i+1<j\/j+1<i):(s.bk i).Ends j↔s.Ends j:=by
 show s.g (tr5 i (j+1))<s.g (tr5 i j)↔_
 rw[vO (by omega) (by omega),vO (by omega) (by omega)]
 rfl
theorem pst3 {n m k i j l:Nat} {L:Nat->SB} (h1:yQ n m L k i) (h2:yQ n m (psh L k i) k j) (h3:yQ n m (psh (psh L k i) k j) k l):Pst n m (psh L k i) (psh (psh (psh L k i) k j) k l):=
 .head (.mk h2) (.one (.mk h3))
theorem qov {L:Nat->SB} {k i:Nat}:psh (psh (psh L k i) k (i+1)) k i=psh (psh (psh L k (i+1)) k i) k (i+1):=by
 funext q
 by_cases a:q=k
 ·subst a
  simp only[ym]
  exact SB.ext fun x=>qgn i _
 by_cases b:q=k+1
 ·subst b
  simp only[jv]
  exact SB.ext fun x=>congrArg (L (k+1)).f (qgn i x)
 simp only[zY _ a b]
theorem qgG {n m k i:Nat} {L:Nat->SB} (h:yQ n m L k i) (h':yQ n m L k (i+1)): ∃D,Pst n m (psh L k i) D/\Pst n m (psh L k (i+1)) D:=by
 have b1:(L (k+1)).f (i+1)<(L (k+1)).f i:=h.b_
 have b2:(L (k+1)).f (i+2)<(L (k+1)).f (i+1):=h'.b_
 have e1:=SB.nEnds h.e_
 have e2:(L k).g (i+1)<(L k).g (i+2):=SB.nEnds h'.e_
 have ki:=h.k_
 have ii:=h.i_
 have ii':=h'.i_
 have t1:tr5 i (i+2)=i+2:=vO (by omega) (by omega)
 have t2:tr5 (i+1) i=i:=vO (by omega) (by omega)
 have t3:tr5 (i+1) (i+2)=i+1:=qby (i+1)
 have t4:tr5 (i+1) (i+1)=i+2:=qbD (i+1)
 have p1:yQ n m (psh L k i) k (i+1):=by
  refine⟨ki,ii',?_,?_⟩
  ·rw[jv]
   show(L (k+1)).f (tr5 i (i+2))<(L (k+1)).f (tr5 i (i+1))
   rw[t1,qby];omega
  rw[ym]
  show¬(L k).g (tr5 i (i+2))<(L k).g (tr5 i (i+1))
  rw[t1,qby];omega
 have p2:yQ n m (psh (psh L k i) k (i+1)) k i:=by
  refine⟨ki,ii,?_,?_⟩
  ·rw[jv,jv]
   show(L (k+1)).f (tr5 i (tr5 (i+1) (i+1)))<(L (k+1)).f (tr5 i (tr5 (i+1) i))
   rw[qbD,t1,t2,qbD];omega
  rw[ym,ym]
  show¬(L k).g (tr5 i (tr5 (i+1) (i+1)))<(L k).g (tr5 i (tr5 (i+1) i))
  rw[qbD,t1,t2,qbD];omega
 have q1:yQ n m (psh L k (i+1)) k i:=by
  refine⟨ki,ii,?_,?_⟩
  ·rw[jv]
   show(L (k+1)).f (tr5 (i+1) (i+1))<(L (k+1)).f (tr5 (i+1) i)
   rw[t4,t2];omega
  rw[ym]
  show¬(L k).g (tr5 (i+1) (i+1))<(L k).g (tr5 (i+1) i)
  rw[t4,t2];omega
 have q2:yQ n m (psh (psh L k (i+1)) k i) k (i+1):=by
  refine⟨ki,ii',?_,?_⟩
  ·rw[jv,jv]
   show(L (k+1)).f (tr5 (i+1) (tr5 i (i+2)))<(L (k+1)).f (tr5 (i+1) (tr5 i (i+1)))
   rw[t1,t3,qby,t2];omega
  rw[ym,ym]
  show¬(L k).g (tr5 (i+1) (tr5 i (i+2)))<(L k).g (tr5 (i+1) (tr5 i (i+1)))
  rw[t1,t3,qby,t2];omega
 exact⟨_,pst3 h p1 p2,qov▸pst3 h' q1 q2⟩
theorem qne {n m k i j:Nat} {L:Nat->SB} (hd:i+1<j\/j+1<i) (h:yQ n m L k i) (h':yQ n m L k j): ∃D,Pst n m (psh L k i) D/\Pst n m (psh L k j) D:=by
 have p1:yQ n m (psh L k i) k j:=⟨h.k_,h'.i_,by rw[jv,qiH hd];exact h'.b_,by rw[ym,qiJ hd];exact h'.e_⟩
 have p2:yQ n m (psh L k j) k i:=⟨h.k_,h.i_,by rw[jv,qiH (i:=j) (j:=i) (by omega)];exact h.b_,by rw[ym,qiJ (i:=j) (j:=i) (by omega)];exact h.e_⟩
 have e:psh (psh L k i) k j=psh (psh L k j) k i:=by
  funext q
  by_cases a:q=k
  ·subst a
   simp only[ym]
   exact SB.ext fun x=>qhR (i:=j) (j:=i) (by omega) _
  by_cases b:q=k+1
  ·subst b
   simp only[jv]
   exact SB.ext fun x=>congrArg (L (k+1)).f (qhR (i:=i) (j:=j) (by omega) x)
  simp only[zY _ a b]
 exact⟨_,.one (.mk p1),e▸ .one (.mk p2)⟩
theorem qgP {n m k i j:Nat} {L:Nat->SB} (h:yQ n m L k i) (h':yQ n m L (k+1) j): ∃D,Pst n m (psh L k i) D/\Pst n m (psh L (k+1) j) D:=by
 have b1:(L (k+1)).f (i+1)<(L (k+1)).f i:=h.b_
 have e2:(L (k+1)).g j<(L (k+1)).g (j+1):=SB.nEnds h'.e_
 have gf:=(L (k+1)).gf
 have fg:=(L (k+1)).fg
 have p1:yQ n m (psh L k i) (k+1) j:=by
  refine⟨h'.k_,h'.i_,?_,?_⟩
  ·rw[zY L (q:=k+1+1) (by omega) (by omega)];exact h'.b_
  rw[jv]
  show¬tr5 i ((L (k+1)).g (j+1))<tr5 i ((L (k+1)).g j)
  rcases yo i ((L (k+1)).g (j+1))with⟨a,ea⟩|⟨a,ea⟩|⟨a,a',ea⟩<;>rcases yo i ((L (k+1)).g j)with⟨b,eb⟩|⟨b,eb⟩|⟨b,b',eb⟩<;>rw[ea,eb]<;>try omega
  have x1:=fg (j+1)
  have x2:=fg j
  rw[a]at x1
  rw[b]at x2
  omega
 have p2:yQ n m (psh L (k+1) j) k i:=by
  refine⟨h.k_,h.i_,?_,?_⟩
  ·rw[ym]
   show tr5 j ((L (k+1)).f (i+1))<tr5 j ((L (k+1)).f i)
   rcases yo j ((L (k+1)).f (i+1))with⟨a,ea⟩|⟨a,ea⟩|⟨a,a',ea⟩<;>rcases yo j ((L (k+1)).f i)with⟨b,eb⟩|⟨b,eb⟩|⟨b,b',eb⟩<;>rw[ea,eb]<;>try omega
   have x1:=gf (i+1)
   have x2:=gf i
   rw[a]at x1
   rw[b]at x2
   omega
  rw[zY L (q:=k) (by omega) (by omega)];exact h.e_
 have e:psh (psh L k i) (k+1) j=psh (psh L (k+1) j) k i:=by
  funext q
  by_cases a:q=k
  ·subst a
   rw[zY _ (q:=q) (by omega) (by omega),ym,ym,zY _ (q:=q) (by omega) (by omega)]
  by_cases b:q=k+1
  ·subst b
   rw[ym,jv,jv,ym]
   rfl
  by_cases c:q=k+1+1
  ·subst c
   rw[jv,zY _ (q:=k+1+1) (by omega) (by omega),zY _ (q:=k+1+1) (by omega) (by omega),jv]
  rw[zY _ b c,zY _ a b,zY _ a b,zY _ b c]
 exact⟨_,.one (.mk p1),e▸ .one (.mk p2)⟩
theorem qgb {n m k k' i j:Nat} {L:Nat->SB} (hk:k+1<k') (h:yQ n m L k i) (h':yQ n m L k' j): ∃D,Pst n m (psh L k i) D/\Pst n m (psh L k' j) D:=by
 have p1:yQ n m (psh L k i) k' j:=⟨h'.k_,h'.i_,by rw[zY L (q:=k'+1) (by omega) (by omega)];exact h'.b_,by rw[zY L (q:=k') (by omega) (by omega)];exact h'.e_⟩
 have p2:yQ n m (psh L k' j) k i:=⟨h.k_,h.i_,by rw[zY L (q:=k+1) (by omega) (by omega)];exact h.b_,by rw[zY L (q:=k) (by omega) (by omega)];exact h.e_⟩
 have e:psh (psh L k i) k' j=psh (psh L k' j) k i:=by
  funext q
  by_cases a:q=k
  ·subst a
   rw[zY _ (q:=q) (by omega) (by omega),ym,ym,zY _ (q:=q) (by omega) (by omega)]
  by_cases b:q=k+1
  ·subst b
   rw[zY _ (q:=k+1) (by omega) (by omega),jv,jv,zY _ (q:=k+1) (by omega) (by omega)]
  by_cases c:q=k'
  ·subst c
   rw[ym,zY _ a b,zY _ a b,ym]
  by_cases d:q=k'+1
  ·subst d
   rw[jv,zY _ a b,zY _ a b,jv]
  rw[zY _ c d,zY _ a b,zY _ a b,zY _ c d]
 exact⟨_,.one (.mk p1),e▸ .one (.mk p2)⟩
theorem meet5 {n m k k' i j:Nat} {L:Nat->SB} (h:yQ n m L k i) (h':yQ n m L k' j): ∃D,Pst n m (psh L k i) D/\Pst n m (psh L k' j) D:=by
 have sw: ∀{A B:Nat->SB},(∃D,Pst n m A D/\Pst n m B D)-> ∃D,Pst n m B D/\Pst n m A D:=fun⟨D,a,b⟩=>⟨D,b,a⟩
 by_cases e:k=k'
 ·subst e
  by_cases c:i=j
  ·subst c;exact⟨_,.refl,.refl⟩
  by_cases c1:j=i+1
  ·subst c1;exact qgG h h'
  by_cases c2:i=j+1
  ·subst c2;exact sw (qgG h' h)
  exact qne (by omega) h h'
 by_cases e1:k'=k+1
 ·subst e1;exact qgP h h'
 by_cases e2:k=k'+1
 ·subst e2;exact sw (qgP h' h)
 by_cases e3:k<k'
 ·exact qgb (by omega) h h'
 exact sw (qgb (by omega) h' h)
theorem qhl {n m:Nat}: ∀(M:Nat) {L A B:Nat->SB},mu5 n L m<=M->Pst n m L A->Pst n m L B->Nf n m A->Nf n m B->A=B
 |M,L,A,B,hM,hA,hB,nA,nB=>by
  cases hA with
  |refl=>
   cases hB with
   |refl=>rfl
   |head h _=>cases h with|mk h=>exact absurd h (nA _ _)
  |head h tA=>
   cases hB with
   |refl=>cases h with|mk h=>exact absurd h (nB _ _)
   |head h' tB=>
    cases h with
    |mk h=>
     cases h' with
     |mk h'=>
      obtain⟨D,d1,d2⟩:=meet5 h h'
      obtain⟨E,e1,e2⟩:=qoZ _ D (Nat.le_refl _)
      have l1:=qdL h
      have l2:=qdL h'
      cases M with
      |zero=>omega
      |succ M=>rw[qhl M (by omega) tA (d1.trans e1) nA e2,qhl M (by omega) tB (d2.trans e1) nB e2]
end Go.Av
end
section
namespace Go.Av
theorem qmR {m:List (Int×Bool)} (k k':Int) (v:Bool):qbq (qcW m k v) k'=if k'=k then some v else qbq m k':=by
 induction m with
 |nil=>
  unfold qcW qbq
  by_cases h:k'=k
  ·simp[h]
  simp[h]
 |cons p m ih=>
  obtain⟨a,b⟩:=p
  unfold qcW
  by_cases h:(k==a)=true
  ·have e:k=a:=by simpa using h
   subst e
   rw[if_pos h]
   unfold qbq
   by_cases c:k'=k
   ·simp[c]
   have c2:(k'==k)=false:=by simpa using c
   rw[List.find?_cons_of_neg (by simp[c2]),List.find?_cons_of_neg (by simp[c2]),if_neg c]
  rw[if_neg h]
  have e:k≠a:=by simpa using h
  unfold qbq at ih⊢
  by_cases c:k'=a
  ·have c2:(k'==a)=true:=by simpa using c
   rw[List.find?_cons_of_pos (by simpa using c2),List.find?_cons_of_pos (by simpa using c2),if_neg (by rw[c];exact fun x=>e x.symm)]
  have c2:(k'==a)=false:=by simpa using c
  rw[List.find?_cons_of_neg (by simp[c2]),List.find?_cons_of_neg (by simp[c2])]
  exact ih
structure IsP (p:List Int):Prop where
 few:p.length<=256
 at_: ∀k,k<p.length-> ∃v:Nat,v<p.length/\p[k]? =some (v:Int)
 inj: ∀(k k':Nat) (v:Int),p[k]? =some v->p[k']? =some v->k=k'
theorem qjs {p:List Int} (hl:p.length<=256) {i:Nat} (hi:i<p.length) {x:Int} (hx:p[i]? =some x): ∀(K j:Nat),j<=i->i<K+j->(∀k,k<j->p[k]? ≠some x)->
 (zk p (i:Int) K (j:Int)=some (.inl ())/\ ∀k,k<i->p[k]? ≠some x)\/(zk p (i:Int) K (j:Int)=some (.inr 15)/\ ∃k,k<i/\p[k]? =some x)
 |0,j,h,hK,hn=>by omega
 |K+1,j,h,hK,hn=>by
  unfold zk
  by_cases hj:j<i
  ·have hy:p[j]? =some p[j]:=Ya (by omega)
   rw[if_pos (by omega),qh,hy,ZB,qh,hx,ZB]
   by_cases e:p[j]=x
   ·rw[if_pos e]
    exact .inr ⟨rfl,j,hj,by rw[hy,e]⟩
   rw[if_neg e,qB (by omega)]
   refine qjs hl hi hx K (j+1) (by omega) (by omega) (fun k hk=>?_)
   by_cases c:k=j
   ·subst c
    rw[hy]
    exact fun z=>e (Ye z)
   exact hn k (by omega)
  rw[if_neg (by omega)]
  exact .inl ⟨rfl,fun k hk=>hn k (by omega)⟩
theorem qko {N:Nat} (hN:2000<N) {p:List Int} (hl:p.length<=256): ∀(K i:Nat) (m:List (Int×Bool)),i<=p.length->p.length<K+i->(∀x,(qbq m x).getD false=true↔ ∃k,k<i/\p[k]? =some x)->
 ∃r,zB p K m (i:Int)=some r/\qR N p K (i:Int)=some r/\((r= .inl ()/\ ∀j,i<=j->j<p.length-> ∃v:Nat,v<p.length/\p[j]? =some (v:Int)/\ ∀k,k<j->p[k]? ≠some (v:Int))\/r= .inr 15)
 |0,i,m,h,hK,hm=>by omega
 |K+1,i,m,h,hK,hm=>by
  unfold zB qR
  by_cases hi:i<p.length
  ·have hx:p[i]? =some p[i]:=Ya hi
   generalize p[i]=x at hx
   rw[if_pos (by omega),if_pos (by omega),qh,hx]
   simp only[ZB]
   by_cases h1:x<0
   ·rw[if_pos h1,if_pos h1]
    exact⟨_,rfl,rfl,.inr rfl⟩
   by_cases h2:x>=(p.length:Int)
   ·rw[if_neg h1,if_pos h2,if_neg h1,decide_eq_true h2]
    exact⟨_,rfl,rfl,.inr rfl⟩
   rw[if_neg h1,if_neg h2,if_neg h1,decide_eq_false h2]
   simp only[ZB,ZF,if_false]
   rcases qjs hl hi hx N 0 (by omega) (by omega) (fun k hk=>by omega)with⟨g1,g2⟩|⟨g1,k,g2,g3⟩
   ·have hf:(qbq m x).getD false=false:=by
     cases c:(qbq m x).getD false with
     |false=>rfl
     |true=>
      obtain⟨k,k1,k2⟩:=(hm x).1 c
      exact absurd k2 (g2 k k1)
    rw[show((0:Nat):Int)=0 from rfl]at g1
    rw[hf,g1,qB (by omega)]
    simp only[ZF,if_false,ZB]
    obtain⟨r,r1,r2,r3⟩:=qko hN hl K (i+1) (qcW m x true) (by omega) (by omega) (fun y=>by
     rw[qmR]
     by_cases e:y=x
     ·rw[if_pos e]
      exact⟨fun _=>⟨i,by omega,by rw[hx,e]⟩,fun _=>rfl⟩
     rw[if_neg e,hm y]
     constructor
     ·rintro⟨k,k1,k2⟩
      exact⟨k,by omega,k2⟩
     rintro⟨k,k1,k2⟩
     refine⟨k,?_,k2⟩
     rcases Nat.lt_or_ge k i with c|c
     ·exact c
     have:k=i:=by omega
     subst this
     rw[hx]at k2
     exact absurd (Ye k2).symm e)
    refine⟨r,r1,r2,?_⟩
    rcases r3 with⟨r3,r4⟩|r3
    ·refine .inl ⟨r3,fun j hj hjl=>?_⟩
     by_cases c:j=i
     ·subst c
      refine⟨x.toNat,by omega,by rw[hx];congr 1;omega,fun k hk=>?_⟩
      rw[show((x.toNat:Nat):Int)=x by omega]
      exact g2 k hk
     exact r4 j (by omega) hjl
    exact .inr r3
   have ht:(qbq m x).getD false=true:=(hm x).2 ⟨k,g2,g3⟩
   rw[show((0:Nat):Int)=0 from rfl]at g1
   rw[ht,g1]
   exact⟨_,rfl,rfl,.inr rfl⟩
  rw[if_neg (by omega),if_neg (by omega)]
  exact⟨_,rfl,rfl,.inl ⟨rfl,fun j hj hjl=>by omega⟩⟩
theorem qlj {N:Nat} (hN:2000<N) {p:List Int} (hl:p.length<=1000): ∃e,vw N p=some e/\jh N p=some e/\(e=0->IsP p)/\(p.length<=256->e=0\/e=15):=by
 unfold vw jh
 by_cases h:256<p.length
 ·rw[if_pos (by omega),if_pos (by omega)]
  exact⟨5,rfl,rfl,fun c=>absurd c (by decide),fun h2=>by omega⟩
 rw[if_neg (by omega),if_neg (by omega)]
 obtain⟨r,r1,r2,r3⟩:=qko hN (p:=p) (by omega) N 0 [] (by omega) (by omega) (fun x=>by
  constructor
  ·intro c;simp[qbq]at c
  rintro⟨k,k1,_⟩;omega)
 rw[show(0:Int)=((0:Nat):Int)from rfl,r1,r2]
 rcases r3 with⟨rfl,r4⟩|rfl
 ·refine⟨0,rfl,rfl,fun _=>⟨by omega,fun k hk=>?_,fun k k' v hk hk'=>?_⟩,fun _=> .inl rfl⟩
  ·obtain⟨v,v1,v2,_⟩:=r4 k (by omega) hk
   exact⟨v,v1,v2⟩
  have l1:k<p.length:=(Yb.1 hk).1
  have l2:k'<p.length:=(Yb.1 hk').1
  rcases Nat.lt_trichotomy k k' with c|c|c
  ·obtain⟨w,w1,w2,w3⟩:=r4 k' (by omega) l2
   rw[hk']at w2
   have:=Ye w2
   subst this
   exact absurd hk (w3 k c)
  ·exact c
  obtain⟨w,w1,w2,w3⟩:=r4 k (by omega) l1
  rw[hk]at w2
  have:=Ye w2
  subst this
  exact absurd hk' (w3 k' c)
 exact⟨15,rfl,rfl,fun c=>absurd c (by decide),fun _=> .inr rfl⟩
structure SB.Ok (n:Nat) (s:SB):Prop where
 f_: ∀k,k<n->s.f k<n
 g_: ∀k,k<n->s.g k<n
def SB.li (n:Nat) (s:SB):List Int:=(List.range n).map fun k=>(s.f k:Int)
theorem Ud (n:Nat) (s:SB):(s.li n).length=n:=by simp[SB.li]
theorem Un {n k:Nat} (s:SB) (h:k<n):(s.li n)[k]? =some (s.f k:Int):=by simp[SB.li,List.getElem?_range h]
theorem Ur {n:Nat} {s:SB} {p:List Int} (hl:p.length=n) (h: ∀k,k<n->p[k]? =some (s.f k:Int)):p=s.li n:=by
 apply List.ext_getElem?
 intro k
 by_cases hk:k<n
 ·rw[h k hk,Un s hk]
 rw[Yg (by omega),Yg (by rw[Ud];omega)]
theorem SB.li_inj {n:Nat} {s t:SB} (h:s.li n=t.li n) {k:Nat} (hk:k<n):s.f k=t.f k:=by
 have h1:=Un s hk
 have h2:=Un t hk
 rw[h,h2]at h1
 have:=Ye h1
 omega
theorem qf3 {n i k:Nat} (hi:i+1<n) (h:k<n):tr5 i k<n:=by
 rcases yo i k with⟨a,e⟩|⟨a,e⟩|⟨a,a',e⟩<;>omega
theorem SB.Ok.fr {n i:Nat} {s:SB} (h:s.Ok n) (hi:i+1<n):(s.fr i).Ok n:=⟨fun k hk=>h.f_ _ (qf3 hi hk),fun k hk=>qf3 hi (h.g_ k hk)⟩
theorem SB.Ok.bk {n i:Nat} {s:SB} (h:s.Ok n) (hi:i+1<n):(s.bk i).Ok n:=⟨fun k hk=>qf3 hi (h.f_ k hk),fun k hk=>h.g_ _ (qf3 hi hk)⟩
def SB.rev (s:SB):SB:=⟨s.g,s.f,s.fg,s.gf⟩
theorem SB.Ok.rev {n:Nat} {s:SB} (h:s.Ok n):s.rev.Ok n:=⟨h.g_,h.f_⟩
def SB.id:SB:=⟨fun k=>k,fun k=>k,fun _=>rfl,fun _=>rfl⟩
theorem SB.id_ok (n:Nat):SB.id.Ok n:=⟨fun _ h=>h,fun _ h=>h⟩
theorem SB.id_li (n:Nat):SB.id.li n=ve n:=rfl
def rv5 (n k:Nat):Nat:=if k<n then n-1-k else k
theorem qbX (n k:Nat):rv5 n (rv5 n k)=k:=by
 unfold rv5
 by_cases h:k<n
 ·rw[if_pos h,if_pos (by omega)];omega
 rw[if_neg h,if_neg h]
theorem qeq {n k:Nat} (h:k<n):rv5 n k<n:=by unfold rv5;rw[if_pos h];omega
def SB.half (n:Nat):SB:=⟨rv5 n,rv5 n,qbX n,qbX n⟩
theorem SB.half_ok (n:Nat):(SB.half n).Ok n:=⟨fun _ h=>qeq h,fun _ h=>qeq h⟩
def SB.flip (n:Nat) (s:SB):SB:=⟨fun k=>rv5 n (s.f (rv5 n k)),fun k=>rv5 n (s.g (rv5 n k)),fun k=>by rw[qbX,s.gf,qbX],fun k=>by rw[qbX,s.fg,qbX]⟩
theorem SB.Ok.flip {n:Nat} {s:SB} (h:s.Ok n):(s.flip n).Ok n:=⟨fun k hk=>qeq (h.f_ _ (qeq hk)),fun k hk=>qeq (h.g_ _ (qeq hk))⟩
theorem qjY: ∀(n:Nat) (l:List Nat),l.Nodup->(∀x∈l,x<n)->l.length<=n
 |0,[],_,_=>Nat.le_refl _
 |0,x::l,_,h=>absurd (h x List.mem_cons_self) (Nat.not_lt_zero _)
 |n+1,l,hn,h=>by
  have:=qjY n (l.erase n) (hn.erase n) (fun x hx=>by
   have:=hn.mem_erase_iff.1 hx
   have:=h x this.2
   omega)
  have e:=List.length_erase (a:=n) (l:=l)
  split at e<;>omega
theorem qn9 {n v:Nat} {l:List Nat} (hn:l.Nodup) (h: ∀x∈l,x<n) (hl:n<=l.length) (hv:v<n):v∈l:=by
 by_cases c:v∈l
 ·exact c
 have:=qjY n (v::l) (List.nodup_cons.2 ⟨c,hn⟩) (fun x hx=>by
  rcases List.mem_cons.1 hx with e|e
  ·omega
  exact h x e)
 simp only[Yr]at this
 omega
theorem sb_of {p:List Int} (hp:IsP p): ∃s:SB,s.Ok p.length/\p=s.li p.length:=by
 have n0: ∀k,k<p.length-> ∃v:Nat,v<p.length/\p[k]? =some (v:Int):=hp.at_
 let F:Nat->Nat:=fun k=>if h:k<p.length then(Classical.choose (n0 k h))else k
 have hF: ∀k (h:k<p.length),F k<p.length/\p[k]? =some (F k:Int):=fun k h=>by
  have:=Classical.choose_spec (n0 k h)
  simp only[F,dif_pos h]
  exact this
 have hO: ∀k,¬k<p.length->F k=k:=fun k h=>by simp only[F,dif_neg h]
 have inj: ∀a b,F a=F b->a=b:=fun a b e=>by
  by_cases ha:a<p.length
  ·by_cases hb:b<p.length
   ·have h1:=(hF a ha).2
    have h2:=(hF b hb).2
    rw[e]at h1
    exact hp.inj a b _ h1 h2
   have:=(hF a ha).1
   rw[e,hO b hb]at this
   omega
  by_cases hb:b<p.length
  ·have:=(hF b hb).1
   rw[<-e,hO a ha]at this
   omega
  rw[hO a ha,hO b hb]at e
  exact e
 have sur: ∀v,∃k,F k=v:=fun v=>by
  by_cases hv:v<p.length
  ·have hs: ∀x∈(List.range p.length).map F,x∈List.range p.length:=fun x hx=>by
    obtain⟨k,hk,rfl⟩:=List.mem_map.1 hx
    exact List.mem_range.2 (hF k (List.mem_range.1 hk)).1
   have nd:=qdk inj _ (List.nodup_range (n:=p.length))
   have hm:v∈(List.range p.length).map F:=qn9 nd (fun x hx=>List.mem_range.1 (hs x hx)) (by simp) hv
   obtain⟨k,_,e⟩:=List.mem_map.1 hm
   exact⟨k,e⟩
  exact⟨v,hO v hv⟩
 let G:Nat->Nat:=fun v=>Classical.choose (sur v)
 have fg: ∀v,F (G v)=v:=fun v=>Classical.choose_spec (sur v)
 have gf: ∀k,G (F k)=k:=fun k=>inj _ _ (fg (F k))
 refine⟨⟨F,G,gf,fg⟩,⟨fun k hk=>(hF k hk).1,fun v hv=>?_⟩,Ur rfl fun k hk=>(hF k hk).2⟩
 show G v<p.length
 rcases Nat.lt_or_ge (G v) p.length with h|h
 ·exact h
 have:=fg v
 rw[hO _ (by omega)]at this
 omega
end Go.Av
end
section
namespace Go.Av
theorem Ui {n k:Nat} {s:SB} (h:k<n):idx (s.li n) (k:Int)=some (s.f k:Int):=by rw[qh,Un s h]
section
variable {n:Nat} (hn:n<=300)
include hn
theorem qkg {s:SB} (hs:s.Ok n): ∀(K i:Nat) (l:List Int),l.length=n->i<=n->n<K+i->(∀k,k<i->l[s.f k]? =some (k:Int))->ku (s.li n) K l (i:Int)=some (s.rev.li n)
 |0,i,l,hl,h,hK,hk=>by omega
 |K+1,i,l,hl,h,hK,hk=>by
  unfold ku
  rw[Ud]
  by_cases hi:i<n
  ·have hf:=hs.f_ i hi
   rw[if_pos (by omega),Ui hi,ZB,qh,Ya (by omega),ZB,yh (by omega),ZB,qB (by omega)]
   refine qkg hs K (i+1) _ (by simpa using hl) (by omega) (by omega) (fun k hki=>?_)
   by_cases e:k=i
   ·subst e;rw[List.getElem?_set_self (by omega)]
   rw[Yw (fun c=>e (s.finj c.symm))];exact hk k (by omega)
  rw[if_neg (by omega)]
  congr 1
  refine Ur hl fun v hv=>?_
  have:=hk (s.g v) (by have:=hs.g_ v hv;omega)
  rw[s.fg]at this;exact this
theorem qfi {N:Nat} (hN:2000<N) {s:SB} (hs:s.Ok n):zM N (s.li n)=some (s.rev.li n):=by
 unfold zM
 have:=qkg hn hs N 0 (List.replicate n 0) (by simp) (by omega) (by omega) (fun k hk=>by omega)
 rw[show((0:Nat):Int)=0 from rfl]at this
 rw[Ud,qhd (by omega),ZB,this,ZB]
theorem qkt {s:SB} (hs:s.Ok n): ∀(K i:Nat) (l:List Int),l.length=n->i<=n->n<K+i->(∀k,k<i->l[s.f k]? =some (k:Int))->jo (s.li n) K l (i:Int)=some (s.rev.li n)
 |0,i,l,hl,h,hK,hk=>by omega
 |K+1,i,l,hl,h,hK,hk=>by
  unfold jo
  rw[Ud]
  by_cases hi:i<n
  ·have hf:=hs.f_ i hi
   rw[if_pos (by omega),Ui hi,ZB,qh,Ya (by omega),ZB,yh (by omega),ZB,qB (by omega)]
   refine qkt hs K (i+1) _ (by simpa using hl) (by omega) (by omega) (fun k hki=>?_)
   by_cases e:k=i
   ·subst e;rw[List.getElem?_set_self (by omega)]
   rw[Yw (fun c=>e (s.finj c.symm))];exact hk k (by omega)
  rw[if_neg (by omega)]
  congr 1
  refine Ur hl fun v hv=>?_
  have:=hk (s.g v) (by have:=hs.g_ v hv;omega)
  rw[s.fg]at this;exact this
theorem qlR {N:Nat} (hN:2000<N) {s:SB} (hs:s.Ok n):xI N (s.li n)=some (s.rev.li n):=by
 unfold xI
 have:=qkt hn hs N 0 (List.replicate n 0) (by simp) (by omega) (by omega) (fun k hk=>by omega)
 rw[show((0:Nat):Int)=0 from rfl]at this
 rw[Ud,qhd (by omega),ZB,this,ZB]
theorem qb4 (s:SB) {i:Nat} (hi:i+1<n):qM (s.li n) (i:Int)=some ((s.fr i).li n):=by
 unfold qM
 have hl:=Ud n s
 have hc:qcq (s.li n)=some ():=by
  unfold qcq
  rw[if_pos (by omega)]
 rw[hc,ZB,qB (by omega),Ui hi,ZB,Ui (by omega),ZB,yh (by omega),ZB,qh,Yw (by omega),Un _ hi,ZB,yh (by simp;omega),ZB]
 congr 1
 refine Ur (by simp[hl]) fun k hk=>?_
 show _=some ((s.f (tr5 i k):Nat):Int)
 rcases yo i k with⟨rfl,e⟩|⟨rfl,e⟩|⟨a,b,e⟩<;>rw[e]
 ·rw[Yw (by omega),List.getElem?_set_self (by omega)]
 ·rw[List.getElem?_set_self (by simp;omega)]
 rw[Yw (by omega),Yw (by omega),Un s hk]
theorem qgo {N:Nat} (hN:2000<N) {s:SB} (hs:s.Ok n) {i:Nat} (hi:i+1<n):ja N (s.li n) (i:Int)=some ((s.bk i).li n):=by
 unfold ja
 rw[qfi hn hN hs,ZB,qb4 hn s.rev hi,ZB,qfi hn hN (hs.rev.fr hi),ZB]
 rfl
theorem qd3 (s:SB) {i:Nat} (hi:i+1<n):zA (s.li n) (i:Int)=some (decide (s.f (i+1)<s.f i)):=by
 unfold zA
 rw[Ui (by omega),ZB,qB (by omega),Ui hi,ZB]
 congr 1
 exact decide_eq_decide.2 (by omega)
theorem qfo (s:SB) {i:Nat} (hi:i+1<n):xn (s.li n) ((i+1:Nat):Int)=some (decide (s.f (i+1)<s.f i)):=by
 unfold xn
 rw[show w64 (((i+1:Nat):Int)-1)=(i:Int)by rw[zy (by omega) (by omega)];omega,Ui (by omega),ZB,Ui hi,ZB]
 congr 1
 exact decide_eq_decide.2 (by omega)
theorem qoh {N:Nat} (hN:2000<N) {s:SB} (hs:s.Ok n) {i:Nat} (hi:i+1<n):vN N (s.li n) (i:Int)=some (decide (s.g (i+1)<s.g i)):=by
 unfold vN
 rw[qfi hn hN hs,ZB,qd3 hn s.rev hi,ZB]
 rfl
theorem qlB {N:Nat} (hN:2000<N) {s:SB} (hs:s.Ok n) {i:Nat} (hi:i+1<n):qaX N (s.li n) ((i+1:Nat):Int)=some (decide (s.g (i+1)<s.g i)):=by
 unfold qaX
 rw[qlR hn hN hs,ZB,qfo hn s.rev hi,ZB]
 rfl
theorem qd2 {N:Nat} (hN:2000<N) {s t:SB} (hs:s.Ok n): ∀(K i:Nat),i+1<=n->n<K+i->
 (∃j,i<=j/\j+1<n/\t.Begs j/\ ¬s.Ends j/\zT N (s.li n) (t.li n) K (i:Int) ((n:Int)-1)=some (.inr ((j:Int),true)))\/
 ((∀j,i<=j->j+1<n->t.Begs j->s.Ends j)/\zT N (s.li n) (t.li n) K (i:Int) ((n:Int)-1)=some (.inl ()))
 |0,i,h,hK=>by omega
 |K+1,i,h,hK=>by
  unfold zT
  by_cases hi:i+1<n
  ·rw[if_pos (by omega),qd3 hn t hi,ZB]
   by_cases a:t.f (i+1)<t.f i
   ·rw[decide_eq_true a,if_pos rfl,qoh hn hN hs hi,ZB,ZB]
    by_cases b:s.g (i+1)<s.g i
    ·rw[decide_eq_true b,if_neg (by decide),qB (by omega)]
     rcases qd2 hN hs K (i+1) (by omega) (by omega)with⟨j,h1,h2⟩|⟨h1,h2⟩
     ·exact .inl ⟨j,by omega,h2⟩
     refine .inr ⟨fun j hj hj2 hb=>?_,h2⟩
     by_cases e:j=i
     ·subst e;exact b
     exact h1 j (by omega) hj2 hb
    rw[decide_eq_false b,if_pos (by decide)]
    exact .inl ⟨i,Nat.le_refl _,hi,a,b,rfl⟩
   rw[decide_eq_false a,if_neg (by decide),ZB,if_neg (by decide),qB (by omega)]
   rcases qd2 hN hs K (i+1) (by omega) (by omega)with⟨j,h1,h2⟩|⟨h1,h2⟩
   ·exact .inl ⟨j,by omega,h2⟩
   refine .inr ⟨fun j hj hj2 hb=>?_,h2⟩
   by_cases e:j=i
   ·subst e;exact absurd hb a
   exact h1 j (by omega) hj2 hb
  rw[if_neg (by omega)]
  exact .inr ⟨fun j hj hj2=>by omega,rfl⟩
theorem qdg {N:Nat} (hN:2000<N) (n1:1<=n) {s t:SB} (hs:s.Ok n):
 (∃j:Nat,j+1<n/\t.Begs j/\ ¬s.Ends j/\jD N (s.li n) (t.li n)=some ((j:Int),true))\/((∀j,j+1<n->t.Begs j->s.Ends j)/\jD N (s.li n) (t.li n)=some (0,false)):=by
 unfold jD
 rw[Ud,show w64 ((n:Int)-1)=(n:Int)-1 from zy (by omega) (by omega)]
 have:=qd2 hn hN (t:=t) hs N 0 (by omega) (by omega)
 rw[show((0:Nat):Int)=0 from rfl]at this
 rcases this with⟨j,_,h2,h3,h4,h5⟩|⟨h1,h2⟩
 ·exact .inl ⟨j,h2,h3,h4,by rw[h5];rfl⟩
 exact .inr ⟨fun j=>h1 j (Nat.zero_le _),by rw[h2];rfl⟩
end
theorem qmx {l0:List Int} {n:Nat} (hn:l0.length=n) (hb:n<=100000): ∀(K i:Nat) (l:List Int),l.length=n->2*i<=n+1->n+1<K+2*i->(∀k:Nat,k<n->l[k]? =if k<i\/n<=k+i then l0[n-1-k]? else l0[k]?)->qG K l (i:Int) ((n:Int)-1-i)=some l0.reverse
 |0,i,l,hl,h2,hK,hk=>by omega
 |K+1,i,l,hl,h2,hK,hk=>by
  unfold qG
  by_cases hi:(i:Int)<(n:Int)-1-i
  ·have e1:(n:Int)-1-i=((n-1-i:Nat):Int):=by omega
   have e2:w64 (((n-1-i:Nat):Int)-1)=(n:Int)-1-((i+1:Nat):Int):=by rw[zy (by omega) (by omega)];omega
   have q1:=hk (n-1-i) (by omega)
   have q2:=hk i (by omega)
   rw[if_neg (by omega)]at q1 q2
   have g1:l0[n-1-i]? =some l0[n-1-i]:=Ya (by omega)
   have g2:l0[i]? =some l0[i]:=Ya (by omega)
   rw[g1]at q1
   rw[g2]at q2
   rw[if_pos hi,e1,qh,q1,ZB,qh,q2,ZB,yh (by omega),ZB,qh,Yw (by omega),q1,ZB,yh (by simp;omega),ZB,qB (by omega),e2]
   refine qmx hn hb K (i+1) _ (by simp;omega) (by omega) (by omega) (fun k hkn=>?_)
   by_cases c1:k=n-1-i
   ·subst c1
    rw[List.getElem?_set_self (by simp;omega),if_pos (by omega),show n-1-(n-1-i)=i by omega,g2]
   rw[Yw (fun e=>c1 e.symm)]
   by_cases c2:k=i
   ·subst c2
    rw[List.getElem?_set_self (by omega),if_pos (by omega),g1]
   rw[Yw (fun e=>c2 e.symm),hk k hkn]
   by_cases c3:k<i\/n<=k+i
   ·rw[if_pos c3,if_pos (by omega)]
   rw[if_neg c3,if_neg (by omega)]
  rw[if_neg hi]
  congr 1
  apply List.ext_getElem?
  intro k
  by_cases hkn:k<n
  ·rw[hk k hkn,List.getElem?_reverse (by omega),hn]
   by_cases c3:k<i\/n<=k+i
   ·rw[if_pos c3]
   rw[if_neg c3,show n-1-k=k by omega]
  rw[Yg (by omega),Yg (by simp;omega)]
theorem qhD {N:Nat} {l:List Int} (hN:l.length+1<N) (hb:l.length<=100000):jm N l=some l.reverse:=by
 unfold jm
 have:=qmx (l0:=l) rfl hb N 0 l rfl (by omega) (by omega) (fun k hk=>by rw[if_neg (by omega)])
 rw[zy (by omega) (by omega),show((l.length:Int)-1)=(l.length:Int)-1-((0:Nat):Int)by omega,show(0:Int)=((0:Nat):Int)from rfl]
 rw[this]
 rfl
theorem qnQ (n:Nat):(ve n).reverse=(SB.half n).li n:=by
 refine Ur (by simp[xz]) fun k hk=>?_
 rw[List.getElem?_reverse (by rw[xz];exact hk),xz,qd7 (by omega)]
 show _=some ((rv5 n k:Nat):Int)
 unfold rv5
 rw[if_pos hk]
theorem qdx {N n:Nat} (hN:2000<N) (hn:n<=300):xk N (n:Int)=some ((SB.half n).li n):=by
 unfold xk
 rw[qiq hN (by omega),ZB,qhD (by rw[xz];omega) (by rw[xz];omega),ZB,if_pos (by simp),ZB,qnQ]
theorem qnE {n:Nat} (hn:n<=300): ∀(K i:Nat) (l:List Int),l.length=i->i<=n->n<K+i->(∀k,k<i->l[k]? =some ((rv5 n k:Nat):Int))->zZ (n:Int) K l (i:Int)=some ((SB.half n).li n)
 |0,i,l,hl,h,hK,hk=>by omega
 |K+1,i,l,hl,h,hK,hk=>by
  unfold zZ
  by_cases hi:i<n
  ·have e:w64 (w64 ((n:Int)-1)-(i:Int))=((rv5 n i:Nat):Int):=by
    unfold rv5
    rw[if_pos hi,zy (n:=(n:Int)-1) (by omega) (by omega),zy (by omega) (by omega)]
    omega
   rw[if_pos (by omega),e,y9 (by simp only[Yr,List.length_nil];omega) (by simp only[Yr,List.length_nil];omega),ZB,qB (by omega)]
   refine qnE hn K (i+1) _ (by simp[hl]) (by omega) (by omega) (fun k hki=>?_)
   by_cases c:k<i
   ·rw[Yf (by omega)];exact hk k c
   rw[Yo (by omega),show k-l.length=0 by omega,show k=i by omega]
   rfl
  rw[if_neg (by omega)]
  congr 1
  exact Ur (by omega) fun k hkn=>hk k (by omega)
theorem qou {N n:Nat} (hN:2000<N) (hn:n<=300):xc N (n:Int)=some ((SB.half n).li n):=by
 unfold xc
 have:=qnE hn N 0 [] rfl (by omega) (by omega) (fun k hk=>by omega)
 rw[show((0:Nat):Int)=0 from rfl]at this
 rw[this,ZB]
end Go.Av
end
section
namespace Go.Av
def SB.comp (s t:SB):SB:=⟨fun k=>t.f (s.f k),fun k=>s.g (t.g k),fun k=>by rw[t.gf,s.gf],fun k=>by rw[s.fg,t.fg]⟩
theorem SB.Ok.comp {n:Nat} {s t:SB} (hs:s.Ok n) (ht:t.Ok n):(s.comp t).Ok n:=⟨fun k hk=>ht.f_ _ (hs.f_ k hk),fun k hk=>hs.g_ _ (ht.g_ k hk)⟩
section
variable {n:Nat} (hn:n<=300)
include hn
theorem qjP {s:SB} (hs:s.Ok n): ∀(K i:Nat) (l:List Int),l.length=n->i<=n->n<K+i->(∀k,k<i->l[n-1-k]? =some ((n-1-s.f k:Nat):Int))->qI (s.li n) K l (i:Int)=some ((s.flip n).li n)
 |0,i,l,hl,h,hK,hk=>by omega
 |K+1,i,l,hl,h,hK,hk=>by
  unfold qI
  rw[Ud]
  by_cases hi:i<n
  ·have hf:=hs.f_ i hi
   have e0:w64 ((n:Int)-1)=(n:Int)-1:=zy (by omega) (by omega)
   have e1:w64 ((n:Int)-1-(i:Int))=((n-1-i:Nat):Int):=by rw[zy (by omega) (by omega)];omega
   have e2:w64 ((n:Int)-1-(s.f i:Int))=((n-1-s.f i:Nat):Int):=by rw[zy (by omega) (by omega)];omega
   rw[if_pos (by omega),Ui hi,ZB,e0,e1,e2,qh,Ya (by omega),ZB,yh (by omega),ZB,qB (by omega)]
   refine qjP hs K (i+1) _ (by simpa using hl) (by omega) (by omega) (fun k hki=>?_)
   by_cases e:k=i
   ·subst e;rw[List.getElem?_set_self (by omega)]
   rw[Yw (by omega)];exact hk k (by omega)
  rw[if_neg (by omega)]
  congr 1
  refine Ur hl fun v hv=>?_
  have:=hk (n-1-v) (by omega)
  rw[show n-1-(n-1-v)=v by omega]at this
  rw[this]
  show _=some ((rv5 n (s.f (rv5 n v)):Nat):Int)
  have h2:rv5 n v=n-1-v:=by unfold rv5;rw[if_pos hv]
  have h3:=hs.f_ (n-1-v) (by omega)
  rw[h2]
  unfold rv5
  rw[if_pos h3]
theorem qhA {N:Nat} (hN:2000<N) {s:SB} (hs:s.Ok n):jH N (s.li n)=some ((s.flip n).li n):=by
 unfold jH
 have:=qjP hn hs N 0 (List.replicate n 0) (by simp) (by omega) (by omega) (fun k hk=>by omega)
 rw[show((0:Nat):Int)=0 from rfl]at this
 rw[Ud,qhd (by omega),ZB,this,ZB]
end
def xg (n:Nat) (l:List SB):List (List Int):=l.map (SB.li n)
theorem xR (n:Nat) (l:List SB):(xg n l).length=l.length:=by simp[xg]
theorem qgB {n k:Nat} {l:List SB} (h:k<l.length):(xg n l)[k]? =some (l[k].li n):=by
 unfold xg
 rw[YA,Ya h]
 rfl
section
variable {n:Nat} (hn:n<=12) {N:Nat} (hN:2000<N)
include hn hN
theorem qhG {l:List SB} (hl:l.length<=300) (ho: ∀s∈l,s.Ok n): ∀(K i:Nat),i<=l.length->l.length<K+i->qD N (xg n l) K (xg n ((l.take i).map (SB.flip n))) (i:Int)=some (xg n (l.map (SB.flip n)))
 |0,i,h,hK=>by omega
 |K+1,i,h,hK=>by
  unfold qD
  rw[xR]
  by_cases hi:i<l.length
  ·rw[if_pos (by omega),qh,qgB hi,ZB,qhA (by omega) hN (ho _ (List.getElem_mem hi)),ZB,y9 (by rw[xR];simp;omega) (by rw[xR];simp;omega),ZB,qB (by omega)]
   have e:xg n ((l.take i).map (SB.flip n))++[(l[i].flip n).li n]=xg n ((l.take (i+1)).map (SB.flip n)):=by
    rw[List.take_succ_eq_append_getElem hi,List.map_append]
    unfold xg
    rw[List.map_append]
    rfl
   rw[e]
   exact qhG hl ho K (i+1) (by omega) (by omega)
  rw[if_neg (by omega),List.take_of_length_le (by omega)]
theorem qiE {l:List SB} (hl:l.length<=300) (ho: ∀s∈l,s.Ok n):zX N (xg n l)=some (xg n (l.map (SB.flip n))):=by
 unfold zX
 have:=qhG hn hN hl ho N 0 (by omega) (by omega)
 rw[show((0:Nat):Int)=0 from rfl,List.take_zero]at this
 rw[show([]:List (List Int))=xg n (([]:List SB).map (SB.flip n))from rfl,this,ZB]
end
end Go.Av
end
section
namespace Go.Av
structure MdOK (n:Int) (k:Nat) (r:List Int×Int):Prop where
 bad:r.2≠0->r.1=[]
 len:r.2=0->r.1.length<=k
 let_:r.2=0-> ∀c∈r.1,qah n c=true
theorem qkx {a b:List Int} (hl:a.length<=100000) (hab:a.length=b.length): ∀(K i:Nat),i<=a.length->a.length<K+i->z8 a b K (i:Int)=some (if a.drop i=b.drop i then .inl ()else .inr false)
 |0,i,h,hK=>by omega
 |K+1,i,h,hK=>by
  unfold z8
  by_cases hi:i<a.length
  ·have hb:i<b.length:=by omega
   rw[if_pos (by omega),qh,Ya hi,qh,Ya hb,ZB,ZB,YG hi,YG hb]
   by_cases c:a[i]=b[i]
   ·rw[decide_eq_true c,if_neg (by decide),qB (by omega),qkx hl hab K (i+1) (by omega) (by omega),c]
    simp only[List.cons.injEq,true_and]
   rw[decide_eq_false c,if_pos (by decide),if_neg (fun h=>c (List.cons.inj h).1)]
  rw[if_neg (by omega),List.drop_eq_nil_of_le (by omega),List.drop_eq_nil_of_le (by omega),if_pos rfl]
theorem qfO {N:Nat} {a b:List Int} (hl:a.length<=100000) (hN:a.length<N):vB N a b=some (decide (a=b)):=by
 unfold vB
 by_cases c:(a.length:Int)=(b.length:Int)
 ·have:=qkx hl (b:=b) (by omega) N 0 (by omega) (by omega)
  rw[show((0:Nat):Int)=0 from rfl,YR,YR]at this
  rw[decide_eq_true c,if_neg (by decide),this]
  by_cases e:a=b
  ·rw[if_pos e,decide_eq_true e];rfl
  rw[if_neg e,decide_eq_false e];rfl
 rw[decide_eq_false c,if_pos (by decide),decide_eq_false (fun e=>c (by rw[e]))]
theorem qic {a b:List Int} (hl:a.length<=100000) (hab:a.length=b.length): ∀(K i:Nat),i<=a.length->a.length<K+i->kr a b K (i:Int)=some (if a.drop i=b.drop i then .inl ()else .inr false)
 |0,i,h,hK=>by omega
 |K+1,i,h,hK=>by
  unfold kr
  by_cases hi:i<a.length
  ·have hb:i<b.length:=by omega
   rw[if_pos (by omega),qh,Ya hi,qh,Ya hb,ZB,ZB,YG hi,YG hb]
   by_cases c:a[i]=b[i]
   ·rw[decide_eq_true c,if_neg (by decide),qB (by omega),qic hl hab K (i+1) (by omega) (by omega),c]
    simp only[List.cons.injEq,true_and]
   rw[decide_eq_false c,if_pos (by decide),if_neg (fun h=>c (List.cons.inj h).1)]
  rw[if_neg (by omega),List.drop_eq_nil_of_le (by omega),List.drop_eq_nil_of_le (by omega),if_pos rfl]
theorem qkN {N:Nat} {a b:List Int} (hl:a.length<=100000) (hN:a.length<N):vH N a b=some (decide (a=b)):=by
 unfold vH
 by_cases c:(a.length:Int)=(b.length:Int)
 ·have:=qic hl (b:=b) (by omega) N 0 (by omega) (by omega)
  rw[show((0:Nat):Int)=0 from rfl,YR,YR]at this
  rw[decide_eq_true c,if_neg (by decide),this]
  by_cases e:a=b
  ·rw[if_pos e,decide_eq_true e];rfl
  rw[if_neg e,decide_eq_false e];rfl
 rw[decide_eq_false c,if_pos (by decide),decide_eq_false (fun e=>c (by rw[e]))]
end Go.Av
end
section
namespace Go.Av
theorem qmv {a b:List Int} (hl:a.length<=100000) (hab:a.length=b.length): ∀(K i:Nat),i<=a.length->a.length<K+i->zz a b K (i:Int)=some (if a.drop i=b.drop i then .inl ()else .inr false)
 |0,i,h,hK=>by omega
 |K+1,i,h,hK=>by
  unfold zz
  by_cases hi:i<a.length
  ·have hb:i<b.length:=by omega
   rw[if_pos (by omega),qh,Ya hi,qh,Ya hb,ZB,ZB,YG hi,YG hb]
   by_cases c:a[i]=b[i]
   ·rw[decide_eq_true c,if_neg (by decide),qB (by omega),qmv hl hab K (i+1) (by omega) (by omega),c]
    simp only[List.cons.injEq,true_and]
   rw[decide_eq_false c,if_pos (by decide),if_neg (fun h=>c (List.cons.inj h).1)]
  rw[if_neg (by omega),List.drop_eq_nil_of_le (by omega),List.drop_eq_nil_of_le (by omega),if_pos rfl]
theorem qhq {N:Nat} {a b:List Int} (hl:a.length<=100000) (hN:a.length<N):slices_Equal_int N a b=some (decide (a=b)):=by
 unfold slices_Equal_int
 by_cases c:(a.length:Int)=(b.length:Int)
 ·have:=qmv hl (b:=b) (by omega) N 0 (by omega) (by omega)
  rw[show((0:Nat):Int)=0 from rfl,YR,YR]at this
  rw[decide_eq_true c,if_neg (by decide),this]
  by_cases e:a=b
  ·rw[if_pos e,decide_eq_true e];rfl
  rw[if_neg e,decide_eq_false e];rfl
 rw[decide_eq_false c,if_pos (by decide),decide_eq_false (fun e=>c (by rw[e]))]
inductive WdB (n:Nat):SB->List Int->Prop
 |nil {s:SB} (h: ∀q,q+1<n-> ¬s.Begs q):WdB n s []
 |cons {s:SB} {i:Nat} {W:List Int} (hi:i+1<n) (hb:s.Begs i) (hm: ∀q,q<i-> ¬s.Begs q) (h:WdB n (s.fr i) W):WdB n s (((i+1:Nat):Int)::W)
theorem qkb: ∀l:List Nat,qd4 l<=l.length*l.length
 |[]=>Nat.le_refl _
 |x::r=>by
  have h1:r.countP (fun y=>decide (y<x))<=r.length:=List.countP_le_length
  have h2:=qkb r
  simp only[qd4,Yr,Nat.add_mul,Nat.mul_add,Nat.one_mul,Nat.mul_one]
  omega
theorem SB.inv_le (n:Nat) (s:SB):s.inv n<=n*n:=by
 have:=qkb (s.row n)
 rwa [Ue]at this
theorem qnM (x y:Int):cmp_Less_int x y=some (decide (x<y)):=by
 unfold cmp_Less_int cmp_isNaN_int
 simp
section
variable {n:Nat} (hn:n<=12) (n1:1<=n)
include hn n1
theorem qkf (s:SB): ∀(K i:Nat),i+1<=n->n<K+i->
 (∃j,i<=j/\j+1<n/\s.Begs j/\(∀q,i<=q->q<j-> ¬s.Begs q)/\qN (s.li n) K (i:Int)=some (j:Int))\/((∀q,i<=q->q+1<n-> ¬s.Begs q)/\qN (s.li n) K (i:Int)=some ((n-1:Nat):Int))
 |0,i,h,hK=>by omega
 |K+1,i,h,hK=>by
  unfold qN
  rw[Ud,qB (by omega)]
  by_cases hi:i+1<n
  ·rw[if_pos (by omega),qd3 (by omega) s hi,ZB,ZB]
   by_cases a:s.f (i+1)<s.f i
   ·rw[decide_eq_true a,if_neg (by decide)]
    exact .inl ⟨i,Nat.le_refl _,hi,a,fun q h1 h2=>by omega,rfl⟩
   rw[decide_eq_false a,if_pos (by decide)]
   rcases qkf s K (i+1) (by omega) (by omega)with⟨j,h1,h2,h3,h4,h5⟩|⟨h1,h2⟩
   ·refine .inl ⟨j,by omega,h2,h3,fun q g1 g2=>?_,h5⟩
    by_cases e:q=i
    ·subst e;exact a
    exact h4 q (by omega) g2
   refine .inr ⟨fun q g1 g2=>?_,h2⟩
   by_cases e:q=i
   ·subst e;exact a
   exact h1 q (by omega) g2
  rw[if_neg (by omega),ZB,if_neg (by decide)]
  exact .inr ⟨fun q g1 g2=>by omega,by rw[show n-1=i by omega]⟩
theorem qkq {N:Nat} (hN:2000<N): ∀(W:List Int) {s:SB},WdB n s W-> ∀(K:Nat) (out:List Int),W.length<K->out.length+W.length<=100000->zi N K out (s.li n)=some (out++W)
 |W,s,h,0,out,hK,hb=>by omega
 |W,s,h,K+1,out,hK,hb=>by
  unfold zi
  have l1:=qkf hn n1 s N 0 (by omega) (by omega)
  rw[show((0:Nat):Int)=0 from rfl]at l1
  cases h with
  |nil h=>
   rcases l1 with⟨j,_,h2,h3,_⟩|⟨_,h2⟩
   ·exact absurd h3 (h j h2)
   rw[h2,ZB,qB (by omega),Ud,if_pos (by omega),YQ]
  |@cons _ i W hi hb' hm h=>
   rcases l1 with⟨j,_,h2,h3,h4,h5⟩|⟨h1,_⟩
   ·have e:j=i:=by
     rcases Nat.lt_trichotomy j i with c|c|c
     ·exact absurd h3 (hm j c)
     ·exact c
     exact absurd hb' (h4 i (by omega) c)
    subst e
    simp only[Yr]at hK hb
    rw[h5,ZB,qB (by omega),Ud,if_neg (by omega),qb4 (by omega) s hi,ZB,y9 (by simp only[Yr,List.length_nil];omega) (by simp only[Yr,List.length_nil];omega),ZB,
     qkq hN W h K _ (by omega) (by simp;omega)]
    simp
   exact absurd hb' (h1 i (Nat.zero_le _) hi)
theorem qj2 {N:Nat} (hN:2000<N) {s:SB} {W:List Int} (h:WdB n s W) (hl:W.length<=1000):jR N (s.li n)=some W:=by
 unfold jR
 have hc:qcq (s.li n)=some ():=by
  unfold qcq
  rw[Ud,if_pos (by omega)]
 rw[hc,ZB,qkq hn n1 hN W h N [] (by omega) (by simp;omega),ZB,List.nil_append]
theorem qiw (s:SB): ∀(K i:Nat),i<n->i<K->(∀q,i<=q->q+1<n-> ¬s.Begs q)-> ∃r,qU (s.li n) K (i:Int)=some r/\((r= .inl ()/\ ∀q,q+1<n-> ¬s.Begs q)\/(r= .inr false/\ ∃q,q+1<n/\s.Begs q))
 |0,i,h,hK,hd=>by omega
 |K+1,i,h,hK,hd=>by
  unfold qU
  cases i with
  |zero=>
   rw[if_neg (by omega)]
   exact⟨_,rfl,.inl ⟨rfl,fun q hq=>hd q (Nat.zero_le _) hq⟩⟩
  |succ i=>
   have e:w64 (((i+1:Nat):Int)-1)=(i:Int):=by rw[zy (by omega) (by omega)];omega
   rw[if_pos (by omega),e,Ui h,Ui (by omega)]
   simp only[ZB,qnM]
   by_cases a:s.f (i+1)<s.f i
   ·rw[decide_eq_true (show((s.f (i+1):Nat):Int)<(s.f i:Int)by omega),if_pos rfl]
    exact⟨_,rfl,.inr ⟨rfl,i,h,a⟩⟩
   rw[decide_eq_false (show¬((s.f (i+1):Nat):Int)<(s.f i:Int)by omega),if_neg (by decide)]
   refine qiw s K i (by omega) (by omega) fun q h1 h2=>?_
   by_cases c:q=i
   ·subst c;exact a
   exact hd q (by omega) h2
theorem qfT {N:Nat} (hN:2000<N) (s:SB): ∃b,jA N (s.li n)=some b/\(b=true↔ ∀q,q+1<n-> ¬s.Begs q):=by
 unfold jA slices_IsSorted_int
 have e:w64 ((((s.li n).length:Nat):Int)-1)=((n-1:Nat):Int):=by rw[Ud,zy (by omega) (by omega)];omega
 obtain⟨r,r1,r2⟩:=qiw hn n1 s N (n-1) (by omega) (by omega) (fun q h1 h2=>by omega)
 rw[e,r1]
 rcases r2 with⟨rfl,r3⟩|⟨rfl,q,q1,q2⟩
 ·exact⟨true,rfl,fun _=>r3,fun _=>rfl⟩
 exact⟨false,rfl,fun h=>(by cases h),fun h=>absurd q2 (h q q1)⟩
theorem qjA {s:SB} (hs:s.Ok n):(∀q,q+1<n-> ¬s.Begs q)↔s.li n=ve n:=by
 constructor
 ·intro h
  have lo: ∀k,k<n->k<=s.f k:=by
   intro k
   induction k with
   |zero=>exact fun _=>Nat.zero_le _
   |succ k ih=>
    intro hk
    have h1:=ih (by omega)
    have h2:=h k hk
    have h3:s.f k≠s.f (k+1):=fun c=>by have:=s.finj c;omega
    have h4: ¬s.f (k+1)<s.f k:=h2
    omega
  have hi: ∀d,d<n->s.f (n-1-d)<=n-1-d:=by
   intro d
   induction d with
   |zero=>
    intro hd
    have:=hs.f_ (n-1-0) (by omega)
    omega
   |succ d ih=>
    intro hd
    have h1:=ih (by omega)
    have h2: ¬s.f (n-1-(d+1)+1)<s.f (n-1-(d+1)):=h (n-1-(d+1)) (by omega)
    have h3:s.f (n-1-(d+1))≠s.f (n-1-(d+1)+1):=fun c=>by have:=s.finj c;omega
    have e:n-1-(d+1)+1=n-1-d:=by omega
    rw[e]at h2 h3
    omega
  refine(Ur (xz n) fun k hk=>?_).symm
  rw[qd7 hk]
  have h1:=lo k hk
  have h2:=hi (n-1-k) (by omega)
  rw[show n-1-(n-1-k)=k by omega]at h2
  congr 1
  omega
 intro h q hq hb
 have e: ∀k,k<n->s.f k=k:=fun k hk=>SB.li_inj (t:=SB.id) h hk
 have hb:s.f (q+1)<s.f q:=hb
 rw[e _ hq,e _ (by omega)]at hb
 omega
end
end Go.Av
end
section
namespace Go.Av
theorem qf9 (n:Int):zK n=some (if n<1\/12<n then 3 else 0):=by
 unfold zK
 by_cases a:n<1
 ·rw[if_pos a,if_pos (.inl a)];rfl
 rw[if_neg a,qa4]
 by_cases b:12<n
 ·rw[decide_eq_true (show n>12 from b),if_pos rfl,if_pos (.inr b)];rfl
 rw[decide_eq_false (show¬n>12 from b),if_neg (by decide),if_neg (by omega)];rfl
theorem qhL {N:Nat} (hN:2000<N) (n:Int) {p:List Int} (hl:p.length<=1000): ∃e,vw N p=some e/\jh N p=some e/\vL N n p=some (qeF [if(p.length:Int)=n then 0 else 2,e])/\(p.length<=256->e=0\/e=15)/\(e=0-> ∃s:SB,s.Ok p.length/\p=s.li p.length):=by
 obtain⟨e,e1,e2,e3,e4⟩:=qlj hN hl
 refine⟨e,e1,e2,?_,e4,fun h=>sb_of (e3 h)⟩
 unfold vL
 rw[qa4,ZB,e1,ZB,qea (by simp) (by simp;omega),ZB]
 by_cases c:(p.length:Int)=n
 ·rw[decide_eq_true c,if_pos c,if_neg (by decide)]
 rw[decide_eq_false c,if_neg c,if_pos (show(!false)=true from rfl)]
section
variable {k:Nat} (hk:k<=12) (k1:1<=k)
include hk k1
theorem qlq {N:Nat} (hN:2000<N) (s:SB):qay N (s.li k)=some (decide (s.li k=ve k)||decide (s.li k=(SB.half k).li k)):=by
 unfold qay
 have hl:=Ud k s
 rw[hl,qk4 hN (by omega),ZB,qfO (by omega) (by omega),ZB]
 by_cases c:s.li k=ve k
 ·rw[decide_eq_true c,if_pos rfl];rfl
 rw[decide_eq_false c,if_neg (by decide),qou hN (by omega),ZB,qfO (by omega) (by omega),ZB];rfl
theorem qh4 {N:Nat} (hN:2000<N) {f:jf} {i:Nat} {s t:SB} (hi:i<f.Factors.length) (hf:f.Factors.length<=300) (ht:i=0\/(t.Ok k/\f.Factors[i-1]? =some (t.li k))): ∀(K q:Nat),q+1<=k->k<K+q->
 ∃r,zP N (k:Int) f (i:Int) (s.li k) K ((q+1:Nat):Int)=some r/\((r= .inr 1/\0<i/\ ∃j,q<=j/\j+1<k/\s.Begs j/\ ¬t.Ends j)\/(r= .inl ()/\(0<i-> ∀j,q<=j->j+1<k->s.Begs j->t.Ends j)))
 |0,q,h,hK=>by omega
 |K+1,q,h,hK=>by
  unfold zP
  by_cases hq:q+1<k
  ·rw[if_pos (by omega)]
   rcases Nat.eq_zero_or_pos i with i0|ip
   ·subst i0
    simp only[ZB]
    rw[if_neg (by simp)]
    exact⟨_,rfl,.inr ⟨rfl,fun h=>by omega⟩⟩
   obtain⟨t1,t2⟩:=ht.resolve_left (by omega)
   simp only[ZB]
   rw[if_pos (by simp;omega),qfo (by omega) s hq]
   simp only[ZB]
   have ei:w64 ((i:Int)-1)=((i-1:Nat):Int):=qhu (by omega) ip
   have next:=qh4 hN (s:=s) hi hf ht K (q+1) (by omega) (by omega)
   by_cases a:s.f (q+1)<s.f q
   ·rw[decide_eq_true a,if_pos rfl,ei,qh,t2]
    simp only[ZB]
    rw[qlB (by omega) hN t1 hq]
    simp only[ZB]
    by_cases b:t.g (q+1)<t.g q
    ·rw[decide_eq_true b,if_neg (by decide),qB (by omega)]
     obtain⟨r,r1,r2⟩:=next
     refine⟨r,r1,?_⟩
     rcases r2 with⟨g1,g2,j,g3,g4⟩|⟨g1,g2⟩
     ·exact .inl ⟨g1,g2,j,by omega,g4⟩
     refine .inr ⟨g1,fun _ j h1 h2 h3=>?_⟩
     by_cases c:j=q
     ·subst c;exact b
     exact g2 ip j (by omega) h2 h3
    rw[decide_eq_false b,if_pos (by decide)]
    exact⟨_,rfl,.inl ⟨rfl,ip,q,Nat.le_refl _,hq,a,b⟩⟩
   rw[decide_eq_false a,if_neg (by decide)]
   simp only[ZB]
   rw[if_neg (by decide),qB (by omega)]
   obtain⟨r,r1,r2⟩:=next
   refine⟨r,r1,?_⟩
   rcases r2 with⟨g1,g2,j,g3,g4⟩|⟨g1,g2⟩
   ·exact .inl ⟨g1,g2,j,by omega,g4⟩
   refine .inr ⟨g1,fun _ j h1 h2 h3=>?_⟩
   by_cases c:j=q
   ·subst c;exact absurd h3 a
   exact g2 ip j (by omega) h2 h3
  rw[if_neg (by omega)]
  simp only[ZB]
  rw[if_neg (by decide)]
  exact⟨_,rfl,.inr ⟨rfl,fun _ j h1 h2=>by omega⟩⟩
theorem qkc {N:Nat} (hN:20000<N) {f:jf} (hf:f.Factors.length<=300) (hx: ∀x∈f.Factors,x.length<=14): ∀(K i:Nat),i<=f.Factors.length->f.Factors.length<K+i->(∀j,j<i-> ∃s:SB,s.Ok k/\f.Factors[j]? =some (s.li k))->
 ∃r,qP N (k:Int) f K (i:Int)=some r/\zO N (k:Int) f K (i:Int)=some r/\((∃e,e≠0/\r= .inr e)\/(r= .inl ()/\ ∀j,j<f.Factors.length-> ∃s:SB,s.Ok k/\f.Factors[j]? =some (s.li k)))
 |0,i,h,hK,hp=>by omega
 |K+1,i,h,hK,hp=>by
  unfold qP zO
  by_cases hi:i<f.Factors.length
  ·obtain⟨x,hxi⟩: ∃x,f.Factors[i]? =some x:=⟨_,Ya hi⟩
   have hxl:=hx x (Yn hxi)
   obtain⟨e,e1,e2,e3,e4,e5⟩:=qhL (N:=N) (by omega) (k:Int) (p:=x) (by omega)
   rw[if_pos (by omega),if_pos (by omega),qh,hxi]
   simp only[ZB]
   rw[e3]
   simp only[ZB]
   by_cases c:(x.length:Int)=(k:Int)
   ·rw[if_pos c,qdY,qfL,decide_eq_true c,if_neg (show¬(!true)=true by decide),e2]
    simp only[ZB]
    rcases e4 (by omega)with z|z
    ·subst z
     obtain⟨s,s1,s2⟩:=e5 rfl
     have hxk:x.length=k:=by omega
     rw[hxk]at s1 s2
     subst s2
     simp only[decide_true,Bool.not_true,ZF,if_false]
     obtain⟨b,b1,b2⟩:=qfT hk k1 (N:=N) (by omega) s
     rw[qjA hk k1 s1]at b2
     have bd:b=decide (s.li k=ve k):=by
      by_cases g:s.li k=ve k
      ·rw[decide_eq_true g];exact b2.2 g
      rw[decide_eq_false g]
      cases b with
      |false=>rfl
      |true=>exact absurd (b2.1 rfl) g
     rw[bd]at b1
     have hl:=Ud k s
     rw[qlq hk k1 (by omega) s]
     simp only[ZB,b1]
     rw[qdx (N:=N) (by omega) (by omega)]
     simp only[ZB]
     have seq:slices_Equal_int N (s.li k) ((SB.half k).li k)=some (decide (s.li k=(SB.half k).li k)):=qhq (by omega) (by omega)
     rw[seq]
     have T: ∃t:SB,i=0\/(t.Ok k/\f.Factors[i-1]? =some (t.li k)):=by
      rcases Nat.eq_zero_or_pos i with i0|ip
      ·exact⟨SB.id,.inl i0⟩
      obtain⟨t,t1,t2⟩:=hp (i-1) (by omega)
      exact⟨t,.inr ⟨t1,t2⟩⟩
     obtain⟨t,ht⟩:=T
     obtain⟨r,r1,r2⟩:=qh4 hk k1 (N:=N) (by omega) (s:=s) hi hf ht N 0 (by omega) (by omega)
     rw[show((0+1:Nat):Int)=1 from rfl]at r1
     have next:=qkc hN hf hx K (i+1) (by omega) (by omega) (fun j hj=>by
      by_cases g:j=i
      ·subst g;exact⟨s,s1,hxi⟩
      exact hp j (by omega))
     have L:(if(i:Int)>0 then(idx f.Factors (w64 ((i:Int)-1))).bind fun x34=>(jD N x34 (s.li k)).bind fun r35=>some r35.2 else some false:Option Bool)=some (decide (r= .inr 1)):=by
      rcases Nat.eq_zero_or_pos i with i0|ip
      ·subst i0
       rw[if_neg (by omega)]
       rcases r2 with⟨_,g,_⟩|⟨g1,_⟩
       ·omega
       subst g1;rfl
      obtain⟨t1,t2⟩:=ht.resolve_left (by omega)
      rw[if_pos (by omega),show w64 ((i:Int)-1)=((i-1:Nat):Int)from qhu (by omega) ip,qh,t2,ZB]
      rcases qdg (n:=k) (by omega) (N:=N) (by omega) k1 (t:=s) t1 with⟨j,j1,j2,j3,j4⟩|⟨j1,j2⟩
      ·rw[j4]
       rcases r2 with⟨g1,_⟩|⟨g1,g2⟩
       ·subst g1;rfl
       exact absurd (g2 ip j (Nat.zero_le _) j1 j2) j3
      rw[j2]
      rcases r2 with⟨g1,_,j,g2,g3,g4,g5⟩|⟨g1,g2⟩
      ·exact absurd (j1 j g3 g4) g5
      subst g1;rfl
     rw[L]
     simp only[ZB]
     by_cases d1:r= .inr 1
     ·subst d1
      rw[decide_eq_true rfl,if_pos rfl,ZB,if_pos rfl]
      refine⟨.inr 1,rfl,?_,.inl ⟨1,by decide,rfl⟩⟩
      by_cases d2:(decide (s.li k=ve k)||decide (s.li k=(SB.half k).li k))=true
      ·rw[if_pos d2]
      rw[if_neg d2,r1];rfl
     have d3:r= .inl ():=by
      rcases r2 with⟨g,_⟩|⟨g,_⟩
      ·exact absurd g d1
      exact g
     subst d3
     rw[decide_eq_false d1,if_neg (by decide)]
     by_cases d2:s.li k=ve k
     ·rw[decide_eq_true d2]
      simp only[if_true,ZB,Bool.true_or]
      exact⟨.inr 1,rfl,rfl,.inl ⟨1,by decide,rfl⟩⟩
     rw[decide_eq_false d2]
     simp only[ZF,if_false,ZB,Bool.false_or]
     by_cases d4:s.li k=(SB.half k).li k
     ·rw[decide_eq_true d4]
      exact⟨.inr 1,rfl,rfl,.inl ⟨1,by decide,rfl⟩⟩
     rw[decide_eq_false d4,if_neg (by decide),if_neg (by decide),r1,qB (by omega)]
     exact next
    subst z
    rw[if_pos (by decide),if_pos (by decide)]
    exact⟨_,rfl,rfl,.inl ⟨15,by decide,rfl⟩⟩
   rw[if_neg c,qhj (by decide),if_pos (by decide),decide_eq_false c,if_pos (by decide)]
   exact⟨_,rfl,rfl,.inl ⟨2,by decide,rfl⟩⟩
  rw[if_neg (by omega),if_neg (by omega)]
  exact⟨_,rfl,rfl,.inr ⟨rfl,fun j hj=>hp j (by omega)⟩⟩
end
structure FmOK (k:Nat) (f:jf):Prop where
 k1:1<=k
 k2:k<=12
 half: -200<=f.Half/\f.Half<=200
 one:k=1->f.Half=0
 few:f.Factors.length<=200
 at_: ∀j,j<f.Factors.length-> ∃s:SB,s.Ok k/\f.Factors[j]? =some (s.li k)
theorem qha (h:Int) (hh: -200<=h/\h<=200):vg h=some ((h.natAbs:Nat):Int):=qjN (by omega)
theorem qnV {h:Int} (hh:200<h): ∃a:Int,vg h=some a/\a>200:=by
 unfold vg
 by_cases c:w64 (0-h)>h
 ·rw[if_pos c];exact⟨_,rfl,by omega⟩
 rw[if_neg c];exact⟨_,rfl,by omega⟩
theorem qnX (h:Int): ∃a:Int,vg h=some a:=by
 unfold vg
 split<;>exact⟨_,rfl⟩
theorem qjf {N:Nat} (hN:20000<N) {n:Int} {f:jf} (hf:f.Factors.length<=300) (hx: ∀x∈f.Factors,x.length<=14):
 ∃e,jb N n f=some e/\vK N n f=some e/\(e=0-> ∃k:Nat,n=k/\FmOK k f):=by
 have bf: ∀a b c:Int,ko N [a,b,c]=some (qeF [a,b,c]):=fun a b c=>qea (by simp) (by simp;omega)
 unfold jb vK
 rw[qf9]
 simp only[ZB,bf,qa4,if_true]
 obtain⟨a,ha⟩:=qnX f.Half
 rw[ha]
 simp only[ZB]
 by_cases A:n<1\/12<n
 ·have R:(if n<1 then some true else if n>12 then some true else if f.Half<(-200)then some true else if f.Half>200 then some true else if n=1 then some (!decide (f.Half=0))else some false:Option Bool)=some true:=by
   by_cases c:n<1
   ·rw[if_pos c]
   rw[if_neg c,if_pos (by omega)]
  rw[R]
  simp only[ZB,if_true,if_pos A,qhj (show(3:Int)≠0 by decide)]
  refine⟨3,?_,rfl,fun h=>absurd h (by decide)⟩
  by_cases c1:a>200
  ·rw[if_pos c1];rfl
  rw[if_neg c1]
  by_cases c2:f.Half< -200
  ·rw[if_pos c2];rfl
  rw[if_neg c2]
  by_cases c3:n=1
  ·rw[if_pos c3];rfl
  rw[if_neg c3];rfl
 by_cases B:f.Half< -200\/200<f.Half\/(n=1/\f.Half≠0)
 ·have R:(if n<1 then some true else if n>12 then some true else if f.Half<(-200)then some true else if f.Half>200 then some true else if n=1 then some (!decide (f.Half=0))else some false:Option Bool)=some true:=by
   rw[if_neg (by omega),if_neg (by omega)]
   by_cases c:f.Half< -200
   ·rw[if_pos c]
   rw[if_neg c]
   by_cases d:f.Half>200
   ·rw[if_pos d]
   have g:n=1/\f.Half≠0:=by omega
   rw[if_neg d,if_pos g.1,decide_eq_false g.2];rfl
  rw[R]
  simp only[ZB,if_true,if_neg A,qdY,qhj (show(3:Int)≠0 by decide)]
  refine⟨3,?_,rfl,fun h=>absurd h (by decide)⟩
  by_cases c1:a>200
  ·rw[if_pos c1];rfl
  rw[if_neg c1]
  by_cases c2:f.Half< -200
  ·rw[if_pos c2];rfl
  rw[if_neg c2]
  by_cases d:f.Half>200
  ·obtain⟨a',h1,h2⟩:=qnV (h:=f.Half) d
   rw[ha]at h1
   have:=Ye h1
   omega
  have g:n=1/\f.Half≠0:=by omega
  rw[if_pos g.1,decide_eq_false g.2];rfl
 obtain⟨k,rfl⟩: ∃k:Nat,n=k:=⟨n.toNat,by omega⟩
 have hab:=qha f.Half (by omega)
 rw[ha]at hab
 obtain rfl:=Ye hab
 have R:(if(k:Int)<1 then some true else if(k:Int)>12 then some true else if f.Half<(-200)then some true else if f.Half>200 then some true else if(k:Int)=1 then some (!decide (f.Half=0))else some false:Option Bool)=some false:=by
  rw[if_neg (by omega),if_neg (by omega),if_neg (by omega),if_neg (by omega)]
  by_cases c:(k:Int)=1
  ·rw[if_pos c,decide_eq_true (show f.Half=0 by omega)];rfl
  rw[if_neg c]
 rw[R]
 simp only[ZB,if_neg A,qdY,qfL,ZF,if_false]
 rw[if_neg (show¬((f.Half.natAbs:Nat):Int)>200 by omega),if_neg (show¬f.Half< -200 by omega)]
 have T: ∀X:Int×Int×Int×Int->Option Int,(Option.bind (if(k:Int)=1 then some ((0:Int),(if(!decide (f.Half=0))=true then(3:Int)else 0),(if decide ((f.Factors.length:Int)>200)=true then(5:Int)else 0),qeF [(if(!decide (f.Half=0))=true then(3:Int)else 0),(if decide ((f.Factors.length:Int)>200)=true then(5:Int)else 0)])else some (0,0,(if decide ((f.Factors.length:Int)>200)=true then(5:Int)else 0),(if decide ((f.Factors.length:Int)>200)=true then(5:Int)else 0))) X)=X (0,0,(if decide ((f.Factors.length:Int)>200)=true then 5 else 0),(if decide ((f.Factors.length:Int)>200)=true then 5 else 0)):=by
  intro X
  by_cases c:(k:Int)=1
  ·rw[if_pos c,decide_eq_true (show f.Half=0 by omega)]
   simp only[Bool.not_true,ZF,if_false,qdY,qfL,ZB]
  rw[if_neg c,ZB]
 rw[T]
 by_cases C:200<f.Factors.length
 ·rw[if_pos (show(f.Factors.length:Int)>200 by omega),decide_eq_true (show(f.Factors.length:Int)>200 by omega)]
  exact⟨5,rfl,rfl,fun h=>absurd h (by decide)⟩
 rw[if_neg (show¬(f.Factors.length:Int)>200 by omega),decide_eq_false (show¬(f.Factors.length:Int)>200 by omega)]
 obtain⟨r,r1,r2,r3⟩:=qkc (k:=k) (by omega) (by omega) hN (f:=f) hf hx N 0 (by omega) (by omega) (fun j hj=>by omega)
 rw[show((0:Nat):Int)=0 from rfl]at r1 r2
 simp only[ZF,if_false,decide_true,Bool.not_true]
 rw[r1,r2]
 rcases r3 with⟨e,e1,rfl⟩|⟨rfl,h⟩
 ·exact⟨e,rfl,rfl,fun h=>absurd h e1⟩
 exact⟨0,rfl,rfl,fun _=>⟨k,rfl,by omega,by omega,by omega,by omega,by omega,h⟩⟩
end Go.Av
end
section
namespace Go.Av
def jP (n m:Nat) (L:Nat->SB):List (List Int):=(List.range m).map fun q=>(L q).li n
theorem zo (n m:Nat) (L:Nat->SB):(jP n m L).length=m:=by simp[jP]
theorem yM {n m q:Nat} {L:Nat->SB} (h:q<m):(jP n m L)[q]? =some ((L q).li n):=by simp[jP,List.getElem?_range h]
theorem qiL {n m:Nat} {L:Nat->SB} {R:List (List Int)} (hl:R.length=m) (h: ∀q,q<m->R[q]? =some ((L q).li n)):R=jP n m L:=by
 apply List.ext_getElem?
 intro q
 by_cases hq:q<m
 ·rw[h q hq,yM hq]
 rw[Yg (by omega),Yg (by rw[zo];omega)]
theorem qli {n m k i:Nat} {L:Nat->SB} (hk:k+1<m):((jP n m L).set k (((L k).bk i).li n)).set (k+1) (((L (k+1)).fr i).li n)=jP n m (psh L k i):=by
 refine qiL (by simp[zo]) fun q hq=>?_
 by_cases a:q=k+1
 ·subst a
  rw[List.getElem?_set_self (by simp[zo];omega),jv]
 by_cases b:q=k
 ·subst b
  rw[Yw (by omega),List.getElem?_set_self (by rw[zo];omega),ym]
 rw[Yw (by omega),Yw (by omega),yM hq,zY L b a]
def OkM (n m:Nat) (L:Nat->SB):Prop:= ∀q,q<m->(L q).Ok n
theorem OkM.psh {n m k i:Nat} {L:Nat->SB} (h:OkM n m L) (hk:k+1<m) (hi:i+1<n):OkM n m (psh L k i):=fun q hq=>by
 by_cases a:q=k
 ·subst a;rw[ym];exact(h q hq).bk hi
 by_cases b:q=k+1
 ·subst b;rw[jv];exact(h (k+1) hq).fr hi
 rw[zY L a b];exact h q hq
theorem qnA {n:Nat} {L:Nat->SB}: ∀m,mu5 n L m<=m*(m*(n*n))
 |0=>Nat.zero_le _
 |m+1=>by
  have h1:=qnA (n:=n) (L:=L) m
  have h2:=Nat.mul_le_mul_left m ((L m).inv_le n)
  simp only[mu5,Nat.add_mul,Nat.mul_add,Nat.one_mul]at*
  omega
section
variable {n m:Nat} (hn:n<=12) (n1:1<=n) (hm:m<=300) {N:Nat} (hN:2000<N)
include hn n1 hm hN
theorem qot {L:Nat->SB} (hL:OkM n m L) {k:Nat} (hk:k+1<m):
 (∃i,yQ n m L k i/\vz N (k:Int) (jP n m L)=some (jP n m (psh L k i),true))\/((∀i,¬yQ n m L k i)/\vz N (k:Int) (jP n m L)=some (jP n m L,false)):=by
 unfold vz
 rw[qh,yM (by omega),ZB,qB (by omega),qh,yM hk,ZB]
 rcases qdg (n:=n) (by omega) hN n1 (t:=L (k+1)) (hL k (by omega))with⟨j,j1,j2,j3,j4⟩|⟨j1,j2⟩
 ·left
  refine⟨j,⟨hk,j1,j2,j3⟩,?_⟩
  rw[j4,ZB]
  simp only[if_true]
  rw[qgo (by omega) hN (hL k (by omega)) j1,ZB,qb4 (by omega) _ j1,ZB,yh (by rw[zo];omega),ZB,qh,Yw (by omega),yM hk,ZB,yh (by simp[zo];omega),ZB,ZB,qli hk]
 right
 refine⟨fun i c=>c.e_ (j1 i c.i_ c.b_),?_⟩
 rw[j2,ZB]
 rfl
theorem qkk {k:Nat} (hk:k+1<m): ∀(K:Nat) (L:Nat->SB) (b:Bool),OkM n m L->mu5 n L m<K->
 ∃(L':Nat->SB) (b':Bool),jy N (k:Int) K (jP n m L) b=some (jP n m L',b')/\Pst n m L L'/\OkM n m L'/\(∀i,¬yQ n m L' k i)/\(∀q,q≠k->q≠k+1->L' q=L q)/\((b'=b/\L'=L)\/(b'=true/\mu5 n L' m<mu5 n L m))
 |0,L,b,hL,h=>by omega
 |K+1,L,b,hL,h=>by
  unfold jy
  rcases qot hn n1 hm hN hL hk with⟨i,c,e⟩|⟨c,e⟩
  ·have hmu:=qdL c
   obtain⟨L',b',h1,h2,h3,h4,h5,h6⟩:=qkk hk K (psh L k i) true (hL.psh hk c.i_) (by omega)
   rw[e,ZB]
   simp only[zo,if_true,ZB]
   refine⟨L',b',h1,.head (.mk c) h2,h3,h4,fun q q1 q2=>by rw[h5 q q1 q2,zY L q1 q2],?_⟩
   rcases h6 with⟨g1,g2⟩|⟨g1,g2⟩
   ·subst g1 g2;exact .inr ⟨rfl,hmu⟩
   exact .inr ⟨g1,by omega⟩
  rw[e,ZB]
  simp only[zo,if_true,ZB,ZF,if_false]
  exact⟨L,b,rfl,.refl,hL,c,fun q _ _=>rfl,.inl ⟨rfl,rfl⟩⟩
theorem qho (hmu: ∀L:Nat->SB,mu5 n L m<N): ∀(K k:Nat) (L:Nat->SB),OkM n m L->k<=m->2*mu5 n L m+(m-k)<K->(∀j,j<k-> ∀i,¬yQ n m L j i)->
 ∃A,jC N K (jP n m L) (k:Int)=some (jP n m A)/\Pst n m L A/\Nf n m A/\OkM n m A
 |0,k,L,hL,hk,h,ht=>by omega
 |K+1,k,L,hL,hk,h,ht=>by
  unfold jC
  rw[zo,qB (by omega)]
  by_cases c:k+1<m
  ·obtain⟨L',b',h1,h2,h3,h4,h5,h6⟩:=qkk hn n1 hm hN c N L false hL (hmu L)
   rw[if_pos (by omega),h1]
   simp only[ZB]
   have tight: ∀j,j+1<k-> ∀i,¬yQ n m L' j i:=fun j hj i d=>ht j (by omega) i ⟨d.k_,d.i_,by have:=d.b_;rwa [h5 (j+1) (by omega) (by omega)]at this,by have:=d.e_;rwa [h5 j (by omega) (by omega)]at this⟩
   by_cases d:b'=true/\0<k
   ·obtain⟨d1,d2⟩:=d
    subst d1
    rcases h6 with⟨g1,_⟩|⟨_,g2⟩
    ·cases g1
    rw[if_pos rfl,decide_eq_true (show(k:Int)>0 by omega)]
    simp only[ZB,if_true]
    rw[show w64 ((k:Int)-1)=((k-1:Nat):Int)from qhu (by omega) d2]
    obtain⟨A,a1,a2,a3,a4⟩:=qho hmu K (k-1) L' h3 (by omega) (by omega) (fun j hj=>tight j (by omega))
    exact⟨A,a1,h2.trans a2,a3,a4⟩
   have e:(if b'=true then some (decide ((k:Int)>0))else some false:Option Bool)=some false:=by
    cases b' with
    |false=>rfl
    |true=>rw[if_pos rfl,decide_eq_false (by have: ¬0<k:=fun g=>d ⟨rfl,g⟩;omega)]
   rw[e]
   simp only[ZB,ZF,if_false]
   have hmu2:mu5 n L' m<=mu5 n L m:=by
    rcases h6 with⟨_,g2⟩|⟨_,g2⟩
    ·rw[g2];exact Nat.le_refl _
    omega
   obtain⟨A,a1,a2,a3,a4⟩:=qho hmu K (k+1) L' h3 (by omega) (by omega) (fun j hj i g=>by
    by_cases f:j=k
    ·subst f;exact h4 i g
    rcases h6 with⟨_,g2⟩|⟨g1,_⟩
    ·rw[g2]at g;exact ht j (by omega) i g
    exact d ⟨g1,by omega⟩)
   exact⟨A,a1,h2.trans a2,a3,a4⟩
  rw[if_neg (by omega)]
  exact⟨L,rfl,.refl,fun j i g=>by have:=g.k_;exact ht j (by omega) i g,hL⟩
end
end Go.Av
end
section
namespace Go.Av
def qfh (H I:List Int):List (List Int)->Prop
 |x::y::r=>(y=H->x=H)/\(x=I->y=I)/\qfh H I (y::r)
 |_=>True
theorem qfh.tail {H I x:List Int} {r:List (List Int)} (h:qfh H I (x::r)):qfh H I r:=by
 cases r with
 |nil=>trivial
 |cons y r=>exact h.2.2
theorem qfh.allI {H I:List Int}: ∀{r:List (List Int)},qfh H I (I::r)-> ∀y∈r,y=I
 |[],h,y,hy=>by cases hy
 |z::r,h,y,hy=>by
  have hz:z=I:=h.2.1 rfl
  subst hz
  rcases List.mem_cons.1 hy with rfl|hy
  ·rfl
  exact qfh.allI h.tail y hy
theorem qjX {I:List Int}: ∀{r:List (List Int)},(∀y∈r,y=I)->r=List.replicate r.length I
 |[],_=>rfl
 |z::r,h=>by
  rw[Yr,List.replicate_succ,h z List.mem_cons_self,<-qjX (r:=r) fun y hy=>h y (List.mem_cons_of_mem _ hy)]
theorem qfh.split {H I:List Int}: ∀{r:List (List Int)},qfh H I r-> ∃(M:List (List Int)) (d:Nat),r=M++List.replicate d I/\I∉M
 |[],_=>⟨[],0,rfl,by simp⟩
 |x::r,h=>by
  by_cases c:x=I
  ·subst c
   refine⟨[],(x::r).length,?_,by simp⟩
   rw[List.nil_append]
   exact qjX fun y hy=>by
    rcases List.mem_cons.1 hy with rfl|hy
    ·rfl
    exact qfh.allI h y hy
  obtain⟨M,d,h1,h2⟩:=qfh.split h.tail
  exact⟨x::M,d,by rw[h1];rfl,fun g=>by
   rcases List.mem_cons.1 g with g|g
   ·exact c g.symm
   exact h2 g⟩
section
variable {n m:Nat} (hn:n<=12) (n2:2<=n)
include hn n2
theorem qj1:(SB.half n).li n≠ve n:=fun h=>by
 have:=SB.li_inj (t:=SB.id) h (k:=0) (by omega)
 have e:rv5 n 0=0:=this
 unfold rv5 at e
 rw[if_pos (by omega)]at e
 omega
variable {N:Nat} (hN:2000<N)
include hN
theorem qeS {A:Nat->SB} (hm:m<=300) (hA:OkM n m A): ∀(K i:Nat) (h:Int) (out:List (List Int)),i<=m->m<K+i-> -1000<=h->h<=300+i->out.length<=i->
 jW N (n:Int) (jP n m A) K h out (i:Int)=some (h+((((jP n m A).drop i).countP fun x=>decide (x=(SB.half n).li n):Nat):Int),out++((jP n m A).drop i).filter fun x=>!decide (x=ve n)&&!decide (x=(SB.half n).li n))
 |0,i,h,out,hi,hK,h1,h2,ho=>by omega
 |K+1,i,h,out,hi,hK,h1,h2,ho=>by
  unfold jW
  rw[zo]
  by_cases c:i<m
  ·have hl:i<(jP n m A).length:=by rw[zo];exact c
   have hg:(jP n m A)[i]=(A i).li n:=by
    have:=yM (n:=n) (L:=A) c
    rw[Ya hl]at this
    exact Ye this
   obtain⟨b,b1,b2⟩:=qfT hn (by omega) (N:=N) hN (A i)
   rw[qjA hn (by omega) (hA i c)]at b2
   have e24: ∀o:List (List Int),o.length<=i->app 24 o [(A i).li n]=some (o++[(A i).li n]):=fun o ho=>y9 (by simp;omega) (by simp;omega)
   rw[if_pos (by omega),qh,yM c,YG hl,hg,List.countP_cons,List.filter_cons]
   simp only[ZB,b1]
   by_cases p:(A i).li n=ve n
   ·have q:(A i).li n≠(SB.half n).li n:=fun e=>qj1 hn n2 (e▸p)
    rw[b2.2 p]
    simp only[if_true,ZB]
    rw[qB (by omega),qeS hm hA K (i+1) h out (by omega) (by omega) (by omega) (by omega) (by omega),decide_eq_true p,decide_eq_false q]
    simp
   have bf:b=false:=by
    cases b with
    |false=>rfl
    |true=>exact absurd (b2.1 rfl) p
   subst bf
   simp only[ZF,if_false]
   rw[qdx hN (by omega)]
   simp only[ZB]
   have hln:=Ud n (A i)
   rw[qhq (by omega) (by omega)]
   simp only[ZB]
   by_cases q:(A i).li n=(SB.half n).li n
   ·rw[decide_eq_true q,decide_eq_false p]
    simp only[if_true,ZB]
    rw[qB (by omega),zy (n:=h+1) (by omega) (by omega),qeS hm hA K (i+1) (h+1) out (by omega) (by omega) (by omega) (by omega) (by omega)]
    simp
    omega
   rw[decide_eq_false q,decide_eq_false p,e24 out ho]
   simp only[ZF,if_false,ZB]
   rw[qB (by omega),qeS hm hA K (i+1) h _ (by omega) (by omega) (by omega) (by omega) (by simp;omega)]
   simp
  rw[if_neg (by omega),List.drop_eq_nil_of_le (by rw[zo];omega)]
  simp
end
end Go.Av
end
section
namespace Go.Av
def qbk (i:Nat) (p:List Nat):List Nat:=p.map (tr5 i)
def qfr:Nat->List Nat->List Nat
 |0,a::b::l=>b::a::l
 |i+1,a::l=>a::qfr i l
 |_,l=>l
def qjl:List Nat->Nat->Nat
 |[],_=>0
 |a::_,0=>a
 |_::l,k+1=>qjl l k
def qjc (v:Nat):List Nat->Nat
 |[]=>0
 |a::l=>bif Nat.beq a v then 0 else qjc v l+1
def qbJ (i:Nat) (p:List Nat):Bool:=Nat.blt (qjl p (i+1)) (qjl p i)
def qet (i:Nat) (p:List Nat):Bool:=Nat.blt (qjc (i+1) p) (qjc i p)
def qci (s t:List Nat):Nat->Option Nat
 |0=>none
 |i+1=>bif qbJ i t&&!qet i s then some i else qci s t i
def qey (n:Nat):Nat->List Nat->List Nat->List Nat×List Nat
 |0,s,t=>(s,t)
 |K+1,s,t=>match qci s t (n-1)with
  |none=>(s,t)
  |some i=>qey n K (qbk i s) (qfr i t)
def qer (n:Nat):List Nat->List (List Nat)->List (List Nat)
 |x,[]=>[x]
 |x,s::r=>match qey n (n*n) s x with
  |(s',x')=>x'::qer n s' r
def qnf (n:Nat):List (List Nat)->Bool
 |[]=>true
 |x::r=>match r with
  |[]=>true
  |s::_=>(qci s x (n-1)).isNone&&qnf n r
theorem qkC: ∀(l:List Nat) (k:Nat),qjl l k=l.getD k 0
 |[],k=>by simp[qjl]
 |a::l,0=>rfl
 |a::l,k+1=>by rw[qjl,qkC l k];rfl
theorem qkF: ∀(i:Nat) (l:List Nat) (k:Nat),i+1<l.length->(qfr i l)[k]? =l[tr5 i k]?
 |0,[],k,h=>by simp at h
 |0,[a],k,h=>by simp at h
 |0,a::b::l,0,h=>by simp[qfr,tr5]
 |0,a::b::l,1,h=>by simp[qfr,tr5]
 |0,a::b::l,k+2,h=>by simp[qfr,tr5]
 |i+1,[],k,h=>by simp at h
 |i+1,a::l,0,h=>by simp[qfr,tr5]
 |i+1,a::l,k+1,h=>by
  rw[qfr,List.getElem?_cons_succ,qkF i l k (by simp at h;omega)]
  rcases yo i k with⟨c,e⟩|⟨c,e⟩|⟨c,c',e⟩<;>rw[e]
  ·subst c;rw[qbD,List.getElem?_cons_succ]
  ·subst c;rw[qby,List.getElem?_cons_succ]
  rw[vO (by omega) (by omega),List.getElem?_cons_succ]
theorem ql9 (n i:Nat) (s:SB):(s.bk i).row n=qbk i (s.row n):=by
 unfold SB.row qbk
 rw[List.map_map]
 rfl
theorem qjd {n i:Nat} (hi:i+1<n) (s:SB):(s.fr i).row n=qfr i (s.row n):=by
 apply List.ext_getElem?
 intro k
 rw[qkF i _ k (by rw[Ue];exact hi)]
 by_cases hk:k<n
 ·rw[Uf _ hk,Uf _ (qf3 hi hk)]
  rfl
 rw[vO (by omega) (by omega),Yg (by rw[Ue];omega),Yg (by rw[Ue];omega)]
theorem qiy {n k:Nat} (s:SB) (h:k<n):qjl (s.row n) k=s.f k:=by
 rw[qkC,Yy,Uf s h]
 rfl
theorem qkh: ∀(l:List Nat) (k v:Nat),l[k]? =some v->(∀j,j<k->l[j]? ≠some v)->qjc v l=k
 |[],k,v,h,hj=>by simp at h
 |a::l,0,v,h,hj=>by
  simp at h
  subst h
  simp[qjc]
 |a::l,k+1,v,h,hj=>by
  have:=hj 0 (by omega)
  have ne:a≠v:=fun e=>this (by simp[e])
  have hb:Nat.beq a v=false:=by
   cases c:Nat.beq a v with
   |false=>rfl
   |true=>exact absurd (Nat.eq_of_beq_eq_true c) ne
  rw[qjc,hb,cond_false,qkh l k v (by simpa using h) (fun j hjk=>by have:=hj (j+1) (by omega);simpa using this)]
theorem qhM {n v:Nat} {s:SB} (hs:s.Ok n) (h:v<n):qjc v (s.row n)=s.g v:=by
 refine qkh _ _ _ (by rw[Uf s (hs.g_ v h),s.fg]) (fun j hj=>?_)
 rw[Uf s (by have:=hs.g_ v h;omega)]
 intro e
 have:=Ye e
 have e2:j=s.g v:=by rw[<-this,s.gf]
 omega
theorem qbK {n i:Nat} (hi:i+1<n) (s:SB):qbJ i (s.row n)=true↔s.Begs i:=by
 unfold qbJ SB.Begs
 rw[qiy s hi,qiy s (by omega)]
 simp[Nat.blt_eq]
theorem qgR {n i:Nat} (hi:i+1<n) {s:SB} (hs:s.Ok n):qet i (s.row n)=true↔s.Ends i:=by
 unfold qet SB.Ends
 rw[qhM hs hi,qhM hs (by omega)]
 simp[Nat.blt_eq]
theorem qfl {s t:List Nat}: ∀{j i:Nat},qci s t j=some i->i<j/\qbJ i t=true/\qet i s=false
 |0,i,h=>by cases h
 |j+1,i,h=>by
  unfold qci at h
  cases c:(qbJ j t&&!qet j s)with
  |false=>
   rw[c,cond_false]at h
   have:=qfl h
   exact⟨by omega,this.2⟩
  |true=>
   rw[c,cond_true]at h
   have:=Ye h
   subst this
   simp only[Bool.and_eq_true,Bool.not_eq_true']at c
   exact⟨by omega,c⟩
theorem qfV {s t:List Nat}: ∀{j:Nat},qci s t j=none-> ∀i,i<j-> ¬(qbJ i t=true/\qet i s=false)
 |0,h,i,hi=>by omega
 |j+1,h,i,hi=>by
  unfold qci at h
  cases c:(qbJ j t&&!qet j s)with
  |true=>rw[c,cond_true]at h;cases h
  |false=>
   rw[c,cond_false]at h
   by_cases e:i=j
   ·subst e
    rintro⟨h1,h2⟩
    rw[h1,h2]at c
    cases c
   exact qfV h i (by omega)
theorem qiN {n m k:Nat} (hk:k+1<m): ∀(K:Nat) (L:Nat->SB),OkM n m L-> ∃A,Pst n m L A/\qey n K ((L k).row n) ((L (k+1)).row n)=((A k).row n,(A (k+1)).row n)/\(∀q,q≠k->q≠k+1->A q=L q)/\OkM n m A
 |0,L,hL=>⟨L,.refl,rfl,fun _ _ _=>rfl,hL⟩
 |K+1,L,hL=>by
  unfold qey
  cases c:qci ((L k).row n) ((L (k+1)).row n) (n-1)with
  |none=>exact⟨L,.refl,rfl,fun _ _ _=>rfl,hL⟩
  |some i=>
   obtain⟨h1,h2,h3⟩:=qfl c
   have hi:i+1<n:=by omega
   have can:yQ n m L k i:=⟨hk,hi,(qbK hi _).1 h2,fun e=>by
    have:=(qgR hi (hL k (by omega))).2 e
    rw[h3]at this
    cases this⟩
   obtain⟨A,a1,a2,a3,a4⟩:=qiN hk K (psh L k i) (hL.psh hk hi)
   refine⟨A,.head (.mk can) a1,?_,fun q q1 q2=>by rw[a3 q q1 q2,zY L q1 q2],a4⟩
   dsimp only
   rw[ym,jv,ql9,qjd hi]at a2
   exact a2
def xH (n:Nat) (L:Nat->SB):Nat->List (List Nat)
 |0=>[]
 |k+1=>(L k).row n::xH n L k
theorem qe8 {n:Nat} {L A:Nat->SB}: ∀{k:Nat},(∀q,q<k->A q=L q)->xH n A k=xH n L k
 |0,h=>rfl
 |k+1,h=>by rw[xH,xH,h k (by omega),qe8 fun q hq=>h q (by omega)]
theorem qh2 {n m:Nat}: ∀(k:Nat) (L:Nat->SB),k<m->OkM n m L-> ∃A,Pst n m L A/\qer n ((L k).row n) (xH n L k)=xH n A (k+1)/\(∀q,k<q->A q=L q)/\OkM n m A
 |0,L,hk,hL=>⟨L,.refl,rfl,fun _ _=>rfl,hL⟩
 |k+1,L,hk,hL=>by
  obtain⟨B,b1,b2,b3,b4⟩:=qiN (n:=n) (m:=m) (k:=k) hk (n*n) L hL
  obtain⟨A,a1,a2,a3,a4⟩:=qh2 k B (by omega) b4
  refine⟨A,b1.trans a1,?_,fun q hq=>by rw[a3 q (by omega),b3 q (by omega) (by omega)],a4⟩
  rw[xH,qer,b2]
  dsimp only
  rw[qe8 (A:=L) (L:=B) fun q hq=>(b3 q (by omega) (by omega)).symm,a2,<-a3 (k+1) (by omega)]
  rfl
theorem qms {n m:Nat} {A:Nat->SB} (hA:OkM n m A): ∀{k:Nat},k<=m->qnf n (xH n A k)=true-> ∀j i,j+1<k-> ¬yQ n m A j i
 |0,hk,h,j,i,hj=>by omega
 |1,hk,h,j,i,hj=>by omega
 |k+2,hk,h,j,i,hj=>by
  rw[xH,xH,qnf]at h
  simp only[Bool.and_eq_true]at h
  by_cases e:j=k
  ·subst e
   intro c
   have hn:=qfV (Option.isNone_iff_eq_none.1 h.1) i (by have:=c.i_;omega)
   refine hn ⟨(qbK c.i_ _).2 c.b_,?_⟩
   cases g:qet i ((A j).row n)with
   |false=>rfl
   |true=>exact absurd ((qgR c.i_ (hA j (by omega))).1 g) c.e_
  exact qms hA (k:=k+1) (by omega) (by rw[xH];exact h.2) j i (by omega)
end Go.Av
end
section
namespace Go.Av
theorem yQ.up {n m k i:Nat} {L:Nat->SB} (h:yQ n m L k i):yQ n (m+1) L k i:=⟨by have:=h.k_;omega,h.i_,h.b_,h.e_⟩
theorem Pst.up {n m:Nat} {L A:Nat->SB} (h:Pst n m L A):Pst n (m+1) L A:=by
 induction h with
 |refl=>exact .refl
 |head h _ ih=>cases h with|mk h=>exact .head (.mk h.up) ih
def qe3 (L:Nat->SB) (m:Nat) (s:SB):Nat->SB:=fun q=>if q=m then s else L q
theorem qeQ (L:Nat->SB) (m:Nat) (s:SB):qe3 L m s m=s:=if_pos rfl
theorem qcG {L:Nat->SB} {m q:Nat} {s:SB} (h:q≠m):qe3 L m s q=L q:=if_neg h
theorem qng {L:Nat->SB} {m k i:Nat} {s:SB} (h:k+1<m):psh (qe3 L m s) k i=qe3 (psh L k i) m s:=by
 funext q
 by_cases a:q=m
 ·subst a
  rw[qeQ,zY _ (by omega) (by omega),qeQ]
 rw[qcG a]
 by_cases b:q=k
 ·subst b;rw[ym,ym,qcG a]
 by_cases c:q=k+1
 ·subst c;rw[jv,jv,qcG a]
 rw[zY _ b c,zY _ b c,qcG a]
theorem Pst.upd {n m:Nat} {L A:Nat->SB} (h:Pst n m L A) (s:SB):Pst n m (qe3 L m s) (qe3 A m s):=by
 induction h with
 |refl=>exact .refl
 |head h _ ih=>
  cases h with
  |@mk k i h=>
   have hk:=h.k_
   refine .head (L1:=qe3 (psh _ k i) m s) ?_ ih
   rw[<-qng hk]
   refine .mk ⟨hk,h.i_,?_,?_⟩
   ·rw[qcG (by omega)];exact h.b_
   rw[qcG (by omega)];exact h.e_
theorem qac {n k:Nat} (h:k<n):rv5 n k=n-1-k:=if_pos h
theorem qmj {n i:Nat} (hi:i+1<n) (k:Nat):rv5 n (tr5 i k)=tr5 (n-2-i) (rv5 n k):=by
 by_cases hk:k<n
 ·have e:=qac hk
  rcases yo i k with⟨a,b⟩|⟨a,b⟩|⟨a,a',b⟩<;>rw[b]
  ·subst a
   rw[e,qac (by omega),show n-1-k=n-2-k+1 by omega,qby]
   omega
  ·subst a
   rw[e,qac (by omega),show n-1-(i+1)=n-2-i by omega,qbD]
   omega
  rw[e,vO (by omega) (by omega)]
 rw[vO (by omega) (by omega)]
 have:rv5 n k=k:=if_neg hk
 rw[this,vO (by omega) (by omega)]
theorem qnT {n i:Nat} (hi:i+1<n) (s:SB):(s.bk i).flip n=(s.flip n).bk (n-2-i):=SB.ext fun k=>by
 show rv5 n (tr5 i (s.f (rv5 n k)))=tr5 (n-2-i) (rv5 n (s.f (rv5 n k)))
 exact qmj hi _
theorem qnO {n i:Nat} (hi:i+1<n) (s:SB):(s.fr i).flip n=(s.flip n).fr (n-2-i):=SB.ext fun k=>by
 show rv5 n (s.f (tr5 i (rv5 n k)))=rv5 n (s.f (rv5 n (tr5 (n-2-i) k)))
 have:=qmj (n:=n) (i:=n-2-i) (by omega) k
 rw[show n-2-(n-2-i)=i by omega]at this
 rw[this]
theorem qlo {n i:Nat} (hi:i+1<n) {s:SB} (hs:s.Ok n) (h:s.Begs i):(s.flip n).Begs (n-2-i):=by
 unfold SB.Begs at*
 show rv5 n (s.f (rv5 n (n-2-i+1)))<rv5 n (s.f (rv5 n (n-2-i)))
 have h1:=hs.f_ i (by omega)
 have h2:=hs.f_ (i+1) hi
 rw[qac (k:=n-2-i+1) (by omega),qac (k:=n-2-i) (by omega),show n-1-(n-2-i+1)=i by omega,show n-1-(n-2-i)=i+1 by omega,qac h1,qac h2]
 omega
theorem qkQ {n i:Nat} (hi:i+1<n) {s:SB} (hs:s.Ok n) (h: ¬s.Ends i): ¬(s.flip n).Ends (n-2-i):=by
 have h:=SB.nEnds h
 unfold SB.Ends
 show¬rv5 n (s.g (rv5 n (n-2-i+1)))<rv5 n (s.g (rv5 n (n-2-i)))
 have h1:=hs.g_ i (by omega)
 have h2:=hs.g_ (i+1) hi
 rw[qac (k:=n-2-i+1) (by omega),qac (k:=n-2-i) (by omega),show n-1-(n-2-i+1)=i by omega,show n-1-(n-2-i)=i+1 by omega,qac h1,qac h2]
 omega
def qcc (n:Nat) (L:Nat->SB):Nat->SB:=fun q=>(L q).flip n
theorem qld {n k i:Nat} (hi:i+1<n) (L:Nat->SB):psh (qcc n L) k (n-2-i)=qcc n (psh L k i):=by
 funext q
 by_cases b:q=k
 ·subst b;rw[ym];unfold qcc;rw[ym,qnT hi]
 by_cases c:q=k+1
 ·subst c;rw[jv];unfold qcc;rw[jv,qnO hi]
 rw[zY _ b c];unfold qcc;rw[zY _ b c]
theorem OkM.flip {n m:Nat} {L:Nat->SB} (h:OkM n m L):OkM n m (qcc n L):=fun q hq=>(h q hq).flip
theorem Pst.flip {n m:Nat} {L A:Nat->SB} (h:Pst n m L A) (hL:OkM n m L):Pst n m (qcc n L) (qcc n A)/\OkM n m A:=by
 induction h with
 |refl=>exact⟨.refl,hL⟩
 |head h _ ih=>
  cases h with
  |@mk k i h=>
   have hk:=h.k_
   have hi:=h.i_
   obtain⟨a,b⟩:=ih (hL.psh hk hi)
   refine⟨.head (L1:=qcc n (psh _ k i)) ?_ a,b⟩
   rw[<-qld hi]
   exact .mk ⟨hk,by omega,qlo hi (hL _ hk) h.b_,qkQ hi (hL _ (by omega)) h.e_⟩
def qes (n:Nat) (p:List Nat):List Nat:=p.reverse.map fun k=>n-1-k
def qeu (n:Nat):List Nat:=(List.range n).reverse
theorem qfw (n:Nat):(SB.half n).row n=qeu n:=by
 apply List.ext_getElem?
 intro k
 unfold qeu
 by_cases hk:k<n
 ·rw[Uf _ hk,List.getElem?_reverse (by simpa using hk)]
  simp only[List.length_range]
  rw[List.getElem?_range (by omega)]
  show some (rv5 n k)=_
  rw[qac hk]
 rw[Yg (by rw[Ue];omega),Yg (by simp;omega)]
theorem qo8 (n:Nat):SB.id.row n=List.range n:=by
 unfold SB.row
 exact List.map_id' _
theorem qnk {n:Nat} {s:SB} (hs:s.Ok n):(s.flip n).row n=qes n (s.row n):=by
 apply List.ext_getElem?
 intro k
 unfold qes
 by_cases hk:k<n
 ·rw[Uf _ hk,YA,List.getElem?_reverse (by rw[Ue];exact hk),Ue,Uf _ (by omega)]
  show some (rv5 n (s.f (rv5 n k)))=_
  rw[qac hk,qac (hs.f_ _ (by omega))]
  rfl
 rw[Yg (by rw[Ue];omega),Yg (by simp[Ue];omega)]
theorem qfc {n m:Nat} {L:Nat->SB} (hL:OkM n m L): ∀{k:Nat},k<=m->xH n (qcc n L) k=(xH n L k).map (qes n)
 |0,h=>rfl
 |k+1,h=>by
  rw[xH,xH,List.map_cons,qfc hL (k:=k) (by omega),<-qnk (hL k (by omega))]
  rfl
def qdD (l:List SB):Nat->SB:=fun q=>l.getD q SB.id
def qdI (n:Nat) (l:List SB) (c:Int):List SB:=if 0<c then l++[SB.id.fr (c.natAbs-1)]else l.map (SB.flip n)++[(SB.half n).bk (c.natAbs-1)]
theorem qlZ (l:List SB) (s:SB):qdD (l++[s])=qe3 (qdD l) l.length s:=by
 funext q
 show(l++[s]).getD q SB.id=if q=l.length then s else l.getD q SB.id
 rw[Yy,Yy]
 by_cases h:q=l.length
 ·subst h;simp
 rw[if_neg h]
 by_cases h2:q<l.length
 ·rw[Yf h2]
 rw[Yg (by simp;omega),Yg (by omega)]
theorem qkX (n:Nat) (l:List SB):qdD (l.map (SB.flip n))=qcc n (qdD l):=by
 funext q
 show(l.map (SB.flip n)).getD q SB.id=(l.getD q SB.id).flip n
 rw[Yy,Yy,YA]
 cases l[q]? with
 |some s=>rfl
 |none=>
  refine SB.ext fun k=>?_
  show k=rv5 n (rv5 n k)
  rw[qbX]
def qjT (n:Nat) (R:List (List Nat)) (c:Int):List (List Nat):=
 if 0<c then qer n (qfr (c.natAbs-1) (List.range n)) R else qer n (qbk (c.natAbs-1) (qeu n)) (R.map (qes n))
structure QOK (n:Nat) (l:List SB) (R:List (List Nat)):Prop where
 ok: ∀s∈l,s.Ok n
 ex: ∃A,Pst n l.length (qdD l) A/\OkM n l.length A/\R=xH n A l.length
theorem qka {n:Nat} {l:List SB} (h: ∀s∈l,s.Ok n):OkM n l.length (qdD l):=fun q hq=>by
 unfold qdD
 rw[Yy,Ya hq]
 exact h _ (List.getElem_mem hq)
theorem QOK.step {n:Nat} {l:List SB} {R:List (List Nat)} (h:QOK n l R) {c:Int} (hc:c≠0/\ -(n:Int)<c/\c<n):QOK n (qdI n l c) (qjT n R c)/\(qdI n l c).length=l.length+1:=by
 obtain⟨i,hi⟩: ∃i,c.natAbs=i+1:=⟨c.natAbs-1,by omega⟩
 have hin:i+1<n:=by omega
 obtain⟨A,a1,a2,rfl⟩:=h.ex
 have key: ∀{l':List SB} {B:Nat->SB} {s:SB},l'.length=l.length->(∀t∈l',t.Ok n)->s.Ok n->Pst n l.length (qdD l') B->OkM n l.length B->QOK n (l'++[s]) (qer n (s.row n) (xH n B l.length)):=fun {l' B s} hl hk hs p ok=>by
  refine⟨fun t ht=>(List.mem_append.1 ht).elim (hk t) (fun e=>by rw[List.mem_singleton.1 e];exact hs),?_⟩
  have ok':OkM n (l.length+1) (qe3 B l.length s):=fun q hq=>by
   by_cases e:q=l.length
   ·subst e;rw[qeQ];exact hs
   rw[qcG e];exact ok q (by omega)
  obtain⟨D,d1,d2,d3,d4⟩:=qh2 (n:=n) (m:=l.length+1) l.length (qe3 B l.length s) (by omega) ok'
  rw[qeQ,qe8 (A:=qe3 B l.length s) (L:=B) fun q hq=>qcG (by omega)]at d2
  rw[qlZ,Yq,hl]
  refine⟨D,?_,d4,d2⟩
  have:=(p.upd s).up
  exact this.trans d1
 unfold qdI qjT
 rw[hi,Nat.add_sub_cancel]
 by_cases hp:0<c
 ·rw[if_pos hp,if_pos hp]
  refine⟨?_,by simp⟩
  have:=key (s:=SB.id.fr i) rfl h.ok ((SB.id_ok n).fr hin) a1 a2
  rwa [qjd hin,qo8]at this
 rw[if_neg hp,if_neg hp]
 refine⟨?_,by simp⟩
 obtain⟨f1,f2⟩:=a1.flip (qka h.ok)
 have:=key (l':=l.map (SB.flip n)) (B:=qcc n A) (s:=(SB.half n).bk i) (by simp) (fun t ht=>by
  obtain⟨u,hu,rfl⟩:=List.mem_map.1 ht
  exact(h.ok u hu).flip) ((SB.half_ok n).bk hin) (by rw[qkX];exact f1) a2.flip
 rwa [ql9,qfw,qfc a2 (Nat.le_refl _)]at this
end Go.Av
end
section
namespace Go.Av
structure QTb where
 n:Nat
 cnt:Nat
 rows:List (List Nat)
 tab:Nat
 flp:Nat
 pos:List Nat
 neg:List Nat
 idc:Nat
 half:Nat
def frc {α:Type} (v:Nat) (f:Nat->α):α:=Nat.casesOn v (f 0) fun k=>f (k+1)
theorem qeb {α:Type} (v:Nat) (f:Nat->α):frc v f=f v:=by cases v<;>rfl
def QTb.dec (T:QTb) (c:Nat):List Nat:=T.rows.getD c []
def QTb.v (T:QTb) (s x:Nat):Nat:=Nat.land (Nat.shiftRight T.tab (Nat.mul 10 (Nat.add (Nat.mul 32 s) x))) 1023
def QTb.a (T:QTb) (s x:Nat):Nat:=Nat.land (T.v s x) 31
def QTb.b (T:QTb) (s x:Nat):Nat:=Nat.shiftRight (T.v s x) 5
def QTb.fl (T:QTb) (c:Nat):Nat:=Nat.land (Nat.shiftRight T.flp (Nat.mul 5 c)) 31
def qpN (T:QTb):Nat->List Nat->List Nat
 |x,[]=>[x]
 |x,s::r=>frc (T.v s x) fun v=>frc (Nat.land v 31) fun a=>frc (Nat.shiftRight v 5) fun b=>b::qpN T a r
theorem qoc (T:QTb) (x:Nat):qpN T x []=[x]:=rfl
theorem qa9 (T:QTb) (x s:Nat) (r:List Nat):qpN T x (s::r)=T.b s x::qpN T (T.a s x) r:=by
 rw[qpN,qeb,qeb,qeb];rfl
def qal:Nat->(Nat->Bool)->Bool
 |0,_=>true
 |k+1,f=>bif f k then qal k f else false
theorem xD: ∀{k:Nat} {f:Nat->Bool},qal k f=true-> ∀i,i<k->f i=true
 |0,f,h,i,hi=>by omega
 |k+1,f,h,i,hi=>by
  unfold qal at h
  cases c:f k with
  |false=>rw[c]at h;cases h
  |true=>
   rw[c,cond_true]at h
   by_cases e:i=k
   ·subst e;exact c
   exact xD h i (by omega)
def eqN:List Nat->List Nat->Bool
 |[],[]=>true
 |a::l,b::k=>bif Nat.beq a b then eqN l k else false
 |_,_=>false
theorem qaW: ∀{l k:List Nat},eqN l k=true->l=k
 |[],[],h=>rfl
 |a::l,b::k,h=>by
  unfold eqN at h
  cases c:Nat.beq a b with
  |false=>rw[c]at h;cases h
  |true=>rw[c,cond_true]at h;rw[Nat.eq_of_beq_eq_true c,qaW h]
 |[],b::k,h=>by cases h
 |a::l,[],h=>by cases h
def QTb.ck2 (T:QTb) (s x:Nat):Bool:=
 match qey T.n (T.n*T.n) (T.dec s) (T.dec x)with
 |(p,q)=>bif Nat.blt (T.a s x) T.cnt then bif Nat.blt (T.b s x) T.cnt then bif eqN p (T.dec (T.a s x))then bif eqN q (T.dec (T.b s x))then
  bif Nat.beq (T.a s x) s then bif Nat.beq (T.b s x) x then(qci (T.dec s) (T.dec x) (T.n-1)).isNone else true else true else false else false else false else false
def QTb.ck1 (T:QTb) (c:Nat):Bool:=
 bif eqN (qes T.n (T.dec c)) (T.dec (T.fl c))then bif Nat.blt (T.fl c) T.cnt then
  bif Nat.beq (T.a T.idc c) c then bif Nat.beq (T.b T.idc c) T.idc then bif Nat.beq (T.a T.half c) T.half then bif Nat.beq (T.b T.half c) c then bif Nat.beq (T.a c T.idc) c then Nat.beq (T.b c T.idc) T.idc else false else false else false else false else false else false else false
def QTb.ckl (T:QTb) (i:Nat):Bool:=
 bif eqN (T.dec (T.pos.getD i 0)) (qfr i (List.range T.n))then bif eqN (T.dec (T.neg.getD i 0)) (qbk i (qeu T.n))then bif Nat.blt (T.pos.getD i 0) T.cnt then Nat.blt (T.neg.getD i 0) T.cnt else false else false else false
def QTb.ck0 (T:QTb):Bool:=
 bif eqN (T.dec T.idc) (List.range T.n)then bif eqN (T.dec T.half) (qeu T.n)then bif Nat.blt T.idc T.cnt then bif Nat.blt T.half T.cnt then
  bif Nat.beq (T.fl T.idc) T.idc then Nat.beq (T.fl T.half) T.half else false else false else false else false else false
def QTb.ckd (T:QTb) (s x:Nat):Bool:=bif eqN (T.dec s) (T.dec x)then Nat.beq s x else true
def QTb.ck (T:QTb):Bool:=
 bif T.ck0 then bif qal (T.n-1) T.ckl then bif qal T.cnt T.ck1 then bif qal T.cnt (fun s=>qal T.cnt (T.ck2 s))then qal T.cnt (fun s=>qal T.cnt (T.ckd s))else false else false else false else false
theorem ql {a b:Bool} (h:(bif a then b else false)=true):a=true/\b=true:=by
 cases a<;>simp_all
structure QTb.Ok (T:QTb):Prop where
 a_: ∀s x,s<T.cnt->x<T.cnt->T.a s x<T.cnt
 b_: ∀s x,s<T.cnt->x<T.cnt->T.b s x<T.cnt
 pr: ∀s x,s<T.cnt->x<T.cnt->qey T.n (T.n*T.n) (T.dec s) (T.dec x)=(T.dec (T.a s x),T.dec (T.b s x))
 nf: ∀s x,s<T.cnt->x<T.cnt->T.a s x=s->T.b s x=x->qci (T.dec s) (T.dec x) (T.n-1)=none
 fl: ∀c,c<T.cnt->qes T.n (T.dec c)=T.dec (T.fl c)
 fl_: ∀c,c<T.cnt->T.fl c<T.cnt
 ida: ∀c,c<T.cnt->T.a T.idc c=c
 idb: ∀c,c<T.cnt->T.b T.idc c=T.idc
 haa: ∀c,c<T.cnt->T.a T.half c=T.half
 hab: ∀c,c<T.cnt->T.b T.half c=c
 ria: ∀c,c<T.cnt->T.a c T.idc=c
 rib: ∀c,c<T.cnt->T.b c T.idc=T.idc
 po: ∀i,i+1<T.n->T.dec (T.pos.getD i 0)=qfr i (List.range T.n)/\T.pos.getD i 0<T.cnt
 ne: ∀i,i+1<T.n->T.dec (T.neg.getD i 0)=qbk i (qeu T.n)/\T.neg.getD i 0<T.cnt
 id:T.dec T.idc=List.range T.n
 ha:T.dec T.half=qeu T.n
 id_:T.idc<T.cnt
 ha_:T.half<T.cnt
 fi:T.fl T.idc=T.idc
 fh:T.fl T.half=T.half
 inj: ∀s x,s<T.cnt->x<T.cnt->T.dec s=T.dec x->s=x
theorem qiz: ∀l:List Nat,eqN l l=true
 |[]=>rfl
 |a::l=>by rw[eqN,Nat.beq_refl,cond_true,qiz l]
theorem qbp {a b:Nat} (h:Nat.blt a b=true):a<b:=by simpa[Nat.blt_eq]using h
theorem yF {a b:Nat} (h:Nat.beq a b=true):a=b:=Nat.eq_of_beq_eq_true h
theorem QTb.ok {T:QTb} (h:T.ck=true):T.Ok:=by
 obtain⟨h0,h⟩:=ql h
 obtain⟨h1,h⟩:=ql h
 obtain⟨h2,h⟩:=ql h
 obtain⟨h3,h4⟩:=ql h
 obtain⟨z1,z⟩:=ql h0
 obtain⟨z2,z⟩:=ql z
 obtain⟨z3,z⟩:=ql z
 obtain⟨z4,z⟩:=ql z
 obtain⟨z5,z6⟩:=ql z
 have c2:=fun(s x:Nat) (hs:s<T.cnt) (hx:x<T.cnt)=>xD (xD h3 s hs) x hx
 have c2': ∀s x,s<T.cnt->x<T.cnt->T.a s x<T.cnt/\T.b s x<T.cnt/\qey T.n (T.n*T.n) (T.dec s) (T.dec x)=(T.dec (T.a s x),T.dec (T.b s x))/\(T.a s x=s->T.b s x=x->qci (T.dec s) (T.dec x) (T.n-1)=none):=fun s x hs hx=>by
  have:=c2 s x hs hx
  unfold QTb.ck2 at this
  rcases e:qey T.n (T.n*T.n) (T.dec s) (T.dec x)with⟨p,q⟩
  rw[e]at this
  obtain⟨y1,y⟩:=ql this
  obtain⟨y2,y⟩:=ql y
  obtain⟨y3,y⟩:=ql y
  obtain⟨y4,y⟩:=ql y
  refine⟨qbp y1,qbp y2,by rw[qaW y3,qaW y4],fun ea eb=>?_⟩
  rw[ea,eb,Nat.beq_refl,Nat.beq_refl,cond_true,cond_true]at y
  exact Option.isNone_iff_eq_none.1 y
 have c1: ∀c,c<T.cnt->qes T.n (T.dec c)=T.dec (T.fl c)/\T.fl c<T.cnt/\T.a T.idc c=c/\T.b T.idc c=T.idc/\T.a T.half c=T.half/\T.b T.half c=c/\T.a c T.idc=c/\T.b c T.idc=T.idc:=fun c hc=>by
  obtain⟨y1,y⟩:=ql (xD h2 c hc)
  obtain⟨y2,y⟩:=ql y
  obtain⟨y3,y⟩:=ql y
  obtain⟨y4,y⟩:=ql y
  obtain⟨y5,y⟩:=ql y
  obtain⟨y6,y⟩:=ql y
  obtain⟨y7,y8⟩:=ql y
  exact⟨qaW y1,qbp y2,yF y3,yF y4,yF y5,yF y6,yF y7,yF y8⟩
 have cl: ∀i,i+1<T.n->(T.dec (T.pos.getD i 0)=qfr i (List.range T.n)/\T.pos.getD i 0<T.cnt)/\(T.dec (T.neg.getD i 0)=qbk i (qeu T.n)/\T.neg.getD i 0<T.cnt):=fun i hi=>by
  obtain⟨y1,y⟩:=ql (xD h1 i (by omega))
  obtain⟨y2,y⟩:=ql y
  obtain⟨y3,y4⟩:=ql y
  exact⟨⟨qaW y1,qbp y3⟩,qaW y2,qbp y4⟩
 refine⟨fun s x a b=>(c2' s x a b).1,fun s x a b=>(c2' s x a b).2.1,fun s x a b=>(c2' s x a b).2.2.1,fun s x a b=>(c2' s x a b).2.2.2,fun c h=>(c1 c h).1,fun c h=>(c1 c h).2.1,fun c h=>(c1 c h).2.2.1,fun c h=>(c1 c h).2.2.2.1,fun c h=>(c1 c h).2.2.2.2.1,fun c h=>(c1 c h).2.2.2.2.2.1,fun c h=>(c1 c h).2.2.2.2.2.2.1,fun c h=>(c1 c h).2.2.2.2.2.2.2,fun i h=>(cl i h).1,fun i h=>(cl i h).2,qaW z1,qaW z2,qbp z3,qbp z4,yF z5,yF z6,fun s x hs hx e=>?_⟩
 have:=xD (xD h4 s hs) x hx
 unfold QTb.ckd at this
 rw[e,qiz,cond_true]at this
 exact yF this
def Cod (T:QTb) (R:List Nat):Prop:= ∀c∈R,c<T.cnt
theorem Cod.nil (T:QTb):Cod T []:=fun c h=>by cases h
theorem Cod.cons {T:QTb} {x:Nat} {R:List Nat} (h:x<T.cnt) (k:Cod T R):Cod T (x::R):=fun c hc=>by
 rcases List.mem_cons.1 hc with rfl|hc
 ·exact h
 exact k c hc
theorem Cod.hd {T:QTb} {x:Nat} {R:List Nat} (h:Cod T (x::R)):x<T.cnt:=h x List.mem_cons_self
theorem Cod.tl {T:QTb} {x:Nat} {R:List Nat} (h:Cod T (x::R)):Cod T R:=fun c hc=>h c (List.mem_cons_of_mem _ hc)
theorem qbV {T:QTb} (hT:T.Ok): ∀{R:List Nat} {x:Nat},x<T.cnt->Cod T R->Cod T (qpN T x R)
 |[],x,hx,h=>Cod.cons hx (Cod.nil T)
 |s::r,x,hx,h=>by
  rw[qa9]
  exact Cod.cons (hT.b_ _ _ h.hd hx) (qbV hT (hT.a_ _ _ h.hd hx) h.tl)
theorem qg3 {T:QTb} (hT:T.Ok): ∀{R:List Nat} {x:Nat},x<T.cnt->Cod T R->qer T.n (T.dec x) (R.map T.dec)=(qpN T x R).map T.dec
 |[],x,hx,h=>rfl
 |s::r,x,hx,h=>by
  rw[qa9,List.map_cons,List.map_cons,qer,hT.pr s x h.hd hx]
  dsimp only
  rw[qg3 hT (hT.a_ _ _ h.hd hx) h.tl]
theorem qe0 {T:QTb} (hT:T.Ok) {R:List Nat} (h:Cod T R):Cod T (R.map T.fl):=fun c hc=>by
 obtain⟨d,hd,rfl⟩:=List.mem_map.1 hc
 exact hT.fl_ d (h d hd)
theorem qjS {T:QTb} (hT:T.Ok): ∀{R:List Nat},Cod T R->(R.map T.dec).map (qes T.n)=(R.map T.fl).map T.dec
 |[],h=>rfl
 |s::r,h=>by
  rw[List.map_cons,List.map_cons,List.map_cons,List.map_cons,hT.fl s h.hd,qjS hT h.tl]
def nfN (T:QTb):List Nat->Bool
 |[]=>true
 |x::r=>match r with
  |[]=>true
  |s::_=>bif Nat.beq (T.a s x) s then bif Nat.beq (T.b s x) x then nfN T r else false else false
theorem qmU {T:QTb} (hT:T.Ok): ∀{R:List Nat},Cod T R->nfN T R=true->qnf T.n (R.map T.dec)=true
 |[],h,k=>rfl
 |[x],h,k=>rfl
 |x::s::r,h,k=>by
  unfold nfN at k
  obtain⟨k1,k⟩:=ql k
  obtain⟨k2,k⟩:=ql k
  have hr:=qmU hT h.tl k
  rw[List.map_cons,List.map_cons,qnf]
  rw[List.map_cons]at hr
  rw[hr,hT.nf s x h.tl.hd h.hd (yF k1) (yF k2)]
  rfl
theorem qck {T:QTb} {x s:Nat} {r:List Nat} (h1:T.a s x=s) (h2:T.b s x=x) (h:nfN T (s::r)=true):nfN T (x::s::r)=true:=by
 rw[nfN]
 rw[h1,h2,Nat.beq_refl,Nat.beq_refl,cond_true,cond_true,h]
theorem qoD {T:QTb} {x:Nat} (h:x<T.cnt) (k:Nat):Cod T (List.replicate k x):=fun c hc=>by
 rw[(List.mem_replicate.1 hc).2];exact h
theorem Cod.app {T:QTb} {R S:List Nat} (h:Cod T R) (k:Cod T S):Cod T (R++S):=fun c hc=>(List.mem_append.1 hc).elim (h c) (k c)
theorem Cod.left {T:QTb} {R S:List Nat} (h:Cod T (R++S)):Cod T R:=fun c hc=>h c (List.mem_append_left _ hc)
theorem Cod.right {T:QTb} {R S:List Nat} (h:Cod T (R++S)):Cod T S:=fun c hc=>h c (List.mem_append_right _ hc)
theorem qme {T:QTb} (hT:T.Ok) {M:List Nat} (hM:Cod T M) (hn:nfN T M=true) (d h:Nat):nfN T (List.replicate d T.idc++(M++List.replicate h T.half))=true:=by
 have tail: ∀{R:List Nat},Cod T R->nfN T R=true->nfN T (R++List.replicate h T.half)=true:=by
  intro R
  induction R with
  |nil=>
   intro _ _
   rw[List.nil_append]
   induction h with
   |zero=>rfl
   |succ k ih=>
    cases k with
    |zero=>rfl
    |succ k=>
     rw[List.replicate_succ,List.replicate_succ]
     rw[List.replicate_succ]at ih
     exact qck (hT.haa _ hT.ha_) (hT.hab _ hT.ha_) ih
  |cons x r ih=>
   intro hc hr
   cases r with
   |nil=>
    cases h with
    |zero=>rfl
    |succ k=>
     have:=ih (Cod.nil T) rfl
     rw[List.nil_append,List.replicate_succ]at this
     rw[List.replicate_succ]
     exact qck (hT.haa _ hc.hd) (hT.hab _ hc.hd) this
   |cons s r=>
    unfold nfN at hr
    obtain⟨k1,k⟩:=ql hr
    obtain⟨k2,k⟩:=ql k
    exact qck (yF k1) (yF k2) (ih hc.tl k)
 have h1:=tail hM hn
 have c1:Cod T (M++List.replicate h T.half):=hM.app (qoD hT.ha_ h)
 generalize M++List.replicate h T.half=R at*
 induction d with
 |zero=>exact h1
 |succ d ih=>
  cases d with
  |zero=>
   cases R with
   |nil=>rfl
   |cons s r=>
    exact qck (hT.ria _ c1.hd) (hT.rib _ c1.hd) h1
  |succ d=>
   rw[List.replicate_succ,List.replicate_succ,List.cons_append,List.cons_append]
   rw[List.replicate_succ,List.cons_append]at ih
   exact qck (hT.ida _ hT.id_) (hT.idb _ hT.id_) ih
end Go.Av
end
section
namespace Go.Av
def shd (z:Nat):List Nat->List Nat
 |[]=>[]
 |x::r=>bif Nat.beq x z then shd z r else x::r
def stl (z:Nat):List Nat->Nat×List Nat
 |[]=>(0,[])
 |x::r=>match stl z r with
  |(h,[])=>bif Nat.beq x z then(h+1,[])else(h,[x])
  |(h,y::l)=>(h,x::y::l)
theorem qm9 (z:Nat): ∀M:List Nat,∃d,M=List.replicate d z++shd z M
 |[]=>⟨0,rfl⟩
 |x::r=>by
  unfold shd
  cases c:Nat.beq x z with
  |false=>exact⟨0,rfl⟩
  |true=>
   obtain⟨d,hd⟩:=qm9 z r
   refine⟨d+1,?_⟩
   rw[cond_true,List.replicate_succ,List.cons_append,<-hd,yF c]
theorem qmu (z:Nat): ∀M:List Nat,M=(stl z M).2++List.replicate (stl z M).1 z
 |[]=>rfl
 |x::r=>by
  have ih:=qmu z r
  unfold stl
  rcases e:stl z r with⟨h,l⟩
  rw[e]at ih
  cases l with
  |nil=>
   dsimp only
   cases c:Nat.beq x z with
   |false=>rw[cond_false];rw[ih];rfl
   |true=>rw[cond_true];rw[ih,yF c];rfl
  |cons y l=>dsimp only;rw[ih];rfl
abbrev FmN:=Nat×List Nat
def fmS (T:QTb) (H:Nat) (M:List Nat):FmN:=match stl T.half (shd T.idc M)with|(h,l)=>(Nat.add H h,l)
def fmN (T:QTb) (i:Nat) (p:Bool) (s:FmN):FmN:=
 bif p then fmS T s.1 (qpN T (T.pos.getD i 0) s.2)else fmS T (Nat.sub s.1 1) (qpN T (T.neg.getD i 0) (s.2.map T.fl))
theorem qpn (T:QTb) (H:Nat) (M:List Nat): ∃d h,M=List.replicate d T.idc++((fmS T H M).2++List.replicate h T.half)/\(fmS T H M).1=H+h:=by
 obtain⟨d,hd⟩:=qm9 T.idc M
 have h2:=qmu T.half (shd T.idc M)
 refine⟨d,(stl T.half (shd T.idc M)).1,?_,rfl⟩
 rw[show(fmS T H M).2=(stl T.half (shd T.idc M)).2 from rfl,<-h2,<-hd]
structure RS (T:QTb) (k:Nat) (R:List Nat) (s:FmN):Prop where
 cod:Cod T R
 sh: ∃d h,R=List.replicate d T.idc++(s.2++List.replicate h T.half)/\s.1+k=16+h
theorem RS.nil (T:QTb):RS T 0 [] (16,[]):=⟨Cod.nil T,0,0,rfl,rfl⟩
theorem qkG {T:QTb} (hT:T.Ok) {x:Nat} (hx:x<T.cnt) (R:List Nat): ∀d,qpN T x (List.replicate d T.idc++R)=List.replicate d T.idc++qpN T x R
 |0=>rfl
 |d+1=>by
  rw[List.replicate_succ,List.cons_append,List.cons_append,qa9,hT.idb x hx,hT.ida x hx,qkG hT hx R d]
theorem qfA {T:QTb} (hT:T.Ok) {x:Nat} (hx:x<T.cnt): ∀h,qpN T x (List.replicate h T.half)=x::List.replicate h T.half
 |0=>rfl
 |h+1=>by
  rw[List.replicate_succ,qa9,hT.hab x hx,hT.haa x hx,qfA hT hT.ha_ h]
theorem qkm {T:QTb} (hT:T.Ok) (h:Nat): ∀{M:List Nat} {x:Nat},x<T.cnt->Cod T M->qpN T x (M++List.replicate h T.half)=qpN T x M++List.replicate h T.half
 |[],x,hx,hM=>by rw[List.nil_append,qfA hT hx];rfl
 |s::M,x,hx,hM=>by
  rw[List.cons_append,qa9,qa9,qkm hT h (hT.a_ _ _ hM.hd hx) hM.tl]
  rfl
theorem qn1 {α:Type} (a b:Nat) (x:α) (l:List α):List.replicate a x++(List.replicate b x++l)=List.replicate (a+b) x++l:=by
 rw[<-Yz,List.replicate_append_replicate]
theorem RS.pass {T:QTb} (hT:T.Ok) {k:Nat} {R:List Nat} {H:Nat} {M:List Nat} (h:RS T k R (H,M)) {x:Nat} (hx:x<T.cnt):RS T k (qpN T x R) (fmS T H (qpN T x M)):=by
 obtain⟨c,d,h0,e,e2⟩:=h
 dsimp only at e e2
 subst e
 have hM:Cod T M:=c.right.left
 obtain⟨d',h',f1,f2⟩:=qpn T H (qpN T x M)
 refine⟨qbV hT hx c,d+d',h'+h0,?_,by omega⟩
 rw[qkG hT hx,qkm hT h0 hx hM]
 conv=>lhs;rw[f1]
 rw[Yz,Yz,List.replicate_append_replicate,qn1]
theorem RS.flip {T:QTb} (hT:T.Ok) {k:Nat} {R:List Nat} {H:Nat} {M:List Nat} (h:RS T k R (H,M)) (hH:1<=H):RS T (k+1) (R.map T.fl) (H-1,M.map T.fl):=by
 obtain⟨c,d,h0,e,e2⟩:=h
 dsimp only at e e2
 subst e
 refine⟨qe0 hT c,d,h0,?_,by dsimp only;omega⟩
 rw[List.map_append,List.map_append,List.map_replicate,List.map_replicate,hT.fi,hT.fh]
def rwN (T:QTb) (R:List Nat) (c:Int):List Nat:=if 0<c then qpN T (T.pos.getD (c.natAbs-1) 0) R else qpN T (T.neg.getD (c.natAbs-1) 0) (R.map T.fl)
def fmL (T:QTb) (s:FmN) (c:Int):FmN:=fmN T (c.natAbs-1) (decide (0<c)) s
def ngN (k:Nat) (c:Int):Nat:=if 0<c then k else k+1
theorem RS.step {T:QTb} (hT:T.Ok) {k:Nat} {R:List Nat} {s:FmN} (h:RS T k R s) {c:Int} (hc:c≠0/\ -(T.n:Int)<c/\c<T.n) (hH:1<=s.1):RS T (ngN k c) (rwN T R c) (fmL T s c):=by
 obtain⟨i,hi⟩: ∃i,c.natAbs=i+1:=⟨c.natAbs-1,by omega⟩
 have hin:i+1<T.n:=by omega
 unfold rwN fmL fmN ngN
 rw[hi,Nat.add_sub_cancel]
 obtain⟨H,M⟩:=s
 by_cases hp:0<c
 ·rw[if_pos hp,if_pos hp,decide_eq_true hp,cond_true]
  exact h.pass hT (hT.po i hin).2
 rw[if_neg hp,if_neg hp,decide_eq_false hp,cond_false]
 exact(h.flip hT hH).pass hT (hT.ne i hin).2
theorem qoF {T:QTb} (hT:T.Ok) {R:List Nat} (h:Cod T R) {c:Int} (hc:c≠0/\ -(T.n:Int)<c/\c<T.n):qjT T.n (R.map T.dec) c=(rwN T R c).map T.dec:=by
 obtain⟨i,hi⟩: ∃i,c.natAbs=i+1:=⟨c.natAbs-1,by omega⟩
 have hin:i+1<T.n:=by omega
 unfold qjT rwN
 rw[hi,Nat.add_sub_cancel]
 by_cases hp:0<c
 ·rw[if_pos hp,if_pos hp,<-(hT.po i hin).1,qg3 hT (hT.po i hin).2 h]
 rw[if_neg hp,if_neg hp,<-(hT.ne i hin).1,qjS hT h,qg3 hT (hT.ne i hin).2 (qe0 hT h)]
end Go.Av
end
section
namespace Go.Av
def xB (s:List Int) (x:Int):List Int:=match s with
 |[]=>[x]
 |y::t=>if y= -x then t else x::y::t
theorem qee (x:Int):xB [] x=[x]:=rfl
theorem xY {x y:Int} (t:List Int) (h:y= -x):xB (y::t) x=t:=if_pos h
theorem xU {x y:Int} (t:List Int) (h: ¬y= -x):xB (y::t) x=x::y::t:=if_neg h
def fact (s w:List Int):List Int:=w.foldl xB s
def fred (w:List Int):List Int:=(fact [] w).reverse
def qm (w:List Int):List Int:=(w.map fun x=> -x).reverse
def yO:List Int->Prop
 |[]=>True
 |x::t=>x≠0/\(∀y∈t.head?,y≠ -x)/\yO t
def Nz (w:List Int):Prop:= ∀x∈w,x≠0
theorem Nz.app {u v:List Int} (h:Nz u) (k:Nz v):Nz (u++v):=fun x hx=>(List.mem_append.1 hx).elim (h x) (k x)
theorem Nz.left {u v:List Int} (h:Nz (u++v)):Nz u:=fun x hx=>h x (List.mem_append_left _ hx)
theorem Nz.right {u v:List Int} (h:Nz (u++v)):Nz v:=fun x hx=>h x (List.mem_append_right _ hx)
theorem Nz.inv {u:List Int} (h:Nz u):Nz (qm u):=fun x hx=>by
 simp only[qm,List.mem_reverse,List.mem_map]at hx
 obtain⟨y,hy,rfl⟩:=hx
 have:=h y hy
 omega
theorem qfQ:qm []=[]:=rfl
theorem qhO (u v:List Int):qm (u++v)=qm v++qm u:=by simp[qm]
theorem qin (x:Int):qm [x]=[-x]:=rfl
theorem yK (x:Int) (u:List Int):qm (x::u)=qm u++[-x]:=by simp[qm]
theorem qem (u:List Int):qm (qm u)=u:=by simp[qm,List.map_reverse,Function.comp_def]
theorem qbx (u:List Int):(qm u).length=u.length:=by simp[qm]
theorem yw (s u v:List Int):fact s (u++v)=fact (fact s u) v:=by simp[fact]
theorem qba (s:List Int) (x:Int):fact s [x]=xB s x:=rfl
theorem qec (s:List Int) (x:Int) (w:List Int):fact s (x::w)=fact (xB s x) w:=rfl
theorem qkP {s:List Int} {x:Int} (h:yO s) (hx:x≠0):yO (xB s x):=by
 cases s with
 |nil=>exact⟨hx,by simp,trivial⟩
 |cons y t=>
  unfold xB
  dsimp only
  split
  ·exact h.2.2
  rename_i n
  exact⟨hx,by intro z hz;simp at hz;subst hz;exact n,h⟩
theorem qdQ {s w:List Int} (h:yO s) (hw:Nz w):yO (fact s w):=by
 induction w generalizing s with
 |nil=>exact h
 |cons x w ih=>exact ih (qkP h (hw x (List.mem_cons_self ..))) (fun y hy=>hw y (List.mem_cons_of_mem _ hy))
theorem qfp {s:List Int} {x:Int} (h:yO s) (hx:x≠0):xB (xB s x) (-x)=s:=by
 cases s with
 |nil=>rw[qee,xY _ (by omega)]
 |cons y t=>
  by_cases n:y= -x
  ·rw[xY t n]
   cases t with
   |nil=>rw[qee,n]
   |cons z t=>
    have:=h.2.1 z (by simp)
    rw[xU _ (by omega),n]
  rw[xU t n,xY _ (by omega)]
theorem qnG {s w:List Int} {x:Int} (h:x∈fact s w):x∈s\/x∈w:=by
 induction w generalizing s with
 |nil=>exact .inl h
 |cons y w ih=>
  rcases ih h with h|h
  ·cases s with
   |nil=>simp[xB]at h;exact .inr (by simp[h])
   |cons z t=>
    unfold xB at h
    dsimp only at h
    split at h
    ·exact .inl (List.mem_cons_of_mem _ h)
    rcases List.mem_cons.1 h with h|h
    ·exact .inr (by simp[h])
    exact .inl h
  exact .inr (List.mem_cons_of_mem _ h)
theorem qdF {w:List Int} {x:Int} (h:x∈fred w):x∈w:=by
 rcases qnG (List.mem_reverse.1 h)with h|h
 ·cases h
 exact h
theorem qeX {w:List Int} (h:Nz w):Nz (fred w):=fun x hx=>h x (qdF hx)
theorem qit (s w:List Int):(fact s w).length<=s.length+w.length:=by
 induction w generalizing s with
 |nil=>simp[fact]
 |cons x w ih=>
  have:=ih (xB s x)
  have h:(xB s x).length<=s.length+1:=by
   cases s with
   |nil=>simp[xB]
   |cons y t=>
    unfold xB
    dsimp only
    split
    ·simp;omega
    simp
  rw[qec]
  simp only[Yr]
  omega
theorem qif (w:List Int):(fred w).length<=w.length:=by
 have:=qit [] w
 simpa[fred]using this
theorem qle {w:List Int} (hw:Nz w): ∀{s:List Int},yO s->fact s (fred w)=fact s w:=by
 suffices∀(r:List Int),Nz r-> ∀{s:List Int},yO s->fact s (fred r.reverse)=fact s r.reverse by
  intro s hs
  have:=this w.reverse (fun x hx=>hw x (List.mem_reverse.1 hx)) hs
  simpa using this
 intro r
 induction r with
 |nil=>intro _ s _;rfl
 |cons x r ih=>
  intro hr s hs
  have hx:x≠0:=hr x (List.mem_cons_self ..)
  have hr':Nz r:=fun y hy=>hr y (List.mem_cons_of_mem _ hy)
  have hrr:Nz r.reverse:=fun y hy=>hr' y (List.mem_reverse.1 hy)
  have e:=ih hr' hs
  have hR:yO (fact [] r.reverse):=qdQ trivial hrr
  rw[List.reverse_cons,yw,<-e,qba]
  have g:fred (r.reverse++[x])=(xB (fact [] r.reverse) x).reverse:=by
   unfold fred
   rw[yw,qba]
  rw[g]
  have f:fred r.reverse=(fact [] r.reverse).reverse:=rfl
  rw[f]
  cases c:fact [] r.reverse with
  |nil=>rfl
  |cons y t=>
   rw[c]at hR
   by_cases n:y= -x
   ·rw[xY t n,List.reverse_cons,yw,qba]
    have hS:yO (fact s t.reverse):=by
     refine qdQ hs (fun z hz=>?_)
     refine qeX hrr z ?_
     rw[f,c,List.reverse_cons]
     exact List.mem_append_left _ hz
    have:=qfp hS (x:= -x) (by omega)
    rw[Int.neg_neg]at this
    rw[n,this]
   rw[xU t n,List.reverse_cons,yw,qba]
end Go.Av
end
section
namespace Go.Av
def Feq (u v:List Int):Prop:= ∀s,yO s->fact s u=fact s v
theorem Feq.rfl_ {u:List Int}:Feq u u:=fun s _=>rfl
theorem Feq.symm {u v:List Int} (h:Feq u v):Feq v u:=fun s hs=>(h s hs).symm
theorem Feq.trans {u v w:List Int} (h:Feq u v) (k:Feq v w):Feq u w:=fun s hs=>(h s hs).trans (k s hs)
theorem Feq.app {u v x y:List Int} (hu:Nz u) (h:Feq u v) (k:Feq x y):Feq (u++x) (v++y):=fun s hs=>by
 rw[yw,yw,<-h s hs,k _ (qdQ hs hu)]
theorem Feq.red {u:List Int} (h:Nz u):Feq (fred u) u:=fun s hs=>qle h hs
theorem Feq.fred {u v:List Int} (h:Feq u v):fred u=fred v:=by
 unfold Go.Av.fred
 rw[h [] trivial]
theorem qk7 {s:List Int} (h:yO s):fact [] s.reverse=s:=by
 induction s with
 |nil=>rfl
 |cons x t ih=>
  rw[List.reverse_cons,yw,ih h.2.2,qba]
  cases t with
  |nil=>rfl
  |cons y t=>exact xU _ (h.2.1 y (by simp))
def FR (w:List Int):Prop:=yO w.reverse
theorem FR.fix {w:List Int} (h:FR w):fred w=w:=by
 have:=qk7 h
 rw[List.reverse_reverse]at this
 unfold fred
 rw[this,List.reverse_reverse]
theorem qj7 {w:List Int} (h:Nz w):FR (fred w):=by
 unfold FR fred
 rw[List.reverse_reverse]
 exact qdQ trivial h
theorem Feq.uniq {u v:List Int} (hv:FR v) (h:Feq u v):Go.Av.fred u=v:=by rw[h.fred,hv.fix]
theorem qcl (x:Int) (hx:x≠0):Feq [x,-x] []:=fun s hs=>qfp hs hx
theorem qhr {u:List Int} (h:Nz u):Feq (u++qm u) []:=by
 induction u with
 |nil=>exact .rfl_
 |cons x u ih=>
  have hx:=h x (List.mem_cons_self ..)
  have hu:Nz u:=fun y hy=>h y (List.mem_cons_of_mem _ hy)
  rw[yK,show x::u++(qm u++[-x])=[x]++((u++qm u)++[-x])by simp]
  refine Feq.trans (Feq.app (fun y hy=>?_) .rfl_ (Feq.app (hu.app hu.inv) (ih hu) .rfl_)) (qcl x hx)
  simp at hy
  omega
theorem qfd {u:List Int} (h:Nz u):Feq (qm u++u) []:=by
 have:=qhr h.inv
 rwa [qem]at this
def qg8 (x:List (List Int)) (g:Int):List Int:=if 0<g then x.getD (g-1).toNat []else qm (x.getD (-g-1).toNat [])
def qau (x:List (List Int)) (w:List Int):List Int:=w.flatMap (qg8 x)
theorem qas (x:List (List Int)) (u v:List Int):qau x (u++v)=qau x u++qau x v:=List.flatMap_append
theorem qdU (x:List (List Int)) (g:Int):qau x [g]=qg8 x g:=by simp[qau]
theorem qk1 (x:List (List Int)) (g:Int) (w:List Int):qau x (g::w)=qg8 x g++qau x w:=by simp[qau]
theorem qiK (x:List (List Int)) {g:Int} (h:g≠0):qg8 x (-g)=qm (qg8 x g):=by
 unfold qg8
 by_cases p:0<g
 ·rw[if_neg (by omega),if_pos p,Int.neg_neg]
 rw[if_pos (by omega),if_neg p,qem]
theorem qlF (x:List (List Int)) {w:List Int} (h:Nz w):qau x (qm w)=qm (qau x w):=by
 induction w with
 |nil=>rfl
 |cons g w ih=>
  rw[yK,qas,ih (fun y hy=>h y (List.mem_cons_of_mem _ hy)),qdU,qiK x (h g (List.mem_cons_self ..)),qk1,qhO]
def Nzs (x:List (List Int)):Prop:= ∀w∈x,Nz w
theorem Nzs.getD {x:List (List Int)} (h:Nzs x) (k:Nat):Nz (x.getD k []):=by
 rw[Yy]
 cases c:x[k]? with
 |none=>intro y hy;simp at hy
 |some w=>exact h w (Yn c)
theorem qkI {x:List (List Int)} (h:Nzs x) (g:Int):Nz (qg8 x g):=by
 unfold qg8
 split
 ·exact h.getD _
 exact(h.getD _).inv
theorem qaM {x:List (List Int)} (h:Nzs x) (w:List Int):Nz (qau x w):=fun y hy=>by
 simp only[qau,List.mem_flatMap]at hy
 obtain⟨g,_,hg⟩:=hy
 exact qkI h g y hg
theorem qgL {x:List (List Int)} (hx:Nzs x) {w:List Int} (hw:Nz w):Feq (qau x (fred w)) (qau x w):=by
 suffices∀(r:List Int),Nz r->Feq (qau x (fred r.reverse)) (qau x r.reverse)by
  have:=this w.reverse (fun y hy=>hw y (List.mem_reverse.1 hy))
  simpa using this
 intro r
 induction r with
 |nil=>intro _;exact .rfl_
 |cons g r ih=>
  intro hr
  have hg:g≠0:=hr g (List.mem_cons_self ..)
  have hr':Nz r:=fun y hy=>hr y (List.mem_cons_of_mem _ hy)
  have hrr:Nz r.reverse:=fun y hy=>hr' y (List.mem_reverse.1 hy)
  have e:=ih hr'
  have k:fred (r.reverse++[g])=(xB (fact [] r.reverse) g).reverse:=by
   unfold fred
   rw[yw,qba]
  have f:fred r.reverse=(fact [] r.reverse).reverse:=rfl
  rw[List.reverse_cons,k,qas]
  refine Feq.trans ?_ (Feq.app (qaM hx _) e .rfl_)
  rw[f]
  cases c:fact [] r.reverse with
  |nil=>exact .rfl_
  |cons y t=>
   by_cases n:y= -g
   ·rw[xY t n,List.reverse_cons,qas,qdU,n,qiK x hg,qdU,Yz]
    refine Feq.symm ?_
    have:=Feq.app (qaM hx t.reverse) .rfl_ (qfd (qkI hx g))
    rwa [YQ]at this
   rw[xU t n,List.reverse_cons,qas]
   exact .rfl_
theorem yO.app {s t:List Int}:yO (s++t)↔yO s/\yO t/\ ∀x∈s.getLast?,∀y∈t.head?,y≠ -x:=by
 induction s with
 |nil=>simp[yO]
 |cons a s ih=>
  cases s with
  |nil=>
   simp only[List.singleton_append,yO,List.head?_nil,List.getLast?_singleton]
   constructor
   ·rintro⟨h1,h2,h3⟩
    exact⟨⟨h1,by simp,trivial⟩,h3,fun x hx y hy=>by simp at hx;subst hx;exact h2 y hy⟩
   rintro⟨⟨h1,_,_⟩,h3,h4⟩
   exact⟨h1,fun y hy=>h4 a (by simp) y hy,h3⟩
  |cons b s=>
   have e:(a::b::s).getLast? =(b::s).getLast? :=by simp[List.getLast?_cons_cons]
   rw[List.cons_append,e]
   simp only[yO]at ih⊢
   rw[ih]
   simp only[List.cons_append,List.head?_cons]
   constructor
   ·rintro⟨h1,h2,h3,h4,h5⟩;exact⟨⟨h1,h2,h3⟩,h4,h5⟩
   rintro⟨⟨h1,h2,h3⟩,h4,h5⟩;exact⟨h1,h2,h3,h4,h5⟩
structure qgD (w:List Int) (u:List Int) (g:Int):Prop where
 eq_:w=u++[g]++qm u
 pos:0<g
 red:FR w
end Go.Av
end
section
namespace Go.Av
theorem yO.rev {w:List Int} (h:yO w):yO w.reverse:=by
 induction w with
 |nil=>trivial
 |cons x t ih=>
  rw[List.reverse_cons,yO.app]
  refine⟨ih h.2.2,⟨h.1,by simp,trivial⟩,fun a ha y hy=>?_⟩
  simp only[List.getLast?_reverse]at ha
  simp at hy
  have:=h.2.1 a ha
  omega
theorem FR.of {w:List Int} (h:yO w):FR w:=h.rev
theorem FR.to {w:List Int} (h:FR w):yO w:=by
 have:=yO.rev h
 rwa [List.reverse_reverse]at this
theorem yO.nz {w:List Int} (h:yO w):Nz w:=by
 induction w with
 |nil=>intro x hx;simp at hx
 |cons y t ih=>
  intro x hx
  rcases List.mem_cons.1 hx with e|e
  ·rw[e];exact h.1
  exact ih h.2.2 x e
theorem conj1 {w u:List Int} {g x:Int} (h:qgD w u g) (hx:x≠0): ∃u',Feq ([x]++w++[-x]) (u'++[g]++qm u')/\FR (u'++[g]++qm u'):=by
 have hg:=h.pos
 have nx: ∀{y:Int},y≠0->Nz [y]:=fun hy z hz=>by simp at hz;omega
 have hr:=h.red.to
 have he:=h.eq_
 subst he
 cases u with
 |nil=>
  simp only[qfQ,List.nil_append,YQ]at hr⊢
  by_cases e:x=g
  ·subst e
   exact⟨[],by simpa[qfQ]using Feq.app (nx hx) (.rfl_ (u:=[x])) (qcl x hx),.of hr⟩
  by_cases e':x= -g
  ·subst e'
   refine⟨[],?_,.of hr⟩
   have:=Feq.app ((nx hx).app (nx (by omega:g≠0))) (by have:=qcl (-g) hx;rwa [Int.neg_neg]at this:Feq ([-g]++[g]) []) (.rfl_ (u:=[g]))
   simpa[qfQ]using this
  refine⟨[x],by simpa[qm]using Feq.rfl_,.of ?_⟩
  simp only[qin,List.singleton_append,List.cons_append,List.nil_append,yO,List.head?_cons,List.head?_nil]
  refine⟨hx,?_,by omega,?_,by omega,by simp,trivial⟩
  ·intro y hy;simp at hy;omega
  intro y hy;simp at hy;omega
 |cons y t=>
  have hy:y≠0:=hr.1
  rw[yK]at hr⊢
  have e1:y::t++[g]++(qm t++[-y])=[y]++((t++[g]++qm t)++[-y]):=by simp
  have hm:yO (t++[g]++qm t):=by
   rw[e1,yO.app]at hr
   exact(yO.app.1 hr.2.1).1
  by_cases e:y= -x
  ·refine⟨t,?_,.of hm⟩
   rw[e1,e,Int.neg_neg]
   have a1:=Feq.app (Nz.app (nx hx) (nx (by omega: -x≠0))) (qcl x hx) (Feq.app hm.nz .rfl_ (qcl x hx))
   simpa using a1
  refine⟨x::y::t,?_,.of ?_⟩
  ·rw[yK,yK]
   simpa using Feq.rfl_
  have e2:x::y::t++[g]++qm (x::y::t)=[x]++(((y::t++[g]++qm t)++[-y])++[-x]):=by simp[yK]
  have e3:y::t++[g]++(qm t++[-y])=((y::t++[g]++qm t)++[-y]):=by simp
  rw[e3]at hr
  rw[e2,yO.app]
  refine⟨⟨hx,by simp,trivial⟩,?_,?_⟩
  ·rw[yO.app]
   refine⟨hr,⟨by omega,by simp,trivial⟩,fun a ha b hb=>?_⟩
   rw[List.getLast?_append,List.getLast?_singleton,Option.some_or]at ha
   simp at ha hb
   omega
  intro a ha b hb
  simp at ha hb
  omega
theorem qoN {w u:List Int} {g:Int} (h:qgD w u g) {a:List Int} (ha:Nz a): ∃u',qgD (fred (a++w++qm a)) u' g:=by
 suffices∃u',Feq (a++w++qm a) (u'++[g]++qm u')/\FR (u'++[g]++qm u')by
  obtain⟨u',h1,h2⟩:=this
  exact⟨u',h1.uniq h2,h.pos,by rw[h1.uniq h2];exact h2⟩
 induction a with
 |nil=>exact⟨u,by rw[h.eq_];simpa[qm]using Feq.rfl_,by rw[<-h.eq_];exact h.red⟩
 |cons x a ih=>
  have hx:=ha x (List.mem_cons_self ..)
  obtain⟨u1,h1,h2⟩:=ih (fun y hy=>ha y (List.mem_cons_of_mem _ hy))
  obtain⟨u2,h3,h4⟩:=conj1 (x:=x) ⟨rfl,h.pos,h2⟩ hx
  refine⟨u2,?_,h4⟩
  have nx:Nz [x]:=fun z hz=>by simp at hz;omega
  have hn:Nz (a++w++qm a):=by
   have:Nz a:=fun y hy=>ha y (List.mem_cons_of_mem _ hy)
   exact(this.app h.red.to.nz).app this.inv
  have:=(Feq.app (nx.app hn) (Feq.app nx (.rfl_ (u:=[x])) h1) (.rfl_ (u:=[-x]))).trans h3
  rw[yK]
  simpa using this
def jM (im:List (List Int)) (c:Int):List (List Int):=
 let i:=c.natAbs-1
 let a:=im.getD i []
 let b:=im.getD (i+1) []
 if 0<c then(im.set i (fred (a++b++qm a))).set (i+1) a else(im.set i b).set (i+1) (fred (qm b++a++b))
theorem xq (im:List (List Int)) (c:Int):(jM im c).length=im.length:=by
 unfold jM
 dsimp only
 split<;>simp
theorem qlG {im:List (List Int)} {i:Nat} (h:i+1<im.length): ∃p a b q,im=p++a::b::q/\p.length=i:=by
 refine⟨im.take i,im[i],im[i+1],im.drop (i+2),?_,by simp;omega⟩
 rw[<-YG h,<-YG (by omega),List.take_append_drop]
theorem set2 (p:List (List Int)) (a b A B:List Int) (q:List (List Int)):((p++a::b::q).set p.length A).set (p.length+1) B=p++A::B::q:=by
 induction p with
 |nil=>rfl
 |cons x p ih=>
  simp only[List.cons_append,Yr,List.set_cons_succ]
  rw[ih]
theorem qh6 (p:List (List Int)) (a b:List Int) (q:List (List Int)):(p++a::b::q).getD p.length []=a:=by
 simp[List.getD_eq_getElem?_getD]
theorem qii (p:List (List Int)) (a b:List Int) (q:List (List Int)):(p++a::b::q).getD (p.length+1) []=b:=by
 rw[Yy,Yo (by omega)]
 simp
theorem qie {p:List (List Int)} {a b:List Int} {q:List (List Int)} {c:Int} (h:c.natAbs-1=p.length):
 jM (p++a::b::q) c=if 0<c then p++fred (a++b++qm a)::a::q else p++b::fred (qm b++a++b)::q:=by
 unfold jM
 dsimp only
 rw[h,qh6,qii,set2,set2]
def iota1 (n:Nat):List Int:=(List.range n).map fun k:Nat=>((k:Nat):Int)+1
def fid (n:Nat):List (List Int):=(List.range n).map fun k:Nat=>[((k:Nat):Int)+1]
theorem yX (n:Nat):(fid n).length=n:=by simp[fid]
theorem qn8 {n k:Nat} (h:k<n):(fid n).getD k []=[(k:Int)+1]:=by
 rw[Yy]
 simp[fid,List.getElem?_map,List.getElem?_range h]
structure FOK (n:Nat) (im:List (List Int)) (row:List Int):Prop where
 len:im.length=n
 at_: ∀k,k<n-> ∃(u:List Int) (v:Nat),v<n/\row[k]? =some (v:Int)/\qgD (im.getD k []) u ((v:Int)+1)
 let_: ∀w∈im,∀y∈w,y≠0/\ -(n:Int)<=y/\y<=n
 prod:Feq im.flatten (iota1 n)
theorem FOK.nz {n:Nat} {im:List (List Int)} {row:List Int} (h:FOK n im row):Nzs im:=fun w hw y hy=>(h.let_ w hw y hy).1
theorem FOK.step {n:Nat} {im:List (List Int)} {row:List Int} (h:FOK n im row) {c:Int} (hc:c≠0/\ -(n:Int)<c/\c<n) {x y:Int}
 (hx:row[c.natAbs-1]? =some x) (hy:row[c.natAbs]? =some y) (hr:row.length=n):FOK n (jM im c) ((row.set (c.natAbs-1) y).set c.natAbs x):=by
 obtain⟨i,hi⟩: ∃i,c.natAbs=i+1:=⟨c.natAbs-1,by omega⟩
 have hin:i+1<n:=by omega
 rw[hi]at hx hy⊢
 rw[Nat.add_sub_cancel]at hx⊢
 obtain⟨p,a,b,q,e,hp⟩:=qlG (im:=im) (i:=i) (by rw[h.len];exact hin)
 have hs:=qie (p:=p) (a:=a) (b:=b) (q:=q) (c:=c) (by omega)
 have h0:=h.at_ i (by omega)
 have h1:=h.at_ (i+1) hin
 have hnz:=h.nz
 subst e hp
 rw[qh6]at h0
 rw[qii]at h1
 have ha:Nz a:=hnz a (by simp)
 have hb:Nz b:=hnz b (by simp)
 obtain⟨u0,v0,l0,r0,c0⟩:=h0
 obtain⟨u1,v1,l1,r1,c1⟩:=h1
 have ex:x=(v0:Int):=by rw[hx]at r0;exact Ye r0
 have ey:y=(v1:Int):=by rw[hy]at r1;exact Ye r1
 subst ex ey
 have la:=h.let_ a (by simp)
 have lb:=h.let_ b (by simp)
 have linv: ∀{w:List Int},(∀y∈w,y≠0/\ -(n:Int)<=y/\y<=n)-> ∀y∈qm w,y≠0/\ -(n:Int)<=y/\y<=n:=fun hw y hy=>by
  simp only[qm,List.mem_reverse,List.mem_map]at hy
  obtain⟨z,hz,rfl⟩:=hy
  have:=hw z hz
  omega
 have lapp: ∀{u w:List Int},(∀y∈u,y≠0/\ -(n:Int)<=y/\y<=n)->(∀y∈w,y≠0/\ -(n:Int)<=y/\y<=n)-> ∀y∈u++w,y≠0/\ -(n:Int)<=y/\y<=n:=fun hu hw y hy=>(List.mem_append.1 hy).elim (hu y) (hw y)
 have key: ∃A B,jM (p++a::b::q) c=p++A::B::q/\(∃u,qgD A u ((v1:Int)+1))/\(∃u,qgD B u ((v0:Int)+1))/\(∀y∈A,y≠0/\ -(n:Int)<=y/\y<=n)/\(∀y∈B,y≠0/\ -(n:Int)<=y/\y<=n)/\Feq (A++B) (a++b):=by
  rw[hs]
  by_cases hpos:0<c
  ·rw[if_pos hpos]
   refine⟨_,_,rfl,qoN c1 ha,⟨u0,c0⟩,fun y hy=>lapp (lapp la lb) (linv la) y (qdF hy),la,?_⟩
   have hN:Nz (a++b++qm a):=(ha.app hb).app ha.inv
   refine Feq.trans (Feq.app (qeX hN) (Feq.red hN) .rfl_) ?_
   have:=Feq.app (ha.app hb) (.rfl_ (u:=a++b)) (qfd ha)
   simpa using this
  rw[if_neg hpos]
  have cb:=qoN c0 hb.inv
  rw[qem]at cb
  refine⟨_,_,rfl,⟨u1,c1⟩,cb,lb,fun y hy=>lapp (lapp (linv lb) la) lb y (qdF hy),?_⟩
  have hN:Nz (qm b++a++b):=(hb.inv.app ha).app hb
  refine Feq.trans (Feq.app hb .rfl_ (Feq.red hN)) ?_
  have:=Feq.app (hb.app hb.inv) (qhr hb) (.rfl_ (u:=a++b))
  simpa using this
 obtain⟨A,B,e1,cA,cB,lA,lB,hAB⟩:=key
 rw[e1]
 have hlen:(p++A::B::q).length=n:=by
  have:=h.len
  simp at this⊢
  omega
 refine⟨hlen,fun k hk=>?_,fun w hw y hy=>?_,?_⟩
 ·by_cases k0:k=p.length
  ·subst k0
   rw[qh6,Yw (by omega),List.getElem?_set_self (by omega)]
   obtain⟨u,hu⟩:=cA
   exact⟨u,v1,l1,rfl,hu⟩
  by_cases k1:k=p.length+1
  ·subst k1
   rw[qii,List.getElem?_set_self (by simp;omega)]
   obtain⟨u,hu⟩:=cB
   exact⟨u,v0,l0,rfl,hu⟩
  rw[Yw (fun e=>k1 e.symm),Yw (fun e=>k0 e.symm)]
  have:=h.at_ k hk
  have e2:(p++A::B::q).getD k []=(p++a::b::q).getD k []:=by
   rw[Yy,Yy]
   rcases Nat.lt_or_ge k p.length with hlt|hge
   ·rw[Yf hlt,Yf hlt]
   obtain⟨j,rfl⟩: ∃j,k=p.length+(j+2):=⟨k-p.length-2,by omega⟩
   rw[Yo (by omega),Yo (by omega),Nat.add_sub_cancel_left]
   rfl
  rw[e2]
  exact this
 ·simp only[List.mem_append,List.mem_cons]at hw
  rcases hw with hw|rfl|rfl|hw
  ·exact h.let_ w (by simp[hw]) y hy
  ·exact lA y hy
  ·exact lB y hy
  exact h.let_ w (by simp[hw]) y hy
 refine Feq.trans ?_ h.prod
 have np:Nz p.flatten:=fun y hy=>by
  obtain⟨w,hw,hyw⟩:=List.mem_flatten.1 hy
  exact hnz w (by simp[hw]) y hyw
 have nA:Nz A:=fun y hy=>(lA y hy).1
 have nB:Nz B:=fun y hy=>(lB y hy).1
 have:=Feq.app np (.rfl_ (u:=p.flatten)) (Feq.app (nA.app nB) hAB (.rfl_ (u:=q.flatten)))
 simpa using this
end Go.Av
end
section
namespace Go.Av
theorem getDo {p:List (List Int)} {a b A B:List Int} {q:List (List Int)} {k:Nat} (h0:k≠p.length) (h1:k≠p.length+1):(p++A::B::q).getD k []=(p++a::b::q).getD k []:=by
 rw[Yy,Yy]
 rcases Nat.lt_or_ge k p.length with hlt|hge
 ·rw[Yf hlt,Yf hlt]
 obtain⟨j,rfl⟩: ∃j,k=p.length+(j+2):=⟨k-p.length-2,by omega⟩
 rw[Yo (by omega),Yo (by omega),Nat.add_sub_cancel_left]
 rfl
theorem qaR {im:List (List Int)} {c:Int} {i:Nat} (hi:c.natAbs=i+1) (hl:i+1<im.length) (k:Nat):
 (jM im c).getD k []=if k=i then(if 0<c then fred (im.getD i []++im.getD (i+1) []++qm (im.getD i []))else im.getD (i+1) [])
  else if k=i+1 then(if 0<c then im.getD i []else fred (qm (im.getD (i+1) [])++im.getD i []++im.getD (i+1) []))else im.getD k []:=by
 obtain⟨p,a,b,q,e,hp⟩:=qlG (im:=im) (i:=i) hl
 subst e hp
 rw[qie (by omega),qh6,qii]
 by_cases k0:k=p.length
 ·rw[if_pos k0,k0]
  split<;>rw[qh6]
 rw[if_neg k0]
 by_cases k1:k=p.length+1
 ·rw[if_pos k1,k1]
  split<;>rw[qii]
 rw[if_neg k1]
 split<;>exact getDo k0 k1
theorem qcu {im:List (List Int)} (h:Nzs im) {c:Int} {i:Nat} (hi:c.natAbs=i+1) (hl:i+1<im.length):Nzs (jM im c):=by
 intro w hw
 obtain⟨k,hk,rfl⟩:=List.getElem_of_mem hw
 have e:(jM im c)[k]=(jM im c).getD k []:=by rw[Yy,Ya hk];rfl
 rw[e,qaR hi hl]
 have ha:=h.getD i
 have hb:=h.getD (i+1)
 split
 ·split
  ·exact qeX ((ha.app hb).app ha.inv)
  exact hb
 split
 ·split
  ·exact ha
  exact qeX ((hb.inv.app ha).app hb)
 exact h.getD k
structure qhe (n:Nat) (x Y Z:List (List Int)):Prop where
 yl:Y.length=n
 zl:Z.length=n
 yn:Nzs Y
 zn:Nzs Z
 eq_: ∀k,k<n->Feq (qau x (Y.getD k [])) (Z.getD k [])
theorem qhe.step {n:Nat} {x Y Z:List (List Int)} (hx:Nzs x) (h:qhe n x Y Z) {c:Int} (hc:c≠0/\ -(n:Int)<c/\c<n):qhe n x (jM Y c) (jM Z c):=by
 obtain⟨i,hi⟩: ∃i,c.natAbs=i+1:=⟨c.natAbs-1,by omega⟩
 have hin:i+1<n:=by omega
 have yl:=h.yl
 have zl:=h.zl
 refine⟨by rw[xq,yl],by rw[xq,zl],qcu h.yn hi (by omega),qcu h.zn hi (by omega),fun k hk=>?_⟩
 rw[qaR hi (by omega),qaR hi (by omega)]
 have ya:=h.yn.getD i
 have yb:=h.yn.getD (i+1)
 have za:=h.zn.getD i
 have zb:=h.zn.getD (i+1)
 have ea:=h.eq_ i (by omega)
 have eb:=h.eq_ (i+1) hin
 have inv: ∀{y z:List Int},Nz y->Nz z->Feq (qau x y) z->Feq (qau x (qm y)) (qm z):=fun {y z} hy hz e=>by
  rw[qlF x hy]
  have hs:=qaM hx y
  have t1:Feq (qm (qau x y)) (qm (qau x y)++(z++qm z)):=by
   have:=(Feq.app hs.inv .rfl_ (qhr hz)).symm
   simpa using this
  have t2:Feq (qm (qau x y)++(z++qm z)) (qm (qau x y)++(qau x y++qm z)):=Feq.app hs.inv .rfl_ (Feq.app hz e.symm .rfl_)
  have t3:Feq (qm (qau x y)++(qau x y++qm z)) (qm z):=by
   have:=Feq.app (hs.inv.app hs) (qfd hs) (.rfl_ (u:=qm z))
   simpa using this
  exact(t1.trans t2).trans t3
 by_cases k0:k=i
 ·rw[if_pos k0,if_pos k0]
  by_cases hp:0<c
  ·rw[if_pos hp,if_pos hp]
   have hN:=(ya.app yb).app ya.inv
   have hM:=(za.app zb).app za.inv
   refine(qgL hx hN).trans (Feq.trans ?_ (Feq.red hM).symm)
   rw[qas,qas]
   exact Feq.app ((qaM hx _).app (qaM hx _)) (Feq.app (qaM hx _) ea eb) (inv ya za ea)
  rw[if_neg hp,if_neg hp]
  exact eb
 rw[if_neg k0,if_neg k0]
 by_cases k1:k=i+1
 ·rw[if_pos k1,if_pos k1]
  by_cases hp:0<c
  ·rw[if_pos hp,if_pos hp]
   exact ea
  rw[if_neg hp,if_neg hp]
  have hN:=(yb.inv.app ya).app yb
  have hM:=(zb.inv.app za).app zb
  refine(qgL hx hN).trans (Feq.trans ?_ (Feq.red hM).symm)
  rw[qas,qas]
  exact Feq.app ((qaM hx _).app (qaM hx _)) (Feq.app (qaM hx _) (inv yb zb eb) ea) eb
 rw[if_neg k1,if_neg k1]
 exact h.eq_ k hk
def zI (n:Nat) (w:List Int):List (List Int):=w.foldl jM (fid n)
theorem qcU (n:Nat) (a b:List Int):zI n (a++b)=b.foldl jM (zI n a):=by simp[zI]
theorem qfD (n:Nat):Nzs (fid n):=fun w hw y hy=>by
 simp only[fid,List.mem_map,List.mem_range]at hw
 obtain⟨k,hk,rfl⟩:=hw
 simp at hy
 omega
def qK (n:Nat) (w:List Int):Prop:= ∀c∈w,c≠0/\ -(n:Int)<c/\c<n
theorem qhe.fold {n:Nat} {x:List (List Int)} (hx:Nzs x): ∀{w:List Int} {Y Z:List (List Int)},qK n w->qhe n x Y Z->qhe n x (w.foldl jM Y) (w.foldl jM Z)
 |[],Y,Z,hw,h=>h
 |c::w,Y,Z,hw,h=>by
  rw[List.foldl_cons,List.foldl_cons]
  exact qhe.fold hx (w:=w) (fun d hd=>hw d (List.mem_cons_of_mem _ hd)) (h.step hx (hw c (List.mem_cons_self ..)))
theorem qcL (n:Nat): ∀(w:List Int) (im:List (List Int)),(w.foldl jM im).length=im.length
 |[],im=>rfl
 |c::w,im=>by rw[List.foldl_cons,qcL n w,xq]
theorem qjZ {n:Nat}: ∀{w:List Int} {im:List (List Int)},qK n w->im.length=n->Nzs im->Nzs (w.foldl jM im)
 |[],im,hw,hl,h=>h
 |c::w,im,hw,hl,h=>by
  have hc:=hw c (List.mem_cons_self ..)
  obtain⟨i,hi⟩: ∃i,c.natAbs=i+1:=⟨c.natAbs-1,by omega⟩
  rw[List.foldl_cons]
  exact qjZ (w:=w) (fun d hd=>hw d (List.mem_cons_of_mem _ hd)) (by rw[xq,hl]) (qcu h hi (by omega))
theorem qgS {n:Nat} {a b:List Int} (ha:qK n a) (hb:qK n b):qhe n (zI n a) (zI n b) (zI n (a++b)):=by
 rw[qcU]
 have hn:=qjZ ha (yX n) (qfD n)
 have hl:(zI n a).length=n:=by unfold zI;rw[qcL n,yX]
 refine qhe.fold hn hb ⟨yX n,hl,qfD n,hn,fun k hk=>?_⟩
 rw[qn8 hk,qdU]
 unfold qg8
 rw[if_pos (by omega),show(((k:Int)+1)-1).toNat=k by omega]
 exact .rfl_
theorem qi8 {im:List (List Int)} {M:Nat} (h: ∀w∈im,w.length<=M) {c:Int} {i:Nat} (hi:c.natAbs=i+1) (hl:i+1<im.length): ∀w∈jM im c,w.length<=3*M:=by
 have g: ∀k,(im.getD k []).length<=M:=fun k=>by
  rw[Yy]
  cases e:im[k]? with
  |none=>simp
  |some w=>exact h w (Yn e)
 intro w hw
 obtain⟨k,hk,rfl⟩:=List.getElem_of_mem hw
 have e:(jM im c)[k]=(jM im c).getD k []:=by rw[Yy,Ya hk];rfl
 rw[e,qaR hi hl]
 have g0:=g i
 have g1:=g (i+1)
 have gk:=g k
 split
 ·split
  ·refine Nat.le_trans (qif _) ?_
   rw[Yq,Yq,qbx]
   omega
  omega
 split
 ·split
  ·omega
  refine Nat.le_trans (qif _) ?_
  rw[Yq,Yq,qbx]
  omega
 omega
theorem qd6 {n:Nat}: ∀{w:List Int} {im:List (List Int)} {M:Nat},qK n w->im.length=n->(∀v∈im,v.length<=M)-> ∀v∈w.foldl jM im,v.length<=3^w.length*M
 |[],im,M,hw,hl,h=>by simpa using h
 |c::w,im,M,hw,hl,h=>by
  have hc:=hw c (List.mem_cons_self ..)
  obtain⟨i,hi⟩: ∃i,c.natAbs=i+1:=⟨c.natAbs-1,by omega⟩
  have:=qd6 (w:=w) (fun d hd=>hw d (List.mem_cons_of_mem _ hd)) (by rw[xq,hl]) (qi8 h hi (by omega))
  intro v hv
  have:=this v hv
  rw[Yr,Nat.pow_succ,Nat.mul_assoc]
  exact this
end Go.Av
end
section
namespace Go.Av
inductive QT (α:Type) where
 |e
 |lf (k:Nat) (s:α)
 |nd (l r:QT α)
section
variable {α:Type}
def QT.Mem:QT α->Nat->α->Prop
 | .e,_,_=>False
 | .lf k' s',k,s=>k=k'/\s=s'
 | .nd l r,k,s=>if k%2=1 then r.Mem (k/2) s else l.Mem (k/2) s
theorem QT.Mem.uniq: ∀{t:QT α} {k:Nat} {s s':α},t.Mem k s->t.Mem k s'->s=s'
 | .e,k,s,s',h,_=>h.elim
 | .lf k' x,k,s,s',h,h'=>h.2.trans h'.2.symm
 | .nd l r,k,s,s',h,h'=>by
   unfold QT.Mem at h h'
   split at h
   ·rename_i c;rw[if_pos c]at h';exact h.uniq h'
   rename_i c;rw[if_neg c]at h';exact h.uniq h'
def qe5 (eqv:α->α->Bool):Nat->Nat->α->QT α->Option (QT α×Bool)
 |0,_,_,_=>none
 |K+1,k,s,.e=>some (.lf k s,true)
 |K+1,k,s,.lf k' s'=>
  bif Nat.beq k k' then bif eqv s s' then some (.lf k' s',false)else none
  else qe5 eqv K k s (bif Nat.beq (k'%2) 1 then .nd .e (.lf (k'/2) s')else .nd (.lf (k'/2) s') .e)
 |K+1,k,s,.nd l r=>
  bif Nat.beq (k%2) 1 then(match qe5 eqv K (k/2) s r with|none=>none|some (t,b)=>some (.nd l t,b))
  else(match qe5 eqv K (k/2) s l with|none=>none|some (t,b)=>some (.nd t r,b))
theorem qi5 {a b:Nat}:Nat.beq a b=true↔a=b:=⟨Nat.eq_of_beq_eq_true,fun h=>by subst h;exact Nat.beq_refl a⟩
theorem qm5 {a b:Nat} (h:Nat.beq a b=false):a≠b:=fun e=>by rw[qi5.2 e]at h;cases h
theorem qeT {eqv:α->α->Bool} (he: ∀a b,eqv a b=true->a=b): ∀(K:Nat) (k:Nat) (s:α) (t t':QT α) (b:Bool),qe5 eqv K k s t=some (t',b)->
 t'.Mem k s/\(∀k1 s1,t.Mem k1 s1->t'.Mem k1 s1)/\(b=false->t.Mem k s)/\ ∀k1 s1,t'.Mem k1 s1->t.Mem k1 s1\/(k1=k/\s1=s)
 |0,k,s,t,t',b,h=>by cases h
 |K+1,k,s,.e,t',b,h=>by
  simp only[qe5,ZI,ZP]at h
  obtain⟨rfl,rfl⟩:=h
  exact⟨⟨rfl,rfl⟩,fun _ _ h=>h.elim,fun h=>(by cases h),fun _ _ h=> .inr h⟩
 |K+1,k,s,.lf k' s',t',b,h=>by
  unfold qe5 at h
  cases c:Nat.beq k k' with
  |true=>
   rw[c,cond_true]at h
   have:=qi5.1 c
   subst this
   cases d:eqv s s' with
   |false=>rw[d,cond_false]at h;cases h
   |true=>
    rw[d,cond_true]at h
    simp only[ZI,ZP]at h
    obtain⟨rfl,rfl⟩:=h
    have:=he _ _ d
    subst this
    exact⟨⟨rfl,rfl⟩,fun _ _ h=>h,fun _=>⟨rfl,rfl⟩,fun _ _ h=> .inl h⟩
  |false=>
   rw[c,cond_false]at h
   obtain⟨h1,h2,h3,h4⟩:=qeT he K k s _ t' b h
   have key: ∀k1 s1,(QT.lf k' s').Mem k1 s1->(bif Nat.beq (k'%2) 1 then QT.nd .e (.lf (k'/2) s')else .nd (.lf (k'/2) s') .e:QT α).Mem k1 s1:=by
    rintro k1 s1 ⟨rfl,rfl⟩
    cases d:Nat.beq (k1%2) 1 with
    |true=>rw[cond_true];unfold QT.Mem;rw[if_pos (qi5.1 d)];exact⟨rfl,rfl⟩
    |false=>rw[cond_false];unfold QT.Mem;rw[if_neg (qm5 d)];exact⟨rfl,rfl⟩
   have back: ∀k1 s1,(bif Nat.beq (k'%2) 1 then QT.nd .e (.lf (k'/2) s')else .nd (.lf (k'/2) s') .e:QT α).Mem k1 s1->(QT.lf k' s').Mem k1 s1:=by
    intro k1 s1 m
    cases d:Nat.beq (k'%2) 1 with
    |true=>
     rw[d,cond_true]at m
     unfold QT.Mem at m
     split at m
     ·rename_i e
      obtain⟨m1,m2⟩:=m
      have:=qi5.1 d
      exact⟨by omega,m2⟩
     exact m.elim
    |false=>
     rw[d,cond_false]at m
     unfold QT.Mem at m
     split at m
     ·exact m.elim
     rename_i e
     obtain⟨m1,m2⟩:=m
     have:=qm5 d
     exact⟨by omega,m2⟩
   exact⟨h1,fun k1 s1 h=>h2 k1 s1 (key k1 s1 h),fun hb=>back _ _ (h3 hb),fun k1 s1 m=>(h4 k1 s1 m).imp (back k1 s1) id⟩
 |K+1,k,s,.nd l r,t',b,h=>by
  unfold qe5 at h
  cases c:Nat.beq (k%2) 1 with
  |true=>
   rw[c,cond_true]at h
   cases d:qe5 eqv K (k/2) s r with
   |none=>rw[d]at h;cases h
   |some q=>
    obtain⟨t1,b1⟩:=q
    rw[d]at h
    simp only[ZI,ZP]at h
    obtain⟨rfl,rfl⟩:=h
    obtain⟨h1,h2,h3,h4⟩:=qeT he K _ s r t1 b1 d
    have e:=qi5.1 c
    refine⟨by unfold QT.Mem;rw[if_pos e];exact h1,fun k1 s1 m=>?_,fun hb=>by unfold QT.Mem;rw[if_pos e];exact h3 hb,fun k1 s1 m=>?_⟩
    ·unfold QT.Mem at m⊢
     split
     ·rename_i g;rw[if_pos g]at m;exact h2 _ _ m
     rename_i g;rw[if_neg g]at m;exact m
    unfold QT.Mem at m⊢
    split
    ·rename_i g
     rw[if_pos g]at m
     rcases h4 _ _ m with m|⟨m1,m2⟩
     ·exact .inl m
     exact .inr ⟨by omega,m2⟩
    rename_i g;rw[if_neg g]at m;exact .inl m
  |false=>
   rw[c,cond_false]at h
   cases d:qe5 eqv K (k/2) s l with
   |none=>rw[d]at h;cases h
   |some q=>
    obtain⟨t1,b1⟩:=q
    rw[d]at h
    simp only[ZI,ZP]at h
    obtain⟨rfl,rfl⟩:=h
    obtain⟨h1,h2,h3,h4⟩:=qeT he K _ s l t1 b1 d
    have e:=qm5 c
    refine⟨by unfold QT.Mem;rw[if_neg e];exact h1,fun k1 s1 m=>?_,fun hb=>by unfold QT.Mem;rw[if_neg e];exact h3 hb,fun k1 s1 m=>?_⟩
    ·unfold QT.Mem at m⊢
     split
     ·rename_i g;rw[if_pos g]at m;exact m
     rename_i g;rw[if_neg g]at m;exact h2 _ _ m
    unfold QT.Mem at m⊢
    split
    ·rename_i g;rw[if_pos g]at m;exact .inl m
    rename_i g
    rw[if_neg g]at m
    rcases h4 _ _ m with m|⟨m1,m2⟩
    ·exact .inl m
    exact .inr ⟨by omega,m2⟩
def qlN (eqv:α->α->Bool) (key:α->Nat):List α->QT α->List α->Option (QT α×List α)
 |[],t,out=>some (t,out)
 |s::l,t,out=>match qe5 eqv 2000 (key s) s t with
  |none=>none
  |some (t',b)=>qlN eqv key l t' (bif b then s::out else out)
end
end Go.Av
end
section
namespace Go.Av
def eqI:Int->Int->Bool
 | .ofNat a,.ofNat b=>Nat.beq a b
 | .negSucc a,.negSucc b=>Nat.beq a b
 |_,_=>false
def eqL {α:Type} (f:α->α->Bool):List α->List α->Bool
 |[],[]=>true
 |a::l,b::k=>bif f a b then eqL f l k else false
 |_,_=>false
theorem qhf: ∀(a b:Int),eqI a b=true->a=b
 | .ofNat a,.ofNat b,h=>by rw[qi5.1 h]
 | .negSucc a,.negSucc b,h=>by rw[qi5.1 h]
 | .ofNat a,.negSucc b,h=>by cases h
 | .negSucc a,.ofNat b,h=>by cases h
theorem qf1 {α:Type} {f:α->α->Bool} (hf: ∀a b,f a b=true->a=b): ∀(l k:List α),eqL f l k=true->l=k
 |[],[],h=>rfl
 |a::l,b::k,h=>by
  unfold eqL at h
  cases c:f a b with
  |false=>rw[c,cond_false]at h;cases h
  |true=>rw[c,cond_true]at h;rw[hf _ _ c,qf1 hf l k h]
 |[],b::k,h=>by cases h
 |a::l,[],h=>by cases h
def qkH (s:List Int) (x:Int):List Int:=match s with
 |[]=>[x]
 |y::t=>bif eqI y (-x)then t else x::y::t
def qgl:List Int->List Int->List Int
 |s,[]=>s
 |s,x::w=>qgl (qkH s x) w
def qmH {α:Type}:List α->List α->List α
 |[],r=>r
 |a::l,r=>qmH l (a::r)
def qnv:List Int->List Int->List Int
 |[],r=>r
 |a::l,r=>qnv l (-a::r)
def qnI (a b:List Int):List Int:=qmH (qgl (qgl (qgl [] a) b) (qnv a [])) []
def qmO (a b:List Int):List Int:=qmH (qgl (qgl (qgl [] (qnv b [])) a) b) []
def qeA:Nat->Bool->List (List Int)->List (List Int)
 |0,true,a::b::l=>qnI a b::a::l
 |0,false,a::b::l=>b::qmO a b::l
 |i+1,p,a::l=>a::qeA i p l
 |_,_,l=>l
end Go.Av
end
section
namespace Go.Av
theorem qj5 (a b:Int):eqI a b=true↔a=b:=⟨qhf a b,fun h=>by subst h;cases a<;>exact Nat.beq_refl _⟩
theorem qmP (s:List Int) (x:Int):qkH s x=xB s x:=by
 cases s with
 |nil=>rfl
 |cons y t=>
  unfold qkH
  dsimp only
  by_cases h:y= -x
  ·rw[(qj5 _ _).2 h,cond_true,xY t h]
  have:eqI y (-x)=false:=by
   cases c:eqI y (-x)with
   |false=>rfl
   |true=>exact absurd ((qj5 _ _).1 c) h
  rw[this,cond_false,xU t h]
theorem qb9: ∀(w s:List Int),qgl s w=fact s w
 |[],s=>by cases s<;>rfl
 |x::w,s=>by
  have:qgl s (x::w)=qgl (qkH s x) w:=by cases s<;>rfl
  rw[this,qb9 w,qmP,qec]
theorem qgT {α:Type}: ∀(l r:List α),qmH l r=l.reverse++r
 |[],r=>rfl
 |a::l,r=>by rw[qmH,qgT l];simp
theorem qgU: ∀(l r:List Int),qnv l r=qm l++r
 |[],r=>rfl
 |a::l,r=>by rw[qnv,qgU l,yK];simp
theorem qlE (a b:List Int):qnI a b=fred (a++b++qm a):=by
 unfold qnI fred
 rw[qb9,qb9,qb9,qgU,qgT,YQ,YQ,yw,yw]
theorem qnB (a b:List Int):qmO a b=fred (qm b++a++b):=by
 unfold qmO fred
 rw[qb9,qb9,qb9,qgU,qgT,YQ,YQ,yw,yw]
theorem qim: ∀(i:Nat) (p:Bool) (im:List (List Int)),i+1<im.length->qeA i p im=bif p then(im.set i (fred (im.getD i []++im.getD (i+1) []++qm (im.getD i [])))).set (i+1) (im.getD i [])else(im.set i (im.getD (i+1) [])).set (i+1) (fred (qm (im.getD (i+1) [])++im.getD i []++im.getD (i+1) []))
 |0,true,a::b::l,h=>by simp[qeA,qlE]
 |0,false,a::b::l,h=>by simp[qeA,qnB]
 |i+1,p,a::l,h=>by
  rw[qeA,qim i p l (by simp at h;omega)]
  cases p<;>simp
 |0,p,[],h=>by simp at h
 |0,p,[a],h=>by simp at h
 |i+1,p,[],h=>by simp at h
theorem qiu {i:Nat} {c:Int} (hc:c.natAbs=i+1) {im:List (List Int)} (h:i+1<im.length):qeA i (decide (0<c)) im=jM im c:=by
 rw[qim i _ im h]
 unfold jM
 dsimp only
 rw[hc,Nat.add_sub_cancel]
 by_cases p:0<c
 ·rw[decide_eq_true p,if_pos p];rfl
 rw[decide_eq_false p,if_neg p];rfl
end Go.Av
end
section
namespace Go.Av
def qiW (p:List Nat):Nat->Nat->Option Nat
 |0,_=>none
 |k+1,i=>bif qbJ i p then some i else qiW p k (i+1)
def wdq (n:Nat):Nat->List Nat->List Int
 |0,_=>[]
 |K+1,p=>match qiW p (n-1) 0 with
  |none=>[]
  |some i=>((i+1:Nat):Int)::wdq n K (qfr i p)
theorem qgv {p:List Nat}: ∀{k i:Nat},qiW p k i=none-> ∀j,i<=j->j<i+k->qbJ j p=false
 |0,i,h,j,h1,h2=>by omega
 |k+1,i,h,j,h1,h2=>by
  unfold qiW at h
  cases c:qbJ i p with
  |true=>rw[c]at h;cases h
  |false=>
   rw[c,cond_false]at h
   by_cases e:j=i
   ·subst e;exact c
   exact qgv h j (by omega) (by omega)
theorem qgt {p:List Nat}: ∀{k i j:Nat},qiW p k i=some j->i<=j/\j<i+k/\qbJ j p=true/\ ∀q,i<=q->q<j->qbJ q p=false
 |0,i,j,h=>by cases h
 |k+1,i,j,h=>by
  unfold qiW at h
  cases c:qbJ i p with
  |true=>
   rw[c,cond_true]at h
   have:=Ye h
   subst this
   exact⟨Nat.le_refl _,by omega,c,fun q h1 h2=>by omega⟩
  |false=>
   rw[c,cond_false]at h
   obtain⟨h1,h2,h3,h4⟩:=qgt h
   refine⟨by omega,by omega,h3,fun q q1 q2=>?_⟩
   by_cases e:q=i
   ·subst e;exact c
   exact h4 q (by omega) q2
theorem qlL {n:Nat}: ∀(K:Nat) (s:SB),s.inv n<=K->WdB n s (wdq n K (s.row n))
 |0,s,h=>by
  refine .nil fun q hq hb=>?_
  have:=SB.inv_fr hq hb
  omega
 |K+1,s,h=>by
  unfold wdq
  cases c:qiW (s.row n) (n-1) 0 with
  |none=>
   refine .nil fun q hq hb=>?_
   have:=qgv c q (Nat.zero_le _) (by omega)
   rw[(qbK hq s).2 hb]at this
   cases this
  |some i=>
   obtain⟨h1,h2,h3,h4⟩:=qgt c
   have hi:i+1<n:=by omega
   have hb:=(qbK hi s).1 h3
   dsimp only
   refine .cons hi hb (fun q hq hb2=>?_) ?_
   ·have:=h4 q (Nat.zero_le _) hq
    rw[(qbK (by omega) s).2 hb2]at this
    cases this
   have:=SB.inv_fr hi hb
   rw[<-qjd hi]
   exact qlL K (s.fr i) (by omega)
def QTb.wd (T:QTb) (c:Nat):List Int:=wdq T.n (T.n*T.n) (T.dec c)
def kimg (n:Nat) (w:List Int):List (List Int):=w.foldl (fun im c=>qeA (c.natAbs-1) (decide (0<c)) im) (fid n)
theorem qgN {n:Nat}: ∀(w:List Int) (im:List (List Int)),qK n w->im.length=n->w.foldl (fun im c=>qeA (c.natAbs-1) (decide (0<c)) im) im=w.foldl jM im
 |[],im,h,hl=>rfl
 |c::w,im,h,hl=>by
  have hc:=h c (List.mem_cons_self ..)
  rw[List.foldl_cons,List.foldl_cons,qiu (i:=c.natAbs-1) (c:=c) (by omega) (by omega)]
  exact qgN w _ (fun d hd=>h d (List.mem_cons_of_mem _ hd)) (by rw[xq,hl])
theorem qj6 {n:Nat} {w:List Int} (h:qK n w):kimg n w=zI n w:=qgN w _ h (yX n)
def imE (n:Nat) (u v:List Int):Bool:=eqL (eqL eqI) (kimg n u) (kimg n v)
def BE (n:Nat) (u v:List Int):Prop:=zI n u=zI n v
theorem qdj {n:Nat} {u v:List Int} (hu:qK n u) (hv:qK n v) (h:imE n u v=true):BE n u v:=by
 unfold BE
 rw[<-qj6 hu,<-qj6 hv]
 exact qf1 (qf1 qhf) _ _ h
theorem qK.app {n:Nat} {u v:List Int} (h:qK n u) (k:qK n v):qK n (u++v):=fun c hc=>(List.mem_append.1 hc).elim (h c) (k c)
theorem qK.inv {n:Nat} {u:List Int} (h:qK n u):qK n (qm u):=fun y hy=>by
 simp only[qm,List.mem_reverse,List.mem_map]at hy
 obtain⟨z,hz,rfl⟩:=hy
 have:=h z hz
 omega
theorem BE.right {n:Nat} {u u':List Int} (h:BE n u u') (y:List Int):BE n (u++y) (u'++y):=by
 unfold BE at*
 rw[qcU,qcU,h]
theorem qnx {im:List (List Int)} (hz:Nzs im) (h: ∀k,FR (im.getD k [])) {c:Int} {i:Nat} (hi:c.natAbs=i+1) (hl:i+1<im.length): ∀k,FR ((jM im c).getD k []):=fun k=>by
 rw[qaR hi hl]
 have ha:=hz.getD i
 have hb:=hz.getD (i+1)
 split
 ·split
  ·exact qj7 ((ha.app hb).app ha.inv)
  exact h _
 split
 ·split
  ·exact h _
  exact qj7 ((hb.inv.app ha).app hb)
 exact h k
theorem qgZ {n:Nat}: ∀{w:List Int} {im:List (List Int)},qK n w->im.length=n->Nzs im->(∀k,FR (im.getD k []))-> ∀k,FR ((w.foldl jM im).getD k [])
 |[],im,hw,hl,hz,h=>h
 |c::w,im,hw,hl,hz,h=>by
  have hc:=hw c (List.mem_cons_self ..)
  obtain⟨i,hi⟩: ∃i,c.natAbs=i+1:=⟨c.natAbs-1,by omega⟩
  rw[List.foldl_cons]
  exact qgZ (w:=w) (fun d hd=>hw d (List.mem_cons_of_mem _ hd)) (by rw[xq,hl]) (qcu hz hi (by omega)) (qnx hz h hi (by omega))
theorem qlI (n:Nat): ∀k,FR ((fid n).getD k []):=fun k=>by
 rw[Yy]
 unfold fid
 rw[YA]
 cases e:(List.range n)[k]? with
 |none=>exact trivial
 |some j=>
  refine FR.of ?_
  show yO [((j:Nat):Int)+1]
  simp[yO]
  omega
theorem Us {n:Nat} {v v':List Int} (x:List Int) (hx:qK n x) (hv:qK n v) (hv':qK n v') (h:BE n v v'):BE n (x++v) (x++v'):=by
 unfold BE at*
 have r1:=qgS hx hv
 have r2:=qgS hx hv'
 rw[<-h]at r2
 have f1:=qgZ (hx.app hv) (yX n) (qfD n) (qlI n)
 have f2:=qgZ (hx.app hv') (yX n) (qfD n) (qlI n)
 apply List.ext_getElem?
 intro k
 by_cases hk:k<n
 ·have e1:=r1.eq_ k hk
  have e2:=r2.eq_ k hk
  have e3:Feq ((zI n (x++v)).getD k []) ((zI n (x++v')).getD k []):=e1.symm.trans e2
  have e4:=e3.fred
  have g1:fred ((zI n (x++v)).getD k [])=(zI n (x++v)).getD k []:=(f1 k).fix
  have g2:fred ((zI n (x++v')).getD k [])=(zI n (x++v')).getD k []:=(f2 k).fix
  rw[g1,g2,Yy,Yy,Ya (by rw[r1.zl];exact hk),Ya (by rw[r2.zl];exact hk)]at e4
  rw[Ya (by rw[r1.zl];exact hk),Ya (by rw[r2.zl];exact hk)]
  exact congrArg some e4
 rw[Yg (by rw[r1.zl];omega),Yg (by rw[r2.zl];omega)]
theorem BE.symm {n:Nat} {u v:List Int} (h:BE n u v):BE n v u:=Eq.symm h
theorem BE.trans {n:Nat} {u v w:List Int} (h:BE n u v) (k:BE n v w):BE n u w:=Eq.trans h k
theorem BE.rfl_ {n:Nat} {u:List Int}:BE n u u:=rfl
def QTb.dn (T:QTb):List Int:=qm (T.wd T.half)
def letE (n:Nat):List Int->Bool
 |[]=>true
 |c::w=>bif decide (0<c)then bif decide (c<n)then letE n w else false else false
theorem qkr {n:Nat}: ∀{w:List Int},letE n w=true-> ∀c∈w,0<c/\c<n
 |[],h,c,hc=>by cases hc
 |d::w,h,c,hc=>by
  obtain⟨h1,h⟩:=ql h
  obtain⟨h2,h3⟩:=ql h
  rcases List.mem_cons.1 hc with rfl|hc
  ·exact⟨of_decide_eq_true h1,of_decide_eq_true h2⟩
  exact qkr h3 c hc
def QTb.cw2 (T:QTb) (s x:Nat):Bool:=bif Nat.beq (T.a s x) s then bif Nat.beq (T.b s x) x then true else imE T.n (T.wd s++T.wd x) (T.wd (T.a s x)++T.wd (T.b s x))else imE T.n (T.wd s++T.wd x) (T.wd (T.a s x)++T.wd (T.b s x))
def QTb.cw1 (T:QTb) (c:Nat):Bool:=bif letE T.n (T.wd c)then bif Nat.ble (T.wd c).length 6 then imE T.n (T.dn++T.wd (T.fl c)) (T.wd c++T.dn)else false else false
def QTb.cwl (T:QTb) (i:Nat):Bool:=bif eqL eqI (T.wd (T.pos.getD i 0)) [((i+1:Nat):Int)]then imE T.n (T.dn++T.wd (T.neg.getD i 0)) [-((i+1:Nat):Int)]else false
def QTb.cw0 (T:QTb):Bool:=bif eqL eqI (T.wd T.idc) []then bif imE T.n (T.wd T.half++T.dn) []then imE T.n (T.dn++T.wd T.half) []else false else false
def QTb.cw (T:QTb):Bool:=bif T.cw0 then bif qal (T.n-1) T.cwl then bif qal T.cnt T.cw1 then qal T.cnt (fun s=>qal T.cnt (T.cw2 s))else false else false else false
structure QTb.Wd (T:QTb):Prop where
 let_: ∀c,c<T.cnt->qK T.n (T.wd c)
 len: ∀c,c<T.cnt->(T.wd c).length<=6
 pr: ∀s x,s<T.cnt->x<T.cnt->BE T.n (T.wd s++T.wd x) (T.wd (T.a s x)++T.wd (T.b s x))
 fl: ∀c,c<T.cnt->BE T.n (T.dn++T.wd (T.fl c)) (T.wd c++T.dn)
 po: ∀i,i+1<T.n->T.wd (T.pos.getD i 0)=[((i+1:Nat):Int)]
 ne: ∀i,i+1<T.n->BE T.n (T.dn++T.wd (T.neg.getD i 0)) [-((i+1:Nat):Int)]
 id:T.wd T.idc=[]
 hd:BE T.n (T.wd T.half++T.dn) []
 dh:BE T.n (T.dn++T.wd T.half) []
theorem qK.nil (n:Nat):qK n []:=fun c h=>by cases h
theorem QTb.wd_ok {T:QTb} (hT:T.Ok) (h:T.cw=true):T.Wd:=by
 obtain⟨h0,h⟩:=ql h
 obtain⟨h1,h⟩:=ql h
 obtain⟨h2,h3⟩:=ql h
 obtain⟨z1,z⟩:=ql h0
 obtain⟨z2,z3⟩:=ql z
 have hl: ∀c,c<T.cnt->qK T.n (T.wd c):=fun c hc x hx=>by
  obtain⟨y1,y⟩:=ql (xD h2 c hc)
  have:=qkr y1 x hx
  omega
 have hd:qK T.n T.dn:=(hl _ hT.ha_).inv
 refine⟨hl,fun c hc=>?_,fun s x hs hx=>?_,fun c hc=>?_,fun i hi=>?_,fun i hi=>?_,?_,?_,?_⟩
 ·obtain⟨y1,y⟩:=ql (xD h2 c hc)
  exact Ys (ql y).1
 ·have:=xD (xD h3 s hs) x hx
  have e:=qdj ((hl s hs).app (hl x hx)) ((hl _ (hT.a_ s x hs hx)).app (hl _ (hT.b_ s x hs hx)))
  unfold QTb.cw2 at this
  cases c:Nat.beq (T.a s x) s with
  |false=>rw[c,cond_false]at this;exact e this
  |true=>
   rw[c,cond_true]at this
   cases d:Nat.beq (T.b s x) x with
   |false=>rw[d,cond_false]at this;exact e this
   |true=>rw[yF c,yF d];exact BE.rfl_
 ·obtain⟨y1,y⟩:=ql (xD h2 c hc)
  exact qdj (hd.app (hl _ (hT.fl_ c hc))) ((hl c hc).app hd) (ql y).2
 ·obtain⟨y1,y2⟩:=ql (xD h1 i (by omega))
  exact qf1 qhf _ _ y1
 ·obtain⟨y1,y2⟩:=ql (xD h1 i (by omega))
  refine qdj (hd.app (hl _ (hT.ne i hi).2)) (fun c hc=>?_) y2
  rw[List.mem_singleton.1 hc]
  omega
 ·exact qf1 qhf _ _ z1
 ·exact qdj ((hl _ hT.ha_).app hd) (qK.nil _) z2
 exact qdj (hd.app (hl _ hT.ha_)) (qK.nil _) z3
def wsN (T:QTb):List Nat->List Int
 |[]=>[]
 |x::r=>wsN T r++T.wd x
theorem xK {T:QTb} (hW:T.Wd): ∀{R:List Nat},Cod T R->qK T.n (wsN T R)
 |[],h=>qK.nil _
 |x::r,h=>(xK hW h.tl).app (hW.let_ x h.hd)
theorem qhv (T:QTb) (S:List Nat): ∀R:List Nat,wsN T (R++S)=wsN T S++wsN T R
 |[]=>by simp[wsN]
 |x::r=>by rw[List.cons_append,wsN,wsN,qhv T S r,Yz]
theorem qfv {T:QTb} (hT:T.Ok) (hW:T.Wd): ∀{R:List Nat} {x:Nat},x<T.cnt->Cod T R->BE T.n (wsN T (qpN T x R)) (wsN T R++T.wd x)
 |[],x,hx,h=>by rw[qoc];exact BE.rfl_
 |s::r,x,hx,h=>by
  rw[qa9,wsN,wsN,Yz]
  have ha:=hT.a_ s x h.hd hx
  have hb:=hT.b_ s x h.hd hx
  have h1:=(qfv hT hW ha h.tl).right (T.wd (T.b s x))
  rw[Yz]at h1
  exact h1.trans (Us _ (xK hW h.tl) ((hW.let_ _ ha).app (hW.let_ _ hb)) ((hW.let_ s h.hd).app (hW.let_ x hx)) (hW.pr s x h.hd hx).symm)
theorem qff {T:QTb} (hT:T.Ok) (hW:T.Wd):qK T.n T.dn:=(hW.let_ _ hT.ha_).inv
theorem qhT {T:QTb} (hT:T.Ok) (hW:T.Wd): ∀{R:List Nat},Cod T R->BE T.n (T.dn++wsN T (R.map T.fl)) (wsN T R++T.dn)
 |[],h=>by simp[wsN];exact BE.rfl_
 |s::r,h=>by
  rw[List.map_cons,wsN,wsN,<-Yz]
  have h1:=(qhT hT hW h.tl).right (T.wd (T.fl s))
  rw[Yz (wsN T r) T.dn]at h1
  rw[Yz (wsN T r) (T.wd s) T.dn]
  exact h1.trans (Us _ (xK hW h.tl) ((qff hT hW).app (hW.let_ _ (hT.fl_ s h.hd))) ((hW.let_ s h.hd).app (qff hT hW)) (hW.fl s h.hd))
def rpw (w:List Int):Nat->List Int
 |0=>[]
 |k+1=>rpw w k++w
theorem xS {n:Nat} {w:List Int} (h:qK n w): ∀k,qK n (rpw w k)
 |0=>qK.nil _
 |k+1=>(xS h k).app h
theorem qbQ (w:List Int): ∀k,(rpw w k).length=w.length*k
 |0=>rfl
 |k+1=>by rw[rpw,Yq,qbQ w k,Nat.mul_succ]
theorem qeI (w:List Int) (a:Nat): ∀b,rpw w (a+b)=rpw w a++rpw w b
 |0=>by simp[rpw]
 |b+1=>by rw[Nat.add_succ,rpw,rpw,qeI w a b,Yz]
theorem qgV (T:QTb) (x:Nat): ∀k,wsN T (List.replicate k x)=rpw (T.wd x) k
 |0=>rfl
 |k+1=>by rw[List.replicate_succ,wsN,qgV T x k,rpw]
theorem qjL: ∀k,rpw [] k=[]
 |0=>rfl
 |k+1=>by rw[rpw,qjL k];rfl
theorem qk6 {T:QTb} (hT:T.Ok) (hW:T.Wd) {k:Nat} {R:List Nat} (h:Cod T R) {w:List Int} (hw:qK T.n w) (e:BE T.n w (rpw T.dn k++wsN T R)) {c:Int} (hc:c≠0/\ -(T.n:Int)<c/\c<T.n):
 BE T.n (w++[c]) (rpw T.dn (ngN k c)++wsN T (rwN T R c)):=by
 obtain⟨i,hi⟩: ∃i,c.natAbs=i+1:=⟨c.natAbs-1,by omega⟩
 have hin:i+1<T.n:=by omega
 have hd:=qff hT hW
 refine(e.right [c]).trans ?_
 unfold rwN ngN
 rw[hi,Nat.add_sub_cancel,Yz]
 by_cases hp:0<c
 ·rw[if_pos hp,if_pos hp]
  have hx:=(hT.po i hin).2
  have p:=qfv hT hW hx h
  rw[hW.po i hin,show((i+1:Nat):Int)=c by omega]at p
  exact(Us _ (xS hd k) (xK hW (qbV hT hx h)) ((xK hW h).app fun d hd=>by rw[List.mem_singleton.1 hd];exact hc) p).symm
 rw[if_neg hp,if_neg hp,rpw,Yz]
 have hx:=(hT.ne i hin).2
 have hf:=qe0 hT h
 have lf:=xK hW hf
 have l1:=hW.let_ _ hx
 have lc:qK T.n [c]:=fun d hd=>by rw[List.mem_singleton.1 hd];exact hc
 refine Us _ (xS hd k) ((xK hW h).app lc) (hd.app (xK hW (qbV hT hx hf))) ?_
 have a1:=Us T.dn hd (xK hW (qbV hT hx hf)) (lf.app l1) (qfv hT hW hx hf)
 have a2:=(qhT hT hW h).right (T.wd (T.neg.getD i 0))
 rw[Yz,Yz]at a2
 have a3:=Us (wsN T R) (xK hW h) (hd.app l1) (v':=[c]) lc (by have:=hW.ne i hin;rwa [show-((i+1:Nat):Int)=c by omega]at this)
 exact((a1.trans a2).trans a3).symm
def qbi (T:QTb) (s:FmN):List Int:=(if 16<=s.1 then rpw (T.wd T.half) (s.1-16)else rpw T.dn (16-s.1))++wsN T s.2
theorem qde {n:Nat} {u v:List Int} (hu:qK n u) (hv:qK n v) (h:BE n (u++v) []): ∀k,BE n (rpw u k++rpw v k) []
 |0=>BE.rfl_
 |k+1=>by
  rw[show rpw v (k+1)=v++rpw v k by
   have:=qeI v 1 k
   rw[Nat.add_comm 1 k]at this
   rw[this];rfl,rpw,Yz,<-Yz u]
  have:=Us (rpw u k) (xS hu k) ((hu.app hv).app (xS hv k)) (xS hv k) (h.right (rpw v k))
  exact this.trans (qde hu hv h k)
theorem qpE {T:QTb} (hT:T.Ok) (hW:T.Wd) {k:Nat} {R:List Nat} {s:FmN} (h:RS T k R s):BE T.n (rpw T.dn k++wsN T R) (qbi T s):=by
 obtain⟨c,d,h0,rfl,e2⟩:=h
 have hd:=qff hT hW
 have hh:=hW.let_ _ hT.ha_
 have hM:=xK hW c.right.left
 rw[qhv,qhv,qgV,qgV,hW.id,qjL,YQ,<-Yz]
 unfold qbi
 refine BE.right ?_ _
 by_cases g:k<=h0
 ·rw[if_pos (by omega),show s.1-16=h0-k by omega,show h0=k+(h0-k)by omega,qeI,<-Yz,show k+(h0-k)-k=h0-k by omega]
  have:=(qde hd hh hW.dh k).right (rpw (T.wd T.half) (h0-k))
  rwa [List.nil_append]at this
 rw[show k=(k-h0)+h0 by omega,qeI,Yz]
 have:=Us (rpw T.dn (k-h0)) (xS hd _) ((xS hd h0).app (xS hh h0)) (qK.nil _) (qde hd hh hW.dh h0)
 rw[YQ]at this
 by_cases g2:16<=s.1
 ·omega
 rw[if_neg g2,show 16-s.1=k-h0 by omega]
 exact this
end Go.Av
end
section
namespace Go.Av
def bet:Nat->Nat
 |0=>1
 |1=>30
 |2=>500
 |3=>7000
 |_=>0
theorem qnt (k:Nat):bet k<10007:=by
 unfold bet;split<;>omega
def evl (x:Int) (z:Nat):Nat:=if 0<x then(2*z+bet (x.natAbs-1))%10007 else(5004*(z+(10007-bet (x.natAbs-1))))%10007
def ev:List Int->Nat->Nat
 |[],z=>z
 |x::u,z=>evl x (ev u z)
theorem ql3 (x:Int) (z:Nat):evl x z<10007:=by
 unfold evl;split<;>exact Nat.mod_lt _ (by omega)
theorem qf7: ∀(u:List Int) (z:Nat),z<10007->ev u z<10007
 |[],z,h=>h
 |x::u,z,h=>ql3 _ _
theorem qhQ {x:Int} (hx:x≠0) {z:Nat} (hz:z<10007):evl x (evl (-x) z)=z:=by
 unfold evl
 rw[Int.natAbs_neg]
 have:=qnt (x.natAbs-1)
 generalize bet (x.natAbs-1)=b at*
 by_cases h:0<x
 ·rw[if_pos h,if_neg (by omega)];omega
 rw[if_neg h,if_pos (by omega)];omega
theorem qcI: ∀(u v:List Int) (z:Nat),ev (u++v) z=ev u (ev v z)
 |[],v,z=>rfl
 |x::u,v,z=>by rw[List.cons_append,ev,ev,qcI u v z]
theorem qiX: ∀(u:List Int),Nz u-> ∀z,z<10007->ev u (ev (qm u) z)=z
 |[],h,z,hz=>rfl
 |x::u,h,z,hz=>by
  rw[yK,qcI,ev]
  have e:ev [-x] z=evl (-x) z:=rfl
  rw[e,qiX u (fun y hy=>h y (List.mem_cons_of_mem _ hy)) _ (ql3 _ _),qhQ (h x List.mem_cons_self) hz]
theorem qn5 {s:List Int} {x:Int} (hx:x≠0) (hs:Nz s) {z:Nat} (hz:z<10007):ev (xB s x).reverse z=ev s.reverse (evl x z):=by
 cases s with
 |nil=>rfl
 |cons y t=>
  by_cases e:y= -x
  ·rw[xY t e,List.reverse_cons,qcI]
   have:ev [y] (evl x z)=z:=by
    show evl y (evl x z)=z
    have:=qhQ (x:=y) (hs y List.mem_cons_self) hz
    rw[e,Int.neg_neg]at this
    rw[e];exact this
   rw[this]
  rw[xU t e,show(x::y::t).reverse=(y::t).reverse++[x]from List.reverse_cons,qcI]
  rfl
theorem ql6 {s:List Int} {x:Int} (hx:x≠0) (hs:Nz s):Nz (xB s x):=fun y hy=>by
 cases s with
 |nil=>rw[qee]at hy;rw[List.mem_singleton.1 hy];exact hx
 |cons a t=>
  by_cases e:a= -x
  ·rw[xY t e]at hy;exact hs y (List.mem_cons_of_mem _ hy)
  rw[xU t e]at hy
  rcases List.mem_cons.1 hy with rfl|hy
  ·exact hx
  exact hs y hy
theorem qlD: ∀(w s:List Int),Nz w->Nz s-> ∀z,z<10007->ev (fact s w).reverse z=ev s.reverse (ev w z)
 |[],s,hw,hs,z,hz=>rfl
 |x::w,s,hw,hs,z,hz=>by
  have hx:=hw x List.mem_cons_self
  have hw':Nz w:=fun y hy=>hw y (List.mem_cons_of_mem _ hy)
  rw[qec,qlD w _ hw' (ql6 hx hs) z hz,qn5 hx hs (qf7 w z hz)]
  rfl
theorem qkn {w:List Int} (hw:Nz w) {z:Nat} (hz:z<10007):ev (fred w) z=ev w z:=qlD w [] hw (fun y hy=>by cases hy) z hz
def Lin (u:List Int) (c:Nat):Prop:=c<10007/\ ∀z,z<10007->ev u z=(2*z+c)%10007
theorem Lin.at0 {u:List Int} {c:Nat} (h:Lin u c):c=ev u 0:=by
 have:=h.2 0 (by omega)
 have:=h.1
 omega
theorem Lin.conj {a b:List Int} {p q:Nat} (ha:Nz a) (hb:Nz b) (h:Lin a p) (k:Lin b q):Lin (fred (a++b++qm a)) ((2*q+(10007-p))%10007):=by
 refine⟨Nat.mod_lt _ (by omega),fun z hz=>?_⟩
 rw[qkn ((ha.app hb).app ha.inv) hz,qcI,qcI]
 have e:=qiX a ha z hz
 have hy:=qf7 (qm a) z hz
 generalize ev (qm a) z=y at*
 rw[h.2 y hy]at e
 rw[k.2 y hy,h.2 _ (Nat.mod_lt _ (by omega))]
 have:=h.1
 have:=k.1
 omega
theorem Lin.conji {a b:List Int} {p q:Nat} (ha:Nz a) (hb:Nz b) (h:Lin a p) (k:Lin b q):Lin (fred (qm b++a++b)) ((5004*(p+q))%10007):=by
 refine⟨Nat.mod_lt _ (by omega),fun z hz=>?_⟩
 rw[qkn ((hb.inv.app ha).app hb) hz,qcI,qcI]
 have e:=qiX b hb (ev a (ev b z)) (qf7 _ _ (qf7 _ _ hz))
 have hy:=qf7 (qm b) (ev a (ev b z)) (qf7 _ _ (qf7 _ _ hz))
 generalize ev (qm b) (ev a (ev b z))=y at*
 rw[k.2 y hy,k.2 z hz,h.2 _ (Nat.mod_lt _ (by omega))]at e
 have:=h.1
 have:=k.1
 omega
def qeh:List (List Int)->List Nat->Prop
 |[],[]=>True
 |u::l,c::t=>Lin u c/\qeh l t
 |_,_=>False
theorem qeh.uniq: ∀{l:List (List Int)} {s t:List Nat},qeh l s->qeh l t->s=t
 |[],[],[],h,k=>rfl
 |[],c::s,_,h,k=>by cases h
 |[],[],c::t,h,k=>by cases k
 |u::l,[],_,h,k=>by cases h
 |u::l,c::s,[],h,k=>by cases k
 |u::l,c::s,d::t,h,k=>by rw[h.1.at0,k.1.at0,h.2.uniq k.2]
def qmo:Nat->Bool->List Nat->List Nat
 |0,true,a::b::l=>(2*b+(10007-a))%10007::a::l
 |0,false,a::b::l=>b::(5004*(a+b))%10007::l
 |i+1,p,a::l=>a::qmo i p l
 |_,_,l=>l
theorem qeh.step: ∀(i:Nat) (p:Bool) {im:List (List Int)} {t:List Nat},Nzs im->i+1<im.length->qeh im t->qeh (bif p then(im.set i (fred (im.getD i []++im.getD (i+1) []++qm (im.getD i [])))).set (i+1) (im.getD i [])else(im.set i (im.getD (i+1) [])).set (i+1) (fred (qm (im.getD (i+1) [])++im.getD i []++im.getD (i+1) []))) (qmo i p t)
 |0,true,a::b::l,c::d::t,hz,hi,h=>by
  have ha:Nz a:=hz a List.mem_cons_self
  have hb:Nz b:=hz b (List.mem_cons_of_mem _ List.mem_cons_self)
  exact⟨h.1.conj ha hb h.2.1,h.1,h.2.2⟩
 |0,false,a::b::l,c::d::t,hz,hi,h=>by
  have ha:Nz a:=hz a List.mem_cons_self
  have hb:Nz b:=hz b (List.mem_cons_of_mem _ List.mem_cons_self)
  exact⟨h.2.1,h.1.conji ha hb h.2.1,h.2.2⟩
 |i+1,p,a::l,c::t,hz,hi,h=>by
  have:=qeh.step i p (im:=l) (t:=t) (fun w hw=>hz w (List.mem_cons_of_mem _ hw)) (by simp at hi;omega) h.2
  cases p
  ·exact⟨h.1,this⟩
  exact⟨h.1,this⟩
 |0,p,[],t,hz,hi,h=>by simp at hi
 |0,p,[a],t,hz,hi,h=>by simp at hi
 |0,p,a::b::l,[],hz,hi,h=>by cases h
 |0,p,a::b::l,[c],hz,hi,h=>by cases h.2
 |i+1,p,[],t,hz,hi,h=>by simp at hi
 |i+1,p,a::l,[],hz,hi,h=>by cases h
end Go.Av
end
section
namespace Go.Av
abbrev LS:=FmN×List Nat
def eqLS (a b:LS):Bool:=bif Nat.beq a.1.1 b.1.1 then bif eqN a.1.2 b.1.2 then eqN a.2 b.2 else false else false
theorem qok (a b:LS) (h:eqLS a b=true):a=b:=by
 obtain⟨⟨a1,a2⟩,a3⟩:=a
 obtain⟨⟨b1,b2⟩,b3⟩:=b
 obtain⟨h1,h⟩:=ql h
 obtain⟨h2,h3⟩:=ql h
 have e1:a1=b1:=yF h1
 have e2:a2=b2:=qaW h2
 have e3:a3=b3:=qaW h3
 rw[e1,e2,e3]
def keyT:List Nat->Nat->Nat
 |[],acc=>acc
 |x::l,acc=>keyT l (Nat.add (Nat.mul acc 10007) x)
def qmw (s:LS):Nat:=frc (keyT s.2 0) fun k=>k
theorem qkz (s:LS):qmw s=keyT s.2 0:=qeb _ _
def frcL:List Nat->(List Nat->LS)->LS
 |[],f=>f []
 |x::l,f=>frc x fun y=>frcL l fun m=>f (y::m)
theorem qjQ: ∀(l:List Nat) (f:List Nat->LS),frcL l f=f l
 |[],f=>rfl
 |x::l,f=>by rw[frcL,qeb,qjQ l]
def qiF (T:QTb) (s:LS) (i:Nat) (p:Bool):LS:=frcL (qmo i p s.2) fun t=>match fmN T i p s.1 with|(h,M)=>frc h fun h=>(((h,M),t):LS)
theorem qnL (T:QTb) (s:LS) (i:Nat) (p:Bool):qiF T s i p=(fmN T i p s.1,qmo i p s.2):=by
 unfold qiF
 rw[qjQ]
 rcases fmN T i p s.1 with⟨h,M⟩
 dsimp only
 rw[qeb]
def nxN (T:QTb) (s:LS):Nat->List LS
 |0=>[]
 |i+1=>qiF T s i true::qiF T s i false::nxN T s i
theorem qjK {T:QTb} {s:LS} {i:Nat} (p:Bool): ∀{k:Nat},i<k->qiF T s i p∈nxN T s k
 |0,h=>by omega
 |k+1,h=>by
  unfold nxN
  by_cases e:i=k
  ·subst e
   cases p
   ·exact List.mem_cons_of_mem _ (List.mem_cons_self ..)
   exact List.mem_cons_self ..
  exact List.mem_cons_of_mem _ (List.mem_cons_of_mem _ (qjK p (by omega)))
def nxNL (T:QTb):List LS->List LS
 |[]=>[]
 |s::l=>nxN T s (T.n-1)++nxNL T l
theorem qis {T:QTb} {s x:LS}: ∀{l:List LS},s∈l->x∈nxN T s (T.n-1)->x∈nxNL T l
 |y::l,h,hx=>by
  unfold nxNL
  rcases List.mem_cons.1 h with rfl|h
  ·exact List.mem_append_left _ hx
  exact List.mem_append_right _ (qis h hx)
theorem qij {α:Type} {eqv:α->α->Bool} (he: ∀a b,eqv a b=true->a=b) {key:α->Nat}: ∀(l:List α) (t:QT α) (out:List α) (t':QT α) (out':List α),qlN eqv key l t out=some (t',out')->
 (∀s∈l,t'.Mem (key s) s)/\(∀k s,t.Mem k s->t'.Mem k s)/\(∀s∈out,s∈out')/\ ∀k s,t'.Mem k s->t.Mem k s\/s∈out'
 |[],t,out,t',out',h=>by
  simp only[qlN,ZI,ZP]at h
  obtain⟨rfl,rfl⟩:=h
  exact⟨fun s hs=>(by cases hs),fun _ _ h=>h,fun _ h=>h,fun _ _ h=> .inl h⟩
 |s::l,t,out,t',out',h=>by
  unfold qlN at h
  cases c:qe5 eqv 2000 (key s) s t with
  |none=>rw[c]at h;cases h
  |some q=>
   obtain⟨t1,b⟩:=q
   rw[c]at h
   obtain⟨h1,h2,h3,h4⟩:=qeT he _ _ _ _ _ _ c
   dsimp only at h
   obtain⟨g1,g2,g3,g4⟩:=qij he l t1 _ t' out' h
   refine⟨fun s' hs=>?_,fun k s' m=>g2 k s' (h2 k s' m),fun s' hs=>g3 s' ?_,fun k s' m=>?_⟩
   ·rcases List.mem_cons.1 hs with rfl|hs
    ·exact g2 _ _ h1
    exact g1 s' hs
   ·cases b with
    |true=>exact List.mem_cons_of_mem _ hs
    |false=>exact hs
   rcases g4 k s' m with m|m
   ·rcases h4 k s' m with m|⟨e1,e2⟩
    ·exact .inl m
    cases b with
    |true=>exact .inr (g3 s' (by rw[e2];exact List.mem_cons_self ..))
    |false=>rw[e1,e2];exact .inl (h3 rfl)
   exact .inr m
def ls0 (n:Nat):LS:=((16,[]),(List.range n).map bet)
def bfs (T:QTb):Nat->Option (QT LS×List LS)
 |0=>some (.lf (qmw (ls0 T.n)) (ls0 T.n),[ls0 T.n])
 |k+1=>match bfs T k with
  |none=>none
  |some (t,fr)=>qlN eqLS qmw (nxNL T fr) t []
def lsL (T:QTb) (s:LS) (c:Int):LS:=(fmL T s.1 c,qmo (c.natAbs-1) (decide (0<c)) s.2)
def lsW (T:QTb) (w:List Int):LS:=w.foldl (lsL T) (ls0 T.n)
theorem qpD (T:QTb) (s:LS) (c:Int):lsL T s c=qiF T s (c.natAbs-1) (decide (0<c)):=(qnL ..).symm
def Suc (T:QTb) (t:QT LS) (s:LS):Prop:= ∀i p,i+1<T.n->t.Mem (qmw (qiF T s i p)) (qiF T s i p)
theorem qeP {T:QTb}: ∀(k:Nat) (t:QT LS) (fr:List LS),bfs T k=some (t,fr)->
 (∀j s,t.Mem j s->s∈fr\/Suc T t s)/\ ∀w,w.length<=k->qK T.n w->t.Mem (qmw (lsW T w)) (lsW T w)
 |0,t,fr,h=>by
  simp only[bfs,ZI,ZP]at h
  obtain⟨rfl,rfl⟩:=h
  refine⟨fun j s m=> .inl ?_,fun w hw hl=>?_⟩
  ·rw[show s=ls0 T.n from m.2];exact List.mem_singleton.2 rfl
  rw[show w=[]by cases w<;>simp_all];exact⟨rfl,rfl⟩
 |k+1,t',fr',h=>by
  unfold bfs at h
  cases c:bfs T k with
  |none=>rw[c]at h;cases h
  |some q=>
   obtain⟨t,fr⟩:=q
   rw[c]at h
   dsimp only at h
   obtain⟨g1,g2,g3,g4⟩:=qij qok _ _ _ _ _ h
   obtain⟨h1,h2⟩:=qeP k t fr c
   have suc: ∀j s,t.Mem j s->Suc T t' s:=fun j s m i p hi=>by
    rcases h1 j s m with hf|hs
    ·exact g1 _ (qis hf (qjK p (by omega)))
    exact g2 _ _ (hs i p hi)
   refine⟨fun j s m=>?_,fun w hw hl=>?_⟩
   ·rcases g4 j s m with m|m
    ·exact .inr (suc j s m)
    exact .inl m
   rcases List.eq_nil_or_concat w with rfl|⟨v,c,rfl⟩
   ·exact g2 _ _ (h2 [] (Nat.zero_le _) hl)
   rw[List.concat_eq_append]at*
   have hc:=hl c (List.mem_append_right _ (List.mem_singleton.2 rfl))
   have hv:qK T.n v:=fun d hd=>hl d (List.mem_append_left _ hd)
   have:=suc _ _ (h2 v (by simp at hw;omega) hv) (c.natAbs-1) (decide (0<c)) (by omega)
   rw[<-qpD]at this
   unfold lsW
   rw[List.foldl_append]
   exact this
def QT.allq {α:Type} (f:α->Bool):QT α->Bool
 | .e=>true
 | .lf _ s=>f s
 | .nd l r=>bif l.allq f then r.allq f else false
theorem QT.allq_ok {α:Type} {f:α->Bool}: ∀{t:QT α},t.allq f=true-> ∀{k:Nat} {s:α},t.Mem k s->f s=true
 | .e,h,k,s,m=>m.elim
 | .lf k' s',h,k,s,m=>by rw[m.2];exact h
 | .nd l r,h,k,s,m=>by
   obtain⟨h1,h2⟩:=ql h
   unfold QT.Mem at m
   split at m
   ·exact allq_ok h2 m
   exact allq_ok h1 m
def noN (T:QTb):List Nat->Bool
 |[]=>true
 |x::r=>bif Nat.beq x T.idc then false else bif Nat.beq x T.half then false else noN T r
def chS (T:QTb) (s:LS):Bool:=bif nfN T s.1.2 then bif noN T s.1.2 then bif Nat.ble s.1.2.length 6 then bif Nat.ble 10 s.1.1 then Nat.ble s.1.1 22 else false else false else false else false
def eqF (a b:FmN):Bool:=bif Nat.beq a.1 b.1 then eqN a.2 b.2 else false
theorem qmt {a b:FmN} (h:eqF a b=true):a=b:=by
 obtain⟨a1,a2⟩:=a
 obtain⟨b1,b2⟩:=b
 obtain⟨h1,h2⟩:=ql h
 have e1:a1=b1:=yF h1
 have e2:a2=b2:=qaW h2
 rw[e1,e2]
def chB (T:QTb) (s:LS):Bool:=qal (T.n-1) fun i=>bif eqF (fmN T i false (fmN T i true s.1)) s.1 then eqF (fmN T i true (fmN T i false s.1)) s.1 else false
def qfg (T:QTb):Bool:=bif (match bfs T 6 with|none=>false|some (t,_)=>t.allq (chS T))then(match bfs T 5 with|none=>false|some (t,_)=>t.allq (chB T))else false
theorem qm1 {T:QTb} (h:qfg T=true) {a b:List Int} (ha:qK T.n a) (hb:qK T.n b) (la:a.length<=6) (lb:b.length<=6) (e:(lsW T a).2=(lsW T b).2):(lsW T a).1=(lsW T b).1:=by
 obtain⟨h1,_⟩:=ql h
 cases c:bfs T 6 with
 |none=>rw[c]at h1;cases h1
 |some q=>
  obtain⟨t,fr⟩:=q
  obtain⟨_,g⟩:=qeP 6 t fr c
  have ma:=g a la ha
  have mb:=g b lb hb
  rw[qkz,e,<-qkz]at ma
  rw[ma.uniq mb]
structure FmOk (T:QTb) (s:FmN):Prop where
 nf:nfN T s.2=true
 no:noN T s.2=true
 len:s.2.length<=6
 lo:10<=s.1
 hi:s.1<=22
theorem qoY {T:QTb} (h:qfg T=true) {a:List Int} (ha:qK T.n a) (la:a.length<=6):FmOk T (lsW T a).1:=by
 obtain⟨h1,_⟩:=ql h
 cases c:bfs T 6 with
 |none=>rw[c]at h1;cases h1
 |some q=>
  obtain⟨t,fr⟩:=q
  rw[c]at h1
  obtain⟨_,g⟩:=qeP 6 t fr c
  have:=QT.allq_ok h1 (g a la ha)
  obtain⟨y1,y⟩:=ql this
  obtain⟨y2,y⟩:=ql y
  obtain⟨y3,y⟩:=ql y
  obtain⟨y4,y5⟩:=ql y
  exact⟨y1,y2,Ys y3,Ys y4,Ys y5⟩
theorem qnU {T:QTb} (h:qfg T=true) {a:List Int} (ha:qK T.n a) (la:a.length<=5) {c:Int} (hc:c≠0/\ -(T.n:Int)<c/\c<T.n):fmL T (fmL T (lsW T a).1 c) (-c)=(lsW T a).1:=by
 obtain⟨_,h1⟩:=ql h
 cases e:bfs T 5 with
 |none=>rw[e]at h1;cases h1
 |some q=>
  obtain⟨t,fr⟩:=q
  rw[e]at h1
  obtain⟨_,g⟩:=qeP 5 t fr e
  have:=xD (QT.allq_ok h1 (g a la ha)) (c.natAbs-1) (by omega)
  obtain⟨y1,y2⟩:=ql this
  unfold fmL
  rw[Int.natAbs_neg]
  by_cases hp:0<c
  ·rw[decide_eq_true hp,decide_eq_false (by omega)]
   exact qmt y1
  rw[decide_eq_false hp,decide_eq_true (by omega)]
  exact qmt y2
end Go.Av
end
