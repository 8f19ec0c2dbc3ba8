/-
  Names.
-/
import Derived.Test.YtbjpmhdicbgjkaaGreatDoorAvPt
import Derived.Test.YtbjpmhdicbgjkaaGreatDoorNuPb
noncomputable section
section
namespace Go.Av
set_option linter.unusedSimpArgs false
set_option linter.unusedVariables false
end Go.Av
end
section
namespace Go.Av
set_option linter.unusedVariables false
set_option linter.unusedSimpArgs false
set_option maxRecDepth 100000
theorem qly {N:Nat} (hN:600000<N) {f:qZ} {q:Rat} (h:IsF f q) (fq:qae q 3900): ∃r,xy N f=some r/\IsZ r q.floor:=by
 obtain⟨a,b,e,i1,i2⟩:=qbc (N:=N) (by omega) h.1 h.2 fq.1 fq.2 (by have:=q.den_pos;omega)
 refine⟨a,?_,?_⟩
 ·unfold xy
  rw[e,ZB]
 rw[Rat.floor_def]
 exact i1
theorem qlE {q:Rat} {n:Nat} (h:Fit q.num n):Fit q.floor n:=by
 rw[Rat.floor_def]
 exact yz (jL _ (by have:=q.den_pos;omega)) h
theorem qmO {z:Int} {n:Nat} (h:Fit z n) (hn:1<=n):qae (z:Rat) n:=⟨by rw[Rat.num_intCast];exact h,by rw[Rat.den_intCast];exact F1 hn⟩
theorem fit1 {z:Int} (h1: -9223372036854775808<=z) (h2:z<=9223372036854775807):Fit z 1:=by
 have:W=18446744073709551616:=rfl
 unfold Fit
 rw[Int.pow_succ,Int.pow_zero,Int.one_mul]
 omega
end Go.Av
end
section
namespace Go.Av
set_option linter.unusedVariables false
set_option linter.unusedSimpArgs false
set_option maxRecDepth 100000
open Classical
theorem qke {q:Rat} {k:Nat} (hk:0<k) (h:(T q).length<=k):Sml q k:=by
 have h1:(Lib.decDigits q.num.natAbs).length<=(Lib.itoa q.num).length:=by
  by_cases c:q.num<0
  ·rw[jY c,List.length_cons]
   omega
  rw[zm c]
  exact Nat.le_refl _
 unfold T at h
 rw[List.length_append]at h
 refine⟨by omega,?_⟩
 by_cases c:q.den=1
 ·rw[c]
  exact(xQ hk).2 (Nat.one_lt_pow (by omega) (by decide))
 rw[if_neg c,List.length_cons]at h
 omega
theorem rrow2 {N:Nat} (hN:600000<N) {a b:Str} (ha:a.length<=10000) (hb:b.length<=10000):xC N [a,b]=some (if chk a=0 then chk b else chk a):=by
 have e1:=qeY hN ha
 have e2:=qeY hN hb
 unfold xC
 obtain⟨K,hK⟩: ∃K,N=K+1+1+1:=⟨N-3,by omega⟩
 have L:qR N [a,b] (K+1+1+1) 0=some (if chk a=0 then(if chk b=0 then .inl ()else .inr (chk b))else .inr (chk a)):=by
  rw[qR,if_pos (by simp),qa3]
  simp only[List.getElem?_cons_zero,ZB]
  rw[e1,ZB]
  by_cases c:chk a=0
  ·rw[if_neg (by simp[c]),if_pos c,show w64 (0+1)=((1:Nat):Int)from rfl,qR,if_pos (by simp),qw]
   simp only[List.getElem?_cons_succ,List.getElem?_cons_zero,ZB]
   rw[e2,ZB]
   by_cases d:chk b=0
   ·rw[if_neg (by simp[d]),if_pos d,show w64 (((1:Nat):Int)+1)=2 from rfl,qR,if_neg (by simp)]
   rw[if_pos (by simp[d]),if_neg d]
  rw[if_pos (by simp[c]),if_neg c]
 rw[show qR N [a,b] N 0=qR N [a,b] (K+1+1+1) 0 by rw[<-hK],L,ZB]
 by_cases c:chk a=0
 ·by_cases d:chk b=0
  ·rw[if_pos c,if_pos d,if_pos c,d]
  rw[if_pos c,if_neg d,if_pos c]
 rw[if_neg c,if_neg c]
noncomputable def qmQ (s:qa2):Int:=if chk s.Low=0 then(if chk s.High=0 then(if∃p q:Rat,s.Low=T p/\s.High=T q/\q<p then 11 else 0)else chk s.High)else chk s.Low
theorem qjL {p q:Rat} (hp:chk (T p)=0) (hq:chk (T q)=0):qmQ ⟨T p,T q⟩=if q<p then 11 else 0:=by
 unfold qmQ
 rw[if_pos hp,if_pos hq]
 by_cases h:q<p
 ·rw[if_pos h,if_pos ⟨p,q,rfl,rfl,h⟩]
 rw[if_neg h,if_neg]
 rintro⟨p',q',e1,e2,h'⟩
 rw[qmS e1,qmS e2]at h
 exact h h'
theorem qb1 {p q:Rat}:((if p<q then-1 else if p=q then 0 else 1:Int)>0)↔q<p:=by
 by_cases h:p<q
 ·rw[if_pos h]
  exact⟨fun c=>absurd c (by decide),fun c=>absurd c (Rat.not_lt.2 (Rat.le_of_lt h))⟩
 rw[if_neg h]
 by_cases e:p=q
 ·rw[if_pos e]
  exact⟨fun c=>absurd c (by decide),fun c=>absurd (e▸c) Rat.lt_irrefl⟩
 rw[if_neg e]
 refine⟨fun _=>?_,fun _=>by decide⟩
 exact Rat.lt_of_le_of_ne (Rat.not_lt.1 h) (Ne.symm e)
theorem qhL {p q:Rat}:((if p<q then-1 else if p=q then 0 else 1:Int)<0)↔p<q:=by
 by_cases h:p<q
 ·rw[if_pos h]
  exact⟨fun _=>h,fun _=>by decide⟩
 rw[if_neg h]
 refine⟨fun c=>?_,fun c=>absurd c h⟩
 by_cases e:p=q
 ·rw[if_pos e]at c
  exact absurd c (by decide)
 rw[if_neg e]at c
 exact absurd c (by decide)
theorem qpd {p q:Rat}:((if p<q then-1 else if p=q then 0 else 1:Int)>=0)↔q<=p:=by
 rw[ge_iff_le,<-Int.not_lt,<-Rat.not_lt]
 exact not_congr qhL
theorem qdY {N:Nat} (hN:600000<N) {s:qa2} (h1:s.Low.length<=10000) (h2:s.High.length<=10000):vG N s=some (qmQ s):=by
 obtain⟨a,b⟩:=s
 unfold vG
 simp only at h1 h2
 rw[rrow2 hN h1 h2,ZB]
 by_cases c:chk a=0
 ·rw[if_pos c]
  by_cases d:chk b=0
  ·obtain⟨p,rfl,p1,p2⟩:=qgq c
   obtain⟨q,rfl,q1,q2⟩:=qgq d
   rw[if_pos d,qdE hN (k:=600) (by omega) (by omega) ⟨p1,p2⟩ ⟨q1,q2⟩,ZB,ZB,qjL c d]
   by_cases h:q<p
   ·rw[if_pos (decide_eq_true (qb1.2 h)),if_pos h,ZB]
   rw[if_neg (fun x=>h (qb1.1 (of_decide_eq_true x))),if_neg h,d,ZB]
  rw[if_neg d,ZB,if_neg (by simp),ZB]
  unfold qmQ
  rw[if_pos c,if_neg d]
 rw[if_neg c,if_neg c,ZB,if_neg (by simp),ZB]
 unfold qmQ
 rw[if_neg c]
def IsL:List qZ->List Rat->Prop
 |[],[]=>True
 |f::l,q::r=>IsF f q/\IsL l r
 |_,_=>False
theorem IsL.get: ∀{l:List qZ} {r:List Rat},IsL l r->l.length=r.length/\ ∀(i:Nat) (q:Rat),r[i]? =some q-> ∃f,l[i]? =some f/\IsF f q
 |[],[],_=>⟨rfl,fun i q h=>by simp at h⟩
 |f::l,q::r,h=>by
  obtain⟨h1,h2⟩:=h
  obtain⟨a,b⟩:=IsL.get h2
  refine⟨by simp[a],fun i x hx=>?_⟩
  match i,hx with
  |0,hx=>
   simp at hx
   exact⟨f,rfl,hx▸h1⟩
  |i+1,hx=>
   rw[List.getElem?_cons_succ]at hx⊢
   exact b i x hx
 |[],_::_,h=>h.elim
 |_::_,[],h=>h.elim
theorem qkr {N:Nat} (hN:600000<N) {f g:qZ} {p q:Rat} (hf:IsF f p) (hg:IsF g q) (fp:qae p 3900) (fq:qae q 3900):qaj N f g=some (if qh3 p=true\/qh3 q=true then(⟨[],[]⟩,4)else(⟨T p,T q⟩,0)):=by
 unfold qaj
 rw[qiF hN hf fp,ZB,qiF hN hg fq]
 cases h1:qh3 p with
 |true=>rw[if_pos rfl,ZB,if_pos rfl,if_pos (.inl rfl)]
 |false=>
  rw[if_neg (by simp),ZB,ZB]
  cases h2:qh3 q with
  |true=>rw[if_pos rfl,if_pos (.inr rfl)]
  |false=>rw[if_neg (by simp),qkk hN hf fp,ZB,qkk hN hg fq,ZB,if_neg (by simp)]
end Go.Av
end
section
namespace Go.Av
set_option linter.unusedVariables false
set_option linter.unusedSimpArgs false
set_option maxRecDepth 100000
theorem qmV {q:Rat}:0<q.num↔0<q:=by
 have h1:=Rat.num_nonneg (q:=q)
 have h2:=Rat.num_eq_zero (q:=q)
 constructor
 ·intro h
  exact Rat.lt_of_le_of_ne (h1.1 (by omega)) (fun e=>by have:=h2.2 e.symm;omega)
 intro h
 have h3:=h1.2 (Rat.le_of_lt h)
 have h4:q.num≠0:=fun e=>Rat.ne_of_gt h (h2.1 e)
 omega
theorem qgS {f:qZ} {q:Rat} (h:IsF f q):yT f=some (if q.num<0 then-1 else if q.num=0 then 0 else 1):=by
 unfold yT
 rw[qbM h.1,ZB]
theorem qk9 {q:Rat}:((if q.num<0 then-1 else if q.num=0 then 0 else 1:Int)>=0)↔0<=q:=by
 rw[<-Rat.num_nonneg]
 constructor
 ·intro h
  by_cases c:q.num<0
  ·rw[if_pos c]at h
   omega
  omega
 intro h
 rw[if_neg (by omega)]
 split<;>omega
section ops
variable {N:Nat} (hN:600000<N)
include hN
variable {p p' q q':Rat} (hp:Sml p 60) (hp':Sml p' 60) (hq:Sml q 60) (hq':Sml q' 60) (cp:chk (T p)=0) (cp':chk (T p')=0) (cq:chk (T q)=0) (cq':chk (T q')=0) (hpp:p<=p') (hqq:q<=q')
include hp hp' hq hq' cp cp' cq cq' hpp hqq
end ops
end Go.Av
end
section
namespace Go.Av
set_option linter.unusedVariables false
set_option linter.unusedSimpArgs false
def le3 (x u v:Rat):Prop:=(x-u).abs<(x-v).abs\/((x-u).abs=(x-v).abs/\(u.den<v.den\/(u.den=v.den/\u<=v)))
theorem qoT {a b c:Rat} (h:a<b) (k:b<c):a<c:=by
 have:=Rat.le_of_lt k
 rcases Rat.le_iff_lt_or_eq.1 (Rat.le_trans (Rat.le_of_lt h) this)with e|e
 ·exact e
 rw[e]at h
 exact absurd k (Rat.not_lt.2 (Rat.le_of_lt h))
theorem qh5 {x u v:Rat} (h:le3 x u v) (k:le3 x v u):u=v:=by
 rcases h with h|⟨h1,h2⟩
 ·rcases k with k|⟨k1,_⟩
  ·exact absurd (qoT h k) Rat.lt_irrefl
  rw[k1]at h
  exact absurd h Rat.lt_irrefl
 rcases k with k|⟨_,k2⟩
 ·rw[h1]at k
  exact absurd k Rat.lt_irrefl
 rcases h2 with h2|⟨h2,h3⟩<;>rcases k2 with k2|⟨k2,k3⟩
 ·omega
 ·omega
 ·omega
 exact Rat.le_antisymm h3 k3
def Near (x:Rat) (m:Nat) (r:Rat):Prop:=r.den<=m/\ ∀y:Rat,y.den<=m->le3 x r y
theorem Near.uniq {x r s:Rat} {m:Nat} (h:Near x m r) (k:Near x m s):r=s:=qh5 (h.2 s k.1) (k.2 r h.1)
theorem qoi (q:Rat):q*((q.den:Int):Rat)=(q.num:Rat):=by
 have h:((q.den:Int):Rat)≠0:=by
  rw[Ne,Rat.intCast_eq_zero_iff]
  have:=q.den_pos
  omega
 conv=>lhs;lhs;rw[<-Rat.num_divInt_den q,Rat.divInt_eq_div]
 exact Rat.div_mul_cancel h
end Go.Av
end
section
namespace Go.Av
set_option linter.unusedVariables false
set_option linter.unusedSimpArgs false
set_option maxRecDepth 100000
theorem qlb (n:Int):T (n:Rat)=Lib.itoa n:=by
 unfold T
 rw[Rat.num_intCast,Rat.den_intCast,if_pos rfl,List.append_nil]
theorem qin (q:Rat):q.abs=if q.num<0 then-q else q:=by
 by_cases h:q.num<0
 ·rw[if_pos h,Rat.abs_of_nonpos]
  rw[<-Rat.not_lt,<-qmV]
  omega
 rw[if_neg h,Rat.abs_of_nonneg]
 rw[<-Rat.num_nonneg]
 omega
theorem qlV {q:Rat} (h:(T q).length<=100000):yS (T q)=some (T q.abs):=by
 have hn:=qoZ (N:=0) h
 unfold qbe at hn
 rw[qeb,ZB]at hn
 unfold yS
 rw[qeb,ZB,qin]
 by_cases c:q.num<0
 ·simp only[if_pos c]at hn⊢
  rw[if_pos (by decide)]at hn⊢
  exact hn
 simp only[if_neg c]
 rw[if_neg (by split<;>decide)]
def bst (x b y:Rat):Rat:=if(x-y).abs<(x-b).abs then y else b
def cnd (x:Rat) (i:Nat):Rat:=Rat.divInt ((x*((i/2:Nat):Rat)).floor+((i%2:Nat):Int)) ((i/2:Nat):Int)
def Fst (x b:Rat) (n:Nat):Prop:= ∃i,2<=i/\i<n/\b=cnd x i/\ ∀j,2<=j->j<n->(x-b).abs<(x-cnd x j).abs\/((x-b).abs=(x-cnd x j).abs/\i<=j)
theorem Fst.step {x b:Rat} {n:Nat} (h:Fst x b n):Fst x (bst x b (cnd x n)) (n+1):=by
 obtain⟨i,h1,h2,h3,h4⟩:=h
 unfold bst
 by_cases c:(x-cnd x n).abs<(x-b).abs
 ·rw[if_pos c]
  refine⟨n,by omega,by omega,rfl,fun j j1 j2=>?_⟩
  by_cases e:j=n
  ·exact .inr ⟨by rw[e],by omega⟩
  rcases h4 j j1 (by omega)with k|⟨k,_⟩
  ·exact .inl (qoT c k)
  exact .inl (k▸c)
 rw[if_neg c]
 refine⟨i,h1,by omega,h3,fun j j1 j2=>?_⟩
 by_cases e:j=n
 ·rw[e]
  rcases Rat.le_iff_lt_or_eq.1 (Rat.not_lt.1 c)with k|k
  ·exact .inl k
  exact .inr ⟨k,by omega⟩
 exact h4 j j1 (by omega)
end Go.Av
end
section
namespace Go.Av
set_option linter.unusedVariables false
set_option linter.unusedSimpArgs false
set_option maxRecDepth 100000
theorem F_eq {n:Int} (h1: -9223372036854775808<=n) (h2:n<=9223372036854775807): ∃f,qiQ n=some f/\IsF f (n:Rat):=by
 obtain⟨f,e,i⟩:=qjx (IsZ.small h1 h2)
 refine⟨f,?_,i⟩
 unfold qiQ
 rw[qdk,ZB,e,ZB]
theorem qjp (r:Rat):r-(r.floor:Rat)=Rat.divInt (r.num%(r.den:Int)) (r.den:Int):=by
 have h:((r.den:Int):Rat)≠0:=by
  rw[Ne,Rat.intCast_eq_zero_iff]
  have:=r.den_pos
  omega
 have e:(r-(r.floor:Rat))*((r.den:Int):Rat)=((r.num%(r.den:Int):Int):Rat):=by
  rw[Rat.sub_eq_add_neg,Rat.add_mul,qoi,Rat.floor_def,Int.emod_def,Rat.intCast_sub,Rat.intCast_mul]
  grind
 rw[Rat.divInt_eq_div,<-e,Rat.mul_div_cancel h]
theorem qlD {r:Rat} {n:Nat} (h:qae r n):qae (r-(r.floor:Rat)) n:=by
 rw[qjp]
 have hd:=r.den_pos
 refine qcN (by omega) ?_ h.2
 refine yz ?_ h.2
 have:=Int.emod_nonneg r.num (show(r.den:Int)≠0 by omega)
 have:=Int.emod_lt_of_pos r.num (show(0:Int)<(r.den:Int)by omega)
 omega
theorem qjX {x:Rat} {n:Nat} (h:qae x n):x<=((W^n:Int):Rat)/\ -((W^n:Int):Rat)<=x:=by
 have hd:=x.den_pos
 have h1:(x.num.natAbs:Int)<W^n:=h.1
 have hp:(0:Int)<=W^n:=by omega
 have hm:W^n*1<=W^n*(x.den:Int):=Int.mul_le_mul_of_nonneg_left (by omega) hp
 rw[<-Rat.intCast_neg]
 constructor
 ·rw[Rat.le_iff,Rat.num_intCast,Rat.den_intCast]
  omega
 rw[Rat.le_iff,Rat.num_intCast,Rat.den_intCast,Int.neg_mul]
 omega
theorem qmF {x:Rat} {n m:Nat} (hx:qae x n) {c d:Int} (h0:0<=d) (hd:d<=m) (hm:m<=1000) (h1:(c:Rat)-x*(d:Rat)<=1) (h2: -1<=(c:Rat)-x*(d:Rat)):Fit c (n+1):=by
 obtain⟨b1,b2⟩:=qjX hx
 have hd':(0:Rat)<=(d:Rat):=Rat.intCast_nonneg.2 h0
 have hW:(1:Int)<=W^n:=pow_pos (show(0:Int)<W by decide) n
 have m1:=Rat.mul_le_mul_of_nonneg_right b1 hd'
 have m2:=Rat.mul_le_mul_of_nonneg_right b2 hd'
 have u1:(c:Rat)<=((W^n*d+1:Int):Rat):=by
  rw[Rat.intCast_add,Rat.intCast_mul,show((1:Int):Rat)=1 from rfl]
  grind
 have u2:((-(W^n*d+1):Int):Rat)<=(c:Rat):=by
  rw[Rat.intCast_neg,Rat.intCast_add,Rat.intCast_mul,show((1:Int):Rat)=1 from rfl]
  grind
 rw[Rat.intCast_le_intCast]at u1 u2
 have m3:W^n*d<=W^n*1000:=Int.mul_le_mul_of_nonneg_left (by omega) (by omega)
 have e:W^(n+1)=W^n*W:=Int.pow_succ ..
 have m4:W^n*1001<W^n*W:=Int.mul_lt_mul_of_pos_left (by decide) (by omega)
 unfold Fit
 omega
structure Cvg (x:Rat) (m:Nat) (a b c d:Int) (r:Rat):Prop where
 b0:0<=b
 d0:0<=d
 bm:b<=m
 dm:d<=m
 st:(b=1/\d=0)\/(1<=d/\1<r)
 fr:qae r 4
 za:Fit a 5
 zc:Fit c 5
 eq:x*((d:Rat)*r+(b:Rat))=(c:Rat)*r+(a:Rat)
 det:c*b-d*a=1\/c*b-d*a= -1
theorem qlL {r:Rat} (h:1<r):1<=r.floor:=by
 rw[Rat.le_floor_iff]
 exact Rat.le_of_lt h
theorem Cvg.next {x:Rat} {m:Nat} {a b c d:Int} {r:Rat} (h:Cvg x m a b c d r) (hm1:1<=m) (hm:m<=1000) (fx:qae x 4) (hd:d*r.floor+b<=m) (hr:r≠(r.floor:Rat)):
 Cvg x m c d (c*r.floor+a) (d*r.floor+b) (r-(r.floor:Rat))⁻¹/\1<=d*r.floor+b/\b+d+1<=d+(d*r.floor+b)+(if d=0 then 1 else 0):=by
 have hpos:0<r-(r.floor:Rat):=by
  rw[<-Rat.lt_iff_sub_pos]
  exact Rat.lt_of_le_of_ne (Rat.floor_le _) (Ne.symm hr)
 have hlt:r-(r.floor:Rat)<1:=by
  have:=Rat.lt_floor_add_one r
  rw[Rat.intCast_add,show((1:Int):Rat)=1 from rfl]at this
  grind
 have hne:r-(r.floor:Rat)≠0:=Rat.ne_of_gt hpos
 have k1:1<=d*r.floor+b/\b+d+1<=d+(d*r.floor+b)+(if d=0 then 1 else 0):=by
  rcases h.st with⟨e1,e2⟩|⟨e1,e2⟩
  ·rw[e1,e2]
   simp
  have f1:=qlL e2
  have:=Int.mul_le_mul_of_nonneg_left f1 h.d0
  have:=h.b0
  rw[if_neg (by omega)]
  omega
 have hinv:=Rat.mul_inv_cancel _ hne
 have hs:(1:Rat)<(r-(r.floor:Rat))⁻¹:=by
  have p:=Rat.inv_pos.2 hpos
  have:=Rat.mul_lt_mul_of_pos_right hlt p
  rw[hinv,Rat.one_mul]at this
  exact this
 generalize hg:(r-(r.floor:Rat))⁻¹=s at*
 have er:r=(r.floor:Rat)+s⁻¹:=by
  rw[<-hg,Rat.inv_inv]
  grind
 generalize hk:r.floor=k at*
 have es:(r-(k:Rat))*s=1:=hinv
 have e2:x*(((d*k+b:Int):Rat)*s+(d:Rat))=((c*k+a:Int):Rat)*s+(c:Rat):=by
  have h1:=h.eq
  rw[Rat.intCast_add,Rat.intCast_mul,Rat.intCast_add,Rat.intCast_mul]
  have h2:x*((d:Rat)*r+(b:Rat))*s=((c:Rat)*r+(a:Rat))*s:=by rw[h1]
  have h3:r*s=1+(k:Rat)*s:=by grind
  have h4:x*((d:Rat)*(r*s)+(b:Rat)*s)=(c:Rat)*(r*s)+(a:Rat)*s:=by grind
  rw[h3]at h4
  grind
 have dt:(c*k+a)*d-(d*k+b)*c=1\/(c*k+a)*d-(d*k+b)*c= -1:=by
  have:(c*k+a)*d-(d*k+b)*c= -(c*b-d*a):=by grind
  rcases h.det with e|e
  ·right;rw[this,e]
  left;rw[this,e];rfl
 refine⟨?_,k1⟩
 have D1:(1:Rat)<=((d*k+b:Int):Rat)*s+(d:Rat):=by
  have a1:(1:Rat)<=((d*k+b:Int):Rat):=by
   have:=Rat.intCast_le_intCast.2 k1.1
   exact this
  have a2:(0:Rat)<=(d:Rat):=Rat.intCast_nonneg.2 h.d0
  have a3:=Rat.mul_le_mul_of_nonneg_right a1 (show(0:Rat)<=s from Rat.le_trans (by decide) (Rat.le_of_lt hs))
  rw[Rat.one_mul]at a3
  have:=Rat.le_of_lt hs
  grind
 have zz:(((c*k+a:Int):Rat)-x*((d*k+b:Int):Rat))*(((d*k+b:Int):Rat)*s+(d:Rat))=(((c*k+a)*d-(d*k+b)*c:Int):Rat):=by
  rw[Rat.intCast_sub,Rat.intCast_mul,Rat.intCast_mul]
  generalize ((c*k+a:Int):Rat)=C at*
  generalize ((d*k+b:Int):Rat)=E at*
  generalize (c:Rat)=c' at*
  generalize (d:Rat)=d' at*
  have:(C-x*E)*(E*s+d')=C*(E*s+d')-E*(x*(E*s+d')):=by grind
  rw[this,e2]
  grind
 have hz:((c*k+a:Int):Rat)-x*((d*k+b:Int):Rat)<=1/\ -1<=((c*k+a:Int):Rat)-x*((d*k+b:Int):Rat):=by
  generalize ((c*k+a:Int):Rat)-x*((d*k+b:Int):Rat)=z at*
  generalize ((d*k+b:Int):Rat)*s+(d:Rat)=D at*
  have hD0:(0:Rat)<=D:=Rat.le_trans (by decide) D1
  have hb:z*D=1\/z*D= -1:=by
   rw[zz]
   rcases dt with e|e
   ·left;rw[e];rfl
   right;rw[e];rfl
  constructor
  ·rw[<-Rat.not_lt]
   intro hc
   have:=Rat.mul_lt_mul_of_pos_right hc (show(0:Rat)<D by grind)
   rw[Rat.one_mul]at this
   grind
  rw[<-Rat.not_lt]
  intro hc
  have:=Rat.mul_lt_mul_of_pos_right hc (show(0:Rat)<D by grind)
  grind
 exact {b0:=h.d0,d0:=by omega,bm:=h.dm,dm:=hd,st:= .inr ⟨k1.1,hs⟩,fr:=by rw[<-hg];exact qml (by rw[<-hk];exact qlD h.fr) (by omega),za:=h.zc,zc:=qmF fx (by omega) hd hm hz.1 hz.2,eq:=e2,det:=dt}
end Go.Av
end
section
namespace Go.Av
set_option linter.unusedVariables false
set_option linter.unusedSimpArgs false
set_option maxRecDepth 100000
theorem qfI {p q:Rat}:((if p<q then-1 else if p=q then 0 else 1:Int)=0)↔p=q:=by
 by_cases h:p<q
 ·rw[if_pos h]
  exact⟨fun c=>absurd c (by decide),fun c=>absurd (c▸h) Rat.lt_irrefl⟩
 rw[if_neg h]
 by_cases e:p=q
 ·rw[if_pos e]
  exact⟨fun _=>e,fun _=>rfl⟩
 rw[if_neg e]
 exact⟨fun c=>absurd c (by decide),fun c=>absurd c e⟩
end Go.Av
end
section
namespace Go.Av
set_option linter.unusedVariables false
set_option linter.unusedSimpArgs false
set_option maxRecDepth 100000
theorem pick {x L M:Rat} {d f:Int} (nL:(L.den:Int)=d) (nM:(M.den:Int)=f) {c:Int}
 (hc:c=if(if(x-L).abs<(x-M).abs then-1 else if(x-L).abs=(x-M).abs then 0 else 1:Int)=0 then(if(if(d:Rat)<(f:Rat)then-1 else if(d:Rat)=(f:Rat)then 0 else 1:Int)=0 then(if L<M then-1 else if L=M then 0 else 1)else(if(d:Rat)<(f:Rat)then-1 else if(d:Rat)=(f:Rat)then 0 else 1))else(if(x-L).abs<(x-M).abs then-1 else if(x-L).abs=(x-M).abs then 0 else 1)):
 (¬c>0->le3 x L M)/\(c>0->le3 x M L):=by
 by_cases h1:(x-L).abs=(x-M).abs
 ·rw[if_pos (qfI.2 h1)]at hc
  by_cases h2:(d:Rat)=(f:Rat)
  ·rw[if_pos (qfI.2 h2)]at hc
   have h2:=Rat.intCast_inj.1 h2
   constructor
   ·intro h
    rw[hc]at h
    exact .inr ⟨h1,.inr ⟨by omega,Rat.not_lt.1 fun k=>h (qb1.2 k)⟩⟩
   intro h
   rw[hc]at h
   exact .inr ⟨h1.symm,.inr ⟨by omega,Rat.le_of_lt (qb1.1 h)⟩⟩
  rw[if_neg (fun k=>h2 (qfI.1 k))]at hc
  constructor
  ·intro h
   rw[hc]at h
   have h:=Rat.not_lt.1 (fun k=>h (qb1.2 k))
   have h3:d≠f:=fun k=>h2 (by rw[k])
   have:=Rat.intCast_le_intCast.1 h
   exact .inr ⟨h1,.inl (by omega)⟩
  intro h
  rw[hc]at h
  have:=Rat.intCast_lt_intCast.1 (qb1.1 h)
  exact .inr ⟨h1.symm,.inl (by omega)⟩
 rw[if_neg (fun k=>h1 (qfI.1 k))]at hc
 constructor
 ·intro h
  rw[hc]at h
  have h:=Rat.not_lt.1 (fun k=>h (qb1.2 k))
  exact .inl (Rat.lt_of_le_of_ne h h1)
 intro h
 rw[hc]at h
 exact .inl (qb1.1 h)
theorem qns {z:Int} {n:Nat} (h:Fit z n) (hn:0<n):(Lib.decDigits z.natAbs).length<=20*n:=by
 refine(xQ (by omega)).2 ?_
 have h1:(z.natAbs:Int)<W^n:=h
 have h2:=(qb6 (x:=W) (y:=100000000000000000000) (by decide) (by decide) n).2
 have h3:(100000000000000000000:Int)^n=((10^(20*n):Nat):Int):=by
  rw[Nat.pow_mul,Int.natCast_pow]
  rfl
 omega
theorem qdz {q:Rat} {n:Nat} (h:qae q n) (hn:0<n):Sml q (20*n):=by
 have:=qns h.2 hn
 rw[Int.natAbs_natCast]at this
 exact⟨qns h.1 hn,this⟩
end Go.Av
end
section
namespace Go.Av
set_option linter.unusedVariables false
set_option linter.unusedSimpArgs false
set_option maxRecDepth 100000
theorem qm4 {n:Nat}:Lib.decDigits n=[48]↔n=0:=by
 constructor
 ·intro h
  exact qjK (h.trans (by rw[zy (by decide)];rfl))
 rintro rfl
 rw[zy (by decide)]
 rfl
theorem ql7 {n:Nat}:Lib.decDigits n=[49]↔n=1:=by
 constructor
 ·intro h
  exact qjK (h.trans (by rw[zy (by decide)];rfl))
 rintro rfl
 rw[zy (by decide)]
 rfl
theorem qiN {q:Rat} (h:Sml q 600):chk (T q)=0:=by
 have n47:=no47 (qaz q.num.natAbs)
 have es:=qgZ n47 q
 have et:(bdy (T q)).take (slA (bdy (T q)))=Lib.decDigits q.num.natAbs:=by
  rw[qi5,es,List.take_append_of_le_length (Nat.le_refl _),List.take_length]
 have hd:=den_pos q
 have ed:slA (bdy (T q))<(bdy (T q)).length↔q.den≠1:=by
  rw[qi5,es,List.length_append]
  unfold tl
  by_cases c:q.den=1
  ·rw[if_pos c]
   simp[c]
  rw[if_neg c]
  simp[c]
 have er:(bdy (T q)).drop (slA (bdy (T q))+1)=if q.den=1 then[]else Lib.decDigits q.den:=by
  rw[qi5,es]
  unfold tl
  by_cases c:q.den=1
  ·rw[if_pos c,if_pos c,List.append_nil,List.drop_of_length_le (by omega)]
  rw[if_neg c,if_neg c,List.drop_append,List.drop_of_length_le (by omega),List.nil_append,show(Lib.decDigits q.num.natAbs).length+1-(Lib.decDigits q.num.natAbs).length=1 by omega]
  rfl
 have hok:okF (T q)=true:=by
  unfold okF
  rw[et,qiR]
  refine decide_eq_true ⟨qnR _,?_⟩
  rintro⟨h1,h2⟩
  have h1:=of_decide_eq_true h1
  have:=qm4.1 h2
  omega
 have hbad:qgo (T q)=false:=by
  unfold qgo
  refine decide_eq_false ?_
  rintro⟨h1,h2⟩
  have c:=ed.1 h1
  rw[er,if_neg c]at h2
  exact h2 ⟨qnR _,fun e=>by have:=qm4.1 e;omega,fun e=>c (ql7.1 e)⟩
 unfold chk
 rw[if_neg (by rw[hok,hbad];simp),et,er,if_neg,if_neg]
 ·rintro⟨h1,h2⟩
  have c:=ed.1 h1
  rw[if_neg c,qbn,qbn]at h2
  exact h2 q.reduced
 have h1:=h.1
 have h2:=h.2
 split<;>simp<;>omega
theorem Num_T {N:Nat} (hN:100000<N) {q:Rat} (hl:(T q).length<=50000):qb5 N (T q)=some (Lib.itoa q.num):=by
 have hs:=qcm (N:=N) (s:=T q) (by omega) (by omega)
 unfold qb5
 rw[hs,ZB]
 by_cases c:q.den=1
 ·obtain⟨t1,t2⟩:=qeN q c
  rw[yj (by omega),ZB,t2,List.take_length,t1]
 obtain⟨t1,t2,t3⟩:=qfK q c
 rw[yj (by omega),ZB,t2]
theorem Den_T {N:Nat} (hN:100000<N) {q:Rat} (hl:(T q).length<=50000):qcg N (T q)=some (Lib.decDigits q.den):=by
 have hs:=qcm (N:=N) (s:=T q) (by omega) (by omega)
 unfold qcg
 rw[hs,ZB]
 by_cases c:q.den=1
 ·obtain⟨t1,t2⟩:=qeN q c
  rw[if_pos (by omega),c,zy (by decide)]
  rfl
 obtain⟨t1,t2,t3⟩:=qfK q c
 rw[if_neg (by omega),zM (by omega),xB (by omega),ZB,t3]
theorem qma {z:Int} (hl:(Lib.itoa z).length<=50000):yS (Lib.itoa z)=some (Lib.decDigits z.natAbs):=by
 have:=qlV (q:=(z:Rat)) (by rw[qlb];omega)
 rw[qlb]at this
 rw[this,qin,Rat.num_intCast]
 by_cases c:z<0
 ·rw[if_pos c,<-Rat.intCast_neg,qlb,zm (by omega),Int.natAbs_neg]
 rw[if_neg c,qlb,zm c]
theorem qnV {N:Nat} (hN:600000<N) {s:Str} {d:Nat} (hd:0<d) (hd2:d<=1000): ∃b,qbj N s (d:Int)=some b/\(b=true-> ∃q:Rat,s=T q/\Sml q d/\chk (T q)=0):=by
 unfold qbj
 rw[qf (n:=2*(d:Int)) (by omega) (by omega),qf (n:=2*(d:Int)+2) (by omega) (by omega)]
 by_cases c:(s.length:Int)<=2*(d:Int)+2
 ·rw[if_pos c,qeY hN (by omega),ZB]
  by_cases hc:chk s=0
  ·obtain⟨q,rfl,q1,q2⟩:=qgq hc
   have li:=qfF q.num
   rw[if_pos hc,Num_T (by omega) (by omega),ZB,qma (by omega),ZB,Den_T (by omega) (by omega),ZB]
   by_cases e:(Lib.decDigits q.num.natAbs).length<=d
   ·rw[if_pos (by omega),ZB]
    exact⟨_,rfl,fun h=>⟨q,rfl,⟨e,by have:=of_decide_eq_true h;omega⟩,hc⟩⟩
   rw[if_neg (by omega),ZB]
   exact⟨_,rfl,fun h=>by cases h⟩
  rw[if_neg hc,ZB]
  exact⟨_,rfl,fun h=>by cases h⟩
 rw[if_neg c,ZB]
 exact⟨_,rfl,fun h=>by cases h⟩
end Go.Av
end
section
namespace Go.Av
set_option linter.unusedVariables false
set_option linter.unusedSimpArgs false
set_option maxRecDepth 100000
def nsq:Nat->Nat
 |0=>0
 |a+1=>if(nsq a+1)*(nsq a+1)<=a+1 then nsq a+1 else nsq a
theorem qiE: ∀a:Nat,nsq a*nsq a<=a/\a<(nsq a+1)*(nsq a+1)
 |0=>by decide
 |a+1=>by
  obtain⟨h1,h2⟩:=qiE a
  rw[nsq]
  by_cases c:(nsq a+1)*(nsq a+1)<=a+1
  ·rw[if_pos c]
   refine⟨c,?_⟩
   generalize nsq a=s at*
   have:(s+1+1)*(s+1+1)=(s+1)*(s+1)+2*s+3:=by grind
   omega
  rw[if_neg c]
  generalize nsq a=s at*
  have:(s+1)*(s+1)=s*s+2*s+1:=by grind
  omega
def isq (z:Int):Int:=(nsq z.toNat:Int)
theorem qaX {z:Int} (h:0<=z):0<=isq z/\isq z*isq z<=z/\z<(isq z+1)*(isq z+1):=by
 obtain⟨h1,h2⟩:=qiE z.toNat
 unfold isq
 generalize nsq z.toNat=s at*
 have e1:((s*s:Nat):Int)=(s:Int)*(s:Int):=Int.natCast_mul ..
 have e2:(((s+1)*(s+1):Nat):Int)=((s:Int)+1)*((s:Int)+1):=Int.natCast_mul ..
 omega
theorem qks {a b:Int} (ha:0<=a) (h:a<=b):a*a<=b*b:=Int.mul_le_mul h h ha (by omega)
theorem qjy {z s:Int} (h0:0<=s) (h1:s*s<=z) (h2:z<(s+1)*(s+1)):isq z=s:=by
 have hz:0<=z:=Int.le_trans (Int.mul_nonneg h0 h0) h1
 obtain⟨g0,g1,g2⟩:=qaX hz
 rcases Int.lt_trichotomy (isq z) s with c|c|c
 ·have:=qks (show 0<=isq z+1 by omega) (show isq z+1<=s by omega)
  omega
 ·exact c
 have:=qks (show 0<=s+1 by omega) (show s+1<=isq z by omega)
 omega
theorem qlY {s:Int} (h:0<=s):isq (s*s)=s:=by
 refine qjy h (Int.le_refl _) ?_
 have:(s+1)*(s+1)=s*s+2*s+1:=by grind
 omega
theorem qj9 {z:Int} (h:0<=z):isq z<=z:=by
 obtain⟨g0,g1,g2⟩:=qaX h
 rcases Int.lt_or_le (isq z) 1 with c|c
 ·omega
 have:=Int.mul_le_mul_of_nonneg_left c g0
 omega
theorem qpa {z s v:Int} (hs:0<s) (h1:s*s<=z) (h2:z<(s+1)*(s+1)) (hv:s<=v):s<=(v+z/v)/2/\(v<=(v+z/v)/2->v=s)/\((v+z/v)/2<v->z/v<=s/\s<v):=by
 have v0:0<v:=by omega
 have d0:0<=z/v:=Int.ediv_nonneg (Int.le_trans (Int.mul_nonneg (by omega) (by omega)) h1) (by omega)
 have a1:2*s-v<=z/v:=by
  rw[Int.le_ediv_iff_mul_le v0]
  have e:(2*s-v)*v=s*s-(v-s)*(v-s):=by grind
  have:=Int.mul_nonneg (show 0<=v-s by omega) (show 0<=v-s by omega)
  omega
 refine⟨by omega,fun h=>?_,fun h=>?_⟩
 ·have a2:v<=z/v:=by omega
  rw[Int.le_ediv_iff_mul_le v0]at a2
  rcases Int.lt_or_le s v with c|c
  ·have:=qks (show 0<=s+1 by omega) (show s+1<=v by omega)
   omega
  omega
 have c:s<v:=by
  rcases Int.lt_or_le s v with c|c
  ·exact c
  have e:v=s:=by omega
  subst e
  have:v<=z/v:=by
   rw[Int.le_ediv_iff_mul_le v0]
   exact h1
  omega
 refine⟨?_,c⟩
 have:z<(s+1)*v:=Int.lt_of_lt_of_le h2 (Int.mul_le_mul_of_nonneg_left (by omega) (by omega))
 have:=Int.ediv_lt_of_lt_mul v0 this
 omega
theorem qkE {N:Nat} (hN:600000<N) {a:qj} {z s:Int} (ia:IsZ a z) {B:Nat} (hB:B<=900) (fz:Fit z B) (hs:0<s) (h1:s*s<=z) (h2:z<(s+1)*(s+1)):
 ∀(k K:Nat) (x:qj) (v:Int),IsZ x v->s<=v->Fit v B->v-s<2^k->k<K-> ∃r,jO N a K x.s x.w=some r/\IsZ r s
 |k,0,x,v,_,_,_,_,hK=>by omega
 |k,K+1,x,v,ix,hv,fv,hk,hK=>by
  have zz:0<=z:=Int.le_trans (Int.mul_nonneg (by omega) (by omega)) h1
  have v0:0<v:=by omega
  obtain⟨n1,n2,n3⟩:=qpa hs h1 h2 hv
  have d0:0<=z/v:=Int.ediv_nonneg zz (by omega)
  have fq:Fit (z/v) B:=yz (jL _ v0) fz
  obtain⟨q,r,e1,iq,ir⟩:=qbc (N:=N) (by omega) ia ix (fz.mono (by omega)) (fv.mono (by omega)) v0
  obtain⟨t,e2,it⟩:=qgQ (N:=N) (by omega) ix iq (fv.mono (by omega)) (fq.mono (by omega))
  have i2:IsZ ⟨2,[]⟩ 2:=IsZ.small (by decide) (by decide)
  have ft:Fit (v+z/v) (B+1):=qkx fv fq
  obtain⟨y,r',e3,iy,ir'⟩:=qbc (N:=N) (by omega) it i2 (ft.mono (by omega)) ((fit1 (by decide) (by decide):Fit 2 1).mono (by omega)) (by decide)
  have fy:Fit ((v+z/v)/2) (B+1):=yz (jL _ (by decide)) ft
  have e4:=qip (N:=N) (by omega) iy ix (fy.mono (by omega)) (fv.mono (by omega))
  rw[jO]
  rw[show qW N a ⟨x.s,x.w⟩=some (q,r)from e1,ZB]
  simp only
  rw[show jF N ⟨x.s,x.w⟩ q=some t from e2,ZB,qdk,ZB,e3,ZB]
  simp only
  rw[show vQ N y ⟨x.s,x.w⟩=_ from e4,ZB]
  rcases Int.lt_or_le ((v+z/v)/2) v with c|c
  ·obtain⟨m1,m2⟩:=n3 c
   rw[if_pos c,if_neg (show¬(-1:Int)>=0 by decide)]
   match k,hk,hK with
   |0,hk,hK=>simp at hk;omega
   |k+1,hk,hK=>
    rw[Int.pow_succ]at hk
    exact qkE hN ia hB fz hs h1 h2 k K y _ iy n1 (yz (by omega) fv) (by omega) (by omega)
  have hge:(if(v+z/v)/2<v then-1 else if(v+z/v)/2=v then 0 else 1:Int)>=0:=by
   rw[if_neg (by omega)]
   split<;>decide
  rw[if_pos hge]
  exact⟨x,rfl,by rw[<-n2 c];exact ix⟩
theorem qoe {x:qj} {z:Int} {B:Nat} (hB:B<=3900) (h:IsZ x z) (fz:Fit z B): ∃b:Nat,vO x=some (b:Int)/\b<=64*B/\(z.natAbs:Int)<2^b:=by
 unfold vO
 rw[parts_eq h,ZB]
 simp only
 have hz:(0:Int)<=(z.natAbs:Int):=by omega
 have cc:=zx W1 hz
 have vv:=jf W1 hz
 have ll:=fz.len
 generalize dg W (z.natAbs:Int)=w at*
 by_cases h0:w.length=0
 ·rw[if_pos (by omega)]
  rw[List.length_eq_zero_iff.1 h0,kg]at vv
  exact⟨0,rfl,by omega,by rw[<-vv];decide⟩
 have hk:w.length-1<w.length:=by omega
 have ax:=cc.1.at hk
 obtain⟨l,e,hl⟩:=qgw ax.1 ax.2
 have hl0:0<=l/\l<=64:=by
  rcases hl with⟨_,h⟩|⟨h1,h2,_⟩<;>omega
 have hl2:w[w.length-1]<2^l.toNat:=by
  rcases hl with⟨h1,h2⟩|⟨_,_,_,h⟩
  ·rw[h1,h2];decide
  exact h
 rw[if_neg (by omega),qf6 (by omega) (by omega),qw,List.getElem?_eq_getElem hk,ZB,e,ZB,qf (n:=64*((w.length-1:Nat):Int)) (by omega) (by omega),qf (by omega) (by omega)]
 refine⟨64*(w.length-1)+l.toNat,by congr 1;omega,by omega,?_⟩
 have e1:=ql W w (w.length-1) hk
 rw[List.take_of_length_le (by omega),vv]at e1
 have h1:=vV W0 (cc.1.take (w.length-1))
 rw[List.length_take,Nat.min_eq_left (by omega)]at h1
 have e2:(2:Int)^(64*(w.length-1)+l.toNat)=W^(w.length-1)*2^l.toNat:=by
  rw[Int.pow_add,Int.pow_mul]
  rfl
 have h2:W^(w.length-1)*(w[w.length-1]+1)<=W^(w.length-1)*2^l.toNat:=Int.mul_le_mul_of_nonneg_left (by omega) (Int.le_of_lt (pow_pos W0 _))
 rw[Int.mul_add,Int.mul_one]at h2
 rw[e2]
 omega
theorem qnf {m B:Nat} (h:m<64*B):Fit ((2:Int)^m) B:=by
 have e:(2:Int)^(64*B)=W^B:=by
  rw[Int.pow_mul]
  rfl
 have h1:(2:Int)^m*1<=2^m*2^(64*B-m-1):=Int.mul_le_mul_of_nonneg_left (pow_pos (by decide) _) (Int.le_of_lt (pow_pos (by decide) _))
 have h2:(2:Int)^(64*B)=2^m*2^(64*B-m-1)*2:=by
  rw[<-Int.pow_add,<-Int.pow_succ]
  congr 1
  omega
 have h3:(0:Int)<2^m:=pow_pos (by decide) _
 unfold Fit
 rw[<-e,h2,show(((2:Int)^m).natAbs:Int)=2^m by omega]
 omega
theorem qhU {N:Nat} (hN:600000<N) {x:qj} {z:Int} (h:IsZ x z) (hz:0<=z) {B:Nat} (hB1:1<=B) (hB:B<=100) (fz:Fit z B): ∃r,yK N x=some r/\IsZ r (isq z):=by
 obtain⟨s0,s1,s2⟩:=qaX hz
 unfold yK
 rw[qbM h,ZB]
 by_cases h0:z=0
 ·rw[if_neg (show¬z<0 by omega),if_pos h0,if_pos rfl]
  refine⟨x,rfl,?_⟩
  rw[show isq z=z by rw[h0];rfl]
  exact h
 rw[if_neg (show¬z<0 by omega),if_neg h0,if_neg (by decide),qdk,ZB]
 have hs:0<isq z:=by
  rcases Int.lt_or_le 0 (isq z)with c|c
  ·exact c
  rw[show isq z=0 by omega]at s2
  omega
 obtain⟨b,e1,b1,b2⟩:=qoe (by omega) h fz
 obtain⟨m,hm⟩: ∃m:Nat,m=(b+1)/2:=⟨_,rfl⟩
 have em:w64 ((w64 ((b:Int)+1)).tdiv 2)=(m:Int):=by
  rw[zM (by omega),Int.tdiv_eq_ediv_of_nonneg (by omega),qf (by omega) (by omega)]
  omega
 have i2:IsZ ⟨2,[]⟩ 2:=IsZ.small (by decide) (by decide)
 obtain⟨v,e2,iv⟩:=qmU (N:=N) (n:=m) (mb:=1) (by omega) (by omega) i2 (fit1 (by decide) (by decide)) (by omega)
 have hp:(0:Int)<2^m:=pow_pos (by decide) _
 have hsv:isq z<=2^m:=by
  rcases Int.lt_or_le (2^m) (isq z)with c|c
  ·exfalso
   have q1:=qks (Int.le_of_lt hp) (Int.le_of_lt c)
   have q2:(2:Int)^m*2^m=2^(m+m):=(Int.pow_add 2 m m).symm
   have q3:(2:Int)^b<=2^(m+m):=jZ (by decide) (by omega)
   omega
  exact c
 obtain⟨r,e3,ir⟩:=qkE hN h (by omega) fz hs s1 s2 m N v _ iv hsv (qnf (by omega)) (by omega) (by omega)
 rw[e1,ZB,em,e2,ZB,e3,ZB]
 exact⟨r,rfl,ir⟩
end Go.Av
end
section
namespace Go.Av
set_option linter.unusedVariables false
set_option linter.unusedSimpArgs false
set_option maxRecDepth 100000
theorem qhY {r:Rat} (h:0<=r):isq (r*r).num=r.num/\isq ((r*r).den:Int)=(r.den:Int):=by
 have e:r*r=r^2:=by rw[show(2:Nat)=1+1 from rfl,Rat.pow_succ,Rat.pow_one]
 have hn:=Rat.num_nonneg.2 h
 rw[e,Rat.num_pow,Rat.den_pow,show r.num^2=r.num*r.num by rw[Int.pow_succ,Int.pow_succ,Int.pow_zero,Int.one_mul],show((r.den^2:Nat):Int)=(r.den:Int)*(r.den:Int)by rw[Nat.pow_succ,Nat.pow_succ,Nat.pow_zero,Nat.one_mul];exact Int.natCast_mul ..]
 exact⟨qlY hn,qlY (by omega)⟩
theorem qon {q:Rat} (h:0<=q) (h1:isq q.num*isq q.num=q.num) (h2:isq (q.den:Int)*isq (q.den:Int)=(q.den:Int)): ∃r:Rat,0<=r/\r*r=q/\r.num=isq q.num/\(r.den:Int)=isq (q.den:Int):=by
 have hn:=Rat.num_nonneg.2 h
 have hd:=q.den_pos
 obtain⟨a0,_,_⟩:=qaX hn
 obtain⟨b0,_,_⟩:=qaX (z:=(q.den:Int)) (by omega)
 generalize isq q.num=a at*
 generalize isq (q.den:Int)=b at*
 have bp:0<b:=by
  rcases Int.lt_or_le 0 b with c|c
  ·exact c
  rw[show b=0 by omega]at h2
  omega
 have hg:Int.gcd b a=1:=by
  have g1:(Int.gcd b a:Int)∣q.num:=by rw[<-h1];exact Int.dvd_mul_of_dvd_left (Int.gcd_dvd_right ..)
  have g2:(Int.gcd b a:Int)∣(q.den:Int):=by rw[<-h2];exact Int.dvd_mul_of_dvd_left (Int.gcd_dvd_left ..)
  have g3:Int.gcd b a∣Nat.gcd q.num.natAbs q.den:=Nat.dvd_gcd (Int.natAbs_dvd_natAbs.2 g1) (Int.ofNat_dvd.1 g2)
  rw[show Nat.gcd q.num.natAbs q.den=1 from q.reduced]at g3
  exact Nat.dvd_one.1 g3
 have en:(Rat.divInt a b).num=a:=by
  rw[Rat.num_divInt,hg,Int.sign_eq_one_of_pos bp,Int.one_mul]
  exact Int.ediv_one _
 have ed:((Rat.divInt a b).den:Int)=b:=by
  rw[Rat.den_divInt,if_neg (by omega),hg,Nat.div_one]
  omega
 refine⟨Rat.divInt a b,Rat.divInt_nonneg a0 (by omega),?_,en,ed⟩
 rw[Rat.divInt_mul_divInt,h1,h2,Rat.num_divInt_den]
theorem qlW {N:Nat} (hN:600000<N) {f:qZ} {q:Rat} (h:IsF f q) (h0:0<=q) {B:Nat} (hB1:1<=B) (hB:B<=100) (fq:qae q B):
 ∃(g:qZ) (b:Bool),xV N f=some (g,b)/\(b=true-> ∃r:Rat,0<=r/\r*r=q/\IsF g r/\qae r B)/\(b=false-> ∀r:Rat,0<=r->r*r≠q):=by
 have hn:=Rat.num_nonneg.2 h0
 have hd:=q.den_pos
 obtain⟨a0,a1,a2⟩:=qaX hn
 obtain⟨b0,b1,b2⟩:=qaX (z:=(q.den:Int)) (by omega)
 obtain⟨n,e1,i1⟩:=qhU hN h.1 hn hB1 hB fq.1
 obtain⟨d,e2,i2⟩:=qhU hN h.2 (by omega) hB1 hB fq.2
 have fn:Fit (isq q.num) B:=yz (by have:=qj9 hn;omega) fq.1
 have fd:Fit (isq (q.den:Int)) B:=yz (by have:=qj9 (z:=(q.den:Int)) (by omega);omega) fq.2
 obtain⟨u,e3,i3⟩:=qej (N:=N) (by omega) i1 i1 (fn.mono (by omega)) (fn.mono (by omega))
 obtain⟨v,e4,i4⟩:=qej (N:=N) (by omega) i2 i2 (fd.mono (by omega)) (fd.mono (by omega))
 have e5:=qip (N:=N) (by omega) i3 h.1 ((qbL fn fn).mono (by omega)) (fq.1.mono (by omega))
 have e6:=qip (N:=N) (by omega) i4 h.2 ((qbL fd fd).mono (by omega)) (fq.2.mono (by omega))
 have nl: ¬isq q.num*isq q.num>q.num:=by omega
 unfold xV
 rw[qgS h,ZB,if_neg (fun c=>by rw[if_neg (by omega)]at c;split at c<;>omega),e1,ZB,e2,ZB,e3,ZB,e5,ZB,e4,ZB,e6,ZB]
 by_cases c:isq q.num*isq q.num=q.num
 ·rw[if_pos (show(if isq q.num*isq q.num<q.num then-1 else if isq q.num*isq q.num=q.num then 0 else 1:Int)=0 by rw[if_neg (by omega),if_pos c]),ZB]
  by_cases k:isq (q.den:Int)*isq (q.den:Int)=(q.den:Int)
  ·obtain⟨r,r0,r1,r2,r3⟩:=qon h0 c k
   refine⟨_,true,by rw[decide_eq_true (show(if isq (q.den:Int)*isq (q.den:Int)<(q.den:Int)then-1 else if isq (q.den:Int)*isq (q.den:Int)=(q.den:Int)then 0 else 1:Int)=0 by rw[if_neg (by omega),if_pos k])],fun _=>⟨r,r0,r1,⟨by rw[r2];exact i1,by rw[r3];exact i2⟩,⟨by rw[r2];exact fn,by rw[r3];exact fd⟩⟩,fun x=>(by cases x)⟩
  refine⟨_,false,by rw[decide_eq_false (show¬(if isq (q.den:Int)*isq (q.den:Int)<(q.den:Int)then-1 else if isq (q.den:Int)*isq (q.den:Int)=(q.den:Int)then 0 else 1:Int)=0 by rw[if_pos (by omega)];decide)],fun x=>(by cases x),fun _ r hr e=>k ?_⟩
  rw[<-e,(qhY hr).2]
  have:=(qhY hr).2
  rw[e]at this
  rw[this]at b1
  have hs:r*r=r^2:=by rw[show(2:Nat)=1+1 from rfl,Rat.pow_succ,Rat.pow_one]
  rw[hs,Rat.den_pow,Nat.pow_succ,Nat.pow_succ,Nat.pow_zero,Nat.one_mul]
  exact(Int.natCast_mul ..).symm
 rw[if_neg (show¬(if isq q.num*isq q.num<q.num then-1 else if isq q.num*isq q.num=q.num then 0 else 1:Int)=0 by rw[if_pos (by omega)];decide),ZB]
 refine⟨_,false,rfl,fun x=>(by cases x),fun _ r hr e=>c ?_⟩
 rw[<-e,(qhY hr).1]
 have hs:r*r=r^2:=by rw[show(2:Nat)=1+1 from rfl,Rat.pow_succ,Rat.pow_one]
 rw[hs,Rat.num_pow,Int.pow_succ,Int.pow_succ,Int.pow_zero,Int.one_mul]
theorem qjI {a b:Rat} (ha:0<=a) (hb:0<=b) (h:a*a<=b*b):a<=b:=by
 rw[<-Rat.not_lt]
 intro c
 have h1:=Rat.mul_le_mul_of_nonneg_left (Rat.le_of_lt c) hb
 have h2:=Rat.mul_lt_mul_of_pos_right c (show 0<a by grind)
 grind
theorem qoA {a b:Rat} (ha:0<=a) (hb:0<=b) (h:a*a=b*b):a=b:=Rat.le_antisymm (qjI ha hb (by rw[h];exact Rat.le_refl)) (qjI hb ha (by rw[h];exact Rat.le_refl))
theorem qhN (k:Int):Rat.divInt k 1000*1000=(k:Rat):=by
 rw[Rat.divInt_eq_div]
 exact Rat.div_mul_cancel (by decide)
theorem qgP {N:Nat} (hN:600000<N) {p:Rat} (h0:0<=p) (sp:Sml p 80) (cp:chk (T p)=0): ∃lo hi:Rat,vM N (T p)=some (⟨T lo,T hi⟩,0)/\0<=lo/\lo<=hi/\lo*lo<=p/\p<=hi*hi/\hi-lo<=Rat.divInt 1 1000/\Sml lo 220/\Sml hi 220/\(∀r:Rat,0<=r->r*r=p->lo=r/\hi=r):=by
 have fp:qae p 5:=qmI sp (by omega) (by omega)
 have lp:=qcU sp
 obtain⟨f,e1,i1⟩:=qkX hN (sp.mono (show 80<=9000 by omega))
 obtain⟨g,b,e2,g1,g2⟩:=qlW hN i1 h0 (B:=5) (by omega) (by omega) fp
 have hd:(0:Rat)<=Rat.divInt 1 1000:=Rat.divInt_nonneg (by decide) (by decide)
 unfold vM
 rw[qhx hN (by omega),cp,ZB,if_neg (by simp),e1,ZB,qgS i1,ZB,if_neg (fun c=>absurd (qk9.2 h0) (by omega)),e2,ZB]
 simp only
 cases b with
 |true=>
  obtain⟨r,r0,r1,r2,r3⟩:=g1 rfl
  have sr:Sml r 100:=qdz r3 (by omega)
  rw[if_pos rfl,qkr hN r2 r2 (r3.mono (by omega)) (r3.mono (by omega)),qgl (sr.mono (by omega)),if_neg (by simp),ZB]
  refine⟨r,r,rfl,r0,Rat.le_refl,by rw[r1];exact Rat.le_refl,by rw[r1];exact Rat.le_refl,by rw[Rat.sub_self];exact hd,sr.mono (by omega),sr.mono (by omega),fun r' h h'=>?_⟩
  have:=qoA r0 h (r1.trans h'.symm)
  exact⟨this,this⟩
 |false=>
  have g2:=g2 rfl
  have z6:qae ((1000000:Int):Rat) 5:=qmO ((fit1 (by decide) (by decide):Fit 1000000 1).mono (by omega)) (by omega)
  obtain⟨m,e3,i3⟩:=F_eq (n:=1000000) (by decide) (by decide)
  obtain⟨u,e4,i4⟩:=qoo hN i1 i3 (n:=5) (by omega) fp z6
  have fu:=qm1 fp z6
  obtain⟨v,e5,i5⟩:=qly hN i4 (fu.mono (by omega))
  have fz:Fit (p*((1000000:Int):Rat)).floor 10:=(qlE fu.1).mono (by omega)
  have up0:0<=p*((1000000:Int):Rat):=Rat.mul_nonneg h0 (by decide)
  have z0:0<=(p*((1000000:Int):Rat)).floor:=by
   rw[Rat.le_floor_iff]
   exact up0
  have q1:=Rat.floor_le (p*((1000000:Int):Rat))
  have q2:=Rat.lt_floor_add_one (p*((1000000:Int):Rat))
  generalize (p*((1000000:Int):Rat)).floor=z at*
  obtain⟨w,e6,i6⟩:=qhU hN i5 z0 (B:=10) (by omega) (by omega) fz
  obtain⟨s0,s1,s2⟩:=qaX z0
  have fk:Fit (isq z) 10:=yz (by have:=qj9 z0;omega) fz
  have f1:Fit (1:Int) 10:=F1 (by omega)
  have f3:Fit (1000:Int) 11:=(fit1 (by decide) (by decide):Fit 1000 1).mono (by omega)
  obtain⟨x1,e7,i7⟩:=qid hN i6 (IsZ.small (z:=1000) (by decide) (by decide)) (fk.mono (by omega)) (f3.mono (by omega)) (by decide)
  obtain⟨w2,e8,i8⟩:=qgQ (N:=N) (by omega) i6 (IsZ.small (z:=1) (by decide) (by decide)) (fk.mono (by omega)) (f1.mono (by omega))
  have fk1:Fit (isq z+1) 11:=(qkx fk f1)
  obtain⟨x2,e9,i9⟩:=qid hN i8 (IsZ.small (z:=1000) (by decide) (by decide)) (fk1.mono (by omega)) (f3.mono (by omega)) (by decide)
  have d1:=qhN (isq z)
  have d2:=qhN (isq z+1)
  have fl:qae (Rat.divInt (isq z) 1000) 11:=qcN (by decide) (fk.mono (by omega)) f3
  have fh:qae (Rat.divInt (isq z+1) 1000) 11:=qcN (by decide) fk1 f3
  have nl:0<=Rat.divInt (isq z) 1000:=Rat.divInt_nonneg s0 (by decide)
  have nh:0<=Rat.divInt (isq z+1) 1000:=Rat.divInt_nonneg (by omega) (by decide)
  have d3:=qhN 1
  have c1:=Rat.intCast_le_intCast.2 s1
  have c2:=Rat.intCast_le_intCast.2 (show z+1<=(isq z+1)*(isq z+1)by omega)
  rw[Rat.intCast_mul]at c1 c2
  generalize hlo:Rat.divInt (isq z) 1000=lo at*
  generalize hhi:Rat.divInt (isq z+1) 1000=hi at*
  generalize Rat.divInt 1 1000=dl at*
  have dhl:hi-lo=dl:=by
   rw[Rat.intCast_add]at d2
   have:((1:Int):Rat)=1:=rfl
   grind
  rw[if_neg (by simp),e3,ZB,e4,ZB,e5,ZB,e6,ZB,qdk,ZB,e7,ZB,qdk,ZB,e8,ZB,ZB,e9,ZB,qkr hN i7 i9 (fl.mono (by omega)) (fh.mono (by omega)),qgl ((qdz fl (by omega)).mono (by omega)),qgl ((qdz fh (by omega)).mono (by omega)),if_neg (by simp),ZB]
  refine⟨lo,hi,rfl,nl,by grind,?_,?_,by rw[dhl];exact Rat.le_refl,(qdz fl (by omega)).mono (by omega),(qdz fh (by omega)).mono (by omega),fun r hr h=>absurd h (g2 r hr)⟩
  ·rw[<-d1]at c1
   have:lo*lo*1000000<=p*1000000:=by
    have e:((1000000:Int):Rat)=1000000:=rfl
    rw[e]at q1
    grind
   exact Rat.le_of_mul_le_mul_right this (by decide)
  rw[<-d2]at c2
  have:p*1000000<=hi*hi*1000000:=by
   have e:((1000000:Int):Rat)=1000000:=rfl
   rw[e]at q2
   have:=Rat.le_of_lt q2
   grind
  exact Rat.le_of_mul_le_mul_right this (by decide)
end Go.Av
end
section
namespace Go.Av
set_option linter.unusedVariables false
set_option linter.unusedSimpArgs false
set_option maxRecDepth 100000
theorem qpc:Lib.decDigits 1000=[49,48,48,48]:=by
 rw[qbW (by decide),qbW (by decide),qbW (by decide),zy (by decide)]
 rfl
theorem qk0:T (Rat.divInt 1 1000)=[49,47,49,48,48,48]:=by
 have h1:(Rat.divInt 1 1000).num=1:=by
  rw[Rat.num_divInt]
  decide
 have h2:(Rat.divInt 1 1000).den=1000:=by
  rw[Rat.den_divInt,if_neg (by decide)]
  decide
 unfold T
 rw[h1,h2,if_neg (by decide),qpc,show Lib.itoa 1=[49]from(qdI 1).trans (ql7.2 rfl)]
 rfl
theorem qlB:Sml (Rat.divInt 1 1000) 6:=qke (by decide) (by rw[qk0];decide)
theorem qew {q:Rat}:((if q.num<0 then-1 else if q.num=0 then 0 else 1:Int)<0)↔q<0:=by
 rw[<-Int.not_le,<-Rat.not_le]
 exact not_congr qk9
theorem qlS {N:Nat} (hN:600000<N) {p:Rat} (h0:p<0) (sp:Sml p 80) (cp:chk (T p)=0):vM N (T p)=some (⟨[],[]⟩,3):=by
 have lp:=qcU sp
 obtain⟨f,e1,i1⟩:=qkX hN (sp.mono (show 80<=9000 by omega))
 unfold vM
 rw[qhx hN (by omega),cp,ZB,if_neg (by simp),e1,ZB,qgS i1,ZB,if_pos (qew.2 h0)]
theorem qdU {N:Nat} (hN:600000<N) (s t:Str):yg N s t=some true:=by
 obtain⟨u,hu,fu⟩:=qnV hN (s:=s) (d:=30) (by omega) (by omega)
 obtain⟨v,hv,fv⟩:=qnV hN (s:=t) (d:=30) (by omega) (by omega)
 unfold yg
 rw[show awk=some true from rfl,ZB,if_neg (by simp),show(30:Int)=((30:Nat):Int)from rfl,hu,ZB]
 cases u with
 |false=>rw[if_pos (show(!false)=true from rfl),ZB,if_pos rfl,ZB]
 |true=>
  rw[if_neg (by simp),hv,ZB,ZB]
  cases v with
  |false=>rw[if_pos (show(!false)=true from rfl),ZB]
  |true=>
   obtain⟨a,rfl,sa,ca⟩:=fu rfl
   obtain⟨b,rfl,sb,cb⟩:=fv rfl
   rw[if_neg (by simp)]
   have sbb:Sml (b*b) 72:=(qij (n:=4) (by omega) (sb.mono (by omega)) (sb.mono (by omega))).mono (by omega)
   have hbb:0<=b*b:=by
    rcases Rat.le_total (a:=0) (b:=b)with h|h
    ·exact Rat.mul_nonneg h h
    have:=Rat.mul_nonneg (show 0<= -b by grind) (show 0<= -b by grind)
    grind
   have la:=qcU sa
   have lb:=qcU sb
   by_cases h0:a<0
   ·rw[qlS hN h0 (sa.mono (by omega)) ca,ZB,qeb,ZB,if_pos (qew.2 h0)]
    rfl
   have h0:=Rat.not_lt.1 h0
   obtain⟨lo,hi,r1,r2,r3,r4,r5,r6,r7,r8,_⟩:=qgP hN h0 (sa.mono (by omega)) ca
   obtain⟨lo',hi',q1,q2,q3,q4,q5,q6,q7,q8,q9⟩:=qgP hN hbb (sbb.mono (by omega)) (qiN (sbb.mono (by omega)))
   have hbabs:b.abs*b.abs=b*b:=by
    rw[qin]
    split
    ·grind
    rfl
   obtain⟨w1,w2⟩:=q9 b.abs Rat.abs_nonneg hbabs
   subst w1 w2
   have sll:Sml (lo*lo) 450:=(qij (n:=25) (by omega) (r7.mono (by omega)) (r7.mono (by omega))).mono (by omega)
   have shh:Sml (hi*hi) 450:=(qij (n:=25) (by omega) (r8.mono (by omega)) (r8.mono (by omega))).mono (by omega)
   have shl:Sml (hi-lo) 459:=by
    rw[Rat.sub_eq_add_neg]
    exact(qox (n:=25) (by omega) (r8.mono (by omega)) ((qk8 r7).mono (by omega))).mono (by omega)
   have l7:=qcU r7
   have l8:=qcU r8
   rw[r1,ZB,qeb,ZB,if_neg (fun c=>absurd (qew.1 c) (Rat.not_lt.2 h0)),qig hN (k:=30) (by omega) (by omega) sb sb,ZB,q1,ZB]
   simp only
   rw[if_neg (show¬(!decide (w64 (0+0)=0))=true by decide),qdY hN (by simp only;omega) (by simp only;omega),qjL (qiN (r7.mono (by omega))) (qiN (r8.mono (by omega))),if_neg (Rat.not_lt.2 r3),ZB,if_neg (by decide),qeb,ZB,if_neg (fun c=>absurd (qew.1 c) (Rat.not_lt.2 r2)),qig hN (k:=220) (by omega) (by omega) r7 r7,ZB,qdE hN (k:=450) (by omega) (by omega) sll (sa.mono (by omega)),ZB,if_neg (fun c=>absurd (qb1.1 c) (Rat.not_lt.2 r4)),qig hN (k:=220) (by omega) (by omega) r8 r8,ZB,qdE hN (k:=450) (by omega) (by omega) shh (sa.mono (by omega)),ZB,if_neg (fun c=>absurd (qhL.1 c) (Rat.not_lt.2 r5)),qk7 hN (k:=220) (by omega) (by omega) r8 r7,ZB,<-qk0,qdE hN (k:=459) (by omega) (by omega) shl (qlB.mono (by omega)),ZB,decide_eq_false (fun c=>absurd (qb1.1 c) (Rat.not_lt.2 r6)),ZB,if_neg (by simp),qlV (by omega),ZB,ZB]
   unfold qbt
   rw[ZB]
   simp only
   rw[if_neg (by simp),qdE hN (k:=30) (by omega) (by omega) sb sa,ZB,ZB]
   by_cases hba:b<a
   ·rw[decide_eq_true (qhL.2 hba),if_pos rfl,ZB]
    simp
   have hba':=Rat.not_lt.1 hba
   obtain⟨lo2,hi2,p1,p2,p3,p4,p5,p6,p7,p8,_⟩:=qgP hN (Rat.le_trans h0 hba') (sb.mono (by omega)) cb
   have l9:=qcU p7
   have l10:=qcU p8
   have hge:lo<=hi2:=qjI r2 (Rat.le_trans p2 p3) (Rat.le_trans r4 (Rat.le_trans hba' p5))
   rw[decide_eq_false (fun c=>hba (qhL.1 c)),if_neg (by simp),p1,ZB]
   simp only
   rw[if_pos trivial,qdY hN (by simp only;omega) (by simp only;omega),qjL (qiN (p7.mono (by omega))) (qiN (p8.mono (by omega))),if_neg (Rat.not_lt.2 p3),ZB,if_pos rfl,qdE hN (k:=220) (by omega) (by omega) p8 r7,ZB,decide_eq_true (qpd.2 hge),ZB]
end Go.Av
end
