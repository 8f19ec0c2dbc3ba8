/-
  Names.
-/
import Derived.Test.YtfjamndmfilklaaGreatDoorAvPt
import Derived.Test.YtfjamndmfilklaaGreatDoorMuPb
import Derived.Test.YtfjamndmfilklaaGreatDoorMuPa
noncomputable section
set_option linter.unusedSimpArgs false
set_option linter.unusedVariables false
set_option maxRecDepth 100000
section
namespace Go.Av
end Go.Av
end
section
namespace Go.Av
theorem qmK {N:Nat} (hN:600000<N) {f:qY} {q:Rat} (h:IsF f q) (d:qak q 3900): ∃r,qar N f=some r/\IsZ r q.floor:=by
 obtain⟨a,b,e,j,u⟩:=qb3 (N:=N) (by omega) h.1 h.2 d.1 d.2 (by have:=q.den_pos;omega)
 refine⟨a,?_,?_⟩
 ·unfold qar
  rw[e,ZB]
 rw[Rat.floor_def]
 exact j
theorem qnn {q:Rat} {n:Nat} (h:Fit q.num n):Fit q.floor n:=by
 rw[Rat.floor_def]
 exact yR (jd _ (by have:=q.den_pos;omega)) h
theorem qn0 {z:Int} {n:Nat} (h:Fit z n) (d:1<=n):qak (z:Rat) n:=⟨by rw[Rat.num_intCast];exact h,by rw[Rat.den_intCast];exact F1 d⟩
theorem qkp {N:Nat} (hN:600000<N) {a b:Int} {B:Nat} (hB:B<=8000) (fa:zQ a B) (h:0<b):qac N (rI a) (rI b)=some (rI (a/b)):=by
 have d:0<=(a.natAbs:Int)/b:=Int.ediv_nonneg (by omega) (by omega)
 have r0:=Int.emod_nonneg (a.natAbs:Int) (show b≠0 by omega)
 have r1:=Int.emod_lt_of_pos (a.natAbs:Int) h
 have dm:=Int.mul_ediv_add_emod (a.natAbs:Int) b
 have fq:zQ ((a.natAbs:Int)/b) B:=zQ.le (Int.le_trans (jd _ h) (Int.le_refl _)) fa.abs
 have ql:(dg E9 ((a.natAbs:Int)/b)).length<=B:=by
  have:=fq.len
  rw[show((((a.natAbs:Int)/b).natAbs:Nat):Int)=(a.natAbs:Int)/b by omega]at this
  exact this
 have eb:(rI b).w=dg E9 b:=by rw[rI_w,show(b.natAbs:Int)=b by omega]
 unfold qac
 rw[eb,rI_w,qjD (by omega) (by omega) h hB fa.abs,ZB]
 simp only
 by_cases hn:a<0
 ·rw[if_pos (show(rI a).neg=true from decide_eq_true hn),ZB]
  by_cases hr:(a.natAbs:Int)%b=0
  ·have u:dg E9 ((a.natAbs:Int)%b)=[]:=by rw[hr];rfl
   have j:a/b= -((a.natAbs:Int)/b):=by
    rw[show a= -(a.natAbs:Int)by omega,Int.natAbs_neg,Int.natAbs_natCast,Int.neg_ediv_of_dvd (Int.dvd_of_emod_eq_zero hr)]
   rw[u,if_neg (by simp),ZB,yo _ (zo E1 d).1 (by omega) (by omega),ZB,if_pos (show(rI a).neg=true from decide_eq_true hn),jb E1 d,j]
  have u: ¬(dg E9 ((a.natAbs:Int)%b)).length=0:=by
   intro c
   have:=jb E1 r0
   rw[List.eq_nil_of_length_eq_zero c]at this
   exact hr this.symm
  have j:a/b= -((a.natAbs:Int)/b+1):=by
   have:a=b*(-((a.natAbs:Int)/b+1))+(b-(a.natAbs:Int)%b):=by
    rw[Int.mul_neg,Int.mul_add,Int.mul_one]
    omega
   conv=>lhs;rw[this]
   rw[Int.add_comm,Int.add_mul_ediv_left _ _ (by omega),Int.ediv_eq_zero_of_lt (by omega) (by omega),Int.zero_add]
  obtain⟨l,e,hd,hl,hv⟩:=qfs (N:=N) (zo E1 d).1 (b:=[1]) (by rw[<-qlc];exact(zo E1 (by decide)).1) (by omega) (by decide) (by omega)
  rw[decide_eq_true (show((dg E9 ((a.natAbs:Int)%b)).length:Int)>0 by omega),if_pos rfl,e,ZB,ZB,yo _ hd (by omega) (by omega),ZB,if_pos (show(rI a).neg=true from decide_eq_true hn),hv,jb E1 d,show dv E9 [1]=1 from rfl,j]
 rw[if_neg (show¬(rI a).neg=true from fun c=>hn (of_decide_eq_true c)),ZB,if_neg (by simp),ZB,yo _ (zo E1 d).1 (by omega) (by omega),ZB,if_neg (show¬(rI a).neg=true from fun c=>hn (of_decide_eq_true c)),jb E1 d,show(a.natAbs:Int)=a by omega]
theorem qkJ {q:Rat} (h:q.den=1):((q.floor:Int):Rat)=q:=by
 apply Rat.ext
 ·rw[Rat.num_intCast,Rat.floor_def,h]
  exact Int.ediv_one _
 rw[Rat.den_intCast,h]
theorem qiX {N:Nat} (j:600000<N) {q:Rat} {k:Nat} (d:0<k) (hk:k<=4000) (h:Sml q k):qa1 N (T q)=some (T ((q.floor:Int):Rat)):=by
 have hl:=qdm h
 have W:qaJ N (T q)=some (decide (q.den=1)):=by
  unfold qaJ
  rw[qbG (by omega) (by omega),ZB]
  by_cases c:q.den=1
  ·rw[(qcJ q c).2,decide_eq_true c,decide_eq_true rfl]
  have:=(qdL q c).1
  rw[decide_eq_false c,decide_eq_false (by omega)]
 unfold qa1
 rw[W,ZB]
 by_cases c:q.den=1
 ·rw[if_pos (decide_eq_true c),qkJ c]
 rw[if_neg (fun x=>c (of_decide_eq_true x)),qb2 j (h.mono hk),ZB]
 have u:=qcF (n:=500) h d (by omega)
 have hd:=den_pos q
 have p2:zQ (q.num/(q.den:Int)) 500:=zQ.le (Int.le_trans (jd _ (by omega)) (Int.le_refl _)) u
 simp only
 rw[qkp j (by omega) u (by omega),ZB,qje (by omega) (p2.mono (by omega)),ZB]
 unfold T
 rw[Rat.num_intCast,Rat.den_intCast,if_pos rfl,YQ,Rat.floor_def]
theorem fit1 {z:Int} (h: -9223372036854775808<=z) (d:z<=9223372036854775807):Fit z 1:=by
 have:W=18446744073709551616:=rfl
 unfold Fit
 rw[Int.pow_succ,Int.pow_zero,Int.one_mul]
 omega
end Go.Av
end
section
namespace Go.Av
open Classical
theorem qgY {q:Rat} {k:Nat} (d:0<k) (h:(T q).length<=k):Sml q k:=by
 have j:(Lib.decDigits q.num.natAbs).length<=(Lib.itoa q.num).length:=by
  by_cases c:q.num<0
  ·rw[vR c,Yr]
   omega
  rw[zM c]
  exact Nat.le_refl _
 unfold T at h
 rw[Yq]at h
 refine⟨by omega,?_⟩
 by_cases c:q.den=1
 ·rw[c]
  exact(yG d).2 (Nat.one_lt_pow (by omega) (by decide))
 rw[if_neg c,Yr]at h
 omega
theorem qjf {s:Str} {k:Nat} (d:0<k) (j:s.length<=k) (h:chk s=0): ∃q:Rat,s=T q/\Sml q k/\chk (T q)=0:=by
 obtain⟨q,rfl,_,_⟩:=qek h
 exact⟨q,rfl,qgY d j,h⟩
theorem rrow2 {N:Nat} (h:600000<N) {a b:Str} (u:a.length<=10000) (hb:b.length<=10000):qam N [a,b]=some (if chk a=0 then chk b else chk a):=by
 have j:=qf4 h u
 have e2:=qf4 h hb
 unfold qam
 obtain⟨K,hK⟩: ∃K,N=K+1+1+1:=⟨N-3,by omega⟩
 have L:qX N [a,b] (K+1+1+1) 0=some (if chk a=0 then(if chk b=0 then .inl ()else .inr (chk b))else .inr (chk a)):=by
  rw[qX,if_pos (by simp),qbf]
  simp only[Yj,ZB]
  rw[j,ZB]
  by_cases c:chk a=0
  ·rw[if_neg (by simp[c]),if_pos c,show w64 (0+1)=((1:Nat):Int)from rfl,qX,if_pos (by simp),qx]
   simp only[YK,Yj,ZB]
   rw[e2,ZB]
   by_cases d:chk b=0
   ·rw[if_neg (by simp[d]),if_pos d,show w64 (((1:Nat):Int)+1)=2 from rfl,qX,if_neg (by simp)]
   rw[if_pos (by simp[d]),if_neg d]
  rw[if_pos (by simp[c]),if_neg c]
 rw[show qX N [a,b] N 0=qX N [a,b] (K+1+1+1) 0 by rw[<-hK],L,ZB]
 by_cases c:chk a=0
 ·by_cases d:chk b=0
  ·rw[if_pos c,if_pos d,if_pos c,d]
  rw[if_pos c,if_neg d,if_pos c]
 rw[if_neg c,if_neg c]
noncomputable def qbr (s:kK):Int:=if chk s.Low=0 then(if chk s.High=0 then(if∃p q:Rat,s.Low=T p/\s.High=T q/\q<p then 11 else 0)else chk s.High)else chk s.Low
theorem qjI {p q:Rat} (d:chk (T p)=0) (j:chk (T q)=0):qbr ⟨T p,T q⟩=if q<p then 11 else 0:=by
 unfold qbr
 rw[if_pos d,if_pos j]
 by_cases h:q<p
 ·rw[if_pos h,if_pos ⟨p,q,rfl,rfl,h⟩]
 rw[if_neg h,if_neg]
 rintro⟨p',q',e1,e2,h'⟩
 rw[qeY e1,qeY e2]at h
 exact h h'
theorem qiM {s:kK} {k:Nat} (u:0<k) (j:s.Low.length<=k) (h2:s.High.length<=k) (h:qbr s=0): ∃p q:Rat,s=⟨T p,T q⟩/\p<=q/\Sml p k/\Sml q k/\chk (T p)=0/\chk (T q)=0:=by
 obtain⟨a,b⟩:=s
 unfold qbr at h
 simp only at h j h2
 by_cases c:chk a=0
 ·rw[if_pos c]at h
  by_cases d:chk b=0
  ·rw[if_pos d]at h
   obtain⟨p,rfl,p1,p2⟩:=qjf u j c
   obtain⟨q,rfl,q1,q2⟩:=qjf u h2 d
   refine⟨p,q,rfl,?_,p1,q1,c,d⟩
   by_cases e:q<p
   ·rw[if_pos ⟨p,q,rfl,rfl,e⟩]at h
    exact absurd h (by decide)
   exact Rat.not_lt.1 e
  rw[if_neg d]at h
  exact absurd h d
 rw[if_neg c]at h
 exact absurd h c
theorem ncmp {N:Nat} (d:600000<N) {p q:Rat} (h:Sml p 600) (j:Sml q 600): ∃f g,yQ N (T p)=some f/\yQ N (T q)=some g/\yC N f g=some (if p<q then-1 else if p=q then 0 else 1):=by
 have f1:=qhw (n:=32) h (by omega) (by omega)
 have f2:=qhw (n:=32) j (by omega) (by omega)
 obtain⟨f,u,i1⟩:=qgB d (h.mono (show 600<=9000 by omega))
 obtain⟨g,e2,i2⟩:=qgB d (j.mono (show 600<=9000 by omega))
 exact⟨f,g,u,e2,qpW d i1 i2 (n:=32) (by omega) f1 f2⟩
theorem qcs {p q:Rat}:((if p<q then-1 else if p=q then 0 else 1:Int)>0)↔q<p:=by
 by_cases h:p<q
 ·rw[if_pos h]
  exact⟨fun c=>absurd c (by decide),fun c=>absurd c (Rat.not_lt.2 (Rat.le_of_lt h))⟩
 rw[if_neg h]
 by_cases e:p=q
 ·rw[if_pos e]
  exact⟨fun c=>absurd c (by decide),fun c=>absurd (e▸c) Rat.lt_irrefl⟩
 rw[if_neg e]
 refine⟨fun _=>?_,fun _=>by decide⟩
 exact Rat.lt_of_le_of_ne (Rat.not_lt.1 h) (Ne.symm e)
theorem qcU {p q:Rat}:((if p<q then-1 else if p=q then 0 else 1:Int)<0)↔p<q:=by
 by_cases h:p<q
 ·rw[if_pos h]
  exact⟨fun _=>h,fun _=>by decide⟩
 rw[if_neg h]
 refine⟨fun c=>?_,fun c=>absurd c h⟩
 by_cases e:p=q
 ·rw[if_pos e]at c
  exact absurd c (by decide)
 rw[if_neg e]at c
 exact absurd c (by decide)
theorem qq6 {p q:Rat}:((if p<q then-1 else if p=q then 0 else 1:Int)<=0)↔p<=q:=by
 rw[<-Int.not_lt,<-Rat.not_lt]
 exact not_congr qcs
theorem qbz {N:Nat} (j:600000<N) {s:kK} (h1:s.Low.length<=10000) (u:s.High.length<=10000):vQ N s=some (qbr s):=by
 obtain⟨a,b⟩:=s
 unfold vQ ku
 simp only at h1 u
 rw[qmU j h1 u,ZB]
 by_cases c:chk a=0
 ·rw[if_pos c]
  by_cases d:chk b=0
  ·obtain⟨p,rfl,p1,p2⟩:=qek c
   obtain⟨q,rfl,q1,q2⟩:=qek d
   obtain⟨f,g,e1,e2,e3⟩:=ncmp j (p:=p) (q:=q) ⟨p1,p2⟩ ⟨q1,q2⟩
   rw[if_neg (by simp[d]),e1,ZB,e2,ZB,e3,ZB,qjI c d]
   by_cases h:q<p
   ·rw[if_pos (decide_eq_true (qcs.2 h)),if_pos h,ZB]
   rw[if_neg (fun x=>h (qcs.1 (of_decide_eq_true x))),if_neg h,ZB]
  rw[if_pos (by simp[d])]
  unfold qbr
  rw[if_pos c,if_neg d]
 rw[if_neg c,if_pos (by simp[c])]
 unfold qbr
 rw[if_neg c]
theorem qe6 {N:Nat} (j:600000<N) {s:kK} (u:s.Low.length<=10000) (h2:s.High.length<=10000):yn N s=some (qbr s):=by
 obtain⟨a,b⟩:=s
 unfold yn
 simp only at u h2
 rw[rrow2 j u h2,ZB]
 by_cases c:chk a=0
 ·rw[if_pos c]
  by_cases d:chk b=0
  ·obtain⟨p,rfl,p1,p2⟩:=qek c
   obtain⟨q,rfl,q1,q2⟩:=qek d
   rw[if_pos d,qeM j (k:=600) (by omega) (by omega) ⟨p1,p2⟩ ⟨q1,q2⟩,ZB,ZB,qjI c d]
   by_cases h:q<p
   ·rw[if_pos (decide_eq_true (qcs.2 h)),if_pos h,ZB]
   rw[if_neg (fun x=>h (qcs.1 (of_decide_eq_true x))),if_neg h,d,ZB]
  rw[if_neg d,ZB,if_neg (by simp),ZB]
  unfold qbr
  rw[if_pos c,if_neg d]
 rw[if_neg c,if_neg c,ZB,if_neg (by simp),ZB]
 unfold qbr
 rw[if_neg c]
def IsL:List qY->List Rat->Prop
 |[],[]=>True
 |f::l,q::r=>IsF f q/\IsL l r
 |_,_=>False
theorem IsL.get: ∀{l:List qY} {r:List Rat},IsL l r->l.length=r.length/\ ∀(i:Nat) (q:Rat),r[i]? =some q-> ∃f,l[i]? =some f/\IsF f q
 |[],[],_=>⟨rfl,fun i q h=>by simp at h⟩
 |f::l,q::r,h=>by
  obtain⟨d,j⟩:=h
  obtain⟨a,b⟩:=IsL.get j
  refine⟨by simp[a],fun i x hx=>?_⟩
  match i,hx with
  |0,hx=>
   simp at hx
   exact⟨f,rfl,hx▸d⟩
  |i+1,hx=>
   rw[YK]at hx⊢
   exact b i x hx
 |[],_::_,h=>h.elim
 |_::_,[],h=>h.elim
theorem qi9 {N:Nat} (d:600000<N) {f g:qY} {p q:Rat} (u:IsF f p) (hg:IsF g q) (j:qak p 3900) (h:qak q 3900):qap N f g=some (if qhF p=true\/qhF q=true then(⟨[],[]⟩,4)else(⟨T p,T q⟩,0)):=by
 unfold qap
 rw[qkS d u j,ZB,qkS d hg h]
 cases h1:qhF p with
 |true=>rw[if_pos rfl,ZB,if_pos rfl,if_pos (.inl rfl)]
 |false=>
  rw[if_neg (by simp),ZB,ZB]
  cases h2:qhF q with
  |true=>rw[if_pos rfl,if_pos (.inr rfl)]
  |false=>rw[if_neg (by simp),qma d u j,ZB,qma d hg h,ZB,if_neg (by simp)]
end Go.Av
end
section
namespace Go.Av
theorem qmD (l:List Str) (d:l.length<=1000): ∀(K i:Nat),i<=l.length->l.length<K+i->yK l K (i:Int)=some (if(l.drop i).any (fun s=>decide (60<s.length))=true then .inr true else .inl ())
 |0,i,hi,hK=>by omega
 |K+1,i,hi,hK=>by
  rw[yK]
  by_cases h:i<l.length
  ·rw[if_pos (by omega),qx,Ya h,ZB,YG h,List.any_cons,zF (by omega),qmD l d K (i+1) (by omega) (by omega)]
   by_cases c:60<l[i].length
   ·rw[if_pos (by omega),decide_eq_true c,Bool.true_or,if_pos rfl]
   rw[if_neg (by omega),decide_eq_false c,Bool.false_or]
  rw[if_neg (by omega),List.drop_eq_nil_of_le (by omega)]
  rfl
theorem qpF {N:Nat} {l:List Str} (d:l.length<=1000) (h:2000<N):qci N l=some (l.any fun s=>decide (60<s.length)):=by
 unfold qci
 have e:=qmD l d N 0 (by omega) (by omega)
 rw[show((0:Nat):Int)=0 from rfl,YR]at e
 rw[e,ZB]
 cases l.any fun s=>decide (60<s.length)<;>rfl
theorem qge {N:Nat} {e:Int} (h:e≠0) (w:kK):zi N ⟨[],[]⟩ e e w=some true:=by
 unfold zi
 rw[if_neg h,ZB,if_pos (by simp[h])]
 simp
theorem qjs {N:Nat} (h:100000<N) {p q:Rat} (u:Sml p 600) (hq:Sml q 600):xJ N ⟨T p,T q⟩=some 0:=by
 obtain⟨K,hK⟩: ∃K,N=K+1+1+1:=⟨N-3,by omega⟩
 have d:=qmd h u (by omega)
 have j:=qmd h hq (by omega)
 rw[qcg u,if_neg (by simp)]at d
 rw[qcg hq,if_neg (by simp)]at j
 have L:qU N [T p,T q] (K+1+1+1) 0=some (.inl ()):=by
  rw[qU,if_pos (by simp),qbf,Yj,ZB,d,ZB,if_neg (by simp),show w64 (0+1)=((1:Nat):Int)from rfl,qU,if_pos (by simp),qx,YK,Yj,ZB,j,ZB,if_neg (by simp),show w64 (((1:Nat):Int)+1)=2 from rfl,qU,if_neg (by simp)]
 unfold xJ qbh
 rw[show qU N [T p,T q] N 0=qU N [T p,T q] (K+1+1+1) 0 by rw[<-hK],L]
 rfl
theorem qh2 {N:Nat} (j:100000<N) {p q:Rat} (d:Sml p 600) (h:Sml q 600):zi N ⟨T p,T q⟩ 0 0 ⟨T p,T q⟩=some true:=by
 unfold zi
 rw[if_pos rfl,qjs j d h,ZB,ZB,if_neg (by simp),if_pos rfl,ZB]
 simp
theorem qh7 {f:qY} {q:Rat} (h:IsF f q):xK f=some (if q.num<0 then-1 else if q.num=0 then 0 else 1):=by
 unfold xK
 rw[qcK h.1,ZB]
theorem qmE {q:Rat}:((if q.num<0 then-1 else if q.num=0 then 0 else 1:Int)>=0)↔0<=q:=by
 rw[<-Rat.num_nonneg]
 constructor
 ·intro h
  by_cases c:q.num<0
  ·rw[if_pos c]at h
   omega
  omega
 intro h
 rw[if_neg (by omega)]
 split<;>omega
section ops
variable {N:Nat} (hN:600000<N)
include hN
variable {p p' q q':Rat} (hp:Sml p 60) (hp':Sml p' 60) (hq:Sml q 60) (hq':Sml q' 60) (cp:chk (T p)=0) (cp':chk (T p')=0) (cq:chk (T q)=0) (cq':chk (T q')=0) (hpp:p<=p') (hqq:q<=q')
include hp hp' hq hq' cp cp' cq cq' hpp hqq
end ops
end Go.Av
end
section
namespace Go.Av
theorem qqk (n:Int):T (n:Rat)=Lib.itoa n:=by
 unfold T
 rw[Rat.num_intCast,Rat.den_intCast,if_pos rfl,YQ]
def bst (x b y:Rat):Rat:=if(x-y).abs<(x-b).abs then y else b
def cnd (x:Rat) (i:Nat):Rat:=Rat.divInt ((x*((i/2:Nat):Rat)).floor+((i%2:Nat):Int)) ((i/2:Nat):Int)
def Fst (x b:Rat) (n:Nat):Prop:= ∃i,2<=i/\i<n/\b=cnd x i/\ ∀j,2<=j->j<n->(x-b).abs<(x-cnd x j).abs\/((x-b).abs=(x-cnd x j).abs/\i<=j)
theorem Fst.step {x b:Rat} {n:Nat} (h:Fst x b n):Fst x (bst x b (cnd x n)) (n+1):=by
 obtain⟨i,h1,h2,u,d⟩:=h
 unfold bst
 by_cases c:(x-cnd x n).abs<(x-b).abs
 ·rw[if_pos c]
  refine⟨n,by omega,by omega,rfl,fun j j1 j2=>?_⟩
  by_cases e:j=n
  ·exact .inr ⟨by rw[e],by omega⟩
  rcases d j j1 (by omega)with k|⟨k,_⟩
  ·exact .inl (qnT c k)
  exact .inl (k▸c)
 rw[if_neg c]
 refine⟨i,h1,by omega,u,fun j j1 j2=>?_⟩
 by_cases e:j=n
 ·rw[e]
  rcases Rat.le_iff_lt_or_eq.1 (Rat.not_lt.1 c)with k|k
  ·exact .inl k
  exact .inr ⟨k,by omega⟩
 exact d j j1 (by omega)
end Go.Av
end
section
namespace Go.Av
theorem qpt {n:Nat}:Lib.decDigits n=[48]↔n=0:=by
 constructor
 ·intro h
  exact qlr (h.trans (by rw[kr (by decide)];rfl))
 rintro rfl
 rw[kr (by decide)]
 rfl
theorem qlq {n:Nat}:Lib.decDigits n=[49]↔n=1:=by
 constructor
 ·intro h
  exact qlr (h.trans (by rw[kr (by decide)];rfl))
 rintro rfl
 rw[kr (by decide)]
 rfl
theorem ql7 {q:Rat} (h:Sml q 600):chk (T q)=0:=by
 have n47:=no47 (qa8 q.num.natAbs)
 have es:=qhV n47 q
 have et:(bdy (T q)).take (slA (bdy (T q)))=Lib.decDigits q.num.natAbs:=by
  rw[qjZ,es,List.take_append_of_le_length (Nat.le_refl _),List.take_length]
 have hd:=den_pos q
 have ed:slA (bdy (T q))<(bdy (T q)).length↔q.den≠1:=by
  rw[qjZ,es,Yq]
  unfold tl
  by_cases c:q.den=1
  ·rw[if_pos c]
   simp[c]
  rw[if_neg c]
  simp[c]
 have er:(bdy (T q)).drop (slA (bdy (T q))+1)=if q.den=1 then[]else Lib.decDigits q.den:=by
  rw[qjZ,es]
  unfold tl
  by_cases c:q.den=1
  ·rw[if_pos c,if_pos c,YQ,List.drop_of_length_le (by omega)]
  rw[if_neg c,if_neg c,List.drop_append,List.drop_of_length_le (by omega),List.nil_append,show(Lib.decDigits q.num.natAbs).length+1-(Lib.decDigits q.num.natAbs).length=1 by omega]
  rfl
 have hok:okF (T q)=true:=by
  unfold okF
  rw[et,qkI]
  refine decide_eq_true ⟨qoK _,?_⟩
  rintro⟨j,d⟩
  have j:=of_decide_eq_true j
  have:=qpt.1 d
  omega
 have u:qg4 (T q)=false:=by
  unfold qg4
  refine decide_eq_false ?_
  rintro⟨j,d⟩
  have c:=ed.1 j
  rw[er,if_neg c]at d
  exact d ⟨qoK _,fun e=>by have:=qpt.1 e;omega,fun e=>c (qlq.1 e)⟩
 unfold chk
 rw[if_neg (by rw[hok,u];simp),et,er,if_neg,if_neg]
 ·rintro⟨j,d⟩
  have c:=ed.1 j
  rw[if_neg c,qcx,qcx]at d
  exact d q.reduced
 have j:=h.1
 have d:=h.2
 split<;>simp<;>omega
theorem Num_T {N:Nat} (hN:100000<N) {q:Rat} (j:(T q).length<=50000):qay N (T q)=some (Lib.itoa q.num):=by
 have hs:=qbG (N:=N) (s:=T q) (by omega) (by omega)
 unfold qay
 rw[hs,ZB]
 by_cases c:q.den=1
 ·obtain⟨h,d⟩:=qcJ q c
  rw[jX (by omega),ZB,d,List.take_length,h]
 obtain⟨h,d,u⟩:=qdL q c
 rw[jX (by omega),ZB,d]
theorem Den_T {N:Nat} (hN:100000<N) {q:Rat} (u:(T q).length<=50000):qaD N (T q)=some (Lib.decDigits q.den):=by
 have hs:=qbG (N:=N) (s:=T q) (by omega) (by omega)
 unfold qaD
 rw[hs,ZB]
 by_cases c:q.den=1
 ·obtain⟨j,h⟩:=qcJ q c
  rw[if_pos (by omega),c,kr (by decide)]
  rfl
 obtain⟨j,h,d⟩:=qdL q c
 rw[if_neg (by omega),zF (by omega),yM (by omega),ZB,d]
theorem qhg (n:Nat):Lib.decDigits n=T ((n:Int):Rat):=by rw[qqk,qdr]
end Go.Av
end
section
namespace Go.Av
def nsq:Nat->Nat
 |0=>0
 |a+1=>if(nsq a+1)*(nsq a+1)<=a+1 then nsq a+1 else nsq a
theorem qj7: ∀a:Nat,nsq a*nsq a<=a/\a<(nsq a+1)*(nsq a+1)
 |0=>by decide
 |a+1=>by
  obtain⟨h,d⟩:=qj7 a
  rw[nsq]
  by_cases c:(nsq a+1)*(nsq a+1)<=a+1
  ·rw[if_pos c]
   refine⟨c,?_⟩
   generalize nsq a=s at*
   have:(s+1+1)*(s+1+1)=(s+1)*(s+1)+2*s+3:=by grind
   omega
  rw[if_neg c]
  generalize nsq a=s at*
  have:(s+1)*(s+1)=s*s+2*s+1:=by grind
  omega
def isq (z:Int):Int:=(nsq z.toNat:Int)
theorem xH {z:Int} (h:0<=z):0<=isq z/\isq z*isq z<=z/\z<(isq z+1)*(isq z+1):=by
 obtain⟨u,h2⟩:=qj7 z.toNat
 unfold isq
 generalize nsq z.toNat=s at*
 have d:((s*s:Nat):Int)=(s:Int)*(s:Int):=Int.natCast_mul ..
 have j:(((s+1)*(s+1):Nat):Int)=((s:Int)+1)*((s:Int)+1):=Int.natCast_mul ..
 omega
theorem qik {a b:Int} (d:0<=a) (h:a<=b):a*a<=b*b:=Int.mul_le_mul h h d (by omega)
theorem qld {z s:Int} (d:0<=s) (h:s*s<=z) (u:z<(s+1)*(s+1)):isq z=s:=by
 have j:0<=z:=Int.le_trans (Yv d d) h
 obtain⟨g0,g1,g2⟩:=xH j
 rcases Int.lt_trichotomy (isq z) s with c|c|c
 ·have:=qik (show 0<=isq z+1 by omega) (show isq z+1<=s by omega)
  omega
 ·exact c
 have:=qik (show 0<=s+1 by omega) (show s+1<=isq z by omega)
 omega
theorem qpr {s:Int} (h:0<=s):isq (s*s)=s:=by
 refine qld h (Int.le_refl _) ?_
 have:(s+1)*(s+1)=s*s+2*s+1:=by grind
 omega
theorem qgf {z:Int} (h:0<=z):isq z<=z:=by
 obtain⟨g0,g1,g2⟩:=xH h
 rcases Int.lt_or_le (isq z) 1 with c|c
 ·omega
 have:=Yc c g0
 omega
theorem qqA {z s v:Int} (hs:0<s) (d:s*s<=z) (u:z<(s+1)*(s+1)) (hv:s<=v):s<=(v+z/v)/2/\(v<=(v+z/v)/2->v=s)/\((v+z/v)/2<v->z/v<=s/\s<v):=by
 have v0:0<v:=by omega
 have d0:0<=z/v:=Int.ediv_nonneg (Int.le_trans (Yv (by omega) (by omega)) d) (by omega)
 have a1:2*s-v<=z/v:=by
  rw[Int.le_ediv_iff_mul_le v0]
  have e:(2*s-v)*v=s*s-(v-s)*(v-s):=by grind
  have:=Yv (show 0<=v-s by omega) (show 0<=v-s by omega)
  omega
 refine⟨by omega,fun h=>?_,fun h=>?_⟩
 ·have j:v<=z/v:=by omega
  rw[Int.le_ediv_iff_mul_le v0]at j
  rcases Int.lt_or_le s v with c|c
  ·have:=qik (show 0<=s+1 by omega) (show s+1<=v by omega)
   omega
  omega
 have c:s<v:=by
  rcases Int.lt_or_le s v with c|c
  ·exact c
  have e:v=s:=by omega
  subst e
  have:v<=z/v:=by
   rw[Int.le_ediv_iff_mul_le v0]
   exact d
  omega
 refine⟨?_,c⟩
 have:z<(s+1)*v:=Int.lt_of_lt_of_le u (Yc (by omega) (by omega))
 have:=Int.ediv_lt_of_lt_mul v0 this
 omega
theorem qmg {N:Nat} (hN:600000<N) {a:qj} {z s:Int} (j:IsZ a z) {B:Nat} (hB:B<=900) (fz:Fit z B) (hs:0<s) (d:s*s<=z) (u:z<(s+1)*(s+1)):
 ∀(k K:Nat) (x:qj) (v:Int),IsZ x v->s<=v->Fit v B->v-s<2^k->k<K-> ∃r,j6 N a K x.s x.w=some r/\IsZ r s
 |k,0,x,v,_,_,_,_,hK=>by omega
 |k,K+1,x,v,ix,hv,fv,hk,hK=>by
  have zz:0<=z:=Int.le_trans (Yv (by omega) (by omega)) d
  have v0:0<v:=by omega
  obtain⟨n1,n2,n3⟩:=qqA hs d u hv
  have d0:0<=z/v:=Int.ediv_nonneg zz (by omega)
  have fq:Fit (z/v) B:=yR (jd _ v0) fz
  obtain⟨q,r,e1,iq,ir⟩:=qb3 (N:=N) (by omega) j ix (fz.mono (by omega)) (fv.mono (by omega)) v0
  obtain⟨t,e2,it⟩:=qfZ (N:=N) (by omega) ix iq (fv.mono (by omega)) (fq.mono (by omega))
  have i2:IsZ ⟨2,[]⟩ 2:=Ud (by decide) (by decide)
  have ft:Fit (v+z/v) (B+1):=qja fv fq
  obtain⟨y,r',e3,iy,ir'⟩:=qb3 (N:=N) (by omega) it i2 (ft.mono (by omega)) ((fit1 (by decide) (by decide):Fit 2 1).mono (by omega)) (by decide)
  have fy:Fit ((v+z/v)/2) (B+1):=yR (jd _ (by decide)) ft
  have e4:=qhs (N:=N) (by omega) iy ix (fy.mono (by omega)) (fv.mono (by omega))
  rw[j6]
  rw[show kg N a ⟨x.s,x.w⟩=some (q,r)from e1,ZB]
  simp only
  rw[show jl N ⟨x.s,x.w⟩ q=some t from e2,ZB,qdX,ZB,e3,ZB]
  simp only
  rw[show vG N y ⟨x.s,x.w⟩=_ from e4,ZB]
  rcases Int.lt_or_le ((v+z/v)/2) v with c|c
  ·obtain⟨m1,m2⟩:=n3 c
   rw[if_pos c,if_neg (show¬(-1:Int)>=0 by decide)]
   match k,hk,hK with
   |0,hk,hK=>simp at hk;omega
   |k+1,hk,hK=>
    rw[Int.pow_succ]at hk
    exact qmg hN j hB fz hs d u k K y _ iy n1 (yR (by omega) fv) (by omega) (by omega)
  have h:(if(v+z/v)/2<v then-1 else if(v+z/v)/2=v then 0 else 1:Int)>=0:=by
   rw[if_neg (by omega)]
   split<;>decide
  rw[if_pos h]
  exact⟨x,rfl,by rw[<-n2 c];exact ix⟩
theorem qpP {x:qj} {z:Int} {B:Nat} (hB:B<=3900) (h:IsZ x z) (fz:Fit z B): ∃b:Nat,yA x=some (b:Int)/\b<=64*B/\(z.natAbs:Int)<2^b:=by
 unfold yA
 rw[parts_eq h,ZB]
 simp only
 have hz:(0:Int)<=(z.natAbs:Int):=by omega
 have cc:=zo W1 hz
 have vv:=jb W1 hz
 have ll:=fz.len
 generalize dg W (z.natAbs:Int)=w at*
 by_cases h0:w.length=0
 ·rw[if_pos (by omega)]
  rw[YL.1 h0,kw]at vv
  exact⟨0,rfl,by omega,by rw[<-vv];decide⟩
 have u:w.length-1<w.length:=by omega
 have ax:=cc.1.at u
 obtain⟨l,e,hl⟩:=qhH ax.1 ax.2
 have hl0:0<=l/\l<=64:=by
  rcases hl with⟨_,h⟩|⟨j,d,_⟩<;>omega
 have hl2:w[w.length-1]<2^l.toNat:=by
  rcases hl with⟨j,d⟩|⟨_,_,_,h⟩
  ·rw[j,d];decide
  exact h
 rw[if_neg (by omega),qhQ (by omega) (by omega),qx,Ya u,ZB,e,ZB,qg (n:=64*((w.length-1:Nat):Int)) (by omega) (by omega),qg (by omega) (by omega)]
 refine⟨64*(w.length-1)+l.toNat,by congr 1;omega,by omega,?_⟩
 have e1:=qo W w (w.length-1) u
 rw[List.take_of_length_le (by omega),vv]at e1
 have j:=yB W0 (cc.1.take (w.length-1))
 rw[Ym,Nat.min_eq_left (by omega)]at j
 have e2:(2:Int)^(64*(w.length-1)+l.toNat)=W^(w.length-1)*2^l.toNat:=by
  rw[Int.pow_add,Int.pow_mul]
  rfl
 have d:W^(w.length-1)*(w[w.length-1]+1)<=W^(w.length-1)*2^l.toNat:=Yc (by omega) (Int.le_of_lt (pow_pos W0 _))
 rw[Int.mul_add,Int.mul_one]at d
 rw[e2]
 omega
theorem qnv {m B:Nat} (h:m<64*B):Fit ((2:Int)^m) B:=by
 have e:(2:Int)^(64*B)=W^B:=by
  rw[Int.pow_mul]
  rfl
 have u:(2:Int)^m*1<=2^m*2^(64*B-m-1):=Yc (pow_pos (by decide) _) (Int.le_of_lt (pow_pos (by decide) _))
 have d:(2:Int)^(64*B)=2^m*2^(64*B-m-1)*2:=by
  rw[<-Int.pow_add,<-Int.pow_succ]
  congr 1
  omega
 have j:(0:Int)<2^m:=pow_pos (by decide) _
 unfold Fit
 rw[<-e,d,show(((2:Int)^m).natAbs:Int)=2^m by omega]
 omega
theorem qjk {N:Nat} (hN:600000<N) {x:qj} {z:Int} (h:IsZ x z) (hz:0<=z) {B:Nat} (hB1:1<=B) (hB:B<=100) (fz:Fit z B): ∃r,xD N x=some r/\IsZ r (isq z):=by
 obtain⟨s0,s1,j⟩:=xH hz
 unfold xD
 rw[qcK h,ZB]
 by_cases h0:z=0
 ·rw[if_neg (show¬z<0 by omega),if_pos h0,if_pos rfl]
  refine⟨x,rfl,?_⟩
  rw[show isq z=z by rw[h0];rfl]
  exact h
 rw[if_neg (show¬z<0 by omega),if_neg h0,if_neg (by decide),qdX,ZB]
 have hs:0<isq z:=by
  rcases Int.lt_or_le 0 (isq z)with c|c
  ·exact c
  rw[show isq z=0 by omega]at j
  omega
 obtain⟨b,u,b1,b2⟩:=qpP (by omega) h fz
 obtain⟨m,hm⟩: ∃m:Nat,m=(b+1)/2:=⟨_,rfl⟩
 have em:w64 ((w64 ((b:Int)+1)).tdiv 2)=(m:Int):=by
  rw[zF (by omega),YF (by omega),qg (by omega) (by omega)]
  omega
 have i2:IsZ ⟨2,[]⟩ 2:=Ud (by decide) (by decide)
 obtain⟨v,e2,iv⟩:=qnX (N:=N) (n:=m) (mb:=1) (by omega) (by omega) i2 (fit1 (by decide) (by decide)) (by omega)
 have hp:(0:Int)<2^m:=pow_pos (by decide) _
 have d:isq z<=2^m:=by
  rcases Int.lt_or_le (2^m) (isq z)with c|c
  ·exfalso
   have q1:=qik (Int.le_of_lt hp) (Int.le_of_lt c)
   have q2:(2:Int)^m*2^m=2^(m+m):=(Int.pow_add 2 m m).symm
   have q3:(2:Int)^b<=2^(m+m):=vV (by decide) (by omega)
   omega
  exact c
 obtain⟨r,e3,ir⟩:=qmg hN h (by omega) fz hs s1 j m N v _ iv d (qnv (by omega)) (by omega) (by omega)
 rw[u,ZB,em,e2,ZB,e3,ZB]
 exact⟨r,rfl,ir⟩
end Go.Av
end
section
namespace Go.Av
theorem F_eq {n:Int} (d: -9223372036854775808<=n) (h:n<=9223372036854775807): ∃f,qkw n=some f/\IsF f (n:Rat):=by
 obtain⟨f,e,i⟩:=qkn (Ud d h)
 refine⟨f,?_,i⟩
 unfold qkw
 rw[qdX,ZB,e,ZB]
theorem qkd (r:Rat):r-(r.floor:Rat)=Rat.divInt (r.num%(r.den:Int)) (r.den:Int):=by
 have h:((r.den:Int):Rat)≠0:=by
  rw[Ne,Rat.intCast_eq_zero_iff]
  have:=r.den_pos
  omega
 have e:(r-(r.floor:Rat))*((r.den:Int):Rat)=((r.num%(r.den:Int):Int):Rat):=by
  rw[Rat.sub_eq_add_neg,Rat.add_mul,qlR,Rat.floor_def,Int.emod_def,Rat.intCast_sub,Rat.intCast_mul]
  grind
 rw[Rat.divInt_eq_div,<-e,Rat.mul_div_cancel h]
theorem qnd {r:Rat} {n:Nat} (h:qak r n):qak (r-(r.floor:Rat)) n:=by
 rw[qkd]
 have d:=r.den_pos
 refine qbp (by omega) ?_ h.2
 refine yR ?_ h.2
 have:=Int.emod_nonneg r.num (show(r.den:Int)≠0 by omega)
 have:=Int.emod_lt_of_pos r.num (show(0:Int)<(r.den:Int)by omega)
 omega
theorem qk7 {x:Rat} {n:Nat} (h:qak x n):x<=((W^n:Int):Rat)/\ -((W^n:Int):Rat)<=x:=by
 have hd:=x.den_pos
 have u:(x.num.natAbs:Int)<W^n:=h.1
 have d:(0:Int)<=W^n:=by omega
 have j:W^n*1<=W^n*(x.den:Int):=Yc (by omega) d
 rw[<-Rat.intCast_neg]
 constructor
 ·rw[Rat.le_iff,Rat.num_intCast,Rat.den_intCast]
  omega
 rw[Rat.le_iff,Rat.num_intCast,Rat.den_intCast,Int.neg_mul]
 omega
theorem qoB {x:Rat} {n m:Nat} (hx:qak x n) {c d:Int} (h0:0<=d) (hd:d<=m) (hm:m<=1000) (h1:(c:Rat)-x*(d:Rat)<=1) (h2: -1<=(c:Rat)-x*(d:Rat)):Fit c (n+1):=by
 obtain⟨j,b2⟩:=qk7 hx
 have h:(0:Rat)<=(d:Rat):=Rat.intCast_nonneg.2 h0
 have hW:(1:Int)<=W^n:=pow_pos (show(0:Int)<W by decide) n
 have m1:=Rat.mul_le_mul_of_nonneg_right j h
 have m2:=Rat.mul_le_mul_of_nonneg_right b2 h
 have u1:(c:Rat)<=((W^n*d+1:Int):Rat):=by
  rw[Rat.intCast_add,Rat.intCast_mul,show((1:Int):Rat)=1 from rfl]
  grind
 have u:((-(W^n*d+1):Int):Rat)<=(c:Rat):=by
  rw[Rat.intCast_neg,Rat.intCast_add,Rat.intCast_mul,show((1:Int):Rat)=1 from rfl]
  grind
 rw[Rat.intCast_le_intCast]at u1 u
 have m3:W^n*d<=W^n*1000:=Yc (by omega) (by omega)
 have e:W^(n+1)=W^n*W:=Int.pow_succ ..
 have m4:W^n*1001<W^n*W:=Int.mul_lt_mul_of_pos_left (by decide) (by omega)
 unfold Fit
 omega
structure Cvg (x:Rat) (m:Nat) (a b c d:Int) (r:Rat):Prop where
 b0:0<=b
 d0:0<=d
 bm:b<=m
 dm:d<=m
 st:(b=1/\d=0)\/(1<=d/\1<r)
 fr:qak r 4
 za:Fit a 5
 zc:Fit c 5
 eq:x*((d:Rat)*r+(b:Rat))=(c:Rat)*r+(a:Rat)
 det:c*b-d*a=1\/c*b-d*a= -1
theorem qmT {r:Rat} (h:1<r):1<=r.floor:=by
 rw[Rat.le_floor_iff]
 exact Rat.le_of_lt h
theorem Cvg.next {x:Rat} {m:Nat} {a b c d:Int} {r:Rat} (h:Cvg x m a b c d r) (hm1:1<=m) (hm:m<=1000) (fx:qak x 4) (hd:d*r.floor+b<=m) (hr:r≠(r.floor:Rat)):
 Cvg x m c d (c*r.floor+a) (d*r.floor+b) (r-(r.floor:Rat))⁻¹/\1<=d*r.floor+b/\b+d+1<=d+(d*r.floor+b)+(if d=0 then 1 else 0):=by
 have u:0<r-(r.floor:Rat):=by
  rw[<-Rat.lt_iff_sub_pos]
  exact Rat.lt_of_le_of_ne (Rat.floor_le _) (Ne.symm hr)
 have hlt:r-(r.floor:Rat)<1:=by
  have:=Rat.lt_floor_add_one r
  rw[Rat.intCast_add,show((1:Int):Rat)=1 from rfl]at this
  grind
 have hne:r-(r.floor:Rat)≠0:=Rat.ne_of_gt u
 have k1:1<=d*r.floor+b/\b+d+1<=d+(d*r.floor+b)+(if d=0 then 1 else 0):=by
  rcases h.st with⟨e1,e2⟩|⟨e1,e2⟩
  ·rw[e1,e2]
   simp
  have f1:=qmT e2
  have:=Yc f1 h.d0
  have:=h.b0
  rw[if_neg (by omega)]
  omega
 have j:=Rat.mul_inv_cancel _ hne
 have hs:(1:Rat)<(r-(r.floor:Rat))⁻¹:=by
  have p:=Rat.inv_pos.2 u
  have:=Rat.mul_lt_mul_of_pos_right hlt p
  rw[j,Rat.one_mul]at this
  exact this
 generalize hg:(r-(r.floor:Rat))⁻¹=s at*
 have er:r=(r.floor:Rat)+s⁻¹:=by
  rw[<-hg,Rat.inv_inv]
  grind
 generalize hk:r.floor=k at*
 have es:(r-(k:Rat))*s=1:=j
 have e2:x*(((d*k+b:Int):Rat)*s+(d:Rat))=((c*k+a:Int):Rat)*s+(c:Rat):=by
  have h1:=h.eq
  rw[Rat.intCast_add,Rat.intCast_mul,Rat.intCast_add,Rat.intCast_mul]
  have h2:x*((d:Rat)*r+(b:Rat))*s=((c:Rat)*r+(a:Rat))*s:=by rw[h1]
  have h3:r*s=1+(k:Rat)*s:=by grind
  have h4:x*((d:Rat)*(r*s)+(b:Rat)*s)=(c:Rat)*(r*s)+(a:Rat)*s:=by grind
  rw[h3]at h4
  grind
 have dt:(c*k+a)*d-(d*k+b)*c=1\/(c*k+a)*d-(d*k+b)*c= -1:=by
  have:(c*k+a)*d-(d*k+b)*c= -(c*b-d*a):=by grind
  rcases h.det with e|e
  ·right;rw[this,e]
  left;rw[this,e];rfl
 refine⟨?_,k1⟩
 have D1:(1:Rat)<=((d*k+b:Int):Rat)*s+(d:Rat):=by
  have a1:(1:Rat)<=((d*k+b:Int):Rat):=by
   have:=Rat.intCast_le_intCast.2 k1.1
   exact this
  have a2:(0:Rat)<=(d:Rat):=Rat.intCast_nonneg.2 h.d0
  have a3:=Rat.mul_le_mul_of_nonneg_right a1 (show(0:Rat)<=s from Rat.le_trans (by decide) (Rat.le_of_lt hs))
  rw[Rat.one_mul]at a3
  have:=Rat.le_of_lt hs
  grind
 have zz:(((c*k+a:Int):Rat)-x*((d*k+b:Int):Rat))*(((d*k+b:Int):Rat)*s+(d:Rat))=(((c*k+a)*d-(d*k+b)*c:Int):Rat):=by
  rw[Rat.intCast_sub,Rat.intCast_mul,Rat.intCast_mul]
  generalize ((c*k+a:Int):Rat)=C at*
  generalize ((d*k+b:Int):Rat)=E at*
  generalize (c:Rat)=c' at*
  generalize (d:Rat)=d' at*
  have:(C-x*E)*(E*s+d')=C*(E*s+d')-E*(x*(E*s+d')):=by grind
  rw[this,e2]
  grind
 have hz:((c*k+a:Int):Rat)-x*((d*k+b:Int):Rat)<=1/\ -1<=((c*k+a:Int):Rat)-x*((d*k+b:Int):Rat):=by
  generalize ((c*k+a:Int):Rat)-x*((d*k+b:Int):Rat)=z at*
  generalize ((d*k+b:Int):Rat)*s+(d:Rat)=D at*
  have hD0:(0:Rat)<=D:=Rat.le_trans (by decide) D1
  have hb:z*D=1\/z*D= -1:=by
   rw[zz]
   rcases dt with e|e
   ·left;rw[e];rfl
   right;rw[e];rfl
  constructor
  ·rw[<-Rat.not_lt]
   intro hc
   have:=Rat.mul_lt_mul_of_pos_right hc (show(0:Rat)<D by grind)
   rw[Rat.one_mul]at this
   grind
  rw[<-Rat.not_lt]
  intro hc
  have:=Rat.mul_lt_mul_of_pos_right hc (show(0:Rat)<D by grind)
  grind
 exact {b0:=h.d0,d0:=by omega,bm:=h.dm,dm:=hd,st:= .inr ⟨k1.1,hs⟩,fr:=by rw[<-hg];exact qpk (by rw[<-hk];exact qnd h.fr) (by omega),za:=h.zc,zc:=qoB fx (by omega) hd hm hz.1 hz.2,eq:=e2,det:=dt}
end Go.Av
end
section
namespace Go.Av
theorem qgP {p q:Rat}:((if p<q then-1 else if p=q then 0 else 1:Int)=0)↔p=q:=by
 by_cases h:p<q
 ·rw[if_pos h]
  exact⟨fun c=>absurd c (by decide),fun c=>absurd (c▸h) Rat.lt_irrefl⟩
 rw[if_neg h]
 by_cases e:p=q
 ·rw[if_pos e]
  exact⟨fun _=>e,fun _=>rfl⟩
 rw[if_neg e]
 exact⟨fun c=>absurd c (by decide),fun c=>absurd c e⟩
end Go.Av
end
section
namespace Go.Av
theorem pick {x L M:Rat} {d f:Int} (nL:(L.den:Int)=d) (nM:(M.den:Int)=f) {c:Int}
 (j:c=if(if(x-L).abs<(x-M).abs then-1 else if(x-L).abs=(x-M).abs then 0 else 1:Int)=0 then(if(if(d:Rat)<(f:Rat)then-1 else if(d:Rat)=(f:Rat)then 0 else 1:Int)=0 then(if L<M then-1 else if L=M then 0 else 1)else(if(d:Rat)<(f:Rat)then-1 else if(d:Rat)=(f:Rat)then 0 else 1))else(if(x-L).abs<(x-M).abs then-1 else if(x-L).abs=(x-M).abs then 0 else 1)):
 (¬c>0->le3 x L M)/\(c>0->le3 x M L):=by
 by_cases h1:(x-L).abs=(x-M).abs
 ·rw[if_pos (qgP.2 h1)]at j
  by_cases u:(d:Rat)=(f:Rat)
  ·rw[if_pos (qgP.2 u)]at j
   have u:=Rat.intCast_inj.1 u
   constructor
   ·intro h
    rw[j]at h
    exact .inr ⟨h1,.inr ⟨by omega,Rat.not_lt.1 fun k=>h (qcs.2 k)⟩⟩
   intro h
   rw[j]at h
   exact .inr ⟨h1.symm,.inr ⟨by omega,Rat.le_of_lt (qcs.1 h)⟩⟩
  rw[if_neg (fun k=>u (qgP.1 k))]at j
  constructor
  ·intro h
   rw[j]at h
   have h:=Rat.not_lt.1 (fun k=>h (qcs.2 k))
   have h3:d≠f:=fun k=>u (by rw[k])
   have:=Rat.intCast_le_intCast.1 h
   exact .inr ⟨h1,.inl (by omega)⟩
  intro h
  rw[j]at h
  have:=Rat.intCast_lt_intCast.1 (qcs.1 h)
  exact .inr ⟨h1.symm,.inl (by omega)⟩
 rw[if_neg (fun k=>h1 (qgP.1 k))]at j
 constructor
 ·intro h
  rw[j]at h
  have h:=Rat.not_lt.1 (fun k=>h (qcs.2 k))
  exact .inl (Rat.lt_of_le_of_ne h h1)
 intro h
 rw[j]at h
 exact .inl (qcs.1 h)
theorem qoN {z:Int} {n:Nat} (h:Fit z n) (hn:0<n):(Lib.decDigits z.natAbs).length<=20*n:=by
 refine(yG (by omega)).2 ?_
 have j:(z.natAbs:Int)<W^n:=h
 have u:=(qdi (x:=W) (y:=100000000000000000000) (by decide) (by decide) n).2
 have d:(100000000000000000000:Int)^n=((10^(20*n):Nat):Int):=by
  rw[Nat.pow_mul,Int.natCast_pow]
  rfl
 omega
theorem qcn {q:Rat} {n:Nat} (h:qak q n) (d:0<n):Sml q (20*n):=by
 have:=qoN h.2 d
 rw[Int.natAbs_natCast]at this
 exact⟨qoN h.1 d,this⟩
end Go.Av
end
section
namespace Go.Av
theorem qgO {r:Rat} (h:0<=r):isq (r*r).num=r.num/\isq ((r*r).den:Int)=(r.den:Int):=by
 have e:r*r=r^2:=by rw[show(2:Nat)=1+1 from rfl,Rat.pow_succ,Rat.pow_one]
 have d:=Rat.num_nonneg.2 h
 rw[e,Rat.num_pow,Rat.den_pow,show r.num^2=r.num*r.num by rw[Int.pow_succ,Int.pow_succ,Int.pow_zero,Int.one_mul],show((r.den^2:Nat):Int)=(r.den:Int)*(r.den:Int)by rw[Nat.pow_succ,Nat.pow_succ,Nat.pow_zero,Nat.one_mul];exact Int.natCast_mul ..]
 exact⟨qpr d,qpr (by omega)⟩
theorem qpE {q:Rat} (h:0<=q) (j:isq q.num*isq q.num=q.num) (d:isq (q.den:Int)*isq (q.den:Int)=(q.den:Int)): ∃r:Rat,0<=r/\r*r=q/\r.num=isq q.num/\(r.den:Int)=isq (q.den:Int):=by
 have hn:=Rat.num_nonneg.2 h
 have hd:=q.den_pos
 obtain⟨a0,_,_⟩:=xH hn
 obtain⟨b0,_,_⟩:=xH (z:=(q.den:Int)) (by omega)
 generalize isq q.num=a at*
 generalize isq (q.den:Int)=b at*
 have bp:0<b:=by
  rcases Int.lt_or_le 0 b with c|c
  ·exact c
  rw[show b=0 by omega]at d
  omega
 have u:Int.gcd b a=1:=by
  have g1:(Int.gcd b a:Int)∣q.num:=by rw[<-j];exact Int.dvd_mul_of_dvd_left (Int.gcd_dvd_right ..)
  have g2:(Int.gcd b a:Int)∣(q.den:Int):=by rw[<-d];exact Int.dvd_mul_of_dvd_left (Int.gcd_dvd_left ..)
  have g3:Int.gcd b a∣Nat.gcd q.num.natAbs q.den:=Nat.dvd_gcd (Int.natAbs_dvd_natAbs.2 g1) (Int.ofNat_dvd.1 g2)
  rw[show Nat.gcd q.num.natAbs q.den=1 from q.reduced]at g3
  exact Nat.dvd_one.1 g3
 have en:(Rat.divInt a b).num=a:=by
  rw[Rat.num_divInt,u,Int.sign_eq_one_of_pos bp,Int.one_mul]
  exact Int.ediv_one _
 have ed:((Rat.divInt a b).den:Int)=b:=by
  rw[Rat.den_divInt,if_neg (by omega),u,Nat.div_one]
  omega
 refine⟨Rat.divInt a b,Rat.divInt_nonneg a0 (by omega),?_,en,ed⟩
 rw[Rat.divInt_mul_divInt,j,d,Rat.num_divInt_den]
theorem qn6 {N:Nat} (hN:600000<N) {f:qY} {q:Rat} (h:IsF f q) (h0:0<=q) {B:Nat} (hB1:1<=B) (hB:B<=100) (j:qak q B):
 ∃(g:qY) (b:Bool),qaI N f=some (g,b)/\(b=true-> ∃r:Rat,0<=r/\r*r=q/\IsF g r/\qak r B)/\(b=false-> ∀r:Rat,0<=r->r*r≠q):=by
 have hn:=Rat.num_nonneg.2 h0
 have hd:=q.den_pos
 obtain⟨a0,a1,a2⟩:=xH hn
 obtain⟨b0,b1,b2⟩:=xH (z:=(q.den:Int)) (by omega)
 obtain⟨n,e1,i1⟩:=qjk hN h.1 hn hB1 hB j.1
 obtain⟨d,e2,i2⟩:=qjk hN h.2 (by omega) hB1 hB j.2
 have fn:Fit (isq q.num) B:=yR (by have:=qgf hn;omega) j.1
 have fd:Fit (isq (q.den:Int)) B:=yR (by have:=qgf (z:=(q.den:Int)) (by omega);omega) j.2
 obtain⟨u,e3,i3⟩:=qdt (N:=N) (by omega) i1 i1 (fn.mono (by omega)) (fn.mono (by omega))
 obtain⟨v,e4,i4⟩:=qdt (N:=N) (by omega) i2 i2 (fd.mono (by omega)) (fd.mono (by omega))
 have e5:=qhs (N:=N) (by omega) i3 h.1 ((qbw fn fn).mono (by omega)) (j.1.mono (by omega))
 have e6:=qhs (N:=N) (by omega) i4 h.2 ((qbw fd fd).mono (by omega)) (j.2.mono (by omega))
 have nl: ¬isq q.num*isq q.num>q.num:=by omega
 unfold qaI
 rw[qh7 h,ZB,if_neg (fun c=>by rw[if_neg (by omega)]at c;split at c<;>omega),e1,ZB,e2,ZB,e3,ZB,e5,ZB,e4,ZB,e6,ZB]
 by_cases c:isq q.num*isq q.num=q.num
 ·rw[if_pos (show(if isq q.num*isq q.num<q.num then-1 else if isq q.num*isq q.num=q.num then 0 else 1:Int)=0 by rw[if_neg (by omega),if_pos c]),ZB]
  by_cases k:isq (q.den:Int)*isq (q.den:Int)=(q.den:Int)
  ·obtain⟨r,r0,r1,r2,r3⟩:=qpE h0 c k
   refine⟨_,true,by rw[decide_eq_true (show(if isq (q.den:Int)*isq (q.den:Int)<(q.den:Int)then-1 else if isq (q.den:Int)*isq (q.den:Int)=(q.den:Int)then 0 else 1:Int)=0 by rw[if_neg (by omega),if_pos k])],fun _=>⟨r,r0,r1,⟨by rw[r2];exact i1,by rw[r3];exact i2⟩,⟨by rw[r2];exact fn,by rw[r3];exact fd⟩⟩,fun x=>(by cases x)⟩
  refine⟨_,false,by rw[decide_eq_false (show¬(if isq (q.den:Int)*isq (q.den:Int)<(q.den:Int)then-1 else if isq (q.den:Int)*isq (q.den:Int)=(q.den:Int)then 0 else 1:Int)=0 by rw[if_pos (by omega)];decide)],fun x=>(by cases x),fun _ r hr e=>k ?_⟩
  rw[<-e,(qgO hr).2]
  have:=(qgO hr).2
  rw[e]at this
  rw[this]at b1
  have hs:r*r=r^2:=by rw[show(2:Nat)=1+1 from rfl,Rat.pow_succ,Rat.pow_one]
  rw[hs,Rat.den_pow,Nat.pow_succ,Nat.pow_succ,Nat.pow_zero,Nat.one_mul]
  exact(Int.natCast_mul ..).symm
 rw[if_neg (show¬(if isq q.num*isq q.num<q.num then-1 else if isq q.num*isq q.num=q.num then 0 else 1:Int)=0 by rw[if_pos (by omega)];decide),ZB]
 refine⟨_,false,rfl,fun x=>(by cases x),fun _ r hr e=>c ?_⟩
 rw[<-e,(qgO hr).1]
 have hs:r*r=r^2:=by rw[show(2:Nat)=1+1 from rfl,Rat.pow_succ,Rat.pow_one]
 rw[hs,Rat.num_pow,Int.pow_succ,Int.pow_succ,Int.pow_zero,Int.one_mul]
end Go.Av
end
section
namespace Go.Av
theorem vY {z:Int} {k:Nat} (j:0<=z) (d:0<k) (h:z<((10^k:Nat):Int)):Sml (z:Rat) k:=by
 constructor
 ·rw[Rat.num_intCast]
  exact(yG d).2 (by omega)
 rw[Rat.den_intCast]
 exact(yG d).2 (Nat.one_lt_pow (by omega) (by decide))
theorem T_1:([49]:Str)=T ((1:Int):Rat):=by
 rw[show((1:Int):Rat)=(((1:Nat):Int):Rat)from rfl,<-qhg]
 exact(qlq.2 rfl).symm
theorem T_2:([50]:Str)=T ((2:Int):Rat):=by
 rw[show((2:Int):Rat)=(((2:Nat):Int):Rat)from rfl,<-qhg,kr (by decide)]
 rfl
theorem qoi:([49,47,50]:Str)=T (Rat.divInt 1 2):=by
 have h:(Rat.divInt 1 2).num=1:=by
  rw[Rat.num_divInt]
  decide
 have d:(Rat.divInt 1 2).den=2:=by
  rw[Rat.den_divInt,if_neg (by decide)]
  decide
 unfold T
 rw[h,d,if_neg (by decide),kr (by decide),show Lib.itoa 1=[49]from(qdr 1).trans (qlq.2 rfl)]
 rfl
theorem qm3 {a b:Int}:(if(a:Rat)<(b:Rat)then-1 else if(a:Rat)=(b:Rat)then 0 else 1:Int)<=0↔a<=b:=by
 rw[qq6,Rat.intCast_le_intCast]
theorem qlz (s:Int):((s:Rat)*Rat.divInt 1 2).floor=s/2:=by
 have e:Rat.divInt 1 2*2=1:=by
  rw[Rat.divInt_eq_div]
  exact Rat.div_mul_cancel (by decide)
 have e2:(s:Rat)*Rat.divInt 1 2*2=(s:Rat):=by rw[Rat.mul_assoc,e,Rat.mul_one]
 have h1:=Rat.floor_le ((s:Rat)*Rat.divInt 1 2)
 have j:=Rat.lt_floor_add_one ((s:Rat)*Rat.divInt 1 2)
 generalize ((s:Rat)*Rat.divInt 1 2).floor=m at*
 rw[Rat.intCast_add,show((1:Int):Rat)=1 from rfl]at j
 have d:((2*m:Int):Rat)<=(s:Rat):=by
  rw[Rat.intCast_mul,show((2:Int):Rat)=2 from rfl]
  generalize (s:Rat)*Rat.divInt 1 2=u at*
  grind
 have h:(s:Rat)<((2*m+2:Int):Rat):=by
  rw[Rat.intCast_add,Rat.intCast_mul,show((2:Int):Rat)=2 from rfl]
  generalize (s:Rat)*Rat.divInt 1 2=u at*
  grind
 rw[Rat.intCast_le_intCast]at d
 rw[Rat.intCast_lt_intCast]at h
 omega
theorem qdV {m n:Nat} (h:m<=n):((10^m:Nat):Int)<=((10^n:Nat):Int):=Int.ofNat_le.2 (Nat.pow_le_pow_right (by decide) h)
theorem qqo {h:Int} {m:Nat} (j:0<=h) (d:h<((10^m:Nat):Int)):h*h<((10^(m+m):Nat):Int):=by
 have e:((10^(m+m):Nat):Int)=((10^m:Nat):Int)*((10^m:Nat):Int):=by
  rw[Nat.pow_add]
  exact Int.natCast_mul ..
 rw[e]
 have a:=Yc (Int.le_of_lt d) j
 have b:=YH d (show 0<((10^m:Nat):Int)by omega)
 omega
def Big (z:Int):Prop:=z<((10^70:Nat):Int)
theorem qog {g z:Int} (g0:0<g) (h:g*g<=z) (d:Big z):2*g<((10^71:Nat):Int):=by
 have:g*1<=g*g:=Yc (by omega) (by omega)
 have e:((10^71:Nat):Int)=((10^70:Nat):Int)*10:=by
  rw[Nat.pow_succ]
  exact Int.natCast_mul ..
 have d:z<((10^70:Nat):Int):=d
 omega
theorem qqn {N:Nat} (j:600000<N) {z:Int} (z0:0<=z) (hz:Big z): ∀(n K:Nat) (h:Int),0<h->z<(h*2^n)*(h*2^n)->(h=1\/ ∃g,h=2*g/\0<g/\g*g<=z)->n<K->
 ∃d:Int,zX N (T (z:Rat)) K (T (h:Rat))=some (T (d:Rat))/\0<d/\z<d*d/\(d=1\/ ∃g,d=2*g/\0<g/\g*g<=z)
 |n,0,h,_,_,_,hK=>by omega
 |n,K+1,h,h0,hn,hg,hK=>by
  have hb:h<((10^71:Nat):Int):=by
   rcases hg with e|⟨g,e,g0,g1⟩
   ·rw[e]
    have:=qdV (show 1<=71 by omega)
    have:((10^1:Nat):Int)=10:=rfl
    omega
   rw[e]
   exact qog g0 g1 hz
  obtain⟨m,hm⟩: ∃m:Nat,m=71:=⟨_,rfl⟩
  rw[<-hm]at hb
  have sz:Sml (z:Rat) (m+m):=vY z0 (by omega) (Int.lt_of_lt_of_le hz (qdV (by omega)))
  have sh:Sml (h:Rat) m:=vY (by omega) (by omega) hb
  have u:Sml ((h*h:Int):Rat) (m+m):=vY (Yv (by omega) (by omega)) (by omega) (qqo (by omega) hb)
  have s2:Sml ((2:Int):Rat) m:=vY (by decide) (by omega) (Int.lt_of_lt_of_le (show(2:Int)<((10^1:Nat):Int)by decide) (qdV (by omega)))
  rw[zX,qbx j (k:=m) (by omega) (by omega) sh sh,ZB,<-Rat.intCast_mul,qeM j (k:=m+m) (by omega) (by omega) u sz,ZB]
  by_cases c:h*h<=z
  ·rw[if_pos (qm3.2 c),T_2,qbx j (k:=m) (by omega) (by omega) sh s2,ZB,<-Rat.intCast_mul]
   match n,hn,hK with
   |0,hn,hK=>
    rw[Int.pow_zero,Int.mul_one]at hn
    omega
   |n+1,hn,hK=>
    refine qqn j z0 hz n K (h*2) (by omega) ?_ (.inr ⟨h,by omega,h0,c⟩) (by omega)
    rw[show h*2*2^n=h*2^(n+1)by rw[Int.pow_succ,Int.mul_assoc,Int.mul_comm 2]]
    exact hn
  rw[if_neg (fun x=>c (qm3.1 x))]
  exact⟨h,rfl,h0,by omega,hg⟩
theorem qox {N:Nat} (j:600000<N) {z s:Int} (z0:0<=z) (hz:Big z) (s0:0<=s) (s1:s*s<=z) (s2:z<(s+1)*(s+1)): ∀(n K:Nat) (lo hi:Int),0<=lo->lo<=s->s<hi->hi<((10^71:Nat):Int)->hi-lo<=2^n->n<K->
 zW N (T (z:Rat)) K (T (lo:Rat)) (T (hi:Rat))=some (T (s:Rat))
 |n,0,lo,hi,_,_,_,_,_,hK=>by omega
 |n,K+1,lo,hi,l0,l1,h1,hb,hn,hK=>by
  obtain⟨m,hm⟩: ∃m:Nat,m=71:=⟨_,rfl⟩
  rw[<-hm]at hb
  have b10:((10^1:Nat):Int)<=((10^m:Nat):Int):=qdV (by omega)
  have e10:((10^1:Nat):Int)=10:=rfl
  have e1:((10^(m+1):Nat):Int)=((10^m:Nat):Int)*10:=by
   rw[Nat.pow_succ]
   exact Int.natCast_mul ..
  have sz:Sml (z:Rat) (m+m):=vY z0 (by omega) (Int.lt_of_lt_of_le hz (qdV (by omega)))
  have a1:Sml (lo:Rat) (m+1):=vY l0 (by omega) (by omega)
  have a0:Sml (hi:Rat) (m+1):=vY (by omega) (by omega) (by omega)
  have sd:Sml ((hi-lo:Int):Rat) (m+1):=vY (by omega) (by omega) (by omega)
  have su:Sml ((lo+hi:Int):Rat) (m+1):=vY (by omega) (by omega) (by omega)
  have s1':Sml ((1:Int):Rat) (m+1):=vY (by decide) (by omega) (by omega)
  have sh:Sml (Rat.divInt 1 2) (m+1):=(qgY (k:=3) (by decide) (by rw[<-qoi];decide)).mono (by omega)
  have sm:Sml (((lo+hi:Int):Rat)*Rat.divInt 1 2) 180:=(qgI (n:=10) (by omega) (su.mono (by omega)) (sh.mono (by omega))).mono (by omega)
  rw[zW,qmB j (k:=m+1) (by omega) (by omega) a0 a1,ZB,<-Rat.intCast_sub,T_1,qeM j (k:=m+1) (by omega) (by omega) sd s1',ZB]
  by_cases c:hi-lo<=1
  ·rw[if_neg (fun x=>absurd (qm3.2 c) (by omega)),show lo=s by omega]
  unfold qdu
  have h:0<=(lo+hi)/2/\(lo+hi)/2<((10^m:Nat):Int):=by omega
  have u:Sml (((lo+hi)/2:Int):Rat) m:=vY h.1 (by omega) h.2
  have a2:Sml (((lo+hi)/2*((lo+hi)/2):Int):Rat) (m+m):=vY (Yv h.1 h.1) (by omega) (qqo h.1 h.2)
  rw[if_pos (by have:=mt qm3.1 c;omega),qgV j (k:=m+1) (by omega) (by omega) a1 a0,ZB,<-Rat.intCast_add,qoi,qbx j (k:=m+1) (by omega) (by omega) su sh,ZB,ZB,qiX j (k:=180) (by omega) (by omega) sm,ZB,qlz,qbx j (k:=m) (by omega) (by omega) u u,ZB,<-Rat.intCast_mul,qeM j (k:=m+m) (by omega) (by omega) a2 sz,ZB]
  match n,hn,hK with
  |0,hn,hK=>simp at hn;omega
  |n+1,hn,hK=>
   rw[Int.pow_succ]at hn
   by_cases d:(lo+hi)/2*((lo+hi)/2)<=z
   ·rw[if_pos (qm3.2 d),ZB]
    refine qox j z0 hz s0 s1 s2 n K _ hi h.1 ?_ h1 (by rw[<-hm];exact hb) (by omega) (by omega)
    rcases Int.lt_or_le s ((lo+hi)/2)with e|e
    ·have:=qik (show 0<=s+1 by omega) (show s+1<=(lo+hi)/2 by omega)
     omega
    exact e
   rw[if_neg (fun x=>d (qm3.1 x)),ZB]
   refine qox j z0 hz s0 s1 s2 n K lo _ l0 l1 ?_ (by rw[<-hm];omega) (by omega) (by omega)
   rcases Int.lt_or_le s ((lo+hi)/2)with e|e
   ·exact e
   have:=qik h.1 e
   omega
theorem qf8 {N:Nat} (u:600000<N) {z:Int} (j:0<=z) (d:Big z):vo N (T (z:Rat))=some (T (isq z:Rat)):=by
 obtain⟨s0,s1,s2⟩:=xH j
 obtain⟨h,e,h0,h1,hg⟩:=qqn u j d 118 N 1 (by decide) (Int.lt_of_lt_of_le d (by decide)) (.inl rfl) (by omega)
 have hb:h<((10^71:Nat):Int):=by
  rcases hg with e|⟨g,e,g0,g1⟩
  ·rw[e]
   decide
  rw[e]
  exact qog g0 g1 d
 have hs:isq z<h:=by
  rcases Int.lt_or_le (isq z) h with c|c
  ·exact c
  have:=qik (Int.le_of_lt h0) c
  omega
 have e2:=qox u j d s0 s1 s2 240 N 0 h (by decide) s0 hs hb (Int.le_of_lt (by rw[Int.sub_zero];exact Int.lt_of_lt_of_le hb (by decide))) (by omega)
 unfold vo
 rw[T_1,e,ZB,<-T0,show(0:Rat)=((0:Int):Rat)from rfl,e2,ZB]
end Go.Av
end
section
namespace Go.Av
theorem qkC {N:Nat} (hN:600000<N) {p j q u:Rat} (hp:Sml p 600) (a0:Sml j 600) (hq:Sml q 600) (a4:Sml u 600) (hpp:p<=j) (hqq:q<=u):
 jP N ⟨T p,T j⟩ ⟨T q,T u⟩=some (if p=q/\j=u/\p=j then(0,0)else if j<q then(-1,0)else if u<p then(1,0)else(0,24)):=by
 have l1:=qdm hp
 have l2:=qdm a0
 have l3:=qdm hq
 have l4:=qdm a4
 obtain⟨f1,g1,a1,a2,a3⟩:=ncmp hN a0 hq
 obtain⟨f2,g2,b1,b2,b3⟩:=ncmp hN a4 hp
 unfold jP
 rw[qbz hN (by simp only;omega) (by simp only;omega),qjI (ql7 hp) (ql7 a0),if_neg (Rat.not_lt.2 hpp),ZB,qbz hN (by simp only;omega) (by simp only;omega),qjI (ql7 hq) (ql7 a4),if_neg (Rat.not_lt.2 hqq),ZB,qgL (by omega),if_pos rfl,ZB,if_neg (by decide)]
 have B:(if((T p==T q)&&((T j==T u)&&true))=true then some (T p==T j)else some false:Option Bool)=some (decide (p=q/\j=u/\p=j)):=by
  by_cases c1:p=q
  ·by_cases c2:j=u
   ·subst c1 c2
    rw[if_pos (by simp)]
    congr 1
    by_cases c3:p=j
    ·subst c3
     simp
    rw[decide_eq_false (fun h=>c3 h.2.2)]
    exact beq_false_of_ne fun h=>c3 (qeY h)
   rw[if_neg (by intro h;simp only[Bool.and_eq_true,beq_iff_eq,and_true]at h;exact c2 (qeY h.2)),decide_eq_false (fun h=>c2 h.2.1)]
  rw[if_neg (by intro h;simp only[Bool.and_eq_true,beq_iff_eq,and_true]at h;exact c1 (qeY h.1)),decide_eq_false (fun h=>c1 h.1)]
 simp only
 rw[B,ZB]
 by_cases c:p=q/\j=u/\p=j
 ·rw[if_pos (decide_eq_true c),if_pos c]
 rw[if_neg (fun h=>c (of_decide_eq_true h)),if_neg c,a1,ZB,a2,ZB,a3,ZB,b1,ZB,b2,ZB,b3,ZB]
 by_cases d:j<q
 ·rw[if_pos (qcU.2 d),if_pos d]
 rw[if_neg (fun h=>d (qcU.1 h)),if_neg d]
 by_cases e:u<p
 ·rw[if_pos (qcU.2 e),if_pos e]
 rw[if_neg (fun h=>e (qcU.1 h)),if_neg e]
end Go.Av
end
section
namespace Go.Av
def qoP (p lo hi:Rat):Prop:=(∃r:Rat,0<=r/\r*r=p/\lo=r/\hi=r)\/((∀r:Rat,0<=r->r*r≠p)/\lo=Rat.divInt (isq (p*((1000000:Int):Rat)).floor) 1000/\hi=Rat.divInt (isq (p*((1000000:Int):Rat)).floor+1) 1000)
theorem qpd {N:Nat} (d:600000<N) {p:Rat} (h0:0<=p) (sp:Sml p 80) (cp:chk (T p)=0): ∃lo hi:Rat,vJ N (T p)=some (⟨T lo,T hi⟩,0)/\qoP p lo hi/\Sml lo 220/\Sml hi 220:=by
 have fp:qak p 5:=qhw sp (by omega) (by omega)
 have lp:=qdm sp
 obtain⟨f,e1,i1⟩:=qgB d (sp.mono (show 80<=9000 by omega))
 obtain⟨g,b,e2,g1,g2⟩:=qn6 d i1 h0 (B:=5) (by omega) (by omega) fp
 unfold vJ
 rw[qdd d (by omega),cp,ZB,if_neg (by simp),e1,ZB,qh7 i1,ZB,if_neg (fun c=>absurd (qmE.2 h0) (by omega)),e2,ZB]
 simp only
 cases b with
 |true=>
  obtain⟨r,r0,r1,r2,r3⟩:=g1 rfl
  have sr:Sml r 100:=qcn r3 (by omega)
  rw[if_pos rfl,qi9 d r2 r2 (r3.mono (by omega)) (r3.mono (by omega)),qcg (sr.mono (by omega)),if_neg (by simp),ZB]
  exact⟨r,r,rfl,.inl ⟨r,r0,r1,rfl,rfl⟩,sr.mono (by omega),sr.mono (by omega)⟩
 |false=>
  have g2:=g2 rfl
  have z6:qak ((1000000:Int):Rat) 5:=qn0 ((fit1 (by decide) (by decide):Fit 1000000 1).mono (by omega)) (by omega)
  obtain⟨m,e3,i3⟩:=F_eq (n:=1000000) (by decide) (by decide)
  obtain⟨u,e4,i4⟩:=qpK d i1 i3 (n:=5) (by omega) fp z6
  have fu:=qnL fp z6
  obtain⟨v,e5,i5⟩:=qmK d i4 (fu.mono (by omega))
  have fz:Fit (p*((1000000:Int):Rat)).floor 10:=(qnn fu.1).mono (by omega)
  have up0:0<=p*((1000000:Int):Rat):=Rat.mul_nonneg h0 (by decide)
  have z0:0<=(p*((1000000:Int):Rat)).floor:=by
   rw[Rat.le_floor_iff]
   exact up0
  obtain⟨w,e6,i6⟩:=qjk d i5 z0 (B:=10) (by omega) (by omega) fz
  have il:=qgf z0
  obtain⟨s0,_,_⟩:=xH z0
  have fk:Fit (isq (p*((1000000:Int):Rat)).floor) 10:=yR (by omega) fz
  have f1:Fit (1:Int) 10:=F1 (by omega)
  have j:Fit (1000:Int) 11:=(fit1 (by decide) (by decide):Fit 1000 1).mono (by omega)
  obtain⟨x1,e7,i7⟩:=qfy d i6 (Ud (z:=1000) (by decide) (by decide)) (fk.mono (by omega)) (j.mono (by omega)) (by decide)
  obtain⟨w2,e8,i8⟩:=qfZ (N:=N) (by omega) i6 (Ud (z:=1) (by decide) (by decide)) (fk.mono (by omega)) (f1.mono (by omega))
  have h:Fit (isq (p*((1000000:Int):Rat)).floor+1) 11:=(qja fk f1)
  obtain⟨x2,e9,i9⟩:=qfy d i8 (Ud (z:=1000) (by decide) (by decide)) (h.mono (by omega)) (j.mono (by omega)) (by decide)
  have fl:qak (Rat.divInt (isq (p*((1000000:Int):Rat)).floor) 1000) 11:=qbp (by decide) (fk.mono (by omega)) j
  have fh:qak (Rat.divInt (isq (p*((1000000:Int):Rat)).floor+1) 1000) 11:=qbp (by decide) h j
  rw[if_neg (by simp),e3,ZB,e4,ZB,e5,ZB,e6,ZB,qdX,ZB,e7,ZB,qdX,ZB,e8,ZB,ZB,e9,ZB,qi9 d i7 i9 (fl.mono (by omega)) (fh.mono (by omega)),qcg ((qcn fl (by omega)).mono (by omega)),qcg ((qcn fh (by omega)).mono (by omega)),if_neg (by simp),ZB]
  exact⟨_,_,rfl,.inr ⟨g2,rfl,rfl⟩,(qcn fl (by omega)).mono (by omega),(qcn fh (by omega)).mono (by omega)⟩
theorem qq1 {N:Nat} (d:100000<N) {q:Rat} (h:(T q).length<=50000):qay N (T q)=some (T (q.num:Rat)):=by
 rw[Num_T d h,qqk]
theorem qrg {N:Nat} (d:100000<N) {q:Rat} (h:(T q).length<=50000):qaD N (T q)=some (T ((q.den:Int):Rat)):=by
 rw[Den_T d h,qhg]
theorem qo5 {z:Int} {k:Nat} (j:0<k) (d:k<=70) (h:(Lib.decDigits z.natAbs).length<=k):Big z:=by
 have u:=(yG j).1 h
 have:=qdV d
 unfold Big
 omega
theorem T_mil:([49,48,48,48,48,48,48]:Str)=T ((1000000:Int):Rat):=by
 rw[show((1000000:Int):Rat)=(((1000000:Nat):Int):Rat)from rfl,<-qhg,qaf (by decide),qaf (by decide),qaf (by decide),qaf (by decide),qaf (by decide),qaf (by decide),kr (by decide)]
 rfl
theorem qq9:([49,48,48,48]:Str)=T ((1000:Int):Rat):=by
 rw[show((1000:Int):Rat)=(((1000:Nat):Int):Rat)from rfl,<-qhg,qaf (by decide),qaf (by decide),qaf (by decide),kr (by decide)]
 rfl
theorem qnw {N:Nat} (d:600000<N) {p:Rat} (h0:0<=p) (j:Sml p 60) {lo hi:Rat} (h:qoP p lo hi):xA N (T p)=some ⟨T lo,T hi⟩:=by
 have lp:=qdm j
 have hn:=Rat.num_nonneg.2 h0
 have hd:=p.den_pos
 obtain⟨a0,a1,a2⟩:=xH hn
 obtain⟨b0,b1,b2⟩:=xH (z:=(p.den:Int)) (by omega)
 have la:=qgf hn
 have lb:=qgf (z:=(p.den:Int)) (by omega)
 have q1:=(yG (show 0<60 by omega)).1 j.1
 have q2:=(yG (show 0<60 by omega)).1 j.2
 have sa:Sml ((isq p.num:Int):Rat) 60:=vY a0 (by omega) (by omega)
 have sb:Sml ((isq (p.den:Int):Int):Rat) 60:=vY b0 (by omega) (by omega)
 have u:((isq (p.den:Int):Int):Rat)≠0:=by
  rw[Ne,Rat.intCast_eq_zero_iff]
  intro e
  rw[e]at b2
  omega
 have sq:Sml (((isq p.num:Int):Rat)/((isq (p.den:Int):Int):Rat)) 126:=by
  rw[Rat.div_def]
  exact(qgI (n:=7) (by omega) (sa.mono (by omega)) ((qlQ sb u).mono (by omega))).mono (by omega)
 have sqq:Sml (((isq p.num:Int):Rat)/((isq (p.den:Int):Int):Rat)*(((isq p.num:Int):Rat)/((isq (p.den:Int):Int):Rat))) 252:=(qgI (n:=14) (by omega) (sq.mono (by omega)) (sq.mono (by omega))).mono (by omega)
 unfold xA qcE
 rw[qq1 (by omega) (by omega),ZB,qf8 d hn (qo5 (by omega) (by omega) j.1),ZB,qrg (by omega) (by omega),ZB,qf8 d (by omega) (qo5 (k:=60) (by omega) (by omega) (by rw[Int.natAbs_natCast];exact j.2)),ZB,qfA d (k:=60) (by omega) (by omega) sa sb u,ZB,qbx d (k:=126) (by omega) (by omega) sq sq,ZB]
 rcases h with⟨r,r0,r1,rfl,rfl⟩|⟨hne,rfl,rfl⟩
 ·have e:((isq p.num:Int):Rat)/((isq (p.den:Int):Int):Rat)=hi:=by
   obtain⟨i1,i2⟩:=qgO r0
   rw[<-r1,i1,i2,<-Rat.divInt_eq_div,Rat.num_divInt_den]
  rw[e,r1,if_pos (by simp),ZB]
 have ne: ¬(T (((isq p.num:Int):Rat)/((isq (p.den:Int):Int):Rat)*(((isq p.num:Int):Rat)/((isq (p.den:Int):Int):Rat)))==T p)=true:=by
  intro c
  have c:=qeY (by simpa using c)
  refine hne _ ?_ c
  rw[<-Rat.divInt_eq_div]
  exact Rat.divInt_nonneg a0 b0
 have s6:Sml ((1000000:Int):Rat) 7:=vY (by decide) (by decide) (by decide)
 have s3:Sml ((1000:Int):Rat) 4:=vY (by decide) (by decide) (by decide)
 have sm:Sml (p*((1000000:Int):Rat)) 126:=(qgI (n:=7) (by omega) (j.mono (by omega)) (s6.mono (by omega))).mono (by omega)
 have up0:0<=p*((1000000:Int):Rat):=Rat.mul_nonneg h0 (by decide)
 have z0:0<=(p*((1000000:Int):Rat)).floor:=by
  rw[Rat.le_floor_iff]
  exact up0
 have a3:(p*((1000000:Int):Rat)).floor<((10^67:Nat):Int):=by
  rw[Rat.floor_lt_iff]
  have nd:=qlR p
  have pn:p<=((p.num:Int):Rat):=by
   have hd1:(1:Rat)<=((p.den:Int):Rat):=by
    have:=Rat.intCast_le_intCast.2 (show(1:Int)<=(p.den:Int)by omega)
    exact this
   have:=Rat.mul_le_mul_of_nonneg_left hd1 h0
   rw[Rat.mul_one,nd]at this
   exact this
  have h1:=Rat.mul_le_mul_of_nonneg_right pn (show(0:Rat)<=((1000000:Int):Rat)by decide)
  rw[<-Rat.intCast_mul]at h1
  have e67:((10^67:Nat):Int)=((10^60:Nat):Int)*10000000:=by
   rw[show(67:Nat)=60+7 from rfl,Nat.pow_add]
   exact Int.natCast_mul ..
  have h2:p.num*1000000<((10^67:Nat):Int):=by omega
  have h3:=Rat.intCast_lt_intCast.2 h2
  rcases Rat.le_iff_lt_or_eq.1 h1 with e|e
  ·exact qnT e h3
  rw[e]
  exact h3
 have hB:Big (p*((1000000:Int):Rat)).floor:=Int.lt_of_lt_of_le a3 (qdV (by omega))
 obtain⟨s0,_,_⟩:=xH z0
 have il:=qgf z0
 rw[if_neg ne,T_mil,qbx d (k:=60) (by omega) (by omega) j (s6.mono (by omega)),ZB,qiX d (k:=126) (by omega) (by omega) sm,ZB]
 generalize (p*((1000000:Int):Rat)).floor=z at*
 have e68:((10^68:Nat):Int)=((10^67:Nat):Int)*10:=by
  rw[Nat.pow_succ]
  exact Int.natCast_mul ..
 have sk:Sml ((isq z:Int):Rat) 68:=vY s0 (by omega) (by omega)
 have a4:Sml ((isq z+1:Int):Rat) 68:=vY (by omega) (by omega) (by omega)
 have s1:Sml ((1:Int):Rat) 68:=vY (by decide) (by omega) (by omega)
 have t0:((1000:Int):Rat)≠0:=by decide
 rw[qf8 d z0 hB,ZB,qq9,qfA d (k:=68) (by omega) (by omega) sk (s3.mono (by omega)) t0,ZB,T_1,qgV d (k:=68) (by omega) (by omega) sk s1,ZB,<-Rat.intCast_add,qfA d (k:=68) (by omega) (by omega) a4 (s3.mono (by omega)) t0,ZB,Rat.divInt_eq_div,Rat.divInt_eq_div]
theorem qj4 {N:Nat} (hN:600000<N) {p j q u:Rat} (hp:Sml p 600) (a0:Sml j 600) (hq:Sml q 600) (a1:Sml u 600) (hpp:p<=j) (hqq:q<=u):
 xL N ⟨T p,T j⟩ ⟨T q,T u⟩=some (if p=q/\j=u/\p=j then(0,0)else if j<q then(-1,0)else if u<p then(1,0)else(0,24)):=by
 unfold xL
 simp only
 rw[qeM hN (k:=600) (by omega) (by omega) a0 hq,ZB,qeM hN (k:=600) (by omega) (by omega) a1 hp,ZB]
 by_cases c:p=q/\j=u/\p=j
 ·obtain⟨rfl,rfl,rfl⟩:=c
  rw[if_neg (fun h=>Rat.lt_irrefl (qcU.1 h)),if_neg (fun h=>Rat.lt_irrefl (qcU.1 h))]
  simp
 rw[if_neg c]
 by_cases d:j<q
 ·rw[if_pos (qcU.2 d),if_pos d]
 rw[if_neg (fun h=>d (qcU.1 h)),if_neg d]
 by_cases e:u<p
 ·rw[if_pos (qcU.2 e),if_pos e]
 rw[if_neg (fun h=>e (qcU.1 h)),if_neg e]
 have B:(if(T p==T j)=true then some ((T p==T q)&&((T j==T u)&&true))else some false:Option Bool)=some false:=by
  by_cases c3:p=j
  ·rw[if_pos (by simp[c3])]
   congr 1
   cases hh:((T p==T q)&&((T j==T u)&&true))with
   |false=>rfl
   |true=>
    simp only[Bool.and_eq_true,beq_iff_eq,and_true]at hh
    exact absurd ⟨qeY hh.1,qeY hh.2,c3⟩ c
  rw[if_neg (by intro h;exact c3 (qeY (by simpa using h)))]
 rw[B,ZB,if_neg (by simp)]
end Go.Av
end
section
namespace Go.Av
theorem qhA {q:Rat}:((if q.num<0 then-1 else if q.num=0 then 0 else 1:Int)<0)↔q<0:=by
 rw[<-Int.not_le,<-Rat.not_le]
 exact not_congr qmE
theorem qm4 {N:Nat} (d:600000<N) {p:Rat} (u:p<0) (h:Sml p 80) (cp:chk (T p)=0):vJ N (T p)=some (⟨[],[]⟩,3):=by
 have lp:=qdm h
 obtain⟨f,j,i1⟩:=qgB d (h.mono (show 80<=9000 by omega))
 unfold vJ
 rw[qdd d (by omega),cp,ZB,if_neg (by simp),j,ZB,qh7 i1,ZB,if_pos (qhA.2 u)]
end Go.Av
end
section
namespace Go.Av
def piD:Str:=[51,49,52,49,53,57,50,54,53,51,53,56,57,55,57,51,50,51,56,52,54,50,54,52,51,51,56,51,50,55,57]
def piN (k:Nat):Nat:=qG 0 (piD.take (k+1))
def tp (k:Nat):Int:=((10^k:Nat):Int)
theorem qfY (m n:Nat):tp m*tp n=tp (m+n):=by
 unfold tp
 rw[Nat.pow_add]
 exact(Int.natCast_mul ..).symm
theorem qhY (k:Nat):0<tp k:=by
 have:=Nat.pow_pos (n:=k) (show 0<10 by decide)
 unfold tp
 omega
theorem qj0 {m n:Nat} (h:m<=n):tp m<=tp n:=qdV h
theorem qln {m k:Nat} (h:m<k):Sml ((tp m:Int):Rat) k:=by
 refine vY (Int.le_of_lt (qhY m)) (by omega) ?_
 have u:tp (m+1)<=((10^k:Nat):Int):=qdV h
 have j:tp m*tp 1=tp (m+1):=qfY m 1
 have d:tp 1=10:=rfl
 have:=qhY m
 rw[d]at j
 omega
theorem qlI (k:Nat):Dec (piD.take (k+1)):=by
 refine⟨?_,qfw (by decide) _,fun h=>?_⟩
 ·rw[Ym]
  have:piD.length=31:=rfl
  omega
 exfalso
 rw[show piD=51::piD.drop 1 from rfl,List.take_succ_cons]at h
 simp at h
theorem pi_T (k:Nat):piD.take (k+1)=T (((piN k:Nat):Int):Rat):=by
 rw[<-qhg]
 exact(qlI k).eq
theorem qql {k:Nat} (d:k<=30):((piN k:Nat):Int)<tp (k+1):=by
 have h:=qdz (piD.take (k+1)) 0 (qlI k).2.1
 rw[Ym,show piD.length=31 from rfl,Nat.min_eq_left (by omega),Nat.zero_add,Nat.one_mul]at h
 unfold tp piN
 exact Int.ofNat_lt.2 h
theorem qiR: ∀k:Nat,qG 0 (List.replicate k 48)=0
 |0=>rfl
 |k+1=>by
  rw[List.replicate_succ,qaW]
  exact qiR k
theorem qm6 (k:Nat):qG 0 ([49]++List.replicate k 48)=10^k:=by
 rw[qcL,qiR,List.length_replicate]
 show qG 0 [49]*10^k+0=_
 rw[show qG 0 [49]=1 from rfl]
 omega
theorem qi3: ∀k:Nat,(List.replicate k (48:UInt8)).all vw=true
 |0=>rfl
 |k+1=>by
  rw[List.replicate_succ,List.all_cons,qi3 k]
  rfl
theorem qqP {N:Nat} (d:600000<N) {k:Nat} (h1:1<=k) (h2:k<=30):qa2 N (k:Int)=some (⟨T (Rat.divInt (piN k) (tp k)),T (Rat.divInt ((piN k:Int)+1) (tp k))⟩,0)/\Sml (Rat.divInt (piN k) (tp k)) 60/\Sml (Rat.divInt ((piN k:Int)+1) (tp k)) 60:=by
 have hl:=qql h2
 have d1:=qlI k
 obtain⟨g1,g2⟩:=qaO d1.2.1
 obtain⟨r,e1,i1⟩:=qeQ d (s:=piD.take (k+1)) (by rw[g2];exact d1.2.1) (by rw[g2,Ym];omega)
 rw[qbL d1.2.1]at i1
 have z1:([49]++List.replicate k 48:Str).all vw=true:=by
  rw[List.all_append,qi3]
  rfl
 obtain⟨g3,g4⟩:=qaO z1
 obtain⟨u,e2,j⟩:=qeQ d (s:=[49]++List.replicate k 48) (by rw[g4];exact z1) (by rw[g4];simp;omega)
 rw[qbL z1,qm6]at j
 have i1:IsZ r (piN k:Int):=i1
 have j:IsZ u (tp k):=j
 have ht:=qj0 (show k+1<=32 by omega)
 have ht0:=qj0 (show k<=32 by omega)
 have hp:=qhY k
 have e10:tp k*tp 1=tp (k+1):=qfY k 1
 have h10:tp 1=10:=rfl
 rw[h10]at e10
 have fd:Fit (piN k:Int) 2:=qeo (p:=32) (by show _<tp 32;omega) (by omega)
 have ft:Fit (tp k) 2:=qeo (p:=31) (by have:=qj0 (show k+1<=31 by omega);show _<tp 31;omega) (by omega)
 have h:Fit ((piN k:Int)+1) 3:=qja fd (F1 (by omega))
 obtain⟨f,e3,i3⟩:=qfy d i1 j (fd.mono (by omega)) (ft.mono (by omega)) (by omega)
 obtain⟨w,e4,i4⟩:=qfZ (N:=N) (by omega) i1 (Ud (z:=1) (by decide) (by decide)) (fd.mono (by omega)) ((F1 (n:=2) (by omega)).mono (by omega))
 obtain⟨g,e5,i5⟩:=qfy d i4 j (h.mono (by omega)) (ft.mono (by omega)) (by omega)
 have fl:qak (Rat.divInt (piN k) (tp k)) 3:=qbp (by omega) (fd.mono (by omega)) (ft.mono (by omega))
 have fh:qak (Rat.divInt ((piN k:Int)+1) (tp k)) 3:=qbp (by omega) h (ft.mono (by omega))
 have sl:Sml (Rat.divInt (piN k) (tp k)) 60:=qcn fl (by omega)
 have sh:Sml (Rat.divInt ((piN k:Int)+1) (tp k)) 60:=qcn fh (by omega)
 refine⟨?_,sl,sh⟩
 have R:qbW [48] (k:Int)=some (List.replicate k 48):=by
  unfold qbW
  rw[if_pos (by simp;omega),Int.toNat_natCast,qjc]
 have C:cat [49] (List.replicate k 48)=some ([49]++List.replicate k 48):=qbi (by simp;omega)
 unfold qa2
 rw[if_neg (by omega),decide_eq_false (by omega),ZB,if_neg (by simp),zF (by omega)]
 rw[show cut [51,49,52,49,53,57,50,54,53,51,53,56,57,55,57,51,50,51,56,52,54,50,54,52,51,51,56,51,50,55,57] 0 ((k+1:Nat):Int)=some (piD.take (k+1))from jX (by show k+1<=31;omega),ZB,e1,ZB,R,ZB,C,ZB,e2,ZB,e3,ZB,qdX,ZB,e4,ZB,e5,ZB,qi9 d i3 i5 (fl.mono (by omega)) (fh.mono (by omega)),qcg (sl.mono (by omega)),qcg (sh.mono (by omega)),if_neg (by simp),ZB]
theorem qqa {N:Nat} {k:Int} (h:k<1\/30<k):qa2 N k=some (⟨[],[]⟩,3):=by
 unfold qa2
 by_cases c:k<1
 ·rw[if_pos c,ZB,if_pos rfl]
 rw[if_neg c,decide_eq_true (by omega),ZB,if_pos rfl]
theorem qjL {N:Nat} (hN:600000<N): ∀(K n m j:Nat),n<K->n<=30->j+m*n<=30->m<=60->xB N K (T ((tp m:Int):Rat)) (n:Int) (T ((tp j:Int):Rat))=some (T ((tp (j+m*n):Int):Rat))
 |0,n,m,j,hK,_,_,_=>by omega
 |K+1,n,m,j,hK,hn,h1,h2=>by
  rw[xB]
  by_cases c:n=0
  ·rw[if_neg (by omega),c,Nat.mul_zero,Nat.add_zero]
  have hmn:m*1<=m*n:=Nat.mul_le_mul_left m (by omega)
  have u:Sml ((tp m:Int):Rat) 61:=qln (by omega)
  have sj:Sml ((tp j:Int):Rat) 61:=qln (by omega)
  have ediv:w64 ((n:Int).tdiv 2)=((n/2:Nat):Int):=by
   rw[YF (by omega),qg (by omega) (by omega)]
   omega
  have emod:(n:Int).tmod 2=((n%2:Nat):Int):=by
   rw[Int.tmod_eq_emod_of_nonneg (by omega)]
   omega
  have h:m*n=m*(n%2)+(m+m)*(n/2):=by
   have:=Nat.div_add_mod n 2
   conv=>lhs;rw[<-this]
   rw[Nat.mul_add,Nat.add_mul,Nat.mul_comm 2,<-Nat.mul_assoc]
   omega
  rw[if_pos (by omega),emod,ediv]
  by_cases d:n%2=1
  ·rw[d,Nat.mul_one]at h
   rw[if_pos (by omega),qbx hN (k:=61) (by omega) (by omega) sj u,ZB,ZB,qbx hN (k:=61) (by omega) (by omega) u u,ZB,<-Rat.intCast_mul,<-Rat.intCast_mul,qfY,qfY,qjL hN K (n/2) (m+m) (j+m) (by omega) (by omega) (by omega) (by omega),h,<-Nat.add_assoc]
  have d0:n%2=0:=by omega
  rw[d0,Nat.mul_zero,Nat.zero_add]at h
  rw[if_neg (by omega),ZB,qbx hN (k:=61) (by omega) (by omega) u u,ZB,<-Rat.intCast_mul,qfY,qjL hN K (n/2) (m+m) j (by omega) (by omega) (by omega) (by omega),h]
theorem T_10:([49,48]:Str)=T ((tp 1:Int):Rat):=by
 rw[show((tp 1:Int):Rat)=(((10:Nat):Int):Rat)from rfl,<-qhg,qaf (by decide),kr (by decide)]
 rfl
theorem qou {N:Nat} (d:600000<N) {k:Nat} (h:k<=30):qc9 N [49,48] (k:Int)=some (T ((tp k:Int):Rat)):=by
 unfold qc9
 rw[if_neg (by omega),T_10,T_1,show((1:Int):Rat)=((tp 0:Int):Rat)from rfl,qjL d N k 1 0 (by omega) (by omega) (by omega) (by omega),ZB,Nat.zero_add,Nat.one_mul]
theorem qrc {N:Nat} (d:600000<N) {k:Nat} (h1:1<=k) (j:k<=30):qdn N (k:Int)=some ⟨T (Rat.divInt (piN k) (tp k)),T (Rat.divInt ((piN k:Int)+1) (tp k))⟩:=by
 have hl:=qql j
 have hp:=qhY k
 have ht:=qj0 (show k+1<=31 by omega)
 have sd:Sml (((piN k:Nat):Int):Rat) 32:=vY (by omega) (by omega) (by have:=qj0 (show 31<=32 by omega);show _<tp 32;omega)
 have h:Sml (((piN k:Int)+1:Int):Rat) 32:=vY (by omega) (by omega) (by have h3:tp 31*tp 1=tp 32:=qfY 31 1;have h4:tp 1=10:=rfl;rw[h4]at h3;have:=qhY 31;show _<tp 32;omega)
 have st:Sml ((tp k:Int):Rat) 32:=qln (by omega)
 have s1:Sml ((1:Int):Rat) 32:=vY (by decide) (by omega) (by decide)
 have u:((tp k:Int):Rat)≠0:=by
  rw[Ne,Rat.intCast_eq_zero_iff]
  omega
 unfold qdn
 rw[zF (by omega)]
 rw[show cut [51,49,52,49,53,57,50,54,53,51,53,56,57,55,57,51,50,51,56,52,54,50,54,52,51,51,56,51,50,55,57] 0 ((k+1:Nat):Int)=some (piD.take (k+1))from jX (by show k+1<=31;omega),ZB,qou d j,ZB,pi_T,qfA d (k:=32) (by omega) (by omega) sd st u,ZB,T_1,qgV d (k:=32) (by omega) (by omega) sd s1,ZB,<-Rat.intCast_add,qfA d (k:=32) (by omega) (by omega) h st u,ZB,<-Rat.divInt_eq_div,<-Rat.divInt_eq_div]
end Go.Av
end
section
namespace Go.Av
theorem qjM {N:Nat} (d:600000<N) {a b:kK} (h1:a.Low.length<=10000) (h2:a.High.length<=10000) (j:b.Low.length<=10000) (u:b.High.length<=10000) {e:Int} (he:e=if qbr a=0 then qbr b else qbr a) (h0:e≠0):jP N a b=some (0,e):=by
 have h:=qgL (N:=N) (by omega) (qbr a) (qbr b)
 rw[<-he]at h
 unfold jP
 rw[qbz d h1 h2,ZB,qbz d j u,ZB,h,ZB,if_pos (by simp[h0])]
theorem qmN {N:Nat} (d:600000<N) {s:Str} (j:s.length<=10000) (h:chk s≠0):vJ N s=some (⟨[],[]⟩,chk s):=by
 unfold vJ
 rw[qdd d j,ZB,if_pos (by simp[h])]
theorem qfO {N:Nat} (u:600000<N) (a b:kK) (k:Int):xS N a b k=some true:=by
 unfold xS
 rw[show awk=some true from rfl,ZB,if_neg (by simp),qpF (by simp) (by omega),ZB,ZB]
 cases hw:[a.Low,a.High,b.Low,b.High].any fun s=>decide (60<s.length)with
 |true=>rw[if_pos rfl,ZB]
 |false=>
  have hw: ∀s∈[a.Low,a.High,b.Low,b.High],s.length<=60:=fun s hs=>by
   have:=List.any_eq_false.1 hw s hs
   simp at this
   exact this
  have w1:=hw a.Low (by simp)
  have w2:=hw a.High (by simp)
  have w3:=hw b.Low (by simp)
  have w4:=hw b.High (by simp)
  have hN1:100000<N:=by omega
  have C: ∃r8 n,jP N a b=some r8/\(if(if qbr a=0 then qbr b else qbr a)=0 then(xL N a b).bind fun r18=>some (r18.2,r18.1)else some ((if qbr a=0 then qbr b else qbr a),0):Option (Int×Int))=some n/\vI r8.1 r8.2 n.1 n.2=some true:=by
   by_cases hc:(if qbr a=0 then qbr b else qbr a)=0
   ·have ca:qbr a=0:=by
     by_cases c:qbr a=0
     ·exact c
     rw[if_neg c]at hc
     exact hc
    have cb:qbr b=0:=by rw[if_pos ca]at hc;exact hc
    obtain⟨p,p',rfl,hpp,hp,hp',cp,cp'⟩:=qiM (by omega) w1 w2 ca
    obtain⟨q,q',rfl,hqq,hq,hq',cq,cq'⟩:=qiM (by omega) w3 w4 cb
    refine⟨_,_,qkC u (hp.mono (by omega)) (hp'.mono (by omega)) (hq.mono (by omega)) (hq'.mono (by omega)) hpp hqq,by rw[if_pos hc,qj4 u (hp.mono (by omega)) (hp'.mono (by omega)) (hq.mono (by omega)) (hq'.mono (by omega)) hpp hqq,ZB],?_⟩
    simp only
    by_cases d1:p=q/\p'=q'/\p=p'
    ·rw[if_pos d1]
     exact qhR 0
    rw[if_neg d1]
    by_cases d2:p'<q
    ·rw[if_pos d2]
     exact qhR (-1)
    rw[if_neg d2]
    by_cases d3:q'<p
    ·rw[if_pos d3]
     exact qhR 1
    rw[if_neg d3]
    exact qmJ (by decide)
   exact⟨_,_,qjM u (by omega) (by omega) (by omega) (by omega) rfl hc,by rw[if_neg hc],qmJ hc⟩
  obtain⟨r8,n,c1,c2,c3⟩:=C
  have R: ∃(r9:kK×Int) (d:Int),vJ N a.Low=some r9/\(if chk a.Low=0 then(vS a.Low).bind fun r25=>(qcA (decide (r25<0)) 3).bind fun r26=>some r26 else some (chk a.Low):Option Int)=some d/\
   ((d≠0/\r9=(⟨[],[]⟩,d))\/(d=0/\ ∃lo hi:Rat,r9=(⟨T lo,T hi⟩,0)/\xA N a.Low=some ⟨T lo,T hi⟩/\Sml lo 600/\Sml hi 600)):=by
   unfold qcA
   by_cases c:chk a.Low=0
   ·obtain⟨p,hp,sp,cp⟩:=qjf (k:=60) (by omega) w1 c
    rw[hp,if_pos cp,qlD,ZB]
    by_cases h0:p<0
    ·refine⟨_,3,qm4 u h0 (sp.mono (by omega)) cp,?_,.inl ⟨by decide,rfl⟩⟩
     rw[if_pos (decide_eq_true (qhA.2 h0)),ZB]
    obtain⟨lo,hi,e1,e2,e3,e4⟩:=qpd u (Rat.not_lt.1 h0) (sp.mono (by omega)) cp
    refine⟨_,0,e1,?_,.inr ⟨rfl,lo,hi,rfl,qnw u (Rat.not_lt.1 h0) sp e2,e3.mono (by omega),e4.mono (by omega)⟩⟩
    rw[if_neg (fun x=>h0 (qhA.1 (of_decide_eq_true x))),ZB]
   exact⟨_,chk a.Low,qmN u (by omega) c,by rw[if_neg c],.inl ⟨c,rfl⟩⟩
  obtain⟨r9,d,d1,d2,d3⟩:=R
  rw[if_neg (by simp),c1,ZB,d1,ZB]
  have P: ∃j,qa2 N k=some j/\((if k<1 then some true else some (decide (k>30)):Option Bool).bind fun b40=>if b40=true then(zi N j.1 j.2 3 a).bind fun r43=>some r43 else(qdn N k).bind fun r44=>(zi N j.1 j.2 0 r44).bind fun r45=>some r45)=some true:=by
   by_cases h:k<1\/30<k
   ·refine⟨_,qqa h,?_⟩
    by_cases c:k<1
    ·rw[if_pos c,ZB,if_pos rfl,qge (by decide),ZB]
    rw[if_neg c,decide_eq_true (by omega),ZB,if_pos rfl,qge (by decide),ZB]
   obtain⟨m,rfl⟩: ∃m:Nat,k=(m:Int):=⟨k.toNat,by omega⟩
   obtain⟨p1,p2,p3⟩:=qqP u (k:=m) (by omega) (by omega)
   refine⟨_,p1,?_⟩
   rw[if_neg (by omega),decide_eq_false (by omega),ZB,if_neg (by simp),qrc u (by omega) (by omega),ZB]
   simp only
   rw[qh2 hN1 (p2.mono (by omega)) (p3.mono (by omega)),ZB]
  obtain⟨j,p1,p2⟩:=P
  rw[p1,ZB,qe6 u (by omega) (by omega),ZB,qe6 u (by omega) (by omega),ZB,qqd (by omega),ZB,c2,ZB]
  obtain⟨n14,n15⟩:=n
  simp only at c3⊢
  rw[c3,ZB,if_neg (by simp),qf4 u (by omega),ZB,d2,ZB]
  have B:(if(!decide (d=0))=true then(zi N r9.1 r9.2 d a).bind fun r28=>if(!r28)=true then some true else if d=0 then(xA N a.Low).bind fun r31=>(zi N r9.1 r9.2 0 r31).bind fun r32=>some (!r32)else some false
   else if d=0 then(xA N a.Low).bind fun r34=>(zi N r9.1 r9.2 0 r34).bind fun r35=>some (!r35)else some false:Option Bool)=some false:=by
   rcases d3 with⟨h,rfl⟩|⟨rfl,lo,hi,rfl,h,s1,s2⟩
   ·rw[if_pos (by simp[h])]
    simp only
    rw[qge h,ZB,if_neg (by simp),if_neg h]
   rw[if_neg (by simp),if_pos rfl,h,ZB]
   simp only
   rw[qh2 hN1 s1 s2,ZB]
   rfl
  rw[B,ZB,if_neg (by simp)]
  exact p2
end Go.Av
end
