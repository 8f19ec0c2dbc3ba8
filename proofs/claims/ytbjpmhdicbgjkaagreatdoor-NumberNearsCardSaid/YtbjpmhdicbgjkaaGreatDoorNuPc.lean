/-
  Names.
-/
import Derived.Test.YtbjpmhdicbgjkaaGreatDoorAvPt
import Derived.Test.YtbjpmhdicbgjkaaGreatDoorNuPb
noncomputable section
set_option linter.unusedSimpArgs false
set_option linter.unusedVariables false
set_option maxRecDepth 100000
section
namespace Go.Av
end Go.Av
end
section
namespace Go.Av
theorem qmI {N:Nat} (hN:600000<N) {f:qm} {q:Rat} (h:IsF f q) (j:jV q 3900): ∃r,xR N f=some r/\IsZ r q.floor:=by
 obtain⟨a,b,e,u,i2⟩:=qem (N:=N) (by omega) h.1 h.2 j.1 j.2 (by have:=q.den_pos;omega)
 refine⟨a,?_,?_⟩
 ·unfold xR
  rw[e,ZB]
 rw[Rat.floor_def]
 exact u
theorem qih {q:Rat} {n:Nat} (h:Fit q.num n):Fit q.floor n:=by
 rw[Rat.floor_def]
 exact qa0 (jg _ (by have:=q.den_pos;omega)) h
theorem qpd {m n:Nat} (h:m<=n):(Lib.decDigits m).length<=(Lib.decDigits n).length:=by
 have j:=qfK n
 exact(yH j).2 (Nat.lt_of_le_of_lt h ((yH j).1 (Nat.le_refl _)))
theorem qmc {q:Rat} {k:Nat} (h:Sml q k) (j:0<k):Sml ((q.floor:Int):Rat) k:=by
 constructor
 ·rw[Rat.num_intCast,Rat.floor_def]
  have:=jg q.num (show(0:Int)<(q.den:Int)by have:=q.den_pos;omega)
  exact Nat.le_trans (qpd (by omega)) h.1
 rw[Rat.den_intCast]
 exact(yH j).2 (Nat.one_lt_pow (by omega) (by decide))
theorem qU {z:Int} {n:Nat} (h:Fit z n) (j:1<=n):jV (z:Rat) n:=⟨by rw[Rat.num_intCast];exact h,by rw[Rat.den_intCast];exact F1 j⟩
theorem qkj {N:Nat} (hN:600000<N) {a b:Int} {B:Nat} (hB:B<=8000) (fa:zJ a B) (u:0<b):qab N (rI a) (rI b)=some (rI (a/b)):=by
 have h:0<=(a.natAbs:Int)/b:=Int.ediv_nonneg (by omega) (by omega)
 have r0:=Int.emod_nonneg (a.natAbs:Int) (show b≠0 by omega)
 have r1:=Int.emod_lt_of_pos (a.natAbs:Int) u
 have dm:=Int.mul_ediv_add_emod (a.natAbs:Int) b
 have fq:zJ ((a.natAbs:Int)/b) B:=zJ.le (Int.le_trans (jg _ u) (Int.le_refl _)) fa.abs
 have ql:(dg E9 ((a.natAbs:Int)/b)).length<=B:=by
  have:=fq.len
  rw[show((((a.natAbs:Int)/b).natAbs:Nat):Int)=(a.natAbs:Int)/b by omega]at this
  exact this
 have eb:(rI b).w=dg E9 b:=by rw[rI_w,show(b.natAbs:Int)=b by omega]
 unfold qab
 rw[eb,rI_w,qjh (by omega) (by omega) u hB fa.abs,ZB]
 simp only
 by_cases hn:a<0
 ·rw[if_pos (show(rI a).neg=true from decide_eq_true hn),ZB]
  by_cases hr:(a.natAbs:Int)%b=0
  ·have hz:dg E9 ((a.natAbs:Int)%b)=[]:=by rw[hr];rfl
   have j:a/b= -((a.natAbs:Int)/b):=by
    rw[show a= -(a.natAbs:Int)by omega,Int.natAbs_neg,Int.natAbs_natCast,Int.neg_ediv_of_dvd (Int.dvd_of_emod_eq_zero hr)]
   rw[hz,if_neg (by simp),ZB,vQ _ (zy E1 h).1 (by omega) (by omega),ZB,if_pos (show(rI a).neg=true from decide_eq_true hn),jh E1 h,j]
  have hz: ¬(dg E9 ((a.natAbs:Int)%b)).length=0:=by
   intro c
   have:=jh E1 r0
   rw[List.eq_nil_of_length_eq_zero c]at this
   exact hr this.symm
  have j:a/b= -((a.natAbs:Int)/b+1):=by
   have:a=b*(-((a.natAbs:Int)/b+1))+(b-(a.natAbs:Int)%b):=by
    rw[Int.mul_neg,Int.mul_add,Int.mul_one]
    omega
   conv=>lhs;rw[this]
   rw[Int.add_comm,Int.add_mul_ediv_left _ _ (by omega),Int.ediv_eq_zero_of_lt (by omega) (by omega),Int.zero_add]
  obtain⟨l,e,hd,hl,hv⟩:=qeZ (N:=N) (zy E1 h).1 (b:=[1]) (by rw[<-qk5];exact(zy E1 (by decide)).1) (by omega) (by decide) (by omega)
  rw[decide_eq_true (show((dg E9 ((a.natAbs:Int)%b)).length:Int)>0 by omega),if_pos rfl,e,ZB,ZB,vQ _ hd (by omega) (by omega),ZB,if_pos (show(rI a).neg=true from decide_eq_true hn),hv,jh E1 h,show dv E9 [1]=1 from rfl,j]
 rw[if_neg (show¬(rI a).neg=true from fun c=>hn (of_decide_eq_true c)),ZB,if_neg (by simp),ZB,vQ _ (zy E1 h).1 (by omega) (by omega),ZB,if_neg (show¬(rI a).neg=true from fun c=>hn (of_decide_eq_true c)),jh E1 h,show(a.natAbs:Int)=a by omega]
theorem qjV {q:Rat} (h:q.den=1):((q.floor:Int):Rat)=q:=by
 apply Rat.ext
 ·rw[Rat.num_intCast,Rat.floor_def,h]
  exact Int.ediv_one _
 rw[Rat.den_intCast,h]
theorem qmu {N:Nat} (u:600000<N) {q:Rat} {k:Nat} (j:0<k) (hk:k<=4000) (h:Sml q k):qbm N (T q)=some (T ((q.floor:Int):Rat)):=by
 have hl:=qcT h
 have W:vI N (T q)=some (decide (q.den=1)):=by
  unfold vI
  rw[qbu (by omega) (by omega),ZB]
  by_cases c:q.den=1
  ·rw[(qeu q c).2,decide_eq_true c,decide_eq_true rfl]
  have:=(qfu q c).1
  rw[decide_eq_false c,decide_eq_false (by omega)]
 unfold qbm
 rw[W,ZB]
 by_cases c:q.den=1
 ·rw[if_pos (decide_eq_true c),qjV c]
 rw[if_neg (fun x=>c (of_decide_eq_true x)),qbT u (h.mono hk),ZB]
 have p1:=qbl (n:=500) h j (by omega)
 have hd:=den_pos q
 have p2:zJ (q.num/(q.den:Int)) 500:=zJ.le (Int.le_trans (jg _ (by omega)) (Int.le_refl _)) p1
 simp only
 rw[qkj u (by omega) p1 (by omega),ZB,qgj (by omega) (p2.mono (by omega)),ZB]
 unfold T
 rw[Rat.num_intCast,Rat.den_intCast,if_pos rfl,YQ,Rat.floor_def]
theorem fit1 {z:Int} (h: -9223372036854775808<=z) (j:z<=9223372036854775807):Fit z 1:=by
 have:W=18446744073709551616:=rfl
 unfold Fit
 rw[Int.pow_succ,Int.pow_zero,Int.one_mul]
 omega
end Go.Av
end
section
namespace Go.Av
open Classical
theorem qdd {p q:Rat}:((if p<q then-1 else if p=q then 0 else 1:Int)>0)↔q<p:=by
 by_cases h:p<q
 ·rw[if_pos h]
  exact⟨fun c=>absurd c (by decide),fun c=>absurd c (Rat.not_lt.2 (Rat.le_of_lt h))⟩
 rw[if_neg h]
 by_cases e:p=q
 ·rw[if_pos e]
  exact⟨fun c=>absurd c (by decide),fun c=>absurd (e▸c) Rat.lt_irrefl⟩
 rw[if_neg e]
 refine⟨fun _=>?_,fun _=>by decide⟩
 exact Rat.lt_of_le_of_ne (Rat.not_lt.1 h) (Ne.symm e)
theorem qkH {p q:Rat}:((if p<q then-1 else if p=q then 0 else 1:Int)<0)↔p<q:=by
 by_cases h:p<q
 ·rw[if_pos h]
  exact⟨fun _=>h,fun _=>by decide⟩
 rw[if_neg h]
 refine⟨fun c=>?_,fun c=>absurd c h⟩
 by_cases e:p=q
 ·rw[if_pos e]at c
  exact absurd c (by decide)
 rw[if_neg e]at c
 exact absurd c (by decide)
def IsL:List qm->List Rat->Prop
 |[],[]=>True
 |f::l,q::r=>IsF f q/\IsL l r
 |_,_=>False
theorem IsL.get: ∀{l:List qm} {r:List Rat},IsL l r->l.length=r.length/\ ∀(i:Nat) (q:Rat),r[i]? =some q-> ∃f,l[i]? =some f/\IsF f q
 |[],[],_=>⟨rfl,fun i q h=>by simp at h⟩
 |f::l,q::r,h=>by
  obtain⟨u,j⟩:=h
  obtain⟨a,b⟩:=IsL.get j
  refine⟨by simp[a],fun i x hx=>?_⟩
  match i,hx with
  |0,hx=>
   simp at hx
   exact⟨f,rfl,hx▸u⟩
  |i+1,hx=>
   rw[YK]at hx⊢
   exact b i x hx
 |[],_::_,h=>h.elim
 |_::_,[],h=>h.elim
end Go.Av
end
section
namespace Go.Av
theorem qnK {q:Rat}:0<q.num↔0<q:=by
 have u:=Rat.num_nonneg (q:=q)
 have j:=Rat.num_eq_zero (q:=q)
 constructor
 ·intro h
  exact Rat.lt_of_le_of_ne (u.1 (by omega)) (fun e=>by have:=j.2 e.symm;omega)
 intro h
 have h3:=u.2 (Rat.le_of_lt h)
 have h4:q.num≠0:=fun e=>Rat.ne_of_gt h (j.1 e)
 omega
theorem qoK {f:qm} {q:Rat} (h:IsF f q):qau f=some (if q.num<0 then-1 else if q.num=0 then 0 else 1):=by
 unfold qau
 rw[qdj h.1,ZB]
section ops
variable {N:Nat} (hN:600000<N)
include hN
variable {p p' q q':Rat} (hp:Sml p 60) (hp':Sml p' 60) (hq:Sml q 60) (hq':Sml q' 60) (cp:chk (T p)=0) (cp':chk (T p')=0) (cq:chk (T q)=0) (cq':chk (T q')=0) (hpp:p<=p') (hqq:q<=q')
include hp hp' hq hq' cp cp' cq cq' hpp hqq
end ops
end Go.Av
end
section
namespace Go.Av
def le3 (x u v:Rat):Prop:=(x-u).abs<(x-v).abs\/((x-u).abs=(x-v).abs/\(u.den<v.den\/(u.den=v.den/\u<=v)))
theorem qfr (x u:Rat):le3 x u u:= .inr ⟨rfl,.inr ⟨rfl,Rat.le_refl⟩⟩
theorem qoI {a b c:Rat} (h:a<b) (k:b<c):a<c:=by
 have:=Rat.le_of_lt k
 rcases Rat.le_iff_lt_or_eq.1 (Rat.le_trans (Rat.le_of_lt h) this)with e|e
 ·exact e
 rw[e]at h
 exact absurd k (Rat.not_lt.2 (Rat.le_of_lt h))
theorem qel {x u v w:Rat} (h:le3 x u v) (k:le3 x v w):le3 x u w:=by
 rcases h with h|⟨h1,h2⟩
 ·rcases k with k|⟨k1,_⟩
  ·exact .inl (qoI h k)
  exact .inl (k1▸h)
 rcases k with k|⟨k1,j⟩
 ·exact .inl (h1▸k)
 refine .inr ⟨h1.trans k1,?_⟩
 rcases h2 with h2|⟨h2,h3⟩
 ·rcases j with j|⟨j,_⟩
  ·exact .inl (Nat.lt_trans h2 j)
  exact .inl (j▸h2)
 rcases j with j|⟨j,k3⟩
 ·exact .inl (h2▸j)
 exact .inr ⟨h2.trans j,Rat.le_trans h3 k3⟩
theorem qjf {x u v:Rat} (h:le3 x u v) (k:le3 x v u):u=v:=by
 rcases h with h|⟨h1,h2⟩
 ·rcases k with k|⟨k1,_⟩
  ·exact absurd (qoI h k) Rat.lt_irrefl
  rw[k1]at h
  exact absurd h Rat.lt_irrefl
 rcases k with k|⟨_,j⟩
 ·rw[h1]at k
  exact absurd k Rat.lt_irrefl
 rcases h2 with h2|⟨h2,h3⟩<;>rcases j with j|⟨j,k3⟩
 ·omega
 ·omega
 ·omega
 exact Rat.le_antisymm h3 k3
def qjk (x:Rat) (m:Nat) (r:Rat):Prop:=r.den<=m/\ ∀y:Rat,y.den<=m->le3 x r y
theorem qjk.uniq {x r s:Rat} {m:Nat} (h:qjk x m r) (k:qjk x m s):r=s:=qjf (h.2 s k.1) (k.2 r h.1)
theorem qi6 {x u v:Rat} (h:u<=x) (k:v<=u):le3 x u v:=by
 rcases Rat.le_iff_lt_or_eq.1 k with e|e
 ·left
  rw[Rat.abs_of_nonneg (by grind),Rat.abs_of_nonneg (by grind)]
  grind
 rw[e]
 exact qfr x u
theorem qgL {x u v:Rat} (h:x<=u) (k:u<=v):le3 x u v:=by
 rcases Rat.le_iff_lt_or_eq.1 k with e|e
 ·left
  rw[Rat.abs_of_nonpos (by grind),Rat.abs_of_nonpos (by grind)]
  grind
 rw[e]
 exact qfr x v
theorem qid {x:Rat} {m:Nat} (h:x.den<=m):qjk x m x:=by
 refine⟨h,fun y hy=>?_⟩
 rcases Rat.le_total (a:=x) (b:=y)with c|c
 ·exact qgL Rat.le_refl c
 exact qi6 Rat.le_refl c
theorem between {c d e f p q:Int} (hd:0<d) (hf:0<f) (j:c*f-d*e=1) (hq:q<d+f) (a0:0<q):p*f<=e*q\/c*q<=p*d:=by
 by_cases h:p*f<=e*q
 ·exact .inl h
 right
 by_cases k:c*q<=p*d
 ·exact k
 exfalso
 have h1:d*1<=d*(p*f-e*q):=Yc (by omega) (by omega)
 have h2:f*1<=f*(c*q-p*d):=Yc (by omega) (by omega)
 have u:d*(p*f-e*q)+f*(c*q-p*d)=q*(c*f-d*e):=by grind
 rw[j]at u
 omega
theorem qiI (q:Rat):q*((q.den:Int):Rat)=(q.num:Rat):=by
 have h:((q.den:Int):Rat)≠0:=by
  rw[Ne,Rat.intCast_eq_zero_iff]
  have:=q.den_pos
  omega
 conv=>lhs;lhs;rw[<-Rat.num_divInt_den q,Rat.divInt_eq_div]
 exact Rat.div_mul_cancel h
theorem qcK {y M:Rat} {p q e f:Int} (hq:0<q) (hf:0<f) (h1:y*(q:Rat)=(p:Rat)) (h2:M*(f:Rat)=(e:Rat)):y<=M↔p*f<=e*q:=by
 have u:(0:Rat)<(q:Rat):=Rat.intCast_pos.2 hq
 have h:(0:Rat)<(f:Rat):=Rat.intCast_pos.2 hf
 have j:=Rat.mul_pos u h
 rw[<-Rat.intCast_le_intCast,Rat.intCast_mul,Rat.intCast_mul,<-h1,<-h2,show y*(q:Rat)*(f:Rat)=y*((q:Rat)*(f:Rat))by grind,show M*(f:Rat)*(q:Rat)=M*((q:Rat)*(f:Rat))by grind,<-Rat.not_lt,<-Rat.not_lt,Rat.mul_lt_mul_right j]
theorem qga {d a b:Int} (h:d∣a*b) (g:Int.gcd d a=1):d∣b:=by
 have j:d.natAbs∣a.natAbs*b.natAbs:=by
  rw[<-Int.natAbs_mul]
  exact Int.natAbs_dvd_natAbs.2 h
 exact Int.natAbs_dvd_natAbs.1 (Nat.Coprime.dvd_of_dvd_mul_left g j)
theorem qde {L:Rat} {c d e f:Int} (hd:0<d) (h:L*(d:Rat)=(c:Rat)) (j:c*f-d*e=1\/c*f-d*e= -1):(L.den:Int)=d:=by
 have h1:=qiI L
 have hL:=L.den_pos
 have u:L.num*d=c*(L.den:Int):=by
  rw[<-Rat.intCast_inj,Rat.intCast_mul,Rat.intCast_mul,<-h1,<-h]
  grind
 have hg:Int.gcd c d=1:=by
  have g1:(Int.gcd c d:Int)∣c*f-d*e:=Int.dvd_sub (Int.dvd_mul_of_dvd_left (Int.gcd_dvd_left ..)) (Int.dvd_mul_of_dvd_left (Int.gcd_dvd_right ..))
  rcases j with k|k
  ·rw[k]at g1
   exact Int.ofNat_inj.1 (Int.eq_one_of_dvd_one (by omega) g1)
  rw[k]at g1
  exact Int.ofNat_inj.1 (Int.eq_one_of_dvd_one (by omega) (Int.dvd_neg.1 g1))
 have d1:d∣(L.den:Int):=by
  have:d∣c*(L.den:Int):=⟨L.num,by rw[<-u,Int.mul_comm]⟩
  exact qga this (by rw[Int.gcd_comm];exact hg)
 have d2:(L.den:Int)∣d:=by
  have:(L.den:Int)∣L.num*d:=⟨c,by rw[u,Int.mul_comm]⟩
  refine qga this ?_
  have:=L.reduced
  rw[Int.gcd,Int.natAbs_natCast,Nat.gcd_comm]
  exact this
 exact Int.dvd_antisymm (by omega) (by omega) d2 d1
theorem qlB {x L M R:Rat} {c d e f:Int} {m:Nat} (j:0<d) (u:0<f) (hdm:d<=m) (hfm:f<=m) (hs:(m:Int)<d+f) (hL:L*(d:Rat)=(c:Rat)) (hM:M*(f:Rat)=(e:Rat))
 (hx:(M<=x/\x<=L/\c*f-d*e=1)\/(L<=x/\x<=M/\c*f-d*e= -1)) (hR:R=L\/R=M) (h1:le3 x R L) (h2:le3 x R M):qjk x m R:=by
 have dd:c*f-d*e=1\/c*f-d*e= -1:=by
  rcases hx with⟨_,_,h⟩|⟨_,_,h⟩
  ·exact .inl h
  exact .inr h
 have nL:=qde j hL dd
 have nM:(M.den:Int)=f:=by
  refine qde (e:=c) (f:=d) u hM ?_
  rcases dd with h|h
  ·right
   rw[Int.mul_comm e d,Int.mul_comm f c]
   omega
  left
  rw[Int.mul_comm e d,Int.mul_comm f c]
  omega
 refine⟨by rcases hR with h|h<;>rw[h]<;>omega,fun y hy=>?_⟩
 have yd:=y.den_pos
 have ny:=qiI y
 rcases hx with⟨b1,b2,h⟩|⟨b1,b2,h⟩
 ·rcases between (p:=y.num) (q:=(y.den:Int)) j u h (by omega) (by omega)with k|k
  ·exact qel h2 (qi6 b1 ((qcK (by omega) u ny hM).2 k))
  exact qel h1 (qgL b2 ((qcK j (by omega) hL ny).2 k))
 have h':e*d-f*c=1:=by
  rw[Int.mul_comm e d,Int.mul_comm f c]
  omega
 rcases between (p:=y.num) (q:=(y.den:Int)) u j h' (by omega) (by omega)with k|k
 ·exact qel h1 (qi6 b1 ((qcK (by omega) j ny hL).2 k))
 exact qel h2 (qgL b2 ((qcK u (by omega) hM ny).2 k))
end Go.Av
end
section
namespace Go.Av
theorem tdm {n:Int}:((n.tdiv 1000000000).natAbs:Int)=(n.natAbs:Int)/1000000000/\((n.tmod 1000000000).natAbs:Int)=(n.natAbs:Int)%1000000000/\(n.tmod 1000000000<0->n<0):=by
 rcases Int.lt_or_le n 0 with h|h
 ·obtain⟨m,rfl⟩: ∃m,n= -m:=⟨-n,by omega⟩
  rw[Int.neg_tdiv,Int.neg_tmod,YF (by omega),Int.tmod_eq_emod_of_nonneg (by omega)]
  omega
 rw[YF h,Int.tmod_eq_emod_of_nonneg h]
 omega
theorem qjW: ∀(k K:Nat) (l:List Int) (n:Int),(n.natAbs:Int)<E9^k->k<=3->k<K-> -9223372036854775808<=n->n<=9223372036854775807->l.length+k<=1000-> ∃w,zR K l n=some (l++w)/\Dg E9 w/\dv E9 w=(n.natAbs:Int)/\w.length<=k
 |k,0,l,n,_,_,hK,_,_,_=>by omega
 |k,K+1,l,n,hn,hk,hK,h1,h2,hl=>by
  rw[zR]
  by_cases h0:n=0
  ·rw[if_neg (by simp[h0]),h0]
   exact⟨[],by simp,Dg.nil,rfl,by simp⟩
  match k,hn,hk,hK with
  |0,hn,hk,hK=>
   rw[Int.pow_zero]at hn
   omega
  |k+1,hn,hk,hK=>
   obtain⟨h,t2,t3⟩:=tdm (n:=n)
   have u:(if n.tmod 1000000000<0 then some (w64 (0-n.tmod 1000000000))else some (n.tmod 1000000000):Option Int)=some ((n.natAbs:Int)%1000000000):=by
    by_cases c:n.tmod 1000000000<0
    ·rw[if_pos c,qj (by omega) (by omega)]
     congr 1
     omega
    rw[if_neg c]
    congr 1
    omega
   have j:E9^(k+1)=E9^k*E9:=Int.pow_succ ..
   have hq:((n.tdiv 1000000000).natAbs:Int)<E9^k:=by
    rw[h]
    exact Int.ediv_lt_of_lt_mul (by decide) (by rw[<-j];exact hn)
   rw[if_pos (by simp[h0]),u,ZB,qcz (by simp;omega) (by simp;omega),ZB,qj (by omega) (by omega)]
   obtain⟨w,e,d1,d2,d3⟩:=qjW k K (l++[(n.natAbs:Int)%1000000000]) (n.tdiv 1000000000) hq (by omega) (by omega) (by omega) (by omega) (by simp;omega)
   refine⟨(n.natAbs:Int)%1000000000::w,by rw[e,Yz];rfl,Dg.cons ⟨by omega,by show _<(1000000000:Int);omega⟩ d1,?_,by simp;omega⟩
   rw[zg,d2,h]
   show(n.natAbs:Int)%1000000000+1000000000*((n.natAbs:Int)/1000000000)=_
   omega
theorem qmY {N:Nat} (hN:100<N) {n:Int} (h1: -9223372036854775808<=n) (h2:n<=9223372036854775807):vK N n=some (rI n):=by
 obtain⟨w,e,j,u,d3⟩:=qjW 3 N [] n (by show _<(1000000000:Int)^3;omega) (by omega) (by omega) h1 h2 (by simp)
 unfold vK
 rw[e,ZB,List.nil_append,vQ _ j (by omega) (by omega),ZB,u]
 congr 2
 by_cases c:n<0
 ·rw[if_pos (decide_eq_true c)]
  omega
 rw[if_neg (fun h=>c (of_decide_eq_true h))]
 omega
theorem qix (n:Int):T (n:Rat)=Lib.itoa n:=by
 unfold T
 rw[Rat.num_intCast,Rat.den_intCast,if_pos rfl,YQ]
theorem qoL {n:Int} (h: -9223372036854775808<=n) (j:n<=9223372036854775807):zJ n 3:=by
 show(n.natAbs:Int)<(1000000000:Int)^3
 omega
theorem qk3 {N:Nat} (u:60000<N) {n:Int} (j: -9223372036854775808<=n) (h:n<=9223372036854775807):yz N n=some (T (n:Rat)):=by
 unfold yz
 rw[qmY (by omega) j h,ZB,qgj u ((qoL j h).mono (by omega)),ZB,qix]
theorem qgC {n:Int} (h: -9223372036854775808<=n) (j:n<=9223372036854775807):Sml (n:Rat) 27:=by
 refine qhy (n:=3) ?_ ?_ (by omega)
 ·rw[Rat.num_intCast]
  exact qoL h j
 rw[Rat.den_intCast]
 exact qoL (by decide) (by decide)
theorem qei (q:Rat):q.abs=if q.num<0 then-q else q:=by
 by_cases h:q.num<0
 ·rw[if_pos h,Rat.abs_of_nonpos]
  rw[<-Rat.not_lt,<-qnK]
  omega
 rw[if_neg h,Rat.abs_of_nonneg]
 rw[<-Rat.num_nonneg]
 omega
theorem qiT {q:Rat} (h:(T q).length<=100000):xC (T q)=some (T q.abs):=by
 have j:=qpR (N:=0) h
 unfold qbS at j
 rw[qiP,ZB]at j
 unfold xC
 rw[qiP,ZB,qei]
 by_cases c:q.num<0
 ·simp only[if_pos c]at j⊢
  rw[if_pos (by decide)]at j⊢
  exact j
 simp only[if_neg c]
 rw[if_neg (by split<;>decide)]
theorem qgw {q:Rat} {k:Nat} (h:Sml q k):Sml q.abs k:=by
 rw[qei]
 split
 ·exact qgm h
 exact h
def bst (x b y:Rat):Rat:=if(x-y).abs<(x-b).abs then y else b
def cnd (x:Rat) (i:Nat):Rat:=Rat.divInt ((x*((i/2:Nat):Rat)).floor+((i%2:Nat):Int)) ((i/2:Nat):Int)
def Fst (x b:Rat) (n:Nat):Prop:= ∃i,2<=i/\i<n/\b=cnd x i/\ ∀j,2<=j->j<n->(x-b).abs<(x-cnd x j).abs\/((x-b).abs=(x-cnd x j).abs/\i<=j)
theorem Fst.step {x b:Rat} {n:Nat} (h:Fst x b n):Fst x (bst x b (cnd x n)) (n+1):=by
 obtain⟨i,h1,h2,h3,u⟩:=h
 unfold bst
 by_cases c:(x-cnd x n).abs<(x-b).abs
 ·rw[if_pos c]
  refine⟨n,by omega,by omega,rfl,fun j j1 j2=>?_⟩
  by_cases e:j=n
  ·exact .inr ⟨by rw[e],by omega⟩
  rcases u j j1 (by omega)with k|⟨k,_⟩
  ·exact .inl (qoI c k)
  exact .inl (k▸c)
 rw[if_neg c]
 refine⟨i,h1,by omega,h3,fun j j1 j2=>?_⟩
 by_cases e:j=n
 ·rw[e]
  rcases Rat.le_iff_lt_or_eq.1 (Rat.not_lt.1 c)with k|k
  ·exact .inl k
  exact .inr ⟨k,by omega⟩
 exact u j j1 (by omega)
theorem qox {a:Int} {q:Nat} (h:0<q):(Rat.divInt a (q:Int)).den<=q:=by
 rw[Rat.den_divInt,if_neg (by omega),Int.natAbs_natCast]
 exact Nat.div_le_self ..
end Go.Av
end
section
namespace Go.Av
theorem F_eq {n:Int} (j: -9223372036854775808<=n) (h:n<=9223372036854775807): ∃f,qfq n=some f/\IsF f (n:Rat):=by
 obtain⟨f,e,i⟩:=qe1 (Ud j h)
 refine⟨f,?_,i⟩
 unfold qfq
 rw[qg8,ZB,e,ZB]
theorem qnp {N:Nat} (u:600000<N) {f:qm} {q:Rat} (h:IsF f q) (j:jV q 3900): ∃g,xk N f=some g/\IsF g ((q.floor:Int):Rat):=by
 obtain⟨r,e,i⟩:=qmI u h j
 obtain⟨g,e2,i2⟩:=qe1 i
 refine⟨g,?_,i2⟩
 unfold xk
 rw[e,ZB,e2,ZB]
theorem qmU {N:Nat} (hN:600000<N) {f g:qm} {p q:Rat} (u:IsF f p) (hg:IsF g q) {n:Nat} (hn:n<=1900) (fp:jV p n) (j:jV q n): ∃r,qbd N f g=some r/\IsF r (q-p).abs:=by
 obtain⟨a,e1,i1⟩:=qgG hN u hg hn fp j
 obtain⟨b,e2,i2⟩:=qgG hN hg u hn j fp
 unfold qbd
 rw[e1,ZB,qoK i1,ZB,e2,ZB]
 by_cases h:(p-q).num<0
 ·rw[if_pos h,if_pos (by decide)]
  refine⟨b,rfl,?_⟩
  rw[Rat.abs_sub_comm,qei,if_pos h,Rat.neg_sub]
  exact i2
 rw[if_neg h,if_neg (by split<;>decide)]
 refine⟨a,rfl,?_⟩
 rw[Rat.abs_sub_comm,qei,if_neg h]
 exact i1
theorem qjQ {N:Nat} (j:600000<N) {fc fd fk fa fb:qm} {c d k a b:Int} (ic:IsF fc (c:Rat)) (id:IsF fd (d:Rat)) (ik:IsF fk (k:Rat)) (ia:IsF fa (a:Rat)) (ib:IsF fb (b:Rat)) {n:Nat} (h:1<=n) (hn:n<=900) (zc:Fit c n) (zd:Fit d n) (zk:Fit k n) (za:Fit a n) (zb:Fit b n):
 ∃u v:qm,kr N ⟨fc,fd⟩ fk ⟨fa,fb⟩=some ⟨u,v⟩/\IsF u ((c*k+a:Int):Rat)/\IsF v ((d*k+b:Int):Rat):=by
 have m1:=qe6 (qU zc h) (qU zk h)
 have m2:=qe6 (qU zd h) (qU zk h)
 obtain⟨r1,e1,i1⟩:=qi8 j ic ik (n:=n) (by omega) (qU zc h) (qU zk h)
 obtain⟨r2,e2,i2⟩:=qi4 j i1 ia (n:=n+n) (by omega) m1 ((qU za h).mono (by omega))
 obtain⟨r3,e3,i3⟩:=qi8 j id ik (n:=n) (by omega) (qU zd h) (qU zk h)
 obtain⟨r4,e4,i4⟩:=qi4 j i3 ib (n:=n+n) (by omega) m2 ((qU zb h).mono (by omega))
 refine⟨r2,r4,?_,?_,?_⟩
 ·unfold kr
  simp only
  rw[e1,ZB,e2,ZB,e3,ZB,e4,ZB]
 ·rw[Rat.intCast_add,Rat.intCast_mul]
  exact i2
 rw[Rat.intCast_add,Rat.intCast_mul]
 exact i4
theorem qkv (r:Rat):r-(r.floor:Rat)=Rat.divInt (r.num%(r.den:Int)) (r.den:Int):=by
 have h:((r.den:Int):Rat)≠0:=by
  rw[Ne,Rat.intCast_eq_zero_iff]
  have:=r.den_pos
  omega
 have e:(r-(r.floor:Rat))*((r.den:Int):Rat)=((r.num%(r.den:Int):Int):Rat):=by
  rw[Rat.sub_eq_add_neg,Rat.add_mul,qiI,Rat.floor_def,Int.emod_def,Rat.intCast_sub,Rat.intCast_mul]
  grind
 rw[Rat.divInt_eq_div,<-e,Rat.mul_div_cancel h]
theorem qiC {r:Rat} {n:Nat} (h:jV r n):jV (r-(r.floor:Rat)) n:=by
 rw[qkv]
 have j:=r.den_pos
 refine qdk (by omega) ?_ h.2
 refine qa0 ?_ h.2
 have:=Int.emod_nonneg r.num (show(r.den:Int)≠0 by omega)
 have:=Int.emod_lt_of_pos r.num (show(0:Int)<(r.den:Int)by omega)
 omega
theorem qk0 {x:Rat} {n:Nat} (h:jV x n):x<=((W^n:Int):Rat)/\ -((W^n:Int):Rat)<=x:=by
 have u:=x.den_pos
 have h1:(x.num.natAbs:Int)<W^n:=h.1
 have j:(0:Int)<=W^n:=by omega
 have hm:W^n*1<=W^n*(x.den:Int):=Yc (by omega) j
 rw[<-Rat.intCast_neg]
 constructor
 ·rw[Rat.le_iff,Rat.num_intCast,Rat.den_intCast]
  omega
 rw[Rat.le_iff,Rat.num_intCast,Rat.den_intCast,Int.neg_mul]
 omega
theorem qnu {x:Rat} {n m:Nat} (hx:jV x n) {c d:Int} (u:0<=d) (hd:d<=m) (hm:m<=1000) (h1:(c:Rat)-x*(d:Rat)<=1) (h2: -1<=(c:Rat)-x*(d:Rat)):Fit c (n+1):=by
 obtain⟨j,b2⟩:=qk0 hx
 have h:(0:Rat)<=(d:Rat):=Rat.intCast_nonneg.2 u
 have hW:(1:Int)<=W^n:=pow_pos (show(0:Int)<W by decide) n
 have m1:=Rat.mul_le_mul_of_nonneg_right j h
 have m2:=Rat.mul_le_mul_of_nonneg_right b2 h
 have u1:(c:Rat)<=((W^n*d+1:Int):Rat):=by
  rw[Rat.intCast_add,Rat.intCast_mul,show((1:Int):Rat)=1 from rfl]
  grind
 have u2:((-(W^n*d+1):Int):Rat)<=(c:Rat):=by
  rw[Rat.intCast_neg,Rat.intCast_add,Rat.intCast_mul,show((1:Int):Rat)=1 from rfl]
  grind
 rw[Rat.intCast_le_intCast]at u1 u2
 have m3:W^n*d<=W^n*1000:=Yc (by omega) (by omega)
 have e:W^(n+1)=W^n*W:=Int.pow_succ ..
 have m4:W^n*1001<W^n*W:=Int.mul_lt_mul_of_pos_left (by decide) (by omega)
 unfold Fit
 omega
structure Cvg (x:Rat) (m:Nat) (a b c d:Int) (r:Rat):Prop where
 b0:0<=b
 d0:0<=d
 bm:b<=m
 dm:d<=m
 st:(b=1/\d=0)\/(1<=d/\1<r)
 fr:jV r 4
 za:Fit a 5
 zc:Fit c 5
 eq:x*((d:Rat)*r+(b:Rat))=(c:Rat)*r+(a:Rat)
 det:c*b-d*a=1\/c*b-d*a= -1
theorem qij {r:Rat} (h:1<r):1<=r.floor:=by
 rw[Rat.le_floor_iff]
 exact Rat.le_of_lt h
theorem Cvg.next {x:Rat} {m:Nat} {a b c d:Int} {r:Rat} (h:Cvg x m a b c d r) (hm1:1<=m) (hm:m<=1000) (fx:jV x 4) (hd:d*r.floor+b<=m) (hr:r≠(r.floor:Rat)):
 Cvg x m c d (c*r.floor+a) (d*r.floor+b) (r-(r.floor:Rat))⁻¹/\1<=d*r.floor+b/\b+d+1<=d+(d*r.floor+b)+(if d=0 then 1 else 0):=by
 have u:0<r-(r.floor:Rat):=by
  rw[<-Rat.lt_iff_sub_pos]
  exact Rat.lt_of_le_of_ne (Rat.floor_le _) (Ne.symm hr)
 have hlt:r-(r.floor:Rat)<1:=by
  have:=Rat.lt_floor_add_one r
  rw[Rat.intCast_add,show((1:Int):Rat)=1 from rfl]at this
  grind
 have hne:r-(r.floor:Rat)≠0:=Rat.ne_of_gt u
 have k1:1<=d*r.floor+b/\b+d+1<=d+(d*r.floor+b)+(if d=0 then 1 else 0):=by
  rcases h.st with⟨e1,e2⟩|⟨e1,e2⟩
  ·rw[e1,e2]
   simp
  have f1:=qij e2
  have:=Yc f1 h.d0
  have:=h.b0
  rw[if_neg (by omega)]
  omega
 have j:=Rat.mul_inv_cancel _ hne
 have hs:(1:Rat)<(r-(r.floor:Rat))⁻¹:=by
  have p:=Rat.inv_pos.2 u
  have:=Rat.mul_lt_mul_of_pos_right hlt p
  rw[j,Rat.one_mul]at this
  exact this
 generalize hg:(r-(r.floor:Rat))⁻¹=s at*
 have er:r=(r.floor:Rat)+s⁻¹:=by
  rw[<-hg,Rat.inv_inv]
  grind
 generalize hk:r.floor=k at*
 have es:(r-(k:Rat))*s=1:=j
 have e2:x*(((d*k+b:Int):Rat)*s+(d:Rat))=((c*k+a:Int):Rat)*s+(c:Rat):=by
  have h1:=h.eq
  rw[Rat.intCast_add,Rat.intCast_mul,Rat.intCast_add,Rat.intCast_mul]
  have h2:x*((d:Rat)*r+(b:Rat))*s=((c:Rat)*r+(a:Rat))*s:=by rw[h1]
  have h3:r*s=1+(k:Rat)*s:=by grind
  have h4:x*((d:Rat)*(r*s)+(b:Rat)*s)=(c:Rat)*(r*s)+(a:Rat)*s:=by grind
  rw[h3]at h4
  grind
 have dt:(c*k+a)*d-(d*k+b)*c=1\/(c*k+a)*d-(d*k+b)*c= -1:=by
  have:(c*k+a)*d-(d*k+b)*c= -(c*b-d*a):=by grind
  rcases h.det with e|e
  ·right;rw[this,e]
  left;rw[this,e];rfl
 refine⟨?_,k1⟩
 have D1:(1:Rat)<=((d*k+b:Int):Rat)*s+(d:Rat):=by
  have a1:(1:Rat)<=((d*k+b:Int):Rat):=by
   have:=Rat.intCast_le_intCast.2 k1.1
   exact this
  have a2:(0:Rat)<=(d:Rat):=Rat.intCast_nonneg.2 h.d0
  have a3:=Rat.mul_le_mul_of_nonneg_right a1 (show(0:Rat)<=s from Rat.le_trans (by decide) (Rat.le_of_lt hs))
  rw[Rat.one_mul]at a3
  have:=Rat.le_of_lt hs
  grind
 have zz:(((c*k+a:Int):Rat)-x*((d*k+b:Int):Rat))*(((d*k+b:Int):Rat)*s+(d:Rat))=(((c*k+a)*d-(d*k+b)*c:Int):Rat):=by
  rw[Rat.intCast_sub,Rat.intCast_mul,Rat.intCast_mul]
  generalize ((c*k+a:Int):Rat)=C at*
  generalize ((d*k+b:Int):Rat)=E at*
  generalize (c:Rat)=c' at*
  generalize (d:Rat)=d' at*
  have:(C-x*E)*(E*s+d')=C*(E*s+d')-E*(x*(E*s+d')):=by grind
  rw[this,e2]
  grind
 have hz:((c*k+a:Int):Rat)-x*((d*k+b:Int):Rat)<=1/\ -1<=((c*k+a:Int):Rat)-x*((d*k+b:Int):Rat):=by
  generalize ((c*k+a:Int):Rat)-x*((d*k+b:Int):Rat)=z at*
  generalize ((d*k+b:Int):Rat)*s+(d:Rat)=D at*
  have hD0:(0:Rat)<=D:=Rat.le_trans (by decide) D1
  have hb:z*D=1\/z*D= -1:=by
   rw[zz]
   rcases dt with e|e
   ·left;rw[e];rfl
   right;rw[e];rfl
  constructor
  ·rw[<-Rat.not_lt]
   intro hc
   have:=Rat.mul_lt_mul_of_pos_right hc (show(0:Rat)<D by grind)
   rw[Rat.one_mul]at this
   grind
  rw[<-Rat.not_lt]
  intro hc
  have:=Rat.mul_lt_mul_of_pos_right hc (show(0:Rat)<D by grind)
  grind
 exact {b0:=h.d0,d0:=by omega,bm:=h.dm,dm:=hd,st:= .inr ⟨k1.1,hs⟩,fr:=by rw[<-hg];exact qfd (by rw[<-hk];exact qiC h.fr) (by omega),za:=h.zc,zc:=qnu fx (by omega) hd hm hz.1 hz.2,eq:=e2,det:=dt}
end Go.Av
end
section
namespace Go.Av
theorem xE {z:Int} {m:Nat} (h0:0<=z) (h:z<=m) (u:m<=1000) {n:Nat} (j:1<=n):Fit z n:=(fit1 (by omega) (by omega)).mono j
theorem qcs {p q:Rat}:((if p<q then-1 else if p=q then 0 else 1:Int)=0)↔p=q:=by
 by_cases h:p<q
 ·rw[if_pos h]
  exact⟨fun c=>absurd c (by decide),fun c=>absurd (c▸h) Rat.lt_irrefl⟩
 rw[if_neg h]
 by_cases e:p=q
 ·rw[if_pos e]
  exact⟨fun _=>e,fun _=>rfl⟩
 rw[if_neg e]
 exact⟨fun c=>absurd c (by decide),fun c=>absurd c e⟩
def IsC (fa fb fc fd fr:qm) (a b c d:Int) (r:Rat):Prop:=IsF fa (a:Rat)/\IsF fb (b:Rat)/\IsF fc (c:Rat)/\IsF fd (d:Rat)/\IsF fr r
theorem qlQ {N:Nat} (hN:600000<N) {x:Rat} {m:Nat} (hm1:1<=m) (hm:m<=1000) (fx:jV x 4) (sx:Sml x 600) {M:qm} (iM:IsF M ((m:Int):Rat)):
 ∀(K:Nat) (fa fb fc j fr:qm) (a b c d:Int) (r:Rat),IsC fa fb fc j fr a b c d r->Cvg x m a b c d r->2*m+6<=K+(b+d).toNat+(if d=0 then 0 else 1)->
 (zG N M K fa.Num.s fa.Num.w fa.Den.s fa.Den.w fb.Num.s fb.Num.w fb.Den.s fb.Den.w fc.Num.s fc.Num.w fc.Den.s fc.Den.w j.Num.s j.Num.w j.Den.s j.Den.w fr.Num.s fr.Num.w fr.Den.s fr.Den.w=some (.inr (T x,0))/\x.den<=m)\/
 ∃(ga gb gc gd gr:qm) (a b c d:Int) (r:Rat),zG N M K fa.Num.s fa.Num.w fa.Den.s fa.Den.w fb.Num.s fb.Num.w fb.Den.s fb.Den.w fc.Num.s fc.Num.w fc.Den.s fc.Den.w j.Num.s j.Num.w j.Den.s j.Den.w fr.Num.s fr.Num.w fr.Den.s fr.Den.w=some (.inl (ga.Num.s,ga.Num.w,ga.Den.s,ga.Den.w,gb.Num.s,gb.Num.w,gb.Den.s,gb.Den.w,gc.Num.s,gc.Num.w,gc.Den.s,gc.Den.w,gd.Num.s,gd.Num.w,gd.Den.s,gd.Den.w))/\
  IsC ga gb gc gd gr a b c d r/\Cvg x m a b c d r/\(m:Int)<d*r.floor+b
 |0,fa,fb,fc,j,fr,a,b,c,d,r,hi,h,hK=>by
  have:=h.b0;have:=h.d0;have:=h.bm;have:=h.dm
  exfalso
  split at hK<;>omega
 |K+1,fa,fb,fc,j,fr,a,b,c,d,r,hi,h,hK=>by
  obtain⟨ia,ib,ic,id,ir⟩:=hi
  have zb:=xE h.b0 h.bm hm (n:=5) (by omega)
  have zd:=xE h.d0 h.dm hm (n:=5) (by omega)
  have zk:Fit r.floor 5:=(qih h.fr.1).mono (by omega)
  obtain⟨fk,e1,ik⟩:=qnp hN ir (h.fr.mono (by omega))
  obtain⟨u,v,e2,iu,iv⟩:=qjQ hN ic id ik ia ib (n:=5) (by omega) (by omega) h.zc zd zk h.za zb
  have zv:Fit (d*r.floor+b) 11:=(qfg (n:=5+5) (ym zd zk) (zb.mono (by omega))).mono (by omega)
  have zu:Fit (c*r.floor+a) 11:=(qfg (n:=5+5) (ym h.zc zk) (h.za.mono (by omega))).mono (by omega)
  have zm:Fit (m:Int) 11:=xE (by omega) (Int.le_refl _) hm (by omega)
  have e3:=qe0 hN iv iM (n:=11) (by omega) (qU zv (by omega)) (qU zm (by omega))
  have ir':IsF ⟨⟨fr.Num.s,fr.Num.w⟩,⟨fr.Den.s,fr.Den.w⟩⟩ r:=ir
  have e4:=qe0 hN ir' ik (n:=11) (by omega) (h.fr.mono (by omega)) (qU (zk.mono (by omega)) (by omega))
  rw[zG]
  rw[show xk N (⟨⟨fr.Num.s,fr.Num.w⟩,⟨fr.Den.s,fr.Den.w⟩⟩:qm)=some fk from e1,ZB,show kr N ⟨⟨⟨fc.Num.s,fc.Num.w⟩,⟨fc.Den.s,fc.Den.w⟩⟩,⟨⟨j.Num.s,j.Num.w⟩,⟨j.Den.s,j.Den.w⟩⟩⟩ fk ⟨⟨⟨fa.Num.s,fa.Num.w⟩,⟨fa.Den.s,fa.Den.w⟩⟩,⟨⟨fb.Num.s,fb.Num.w⟩,⟨fb.Den.s,fb.Den.w⟩⟩⟩=some ⟨u,v⟩from e2,ZB,e3,ZB]
  by_cases hc:(m:Int)<d*r.floor+b
  ·rw[if_pos (qdd.2 (Rat.intCast_lt_intCast.2 hc))]
   exact .inr ⟨fa,fb,fc,j,fr,a,b,c,d,r,rfl,⟨ia,ib,ic,id,ir⟩,h,hc⟩
  rw[if_neg (fun y=>hc (Rat.intCast_lt_intCast.1 (qdd.1 y))),e4,ZB]
  have dpos:1<=d*r.floor+b:=by
   rcases h.st with⟨s1,s2⟩|⟨s1,s2⟩
   ·rw[s1,s2]
    simp
   have:=Yc (qij s2) h.d0
   have:=h.b0
   omega
  have dne:(((d*r.floor+b:Int):Rat))≠0:=by
   rw[Ne,Rat.intCast_eq_zero_iff]
   omega
  by_cases hr:r=(r.floor:Rat)
  ·left
   have ex:x*((d*r.floor+b:Int):Rat)=((c*r.floor+a:Int):Rat):=by
    have:=h.eq
    rw[Rat.intCast_add,Rat.intCast_mul,Rat.intCast_add,Rat.intCast_mul,<-hr]
    exact this
   obtain⟨w,e5,iw⟩:=qgD hN iu iv (n:=11) (by omega) (by omega) (qU zu (by omega)) (qU zv (by omega)) dne
   have exw:((c*r.floor+a:Int):Rat)/((d*r.floor+b:Int):Rat)=x:=by
    rw[<-ex,Rat.mul_div_cancel dne]
   rw[exw]at iw
   rw[if_pos (qcs.2 hr),e5,ZB,qfS hN iw (fx.mono (by omega)),ZB,qgO sx]
   refine⟨rfl,?_⟩
   have hd:(x.den:Int)<=d*r.floor+b:=by
    rw[<-exw,<-Rat.divInt_eq_div,Rat.den_divInt,if_neg (by omega),Int.natCast_ediv]
    have:=jg (((d*r.floor+b).natAbs:Nat):Int) (show(0:Int)<(Int.gcd (d*r.floor+b) (c*r.floor+a):Int)by have:=Int.gcd_pos_of_ne_zero_left (c*r.floor+a) (show d*r.floor+b≠0 by omega);omega)
    omega
   omega
  obtain⟨nx,k1,k2⟩:=h.next hm1 hm fx (by omega) hr
  obtain⟨s,e5,is⟩:=qgG hN ir' ik (n:=11) (by omega) (h.fr.mono (by omega)) (qU (zk.mono (by omega)) (by omega))
  have hne:r-(r.floor:Rat)≠0:=fun e=>hr (by grind)
  obtain⟨t,e6,it⟩:=qlY hN is ((qiC h.fr).mono (by omega)) hne
  rw[if_neg (fun y=>hr (qcs.1 y)),e5,ZB,e6,ZB]
  refine qlQ hN hm1 hm fx sx iM K fc j u v t c d _ _ _ ⟨ic,id,iu,iv,it⟩ nx ?_
  rw[if_neg (by omega)]
  have:=h.b0
  have:=h.d0
  by_cases z:d=0
  ·rw[if_pos z]at hK k2
   omega
  rw[if_neg z]at hK k2
  omega
end Go.Av
end
section
namespace Go.Av
theorem qnb {N:Nat} (j:10<N) (a b c:Int):qb5 N [a,b,c]=some (if a=0 then(if b=0 then c else b)else a):=by
 obtain⟨K,rfl⟩: ∃K,N=K+1+1+1+1:=⟨N-4,by omega⟩
 unfold qb5
 rw[jH,if_pos (by simp),qbr,Yj,ZB]
 by_cases h:a=0
 ·rw[if_neg (by simp[h]),if_pos h,show w64 (0+1)=((1:Nat):Int)from rfl,jH,if_pos (by simp),qz,YK,Yj,ZB]
  by_cases k:b=0
  ·rw[if_neg (by simp[k]),if_pos k,show w64 (((1:Nat):Int)+1)=((2:Nat):Int)from rfl,jH,if_pos (by simp),qz,YK,YK,Yj,ZB]
   by_cases l:c=0
   ·rw[if_neg (by simp[l]),show w64 (((2:Nat):Int)+1)=((3:Nat):Int)from rfl,jH,if_neg (by simp),l]
    rfl
   rw[if_pos (by simp[l])]
   rfl
  rw[if_pos (by simp[k]),if_neg k]
  rfl
 rw[if_pos (by simp[h]),if_neg h]
 rfl
theorem pick {x L M:Rat} {d f:Int} (nL:(L.den:Int)=d) (nM:(M.den:Int)=f) {c:Int}
 (j:c=if(if(x-L).abs<(x-M).abs then-1 else if(x-L).abs=(x-M).abs then 0 else 1:Int)=0 then(if(if(d:Rat)<(f:Rat)then-1 else if(d:Rat)=(f:Rat)then 0 else 1:Int)=0 then(if L<M then-1 else if L=M then 0 else 1)else(if(d:Rat)<(f:Rat)then-1 else if(d:Rat)=(f:Rat)then 0 else 1))else(if(x-L).abs<(x-M).abs then-1 else if(x-L).abs=(x-M).abs then 0 else 1)):
 (¬c>0->le3 x L M)/\(c>0->le3 x M L):=by
 by_cases h1:(x-L).abs=(x-M).abs
 ·rw[if_pos (qcs.2 h1)]at j
  by_cases u:(d:Rat)=(f:Rat)
  ·rw[if_pos (qcs.2 u)]at j
   have u:=Rat.intCast_inj.1 u
   constructor
   ·intro h
    rw[j]at h
    exact .inr ⟨h1,.inr ⟨by omega,Rat.not_lt.1 fun k=>h (qdd.2 k)⟩⟩
   intro h
   rw[j]at h
   exact .inr ⟨h1.symm,.inr ⟨by omega,Rat.le_of_lt (qdd.1 h)⟩⟩
  rw[if_neg (fun k=>u (qcs.1 k))]at j
  constructor
  ·intro h
   rw[j]at h
   have h:=Rat.not_lt.1 (fun k=>h (qdd.2 k))
   have h3:d≠f:=fun k=>u (by rw[k])
   have:=Rat.intCast_le_intCast.1 h
   exact .inr ⟨h1,.inl (by omega)⟩
  intro h
  rw[j]at h
  have:=Rat.intCast_lt_intCast.1 (qdd.1 h)
  exact .inr ⟨h1.symm,.inl (by omega)⟩
 rw[if_neg (fun k=>h1 (qcs.1 k))]at j
 constructor
 ·intro h
  rw[j]at h
  have h:=Rat.not_lt.1 (fun k=>h (qdd.2 k))
  exact .inl (Rat.lt_of_le_of_ne h h1)
 intro h
 rw[j]at h
 exact .inl (qdd.1 h)
theorem qmQ {z:Int} {n:Nat} (h:Fit z n) (hn:0<n):(Lib.decDigits z.natAbs).length<=20*n:=by
 refine(yH (by omega)).2 ?_
 have h1:(z.natAbs:Int)<W^n:=h
 have j:=(qcN (x:=W) (y:=100000000000000000000) (by decide) (by decide) n).2
 have u:(100000000000000000000:Int)^n=((10^(20*n):Nat):Int):=by
  rw[Nat.pow_mul,Int.natCast_pow]
  rfl
 omega
theorem qfB {q:Rat} {n:Nat} (h:jV q n) (j:0<n):Sml q (20*n):=by
 have:=qmQ h.2 j
 rw[Int.natAbs_natCast]at this
 exact⟨qmQ h.1 j,this⟩
theorem qjL {q:Rat} {n:Nat} (h:jV q n):jV q.abs n:=by
 rw[qei]
 split
 ·exact qhu h
 exact h
theorem qkg {p q:Rat} {n:Nat} (h:jV p n) (j:jV q n):jV (p-q) (n+n+1):=by
 rw[Rat.sub_eq_add_neg]
 exact qmM h (qhu j)
theorem qj0 {N:Nat} (hN:600000<N) {x:Rat} {m:Nat} (hm1:1<=m) (hm:m<=1000) (sx:Sml x 60) (cx:chk (T x)=0): ∃R,yS N (T x) (m:Int)=some (T R,0)/\qjk x m R/\Sml R 600:=by
 have fx:jV x 4:=qn2 sx (by omega) (by omega)
 have lx:=qcT sx
 obtain⟨fm,e1,im⟩:=F_eq (n:=(m:Int)) (by omega) (by omega)
 obtain⟨f0,e2,i0⟩:=F_eq (n:=0) (by decide) (by decide)
 obtain⟨f1,e3,i1⟩:=F_eq (n:=1) (by decide) (by decide)
 obtain⟨fr,e4,ir⟩:=qpp hN (sx.mono (show 60<=9000 by omega))
 have z0:Fit (0:Int) 5:=xE (m:=1) (by decide) (by decide) (by omega) (by omega)
 have z1:Fit (1:Int) 5:=xE (m:=1) (by decide) (by decide) (by omega) (by omega)
 have st:Cvg x m 0 1 1 0 x:={b0:=by decide,d0:=by decide,bm:=by omega,dm:=by omega,st:= .inl ⟨rfl,rfl⟩,fr:=fx,za:=z0,zc:=z1,eq:=by rw[show((0:Int):Rat)=0 from rfl,show((1:Int):Rat)=1 from rfl];grind,det:= .inl (by decide)}
 have A:=qlQ hN hm1 hm fx (sx.mono (by omega)) im N f0 f1 f1 f0 fr 0 1 1 0 x ⟨i0,i1,i1,i0,ir⟩ st (by simp;omega)
 unfold yS qX
 rw[qmn hN (by omega),cx,ZB,if_neg (by omega),decide_eq_false (by omega),if_neg (by simp),ZB,qiQ (by omega),if_pos rfl,ZB,ZB]
 simp only
 rw[if_neg (by simp),e1,ZB,e2,ZB,e3,ZB,ZB,ZB,e4,ZB]
 rcases A with⟨A1,A2⟩|⟨fa,fb,fc,j,fs,a,b,c,d,r,A1,⟨ia,ib,ic,id,is⟩,h,hk⟩
 ·rw[A1,ZB]
  exact⟨x,rfl,qid A2,sx.mono (by omega)⟩
 rw[A1,ZB]
 simp only
 have d1:1<=d/\1<r:=by
  rcases h.st with⟨s1,s2⟩|s
  ·rw[s1,s2]at hk
   simp at hk
   omega
  exact s
 have hb0:=h.b0
 have hbm:=h.bm
 have hdm:=h.dm
 have zb:=xE h.b0 h.bm hm (n:=5) (by omega)
 have zd:=xE h.d0 h.dm hm (n:=5) (by omega)
 have zmb:Fit ((m:Int)-b) 5:=xE (m:=m) (by omega) (by omega) hm (by omega)
 have dne:(d:Rat)≠0:=by
  rw[Ne,Rat.intCast_eq_zero_iff]
  omega
 obtain⟨r66,b1,j1⟩:=qgG hN im ib (n:=5) (by omega) (qU ((xE (m:=m) (by omega) (Int.le_refl _) hm (by omega):Fit (m:Int) 5)) (by omega)) (qU zb (by omega))
 rw[<-Rat.intCast_sub]at j1
 obtain⟨r67,b2,j2⟩:=qgD hN j1 id (n:=5) (by omega) (by omega) (qU zmb (by omega)) (qU zd (by omega)) dne
 have fq:jV ((((m:Int)-b:Int):Rat)/(d:Rat)) 10:=by
  rw[Rat.div_def]
  exact(qe6 (n:=5) (qU zmb (by omega)) (qfd (qU zd (by omega)) (by omega))).mono (by omega)
 obtain⟨r68,b3,j3⟩:=qnp hN j2 (fq.mono (by omega))
 have t1:(((((m:Int)-b:Int):Rat)/(d:Rat)).floor:Int)*d<=(m:Int)-b:=by
  have:=Rat.floor_le ((((m:Int)-b:Int):Rat)/(d:Rat))
  have:=Rat.mul_le_mul_of_nonneg_right this (show(0:Rat)<=(d:Rat)from Rat.intCast_nonneg.2 (by omega))
  rw[Rat.div_mul_cancel dne,<-Rat.intCast_mul,Rat.intCast_le_intCast]at this
  exact this
 have t2:(m:Int)-b<((((((m:Int)-b:Int):Rat)/(d:Rat)).floor:Int)+1)*d:=by
  have:=Rat.lt_floor_add_one ((((m:Int)-b:Int):Rat)/(d:Rat))
  have:=Rat.mul_lt_mul_of_pos_right this (show(0:Rat)<(d:Rat)from Rat.intCast_pos.2 (by omega))
  rw[Rat.div_mul_cancel dne,<-Rat.intCast_mul,Rat.intCast_lt_intCast]at this
  exact this
 have zt:Fit ((((m:Int)-b:Int):Rat)/(d:Rat)).floor 10:=qih fq.1
 generalize ((((m:Int)-b:Int):Rat)/(d:Rat)).floor=t at*
 have t0:0<=t:=by
  rcases Int.lt_or_le t 0 with k|k
  ·have:=Int.mul_le_mul_of_nonneg_right (show t+1<=0 by omega) (show 0<=d by omega)
   rw[Int.zero_mul]at this
   omega
  exact k
 have tk:t+1<=r.floor:=by
  rcases Int.lt_or_le t r.floor with k|k
  ·omega
  have:=Yc k (show 0<=d by omega)
  rw[Int.mul_comm d t]at this
  omega
 rw[Int.add_mul,Int.one_mul,Int.mul_comm t d]at t2
 rw[Int.mul_comm t d]at t1
 have E1:1<=d*t+b:=by
  rcases Int.lt_or_le 0 t with k|k
  ·have:=Yc (show 1<=t by omega) (show 0<=d by omega)
   omega
  have t00:t=0:=by omega
  rw[t00]at t2⊢
  omega
 obtain⟨u,v,b4,iu,iv⟩:=qjQ hN ic id j3 ia ib (n:=10) (by omega) (by omega) (h.zc.mono (by omega)) (zd.mono (by omega)) zt (h.za.mono (by omega)) (zb.mono (by omega))
 have zv:Fit (d*t+b) 11:=xE (m:=m) (by omega) (by omega) hm (by omega)
 have zu:Fit (c*t+a) 21:=(qfg (n:=10+10) (ym (h.zc.mono (show 5<=10 by omega)) zt) (h.za.mono (by omega))).mono (by omega)
 have Ene:(((d*t+b:Int):Rat))≠0:=by
  rw[Ne,Rat.intCast_eq_zero_iff]
  omega
 obtain⟨r70,b5,j5⟩:=qgD hN ic id (n:=5) (by omega) (by omega) (qU h.zc (by omega)) (qU zd (by omega)) dne
 obtain⟨r71,b6,j6⟩:=qgD hN iu iv (n:=21) (by omega) (by omega) (qU zu (by omega)) (qU (zv.mono (by omega)) (by omega)) Ene
 have hL:=Rat.div_mul_cancel (a:=(c:Rat)) dne
 have hM:=Rat.div_mul_cancel (a:=((c*t+a:Int):Rat)) Ene
 have fL:jV ((c:Rat)/(d:Rat)) 22:=by
  rw[Rat.div_def]
  exact(qe6 (qU h.zc (by omega)) (qfd (qU zd (by omega)) (by omega))).mono (by omega)
 have fM:jV (((c*t+a:Int):Rat)/((d*t+b:Int):Rat)) 22:=by
  have e:=Rat.divInt_eq_div (c*t+a) (d*t+b)
  rw[<-e]
  exact(qdk (by omega) (zu.mono (by omega)) (zv.mono (by omega)):jV _ 21).mono (by omega)
 have det:c*(d*t+b)-d*(c*t+a)=1\/c*(d*t+b)-d*(c*t+a)= -1:=by
  have:c*(d*t+b)-d*(c*t+a)=c*b-d*a:=by grind
  rw[this]
  exact h.det
 generalize hLe:(c:Rat)/(d:Rat)=L at*
 generalize hMe:((c*t+a:Int):Rat)/((d*t+b:Int):Rat)=M at*
 have fx22:jV x 22:=fx.mono (by omega)
 obtain⟨r73,b7,j7⟩:=qmU hN j5 ir (n:=22) (by omega) fL fx22
 obtain⟨r75,b8,j8⟩:=qmU hN j6 ir (n:=22) (by omega) fM fx22
 have b9:=qe0 hN j7 j8 (n:=45) (by omega) ((qjL (qkg (n:=22) fx22 fL)).mono (by omega)) ((qjL (qkg (n:=22) fx22 fM)).mono (by omega))
 have b10:=qe0 hN id iv (n:=22) (by omega) (qU (zd.mono (by omega)) (by omega)) (qU (zv.mono (by omega)) (by omega))
 have b11:=qe0 hN j5 j6 (n:=22) (by omega) fL fM
 have nL:=qde (L:=L) (c:=c) (e:=c*t+a) (f:=d*t+b) (by omega) hL det
 have nM:(M.den:Int)=d*t+b:=by
  refine qde (e:=c) (f:=d) (by omega) hM ?_
  rcases det with k|k
  ·right
   rw[Int.mul_comm _ d,Int.mul_comm _ c]
   omega
  left
  rw[Int.mul_comm _ d,Int.mul_comm _ c]
  omega
 rw[show vE N fm (⟨⟨fb.Num.s,fb.Num.w⟩,⟨fb.Den.s,fb.Den.w⟩⟩:qm)=some r66 from b1,ZB,show jJ N r66 (⟨⟨j.Num.s,j.Num.w⟩,⟨j.Den.s,j.Den.w⟩⟩:qm)=some r67 from b2,ZB,b3,ZB,
  show kr N ⟨⟨⟨fc.Num.s,fc.Num.w⟩,⟨fc.Den.s,fc.Den.w⟩⟩,⟨⟨j.Num.s,j.Num.w⟩,⟨j.Den.s,j.Den.w⟩⟩⟩ r68 ⟨⟨⟨fa.Num.s,fa.Num.w⟩,⟨fa.Den.s,fa.Den.w⟩⟩,⟨⟨fb.Num.s,fb.Num.w⟩,⟨fb.Den.s,fb.Den.w⟩⟩⟩=some ⟨u,v⟩from b4,ZB,
  show jJ N (⟨⟨fc.Num.s,fc.Num.w⟩,⟨fc.Den.s,fc.Den.w⟩⟩:qm) (⟨⟨j.Num.s,j.Num.w⟩,⟨j.Den.s,j.Den.w⟩⟩:qm)=some r70 from b5,ZB,b6,ZB,ZB,b7,ZB,ZB,b8,ZB,b9,ZB,
  show jI N (⟨⟨j.Num.s,j.Num.w⟩,⟨j.Den.s,j.Den.w⟩⟩:qm) v=_ from b10,ZB,b11,ZB,qnb (by omega),ZB]
 obtain⟨p1,p2⟩:=pick (x:=x) nL nM rfl
 generalize (if(if(x-L).abs<(x-M).abs then-1 else if(x-L).abs=(x-M).abs then 0 else 1:Int)=0 then(if(if(d:Rat)<((d*t+b:Int):Rat)then-1 else if(d:Rat)=((d*t+b:Int):Rat)then 0 else 1:Int)=0 then(if L<M then-1 else if L=M then 0 else 1)else(if(d:Rat)<((d*t+b:Int):Rat)then-1 else if(d:Rat)=((d*t+b:Int):Rat)then 0 else 1))else(if(x-L).abs<(x-M).abs then-1 else if(x-L).abs=(x-M).abs then 0 else 1):Int)=cc at*
 have hx:(M<=x/\x<=L/\c*(d*t+b)-d*(c*t+a)=1)\/(L<=x/\x<=M/\c*(d*t+b)-d*(c*t+a)= -1):=by
  have w0:0<r-(t:Rat):=by
   have a1:=Rat.intCast_le_intCast.2 tk
   have a2:=Rat.floor_le r
   rw[Rat.intCast_add,show((1:Int):Rat)=1 from rfl]at a1
   grind
  have hd':(0:Rat)<(d:Rat):=Rat.intCast_pos.2 (by omega)
  have hE':(0:Rat)<((d*t+b:Int):Rat):=Rat.intCast_pos.2 (by omega)
  have key:(x-L)*((d:Rat)*(r-(t:Rat)))=(M-x)*((d*t+b:Int):Rat):=by
   have q1:=h.eq
   have q2:((d*t+b:Int):Rat)=(d:Rat)*(t:Rat)+(b:Rat):=by rw[Rat.intCast_add,Rat.intCast_mul]
   have q3:((c*t+a:Int):Rat)=(c:Rat)*(t:Rat)+(a:Rat):=by rw[Rat.intCast_add,Rat.intCast_mul]
   rw[q3,q2]at hM
   rw[q2]
   generalize (d:Rat)=D at*
   generalize (c:Rat)=C at*
   generalize (a:Rat)=A at*
   generalize (b:Rat)=B at*
   generalize (t:Rat)=Tt at*
   have l1:(x-L)*(D*(r-Tt))=x*(D*r+B)-x*(D*Tt+B)-(L*D)*(r-Tt):=by grind
   have l2:(M-x)*(D*Tt+B)=M*(D*Tt+B)-x*(D*Tt+B):=by grind
   rw[l1,l2,q1,hL,hM]
   grind
  have hdw:=Rat.mul_pos hd' w0
  have up:L<=x->x<=M:=by
   intro k
   have k1:0<=(x-L)*((d:Rat)*(r-(t:Rat))):=Rat.mul_nonneg (by grind) (Rat.le_of_lt hdw)
   rw[key]at k1
   rw[<-Rat.not_lt]
   intro k2
   have:=Rat.mul_lt_mul_of_pos_right (show M-x<0 by grind) hE'
   rw[Rat.zero_mul]at this
   exact absurd this (Rat.not_lt.2 k1)
  have dn:x<=L->M<=x:=by
   intro k
   rw[<-Rat.not_lt]
   intro k2
   have k1:0<(M-x)*((d*t+b:Int):Rat):=Rat.mul_pos (by grind) hE'
   rw[<-key]at k1
   have:=Rat.mul_le_mul_of_nonneg_right (show x-L<=0 by grind) (Rat.le_of_lt hdw)
   rw[Rat.zero_mul]at this
   exact absurd k1 (Rat.not_lt.2 this)
  have cr:=qcK (y:=M) (M:=L) (p:=c*t+a) (q:=d*t+b) (e:=c) (f:=d) (by omega) (by omega) hM hL
  have cr2:=qcK (y:=L) (M:=M) (p:=c) (q:=d) (e:=c*t+a) (f:=d*t+b) (by omega) (by omega) hL hM
  rcases det with k|k
  ·left
   have:M<=L:=cr.2 (by rw[Int.mul_comm _ d];omega)
   rcases Rat.le_total (a:=x) (b:=L)with e|e
   ·exact⟨dn e,e,k⟩
   have:=up e
   have e2:x=L:=Rat.le_antisymm (Rat.le_trans this ‹M<=L›) e
   exact⟨by rw[e2];assumption,by rw[e2];exact Rat.le_refl,k⟩
  right
  have:L<=M:=cr2.2 (by rw[Int.mul_comm _ d];omega)
  rcases Rat.le_total (a:=L) (b:=x)with e|e
  ·exact⟨e,up e,k⟩
  have:=dn e
  have e2:x=L:=Rat.le_antisymm e (Rat.le_trans ‹L<=M› this)
  exact⟨by rw[e2];exact Rat.le_refl,by rw[e2];assumption,k⟩
 by_cases hcc:cc>0
 ·rw[if_pos hcc,ZB,show vJ N (⟨⟨r71.Num.s,r71.Num.w⟩,⟨r71.Den.s,r71.Den.w⟩⟩:qm)=_ from qfS hN j6 (fM.mono (by omega)),qgO ((qfB fM (by omega)).mono (by omega))]
  exact⟨M,rfl,qlB (by omega) (by omega) hdm (by omega) (by omega) hL hM hx (.inr rfl) (p2 hcc) (qfr x M),(qfB fM (by omega)).mono (by omega)⟩
 rw[if_neg hcc,ZB,show vJ N (⟨⟨r70.Num.s,r70.Num.w⟩,⟨r70.Den.s,r70.Den.w⟩⟩:qm)=_ from qfS hN j5 (fL.mono (by omega)),qgO ((qfB fL (by omega)).mono (by omega))]
 exact⟨L,rfl,qlB (by omega) (by omega) hdm (by omega) (by omega) hL hM hx (.inl rfl) (qfr x L) (p1 hcc),(qfB fL (by omega)).mono (by omega)⟩
end Go.Av
end
section
namespace Go.Av
theorem qiV (x:Rat) {q k:Nat} (j:0<q) (h:k<2):((((x*(q:Rat)).floor:Int):Rat)+((k:Int):Rat))/(((q:Nat):Int):Rat)=cnd x (2*q+k):=by
 unfold cnd
 rw[show(2*q+k)/2=q by omega,show(2*q+k)%2=k by omega,Rat.divInt_eq_div,Rat.intCast_add]
theorem qgv {x:Rat} (sx:Sml x 60) {q:Nat} (hq:0<q) (hq2:q<=1000) {k:Nat} (hk:k<2):
 Sml (x*(q:Rat)) 126/\Sml ((((x*(q:Rat)).floor:Int):Rat)) 126/\Sml ((((x*(q:Rat)).floor:Int):Rat)+((k:Int):Rat)) 261/\Sml (cnd x (2*q+k)) 522/\Sml (x-cnd x (2*q+k)) 1053:=by
 have j:((q:Nat):Rat)=(((q:Nat):Int):Rat):=rfl
 have sq:=qgC (n:=(q:Int)) (by omega) (by omega)
 have sk:=qgC (n:=(k:Int)) (by omega) (by omega)
 have u:Sml (x*(q:Rat)) 126:=(qlG (n:=7) (by omega) (sx.mono (by omega)) (j▸sq.mono (by omega))).mono (by omega)
 have s2:=qmc u (by omega)
 have s3:Sml ((((x*(q:Rat)).floor:Int):Rat)+((k:Int):Rat)) 261:=(qjj (n:=14) (by omega) (s2.mono (by omega)) (sk.mono (by omega))).mono (by omega)
 have h:(((q:Nat):Int):Rat)≠0:=by
  rw[Ne,Rat.intCast_eq_zero_iff]
  omega
 have s4:Sml (cnd x (2*q+k)) 522:=by
  rw[<-qiV x hq hk,Rat.div_def]
  exact(qlG (n:=29) (by omega) (s3.mono (by omega)) ((ql7 sq h).mono (by omega))).mono (by omega)
 refine⟨u,s2,s3,s4,?_⟩
 rw[Rat.sub_eq_add_neg]
 exact(qjj (n:=58) (by omega) (sx.mono (by omega)) ((qgm s4).mono (by omega))).mono (by omega)
end Go.Av
end
section
namespace Go.Av
theorem qnl {n:Nat}:Lib.decDigits n=[48]↔n=0:=by
 constructor
 ·intro h
  exact qkW (h.trans (by rw[ja (by decide)];rfl))
 rintro rfl
 rw[ja (by decide)]
 rfl
theorem qnT {n:Nat}:Lib.decDigits n=[49]↔n=1:=by
 constructor
 ·intro h
  exact qkW (h.trans (by rw[ja (by decide)];rfl))
 rintro rfl
 rw[ja (by decide)]
 rfl
theorem qpQ {q:Rat} (h:Sml q 600):chk (T q)=0:=by
 have n47:=qnk (qaB q.num.natAbs)
 have es:=qgQ n47 q
 have et:(bdy (T q)).take (slA (bdy (T q)))=Lib.decDigits q.num.natAbs:=by
  rw[qj8,es,List.take_append_of_le_length (Nat.le_refl _),List.take_length]
 have hd:=den_pos q
 have ed:slA (bdy (T q))<(bdy (T q)).length↔q.den≠1:=by
  rw[qj8,es,Yq]
  unfold tl
  by_cases c:q.den=1
  ·rw[if_pos c]
   simp[c]
  rw[if_neg c]
  simp[c]
 have er:(bdy (T q)).drop (slA (bdy (T q))+1)=if q.den=1 then[]else Lib.decDigits q.den:=by
  rw[qj8,es]
  unfold tl
  by_cases c:q.den=1
  ·rw[if_pos c,if_pos c,YQ,List.drop_of_length_le (by omega)]
  rw[if_neg c,if_neg c,List.drop_append,List.drop_of_length_le (by omega),List.nil_append,show(Lib.decDigits q.num.natAbs).length+1-(Lib.decDigits q.num.natAbs).length=1 by omega]
  rfl
 have hok:okF (T q)=true:=by
  unfold okF
  rw[et,qjS]
  refine decide_eq_true ⟨qn0 _,?_⟩
  rintro⟨u,j⟩
  have u:=of_decide_eq_true u
  have:=qnl.1 j
  omega
 have a0:qhr (T q)=false:=by
  unfold qhr
  refine decide_eq_false ?_
  rintro⟨u,j⟩
  have c:=ed.1 u
  rw[er,if_neg c]at j
  exact j ⟨qn0 _,fun e=>by have:=qnl.1 e;omega,fun e=>c (qnT.1 e)⟩
 unfold chk
 rw[if_neg (by rw[hok,a0];simp),et,er,if_neg,if_neg]
 ·rintro⟨u,j⟩
  have c:=ed.1 u
  rw[if_neg c,qbA,qbA]at j
  exact j q.reduced
 have u:=h.1
 have j:=h.2
 split<;>simp<;>omega
theorem Num_T {N:Nat} (hN:100000<N) {q:Rat} (u:(T q).length<=50000):qcU N (T q)=some (Lib.itoa q.num):=by
 have hs:=qbu (N:=N) (s:=T q) (by omega) (by omega)
 unfold qcU
 rw[hs,ZB]
 by_cases c:q.den=1
 ·obtain⟨j,h⟩:=qeu q c
  rw[yI (by omega),ZB,h,List.take_length,j]
 obtain⟨j,h,t3⟩:=qfu q c
 rw[yI (by omega),ZB,h]
theorem qlP {N:Nat} (hN:100000<N) {q:Rat} (hl:(T q).length<=50000):qaj N (T q)=some (Lib.decDigits q.den):=by
 have hs:=qbu (N:=N) (s:=T q) (by omega) (by omega)
 unfold qaj
 rw[hs,ZB]
 by_cases c:q.den=1
 ·obtain⟨j,h⟩:=qeu q c
  rw[if_pos (by omega),c,ja (by decide)]
  rfl
 obtain⟨j,h,u⟩:=qfu q c
 rw[if_neg (by omega),zV (by omega),xY (by omega),ZB,u]
theorem qn6 {z:Int} (h:(Lib.itoa z).length<=50000):xC (Lib.itoa z)=some (Lib.decDigits z.natAbs):=by
 have:=qiT (q:=(z:Rat)) (by rw[qix];omega)
 rw[qix]at this
 rw[this,qei,Rat.num_intCast]
 by_cases c:z<0
 ·rw[if_pos c,<-Rat.intCast_neg,qix,zK (by omega),Int.natAbs_neg]
 rw[if_neg c,qix,zK c]
theorem dec_T (n:Nat):Lib.decDigits n=T ((n:Int):Rat):=by rw[qix,qek]
theorem qpW {N:Nat} (j:600000<N) {s:Str} {d:Nat} (hd:0<d) (u:d<=1000): ∃b,qcM N s (d:Int)=some b/\(b=true-> ∃q:Rat,s=T q/\Sml q d/\chk (T q)=0):=by
 unfold qcM
 rw[qj (n:=2*(d:Int)) (by omega) (by omega),qj (n:=2*(d:Int)+2) (by omega) (by omega)]
 by_cases c:(s.length:Int)<=2*(d:Int)+2
 ·rw[if_pos c,qfF j (by omega),ZB]
  by_cases hc:chk s=0
  ·obtain⟨q,rfl,q1,q2⟩:=qn3 hc
   have li:=qgk q.num
   rw[if_pos hc,Num_T (by omega) (by omega),ZB,qn6 (by omega),ZB,qlP (by omega) (by omega),ZB]
   by_cases e:(Lib.decDigits q.num.natAbs).length<=d
   ·rw[if_pos (by omega),ZB]
    exact⟨_,rfl,fun h=>⟨q,rfl,⟨e,by have:=of_decide_eq_true h;omega⟩,hc⟩⟩
   rw[if_neg (by omega),ZB]
   exact⟨_,rfl,fun h=>by cases h⟩
  rw[if_neg hc,ZB]
  exact⟨_,rfl,fun h=>by cases h⟩
 rw[if_neg c,ZB]
 exact⟨_,rfl,fun h=>by cases h⟩
theorem qha {N:Nat} (hN:600000<N) {n:Nat} (hn:n<1000000000):y7 N (Lib.decDigits n)=some ((n:Int),true):=by
 have hl:(Lib.decDigits n).length<=9:=(yH (by omega)).2 hn
 have h:=qaB n
 obtain⟨b1,b2⟩:=qaZ h
 have hw:vI N (Lib.decDigits n)=some true:=by
  unfold vI
  rw[qbu (by omega) (by omega),ZB,qg1 (qnk h),decide_eq_true rfl]
 have hp:yw N (Lib.decDigits n)=some (rI (n:Int)):=by
  rw[qfy (by omega) (by rw[b2];exact h) (by rw[b2];omega),qcj h,qbA]
 unfold y7
 rw[hw,ZB,if_neg (by simp),decide_eq_false (by omega),ZB,if_neg (by simp),hp,ZB,rI_w,show(((n:Int).natAbs:Nat):Int)=(n:Int)by omega]
 obtain⟨K,hK⟩: ∃K,N=K+1+1:=⟨N-2,by omega⟩
 have L: ∀m:Int,zQ (rI (n:Int)) N 0 m=zQ (rI (n:Int)) (K+1+1) 0 m:=fun m=>by rw[<-hK]
 have j:(rI (n:Int)).neg=false:=by
  show decide ((n:Int)<0)=false
  exact decide_eq_false (by omega)
 by_cases h0:n=0
 ·subst h0
  rw[show dg E9 ((0:Nat):Int)=[]from rfl,L,zQ,if_neg (by decide),ZB]
  rfl
 have u:dg E9 (n:Int)=[(n:Int)]:=qhD (by omega) (by show(n:Int)<1000000000;omega)
 rw[u,L,show w64 ((([(n:Int)]:List Int).length:Int)-1)=((0:Nat):Int)from rfl,zQ,if_pos (by decide),rI_w,show(((n:Int).natAbs:Nat):Int)=(n:Int)by omega,u,qz,Yj,ZB,j,if_neg (by simp),ZB,if_neg (by decide),if_neg (by decide),if_neg (by decide),if_neg (by decide),ZB,if_neg (by simp),show w64 (w64 (0*1000000000)+(n:Int))=(n:Int)by rw[show w64 (0*1000000000)=0 from rfl,Int.zero_add,qj (by omega) (by omega)],show w64 (((0:Nat):Int)-1)= -1 from rfl,zQ,if_neg (by decide),ZB]
end Go.Av
end
section
namespace Go.Av
theorem qlX {N:Nat} (hN:600000<N) {x R y:Rat} {m q:Nat} (sx:Sml x 60) (nr:qjk x m R) (sR:Sml R 600) (hm:m<=1000) (hq:0<q) (hqm:q<=m) (sy:Sml y 522) (a0:Sml (x-y) 1053) (sxr:Sml (x-R) 1300) (hy:y.den<=q):
 ∃(a1 a2:Str) (j:Int) (a3:Str) (u:Int×Bool),qai N (T x) (T y)=some a1/\xC a1=some a2/\qag N a2 (T (x-R).abs)=some j/\qaj N (T y)=some a3/\y7 N a3=some u/\
  (if j<0 then some true else if j=0 then if u.1<(R.den:Int)then some true else if u.1=(R.den:Int)then(qag N (T y) (T R)).bind fun r64=>some (decide (r64<0))else some false else some false:Option Bool)=some false:=by
 have l1:=qcT a0
 have l2:=qcT sy
 refine⟨_,_,_,_,_,qgF hN (k:=522) (by omega) (by omega) (sx.mono (by omega)) sy,qiT (by omega),qi9 hN (k:=1300) (by omega) (by omega) ((qgw a0).mono (by omega)) (qgw sxr),qlP (by omega) (by omega),qha hN (by omega),?_⟩
 have le:=nr.2 y (by omega)
 rcases le with h|⟨h1,h2⟩
 ·rw[if_neg (fun c=>absurd (qkH.1 c) (Rat.not_lt.2 (Rat.le_of_lt h))),if_neg (fun c=>by rw[qcs.1 c]at h;exact Rat.lt_irrefl h)]
 rw[if_neg (fun c=>by have:=qkH.1 c;rw[h1]at this;exact Rat.lt_irrefl this),if_pos (qcs.2 h1.symm)]
 simp only
 rcases h2 with h2|⟨h2,h3⟩
 ·rw[if_neg (by omega),if_neg (by omega)]
 rw[if_neg (by omega),if_pos (by omega),qi9 hN (k:=600) (by omega) (by omega) (sy.mono (by omega)) sR,ZB,decide_eq_false (fun c=>absurd (qkH.1 c) (Rat.not_lt.2 h3))]
theorem nn_L1 {N:Nat} (hN:600000<N) {x R:Rat} {m q:Nat} (sx:Sml x 60) (nr:qjk x m R) (sR:Sml R 600) (j:Sml (x-R) 1300) (hm:m<=1000) (h:0<q) (u:q<=m):
 qD N (T x) (T R,0) ((R.den:Int),true) (T (x-R).abs) (T (cnd x (2*q))) (T (cnd x (2*q+1))) N 0=some (.inl ()):=by
 obtain⟨K,hK⟩: ∃K,N=K+1+1+1:=⟨N-3,by omega⟩
 obtain⟨a1,a2,a3,a4,a5⟩:=qgv sx h (by omega) (k:=0) (by omega)
 obtain⟨b1,b2,b3,b4,b5⟩:=qgv sx h (by omega) (k:=1) (by omega)
 rw[show cnd x (2*q+0)=cnd x (2*q)from rfl]at a4 a5
 have d0:(cnd x (2*q)).den<=q:=by
  unfold cnd
  rw[show 2*q/2=q by omega]
  exact qox h
 have d1:(cnd x (2*q+1)).den<=q:=by
  unfold cnd
  rw[show(2*q+1)/2=q by omega]
  exact qox h
 obtain⟨u1,u2,u3,u4,u5,p1,p2,p3,p4,p5,p6⟩:=qlX hN sx nr sR hm h u a4 a5 j d0
 obtain⟨v1,v2,v3,v4,v5,q1,q2,q3,q4,q5,q6⟩:=qlX hN sx nr sR hm h u b4 b5 j d1
 have:qD N (T x) (T R,0) ((R.den:Int),true) (T (x-R).abs) (T (cnd x (2*q))) (T (cnd x (2*q+1))) (K+1+1+1) 0=some (.inl ()):=by
  rw[qD,if_pos (by decide),qbr,Yj,ZB,p1,ZB,p2,ZB,p3,ZB,p4,ZB,p5,ZB]
  simp only
  rw[p6,ZB,if_neg (by simp),show w64 (0+1)=((1:Nat):Int)from rfl,qD,if_pos (by decide),qz,YK,Yj,ZB,q1,ZB,q2,ZB,q3,ZB,q4,ZB,q5,ZB]
  simp only
  rw[q6,ZB,if_neg (by simp),show w64 (((1:Nat):Int)+1)=2 from rfl,qD,if_neg (by decide)]
 rw[show qD N (T x) (T R,0) ((R.den:Int),true) (T (x-R).abs) (T (cnd x (2*q))) (T (cnd x (2*q+1))) N 0=qD N (T x) (T R,0) ((R.den:Int),true) (T (x-R).abs) (T (cnd x (2*q))) (T (cnd x (2*q+1))) (K+1+1+1) 0 by rw[<-hK],this]
theorem qpJ {N:Nat} (j:600000<N) {x R:Rat} {m:Nat} (sx:Sml x 60) (nr:qjk x m R) (sR:Sml R 600) (a0:Sml (x-R) 1300) (hm:m<=1000): ∀(K q:Nat),q<=m->m<K+q->zn N (T x) (m:Int) (T R,0) ((R.den:Int),true) (T (x-R).abs) K ((q+1:Nat):Int)=some (.inl ())
 |0,q,h,hK=>by omega
 |K+1,q,h,hK=>by
  rw[zn]
  by_cases c:q+1<=m
  ·obtain⟨s1,s2,s3,s4,s5⟩:=qgv sx (q:=q+1) (by omega) (by omega) (k:=0) (by omega)
   obtain⟨_,_,s6,_,_⟩:=qgv sx (q:=q+1) (by omega) (by omega) (k:=1) (by omega)
   have sq:=qgC (n:=((q+1:Nat):Int)) (by omega) (by omega)
   have u:(((q+1:Nat):Int):Rat)≠0:=by
    rw[Ne,Rat.intCast_eq_zero_iff]
    omega
   have e0:=qiV x (q:=q+1) (k:=0) (by omega) (by omega)
   have e1:=qiV x (q:=q+1) (k:=1) (by omega) (by omega)
   rw[show((0:Nat):Int)=0 from rfl,show((0:Int):Rat)=0 from rfl,Rat.add_zero,show cnd x (2*(q+1)+0)=cnd x (2*(q+1))from rfl]at e0
   have t1:([49]:Str)=T (((1:Nat):Int):Rat):=by
    rw[<-dec_T]
    exact(qnT.2 rfl).symm
   rw[if_pos (by omega),qk3 (by omega) (by omega) (by omega),ZB,qlv j (k:=60) (by omega) (by omega) sx (sq.mono (by omega)),ZB,show(x*(((q+1:Nat):Int):Rat))=x*((q+1:Nat):Rat)from rfl,qmu j (k:=126) (by omega) (by omega) s1,ZB,ZB,qlt j (k:=261) (by omega) (by omega) (s2.mono (by omega)) (sq.mono (by omega)) u,ZB,t1,qlh j (k:=126) (by omega) (by omega) s2 ((qgC (n:=((1:Nat):Int)) (by decide) (by decide)).mono (by omega)),ZB,ZB,qlt j (k:=261) (by omega) (by omega) s6 (sq.mono (by omega)) u,ZB,e0,e1,nn_L1 j sx nr sR a0 hm (by omega) c,ZB]
   simp only
   rw[zV (by omega)]
   exact qpJ j sx nr sR a0 hm K (q+1) c (by omega)
  rw[if_neg (by omega)]
theorem qe5 {N:Nat} (u:600000<N) (s:Str) (j:Int):xI N s j=some true:=by
 obtain⟨b,hb,hf⟩:=qpW u (s:=s) (d:=6) (by omega) (by omega)
 unfold xI
 rw[show awk=some true from rfl,ZB,if_neg (by simp),show(6:Int)=((6:Nat):Int)from rfl,hb,ZB]
 cases b with
 |false=>rw[if_pos (show(!false)=true from rfl),ZB,if_pos rfl,ZB]
 |true=>
  obtain⟨x,rfl,s6,cx⟩:=hf rfl
  rw[if_neg (by simp)]
  by_cases c1:j<1
  ·rw[if_pos c1,ZB,if_pos rfl,ZB]
  rw[if_neg c1]
  by_cases c2:j>30
  ·rw[decide_eq_true c2,ZB,if_pos rfl,ZB]
  rw[decide_eq_false c2,ZB,if_neg (by simp)]
  obtain⟨m,rfl⟩: ∃m:Nat,j=(m:Int):=⟨j.toNat,by omega⟩
  have sx:Sml x 60:=s6.mono (by omega)
  obtain⟨R,r1,nr,sR⟩:=qj0 u (x:=x) (m:=m) (by omega) (by omega) sx cx
  obtain⟨R',r1',nr',a0⟩:=qj0 u (x:=x) (m:=m+1) (by omega) (by omega) sx cx
  have dif: ∀{r:Rat},Sml r 600->Sml (x-r) 1300:=fun {r} h=>by
   rw[Rat.sub_eq_add_neg]
   exact(qjj (n:=67) (by omega) (sx.mono (by omega)) ((qgm h).mono (by omega))).mono (by omega)
  have a2:=dif sR
  have a1:=dif a0
  have l1:=qcT sR
  have l2:=qcT a0
  have l3:=qcT a2
  have l4:=qcT a1
  have l5:=qcT sx
  have hRm:=nr.1
  rw[r1,ZB,zV (by omega),r1',ZB]
  simp only
  rw[if_neg (show¬(!decide (w64 (0+0)=0))=true by decide),qfF u (by omega),qpQ sR,ZB,if_neg (by decide),qfF u (by omega),qpQ a0,ZB,ZB,if_neg (by decide),qlP (by omega) (by omega),ZB,qha u (by omega),ZB,qgF u (k:=600) (by omega) (by omega) (sx.mono (by omega)) sR,ZB,qiT (by omega),ZB]
  simp only
  rw[if_neg (by simp),if_neg (by omega),qgF u (k:=600) (by omega) (by omega) (sx.mono (by omega)) a0,ZB,qiT (by omega),ZB,qi9 u (k:=1300) (by omega) (by omega) (qgw a1) (qgw a2),ZB,ZB]
  have hmore: ¬(x-R).abs<(x-R').abs:=by
   rcases nr'.2 R (by omega)with h|⟨h,_⟩
   ·exact Rat.not_lt.2 (Rat.le_of_lt h)
   rw[h]
   exact Rat.lt_irrefl
  have hden:x.den<1000000:=by
   have:=s6.2
   exact(yH (by omega)).1 this
  rw[decide_eq_false (fun c=>hmore (qdd.1 c)),if_neg (by simp),qlP (by omega) (by omega),ZB,qha u (by omega),ZB]
  simp only
  have B:(if(x.den:Int)<=(m:Int)then some (!(T R==T x))else some false:Option Bool)=some false:=by
   by_cases c:(x.den:Int)<=(m:Int)
   ·rw[if_pos c,nr.uniq (qid (show x.den<=m by omega))]
    simp
   rw[if_neg c]
  rw[if_pos trivial,B,ZB,if_neg (by simp)]
  have:=qpJ u sx nr sR a2 (by omega) N 0 (by omega) (by omega)
  rw[show((0+1:Nat):Int)=1 from rfl]at this
  rw[this,ZB]
end Go.Av
end
