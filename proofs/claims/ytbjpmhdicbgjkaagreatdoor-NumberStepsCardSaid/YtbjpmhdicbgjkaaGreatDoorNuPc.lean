/-
  Names.
-/
import Derived.Test.YtbjpmhdicbgjkaaGreatDoorAvPt
import Derived.Test.YtbjpmhdicbgjkaaGreatDoorNuPb
noncomputable section
set_option linter.unusedSimpArgs false
set_option linter.unusedVariables false
set_option maxRecDepth 100000
section
namespace Go.Av
end Go.Av
end
section
namespace Go.Av
theorem qno {N:Nat} (hN:600000<N) {f:qm} {q:Rat} (h:IsF f q) (d:vI q 3900): ∃r,qaj N f=some r/\IsZ r q.floor:=by
 obtain⟨a,b,e,j,u⟩:=qeF (N:=N) (by omega) h.1 h.2 d.1 d.2 (by have:=q.den_pos;omega)
 refine⟨a,?_,?_⟩
 ·unfold qaj
  rw[e,ZB]
 rw[Rat.floor_def]
 exact j
theorem qiL {q:Rat} {n:Nat} (h:Fit q.num n):Fit q.floor n:=by
 rw[Rat.floor_def]
 exact qbj (jo _ (by have:=q.den_pos;omega)) h
theorem qpU {m n:Nat} (h:m<=n):(Lib.decDigits m).length<=(Lib.decDigits n).length:=by
 have d:=qjM n
 exact(xI d).2 (Nat.lt_of_le_of_lt h ((xI d).1 (Nat.le_refl _)))
theorem qiJ {q:Rat} {k:Nat} (h:Sml q k) (d:0<k):Sml ((q.floor:Int):Rat) k:=by
 constructor
 ·rw[Rat.num_intCast,Rat.floor_def]
  have:=jo q.num (show(0:Int)<(q.den:Int)by have:=q.den_pos;omega)
  exact Nat.le_trans (qpU (by omega)) h.1
 rw[Rat.den_intCast]
 exact(xI d).2 (Nat.one_lt_pow (by omega) (by decide))
theorem qW {z:Int} {n:Nat} (h:Fit z n) (d:1<=n):vI (z:Rat) n:=⟨by rw[Rat.num_intCast];exact h,by rw[Rat.den_intCast];exact F1 d⟩
theorem qkB {N:Nat} (hN:600000<N) {a b:Int} {B:Nat} (hB:B<=8000) (fa:zR a B) (j:0<b):qak N (rI a) (rI b)=some (rI (a/b)):=by
 have d:0<=(a.natAbs:Int)/b:=Int.ediv_nonneg (by omega) (by omega)
 have r0:=Int.emod_nonneg (a.natAbs:Int) (show b≠0 by omega)
 have r1:=Int.emod_lt_of_pos (a.natAbs:Int) j
 have dm:=Int.mul_ediv_add_emod (a.natAbs:Int) b
 have fq:zR ((a.natAbs:Int)/b) B:=zR.le (Int.le_trans (jo _ j) (Int.le_refl _)) fa.abs
 have ql:(dg E9 ((a.natAbs:Int)/b)).length<=B:=by
  have:=fq.len
  rw[show((((a.natAbs:Int)/b).natAbs:Nat):Int)=(a.natAbs:Int)/b by omega]at this
  exact this
 have eb:(rI b).w=dg E9 b:=by rw[rI_w,show(b.natAbs:Int)=b by omega]
 unfold qak
 rw[eb,rI_w,qjy (by omega) (by omega) j hB fa.abs,ZB]
 simp only
 by_cases hn:a<0
 ·rw[if_pos (show(rI a).neg=true from decide_eq_true hn),ZB]
  by_cases hr:(a.natAbs:Int)%b=0
  ·have u:dg E9 ((a.natAbs:Int)%b)=[]:=by rw[hr];rfl
   have h:a/b= -((a.natAbs:Int)/b):=by
    rw[show a= -(a.natAbs:Int)by omega,Int.natAbs_neg,Int.natAbs_natCast,Int.neg_ediv_of_dvd (Int.dvd_of_emod_eq_zero hr)]
   rw[u,if_neg (by simp),ZB,yl _ (zC E1 d).1 (by omega) (by omega),ZB,if_pos (show(rI a).neg=true from decide_eq_true hn),jr E1 d,h]
  have u: ¬(dg E9 ((a.natAbs:Int)%b)).length=0:=by
   intro c
   have:=jr E1 r0
   rw[List.eq_nil_of_length_eq_zero c]at this
   exact hr this.symm
  have h:a/b= -((a.natAbs:Int)/b+1):=by
   have:a=b*(-((a.natAbs:Int)/b+1))+(b-(a.natAbs:Int)%b):=by
    rw[Int.mul_neg,Int.mul_add,Int.mul_one]
    omega
   conv=>lhs;rw[this]
   rw[Int.add_comm,Int.add_mul_ediv_left _ _ (by omega),Int.ediv_eq_zero_of_lt (by omega) (by omega),Int.zero_add]
  obtain⟨l,e,hd,hl,hv⟩:=qfu (N:=N) (zC E1 d).1 (b:=[1]) (by rw[<-qlu];exact(zC E1 (by decide)).1) (by omega) (by decide) (by omega)
  rw[decide_eq_true (show((dg E9 ((a.natAbs:Int)%b)).length:Int)>0 by omega),if_pos rfl,e,ZB,ZB,yl _ hd (by omega) (by omega),ZB,if_pos (show(rI a).neg=true from decide_eq_true hn),hv,jr E1 d,show dv E9 [1]=1 from rfl,h]
 rw[if_neg (show¬(rI a).neg=true from fun c=>hn (of_decide_eq_true c)),ZB,if_neg (by simp),ZB,yl _ (zC E1 d).1 (by omega) (by omega),ZB,if_neg (show¬(rI a).neg=true from fun c=>hn (of_decide_eq_true c)),jr E1 d,show(a.natAbs:Int)=a by omega]
theorem qkV {q:Rat} (h:q.den=1):((q.floor:Int):Rat)=q:=by
 apply Rat.ext
 ·rw[Rat.num_intCast,Rat.floor_def,h]
  exact Int.ediv_one _
 rw[Rat.den_intCast,h]
theorem qiY {N:Nat} (u:600000<N) {q:Rat} {k:Nat} (d:0<k) (hk:k<=4000) (h:Sml q k):qa5 N (T q)=some (T ((q.floor:Int):Rat)):=by
 have hl:=qfR h
 have W:qaN N (T q)=some (decide (q.den=1)):=by
  unfold qaN
  rw[qdk (by omega) (by omega),ZB]
  by_cases c:q.den=1
  ·rw[(qeU q c).2,decide_eq_true c,decide_eq_true rfl]
  have:=(qfQ q c).1
  rw[decide_eq_false c,decide_eq_false (by omega)]
 unfold qa5
 rw[W,ZB]
 by_cases c:q.den=1
 ·rw[if_pos (decide_eq_true c),qkV c]
 rw[if_neg (fun x=>c (of_decide_eq_true x)),qcg u (h.mono hk),ZB]
 have j:=qbD (n:=500) h d (by omega)
 have hd:=den_pos q
 have p2:zR (q.num/(q.den:Int)) 500:=zR.le (Int.le_trans (jo _ (by omega)) (Int.le_refl _)) j
 simp only
 rw[qkB u (by omega) j (by omega),ZB,qgU (by omega) (p2.mono (by omega)),ZB]
 unfold T
 rw[Rat.num_intCast,Rat.den_intCast,if_pos rfl,YQ,Rat.floor_def]
theorem fit1 {z:Int} (h: -9223372036854775808<=z) (d:z<=9223372036854775807):Fit z 1:=by
 have:W=18446744073709551616:=rfl
 unfold Fit
 rw[Int.pow_succ,Int.pow_zero,Int.one_mul]
 omega
end Go.Av
end
section
namespace Go.Av
open Classical
theorem qlA {q:Rat} {k:Nat} (d:0<k) (h:(T q).length<=k):Sml q k:=by
 have j:(Lib.decDigits q.num.natAbs).length<=(Lib.itoa q.num).length:=by
  by_cases c:q.num<0
  ·rw[yh c,Yr]
   omega
  rw[zS c]
  exact Nat.le_refl _
 unfold T at h
 rw[Yq]at h
 refine⟨by omega,?_⟩
 by_cases c:q.den=1
 ·rw[c]
  exact(xI d).2 (Nat.one_lt_pow (by omega) (by decide))
 rw[if_neg c,Yr]at h
 omega
theorem qpQ {s:Str} {k:Nat} (j:0<k) (d:s.length<=k) (h:chk s=0): ∃q:Rat,s=T q/\Sml q k/\chk (T q)=0:=by
 obtain⟨q,rfl,_,_⟩:=qd9 h
 exact⟨q,rfl,qlA j d,h⟩
theorem rrow2 {N:Nat} (h:600000<N) {a b:Str} (ha:a.length<=10000) (hb:b.length<=10000):qao N [a,b]=some (if chk a=0 then chk b else chk a):=by
 have j:=qgi h ha
 have u:=qgi h hb
 unfold qao
 obtain⟨K,hK⟩: ∃K,N=K+1+1+1:=⟨N-3,by omega⟩
 have L:qZ N [a,b] (K+1+1+1) 0=some (if chk a=0 then(if chk b=0 then .inl ()else .inr (chk b))else .inr (chk a)):=by
  rw[qZ,if_pos (by simp),qa6]
  simp only[Yj,ZB]
  rw[j,ZB]
  by_cases c:chk a=0
  ·rw[if_neg (by simp[c]),if_pos c,show w64 (0+1)=((1:Nat):Int)from rfl,qZ,if_pos (by simp),qA]
   simp only[YK,Yj,ZB]
   rw[u,ZB]
   by_cases d:chk b=0
   ·rw[if_neg (by simp[d]),if_pos d,show w64 (((1:Nat):Int)+1)=2 from rfl,qZ,if_neg (by simp)]
   rw[if_pos (by simp[d]),if_neg d]
  rw[if_pos (by simp[c]),if_neg c]
 rw[show qZ N [a,b] N 0=qZ N [a,b] (K+1+1+1) 0 by rw[<-hK],L,ZB]
 by_cases c:chk a=0
 ·by_cases d:chk b=0
  ·rw[if_pos c,if_pos d,if_pos c,d]
  rw[if_pos c,if_neg d,if_pos c]
 rw[if_neg c,if_neg c]
theorem ncmp {N:Nat} (d:600000<N) {p q:Rat} (j:Sml p 600) (h:Sml q 600): ∃f g,vz N (T p)=some f/\vz N (T q)=some g/\zx N f g=some (if p<q then-1 else if p=q then 0 else 1):=by
 have f1:=qhK (n:=32) j (by omega) (by omega)
 have f2:=qhK (n:=32) h (by omega) (by omega)
 obtain⟨f,e1,i1⟩:=qg8 d (j.mono (show 600<=9000 by omega))
 obtain⟨g,e2,u⟩:=qg8 d (h.mono (show 600<=9000 by omega))
 exact⟨f,g,e1,e2,qeS d i1 u (n:=32) (by omega) f1 f2⟩
theorem qd6 {p q:Rat}:((if p<q then-1 else if p=q then 0 else 1:Int)>0)↔q<p:=by
 by_cases h:p<q
 ·rw[if_pos h]
  exact⟨fun c=>absurd c (by decide),fun c=>absurd c (Rat.not_lt.2 (Rat.le_of_lt h))⟩
 rw[if_neg h]
 by_cases e:p=q
 ·rw[if_pos e]
  exact⟨fun c=>absurd c (by decide),fun c=>absurd (e▸c) Rat.lt_irrefl⟩
 rw[if_neg e]
 refine⟨fun _=>?_,fun _=>by decide⟩
 exact Rat.lt_of_le_of_ne (Rat.not_lt.1 h) (Ne.symm e)
theorem qnB {p q:Rat}:((if p<q then-1 else if p=q then 0 else 1:Int)<0)↔p<q:=by
 by_cases h:p<q
 ·rw[if_pos h]
  exact⟨fun _=>h,fun _=>by decide⟩
 rw[if_neg h]
 refine⟨fun c=>?_,fun c=>absurd c h⟩
 by_cases e:p=q
 ·rw[if_pos e]at c
  exact absurd c (by decide)
 rw[if_neg e]at c
 exact absurd c (by decide)
def IsL:List qm->List Rat->Prop
 |[],[]=>True
 |f::l,q::r=>IsF f q/\IsL l r
 |_,_=>False
theorem IsL.get: ∀{l:List qm} {r:List Rat},IsL l r->l.length=r.length/\ ∀(i:Nat) (q:Rat),r[i]? =some q-> ∃f,l[i]? =some f/\IsF f q
 |[],[],_=>⟨rfl,fun i q h=>by simp at h⟩
 |f::l,q::r,h=>by
  obtain⟨d,j⟩:=h
  obtain⟨a,b⟩:=IsL.get j
  refine⟨by simp[a],fun i x hx=>?_⟩
  match i,hx with
  |0,hx=>
   simp at hx
   exact⟨f,rfl,hx▸d⟩
  |i+1,hx=>
   rw[YK]at hx⊢
   exact b i x hx
 |[],_::_,h=>h.elim
 |_::_,[],h=>h.elim
end Go.Av
end
section
namespace Go.Av
theorem qmN (l:List Str) (d:l.length<=1000): ∀(K i:Nat),i<=l.length->l.length<K+i->yS l K (i:Int)=some (if(l.drop i).any (fun s=>decide (60<s.length))=true then .inr true else .inl ())
 |0,i,hi,hK=>by omega
 |K+1,i,hi,hK=>by
  rw[yS]
  by_cases h:i<l.length
  ·rw[if_pos (by omega),qA,Ya h,ZB,YG h,List.any_cons,zn (by omega),qmN l d K (i+1) (by omega) (by omega)]
   by_cases c:60<l[i].length
   ·rw[if_pos (by omega),decide_eq_true c,Bool.true_or,if_pos rfl]
   rw[if_neg (by omega),decide_eq_false c,Bool.false_or]
  rw[if_neg (by omega),List.drop_eq_nil_of_le (by omega)]
  rfl
theorem qma {N:Nat} {l:List Str} (d:l.length<=1000) (h:2000<N):qbw N l=some (l.any fun s=>decide (60<s.length)):=by
 unfold qbw
 have e:=qmN l d N 0 (by omega) (by omega)
 rw[show((0:Nat):Int)=0 from rfl,YR]at e
 rw[e,ZB]
 cases l.any fun s=>decide (60<s.length)<;>rfl
theorem qn6 {q:Rat}:0<q.num↔0<q:=by
 have d:=Rat.num_nonneg (q:=q)
 have j:=Rat.num_eq_zero (q:=q)
 constructor
 ·intro h
  exact Rat.lt_of_le_of_ne (d.1 (by omega)) (fun e=>by have:=j.2 e.symm;omega)
 intro h
 have u:=d.2 (Rat.le_of_lt h)
 have h4:q.num≠0:=fun e=>Rat.ne_of_gt h (j.1 e)
 omega
theorem qnz {f:qm} {q:Rat} (h:IsF f q):qaQ f=some (if q.num<0 then-1 else if q.num=0 then 0 else 1):=by
 unfold qaQ
 rw[qdx h.1,ZB]
section ops
variable {N:Nat} (hN:600000<N)
include hN
variable {p p' q q':Rat} (hp:Sml p 60) (hp':Sml p' 60) (hq:Sml q 60) (hq':Sml q' 60) (cp:chk (T p)=0) (cp':chk (T p')=0) (cq:chk (T q)=0) (cq':chk (T q')=0) (hpp:p<=p') (hqq:q<=q')
include hp hp' hq hq' cp cp' cq cq' hpp hqq
end ops
end Go.Av
end
section
namespace Go.Av
def le3 (x u v:Rat):Prop:=(x-u).abs<(x-v).abs\/((x-u).abs=(x-v).abs/\(u.den<v.den\/(u.den=v.den/\u<=v)))
theorem qf4 (x u:Rat):le3 x u u:= .inr ⟨rfl,.inr ⟨rfl,Rat.le_refl⟩⟩
theorem qka {a b c:Rat} (h:a<b) (k:b<c):a<c:=by
 have:=Rat.le_of_lt k
 rcases Rat.le_iff_lt_or_eq.1 (Rat.le_trans (Rat.le_of_lt h) this)with e|e
 ·exact e
 rw[e]at h
 exact absurd k (Rat.not_lt.2 (Rat.le_of_lt h))
theorem qeO {x u v w:Rat} (h:le3 x u v) (k:le3 x v w):le3 x u w:=by
 rcases h with h|⟨h1,j⟩
 ·rcases k with k|⟨k1,_⟩
  ·exact .inl (qka h k)
  exact .inl (k1▸h)
 rcases k with k|⟨k1,d⟩
 ·exact .inl (h1▸k)
 refine .inr ⟨h1.trans k1,?_⟩
 rcases j with j|⟨j,h3⟩
 ·rcases d with d|⟨d,_⟩
  ·exact .inl (Nat.lt_trans j d)
  exact .inl (d▸j)
 rcases d with d|⟨d,k3⟩
 ·exact .inl (j▸d)
 exact .inr ⟨j.trans d,Rat.le_trans h3 k3⟩
theorem qju {x u v:Rat} (h:le3 x u v) (k:le3 x v u):u=v:=by
 rcases h with h|⟨h1,j⟩
 ·rcases k with k|⟨k1,_⟩
  ·exact absurd (qka h k) Rat.lt_irrefl
  rw[k1]at h
  exact absurd h Rat.lt_irrefl
 rcases k with k|⟨_,d⟩
 ·rw[h1]at k
  exact absurd k Rat.lt_irrefl
 rcases j with j|⟨j,h3⟩<;>rcases d with d|⟨d,k3⟩
 ·omega
 ·omega
 ·omega
 exact Rat.le_antisymm h3 k3
def qlx (x:Rat) (m:Nat) (r:Rat):Prop:=r.den<=m/\ ∀y:Rat,y.den<=m->le3 x r y
theorem qlx.uniq {x r s:Rat} {m:Nat} (h:qlx x m r) (k:qlx x m s):r=s:=qju (h.2 s k.1) (k.2 r h.1)
theorem qjz {x u v:Rat} (h:u<=x) (k:v<=u):le3 x u v:=by
 rcases Rat.le_iff_lt_or_eq.1 k with e|e
 ·left
  rw[Rat.abs_of_nonneg (by grind),Rat.abs_of_nonneg (by grind)]
  grind
 rw[e]
 exact qf4 x u
theorem qfr {x u v:Rat} (h:x<=u) (k:u<=v):le3 x u v:=by
 rcases Rat.le_iff_lt_or_eq.1 k with e|e
 ·left
  rw[Rat.abs_of_nonpos (by grind),Rat.abs_of_nonpos (by grind)]
  grind
 rw[e]
 exact qf4 x v
theorem qns {x:Rat} {m:Nat} (h:x.den<=m):qlx x m x:=by
 refine⟨h,fun y hy=>?_⟩
 rcases Rat.le_total (a:=x) (b:=y)with c|c
 ·exact qfr Rat.le_refl c
 exact qjz Rat.le_refl c
theorem between {c d e f p q:Int} (hd:0<d) (hf:0<f) (j:c*f-d*e=1) (hq:q<d+f) (u:0<q):p*f<=e*q\/c*q<=p*d:=by
 by_cases h:p*f<=e*q
 ·exact .inl h
 right
 by_cases k:c*q<=p*d
 ·exact k
 exfalso
 have h1:d*1<=d*(p*f-e*q):=Yc (by omega) (by omega)
 have h2:f*1<=f*(c*q-p*d):=Yc (by omega) (by omega)
 have h3:d*(p*f-e*q)+f*(c*q-p*d)=q*(c*f-d*e):=by grind
 rw[j]at h3
 omega
theorem qg7 (q:Rat):q*((q.den:Int):Rat)=(q.num:Rat):=by
 have h:((q.den:Int):Rat)≠0:=by
  rw[Ne,Rat.intCast_eq_zero_iff]
  have:=q.den_pos
  omega
 conv=>lhs;lhs;rw[<-Rat.num_divInt_den q,Rat.divInt_eq_div]
 exact Rat.div_mul_cancel h
theorem qdj {y M:Rat} {p q e f:Int} (hq:0<q) (u:0<f) (h1:y*(q:Rat)=(p:Rat)) (h2:M*(f:Rat)=(e:Rat)):y<=M↔p*f<=e*q:=by
 have d:(0:Rat)<(q:Rat):=Rat.intCast_pos.2 hq
 have h:(0:Rat)<(f:Rat):=Rat.intCast_pos.2 u
 have j:=Rat.mul_pos d h
 rw[<-Rat.intCast_le_intCast,Rat.intCast_mul,Rat.intCast_mul,<-h1,<-h2,show y*(q:Rat)*(f:Rat)=y*((q:Rat)*(f:Rat))by grind,show M*(f:Rat)*(q:Rat)=M*((q:Rat)*(f:Rat))by grind,<-Rat.not_lt,<-Rat.not_lt,Rat.mul_lt_mul_right j]
theorem qgI {d a b:Int} (h:d∣a*b) (g:Int.gcd d a=1):d∣b:=by
 have j:d.natAbs∣a.natAbs*b.natAbs:=by
  rw[<-Int.natAbs_mul]
  exact Int.natAbs_dvd_natAbs.2 h
 exact Int.natAbs_dvd_natAbs.1 (Nat.Coprime.dvd_of_dvd_mul_left g j)
theorem qdt {L:Rat} {c d e f:Int} (hd:0<d) (h:L*(d:Rat)=(c:Rat)) (j:c*f-d*e=1\/c*f-d*e= -1):(L.den:Int)=d:=by
 have h1:=qg7 L
 have hL:=L.den_pos
 have u:L.num*d=c*(L.den:Int):=by
  rw[<-Rat.intCast_inj,Rat.intCast_mul,Rat.intCast_mul,<-h1,<-h]
  grind
 have hg:Int.gcd c d=1:=by
  have g1:(Int.gcd c d:Int)∣c*f-d*e:=Int.dvd_sub (Int.dvd_mul_of_dvd_left (Int.gcd_dvd_left ..)) (Int.dvd_mul_of_dvd_left (Int.gcd_dvd_right ..))
  rcases j with k|k
  ·rw[k]at g1
   exact Int.ofNat_inj.1 (Int.eq_one_of_dvd_one (by omega) g1)
  rw[k]at g1
  exact Int.ofNat_inj.1 (Int.eq_one_of_dvd_one (by omega) (Int.dvd_neg.1 g1))
 have d1:d∣(L.den:Int):=by
  have:d∣c*(L.den:Int):=⟨L.num,by rw[<-u,Int.mul_comm]⟩
  exact qgI this (by rw[Int.gcd_comm];exact hg)
 have d2:(L.den:Int)∣d:=by
  have:(L.den:Int)∣L.num*d:=⟨c,by rw[u,Int.mul_comm]⟩
  refine qgI this ?_
  have:=L.reduced
  rw[Int.gcd,Int.natAbs_natCast,Nat.gcd_comm]
  exact this
 exact Int.dvd_antisymm (by omega) (by omega) d2 d1
theorem qlY {x L M R:Rat} {c d e f:Int} {m:Nat} (u:0<d) (j:0<f) (hdm:d<=m) (hfm:f<=m) (hs:(m:Int)<d+f) (hL:L*(d:Rat)=(c:Rat)) (hM:M*(f:Rat)=(e:Rat))
 (hx:(M<=x/\x<=L/\c*f-d*e=1)\/(L<=x/\x<=M/\c*f-d*e= -1)) (hR:R=L\/R=M) (h1:le3 x R L) (h2:le3 x R M):qlx x m R:=by
 have dd:c*f-d*e=1\/c*f-d*e= -1:=by
  rcases hx with⟨_,_,h⟩|⟨_,_,h⟩
  ·exact .inl h
  exact .inr h
 have nL:=qdt u hL dd
 have nM:(M.den:Int)=f:=by
  refine qdt (e:=c) (f:=d) j hM ?_
  rcases dd with h|h
  ·right
   rw[Int.mul_comm e d,Int.mul_comm f c]
   omega
  left
  rw[Int.mul_comm e d,Int.mul_comm f c]
  omega
 refine⟨by rcases hR with h|h<;>rw[h]<;>omega,fun y hy=>?_⟩
 have yd:=y.den_pos
 have ny:=qg7 y
 rcases hx with⟨b1,b2,h⟩|⟨b1,b2,h⟩
 ·rcases between (p:=y.num) (q:=(y.den:Int)) u j h (by omega) (by omega)with k|k
  ·exact qeO h2 (qjz b1 ((qdj (by omega) j ny hM).2 k))
  exact qeO h1 (qfr b2 ((qdj u (by omega) hL ny).2 k))
 have h':e*d-f*c=1:=by
  rw[Int.mul_comm e d,Int.mul_comm f c]
  omega
 rcases between (p:=y.num) (q:=(y.den:Int)) j u h' (by omega) (by omega)with k|k
 ·exact qeO h1 (qjz b1 ((qdj (by omega) u ny hL).2 k))
 exact qeO h2 (qfr b2 ((qdj j (by omega) hM ny).2 k))
end Go.Av
end
section
namespace Go.Av
theorem tdm {n:Int}:((n.tdiv 1000000000).natAbs:Int)=(n.natAbs:Int)/1000000000/\((n.tmod 1000000000).natAbs:Int)=(n.natAbs:Int)%1000000000/\(n.tmod 1000000000<0->n<0):=by
 rcases Int.lt_or_le n 0 with h|h
 ·obtain⟨m,rfl⟩: ∃m,n= -m:=⟨-n,by omega⟩
  rw[Int.neg_tdiv,Int.neg_tmod,YF (by omega),Int.tmod_eq_emod_of_nonneg (by omega)]
  omega
 rw[YF h,Int.tmod_eq_emod_of_nonneg h]
 omega
theorem qk7: ∀(k K:Nat) (l:List Int) (n:Int),(n.natAbs:Int)<E9^k->k<=3->k<K-> -9223372036854775808<=n->n<=9223372036854775807->l.length+k<=1000-> ∃w,zW K l n=some (l++w)/\Dg E9 w/\dv E9 w=(n.natAbs:Int)/\w.length<=k
 |k,0,l,n,_,_,hK,_,_,_=>by omega
 |k,K+1,l,n,hn,hk,hK,h1,h2,hl=>by
  rw[zW]
  by_cases h0:n=0
  ·rw[if_neg (by simp[h0]),h0]
   exact⟨[],by simp,Dg.nil,rfl,by simp⟩
  match k,hn,hk,hK with
  |0,hn,hk,hK=>
   rw[Int.pow_zero]at hn
   omega
  |k+1,hn,hk,hK=>
   obtain⟨d,t2,t3⟩:=tdm (n:=n)
   have ed:(if n.tmod 1000000000<0 then some (w64 (0-n.tmod 1000000000))else some (n.tmod 1000000000):Option Int)=some ((n.natAbs:Int)%1000000000):=by
    by_cases c:n.tmod 1000000000<0
    ·rw[if_pos c,qh (by omega) (by omega)]
     congr 1
     omega
    rw[if_neg c]
    congr 1
    omega
   have u:E9^(k+1)=E9^k*E9:=Int.pow_succ ..
   have j:((n.tdiv 1000000000).natAbs:Int)<E9^k:=by
    rw[d]
    exact Int.ediv_lt_of_lt_mul (by decide) (by rw[<-u];exact hn)
   rw[if_pos (by simp[h0]),ed,ZB,qc7 (by simp;omega) (by simp;omega),ZB,qh (by omega) (by omega)]
   obtain⟨w,e,d1,h,d3⟩:=qk7 k K (l++[(n.natAbs:Int)%1000000000]) (n.tdiv 1000000000) j (by omega) (by omega) (by omega) (by omega) (by simp;omega)
   refine⟨(n.natAbs:Int)%1000000000::w,by rw[e,Yz];rfl,Dg.cons ⟨by omega,by show _<(1000000000:Int);omega⟩ d1,?_,by simp;omega⟩
   rw[zw,h,d]
   show(n.natAbs:Int)%1000000000+1000000000*((n.natAbs:Int)/1000000000)=_
   omega
theorem qn9 {N:Nat} (hN:100<N) {n:Int} (j: -9223372036854775808<=n) (u:n<=9223372036854775807):vX N n=some (rI n):=by
 obtain⟨w,e,d1,d,d3⟩:=qk7 3 N [] n (by show _<(1000000000:Int)^3;omega) (by omega) (by omega) j u (by simp)
 unfold vX
 rw[e,ZB,List.nil_append,yl _ d1 (by omega) (by omega),ZB,d]
 congr 2
 by_cases c:n<0
 ·rw[if_pos (decide_eq_true c)]
  omega
 rw[if_neg (fun h=>c (of_decide_eq_true h))]
 omega
theorem T_int (n:Int):T (n:Rat)=Lib.itoa n:=by
 unfold T
 rw[Rat.num_intCast,Rat.den_intCast,if_pos rfl,YQ]
theorem qnW {n:Int} (h: -9223372036854775808<=n) (d:n<=9223372036854775807):zR n 3:=by
 show(n.natAbs:Int)<(1000000000:Int)^3
 omega
theorem qfb {N:Nat} (j:60000<N) {n:Int} (h: -9223372036854775808<=n) (d:n<=9223372036854775807):jU N n=some (T (n:Rat)):=by
 unfold jU
 rw[qn9 (by omega) h d,ZB,qgU j ((qnW h d).mono (by omega)),ZB,T_int]
theorem qfO {n:Int} (h: -9223372036854775808<=n) (d:n<=9223372036854775807):Sml (n:Rat) 27:=by
 refine qhB (n:=3) ?_ ?_ (by omega)
 ·rw[Rat.num_intCast]
  exact qnW h d
 rw[Rat.den_intCast]
 exact qnW (by decide) (by decide)
theorem qfz (q:Rat):q.abs=if q.num<0 then-q else q:=by
 by_cases h:q.num<0
 ·rw[if_pos h,Rat.abs_of_nonpos]
  rw[<-Rat.not_lt,<-qn6]
  omega
 rw[if_neg h,Rat.abs_of_nonneg]
 rw[<-Rat.num_nonneg]
 omega
theorem qnH {q:Rat} (h:(T q).length<=100000):xn (T q)=some (T q.abs):=by
 have d:=qqC (N:=0) h
 unfold qcd at d
 rw[qjF,ZB]at d
 unfold xn
 rw[qjF,ZB,qfz]
 by_cases c:q.num<0
 ·simp only[if_pos c]at d⊢
  rw[if_pos (by decide)]at d⊢
  exact d
 simp only[if_neg c]
 rw[if_neg (by split<;>decide)]
theorem qmU {q:Rat} {k:Nat} (h:Sml q k):Sml q.abs k:=by
 rw[qfz]
 split
 ·exact qg0 h
 exact h
def bst (x b y:Rat):Rat:=if(x-y).abs<(x-b).abs then y else b
def cnd (x:Rat) (i:Nat):Rat:=Rat.divInt ((x*((i/2:Nat):Rat)).floor+((i%2:Nat):Int)) ((i/2:Nat):Int)
def qhL (x:Rat):Nat->Rat
 |0=>(x.floor:Rat)
 |m+1=>bst x (bst x (qhL x m) (cnd x (2*(m+1)))) (cnd x (2*(m+1)+1))
def Fst (x b:Rat) (n:Nat):Prop:= ∃i,2<=i/\i<n/\b=cnd x i/\ ∀j,2<=j->j<n->(x-b).abs<(x-cnd x j).abs\/((x-b).abs=(x-cnd x j).abs/\i<=j)
theorem Fst.step {x b:Rat} {n:Nat} (h:Fst x b n):Fst x (bst x b (cnd x n)) (n+1):=by
 obtain⟨i,u,h2,h3,d⟩:=h
 unfold bst
 by_cases c:(x-cnd x n).abs<(x-b).abs
 ·rw[if_pos c]
  refine⟨n,by omega,by omega,rfl,fun j j1 j2=>?_⟩
  by_cases e:j=n
  ·exact .inr ⟨by rw[e],by omega⟩
  rcases d j j1 (by omega)with k|⟨k,_⟩
  ·exact .inl (qka c k)
  exact .inl (k▸c)
 rw[if_neg c]
 refine⟨i,u,by omega,h3,fun j j1 j2=>?_⟩
 by_cases e:j=n
 ·rw[e]
  rcases Rat.le_iff_lt_or_eq.1 (Rat.not_lt.1 c)with k|k
  ·exact .inl k
  exact .inr ⟨k,by omega⟩
 exact d j j1 (by omega)
theorem cnd2 (x:Rat):cnd x 2=(x.floor:Rat):=by
 unfold cnd
 rw[show 2/2=1 from rfl,show 2%2=0 from rfl,show((1:Nat):Rat)=1 from rfl,Rat.mul_one,show((0:Nat):Int)=0 from rfl,Int.add_zero,Rat.divInt_eq_div,show(((1:Nat):Int):Rat)=1 from rfl]
 have:=Rat.div_mul_cancel (a:=(x.floor:Rat)) (b:=1) (by decide)
 rw[Rat.mul_one]at this
 exact this
theorem qkp (x:Rat): ∀m:Nat,1<=m->Fst x (qhL x m) (2*m+2)
 |0,h=>by omega
 |1,_=>by
  have h:Fst x (x.floor:Rat) 3:=⟨2,by omega,by omega,(cnd2 x).symm,fun j j1 j2=> .inr ⟨by rw[show j=2 by omega,cnd2],by omega⟩⟩
  have e:bst x (x.floor:Rat) (cnd x 2)=(x.floor:Rat):=by
   unfold bst
   rw[cnd2,if_neg Rat.lt_irrefl]
  show Fst x (bst x (bst x (x.floor:Rat) (cnd x 2)) (cnd x 3)) 4
  rw[e]
  exact h.step
 |m+2,_=>(qkp x (m+1) (by omega)).step.step
theorem qrg {a:Int} {q:Nat} (h:0<q):(Rat.divInt a (q:Int)).den<=q:=by
 rw[Rat.den_divInt,if_neg (by omega),Int.natAbs_natCast]
 exact Nat.div_le_self ..
theorem qjm {x:Rat} {q:Nat} (h:0<q):cnd x (2*q)*(((q:Nat):Int):Rat)=((x*(q:Rat)).floor:Rat):=by
 unfold cnd
 rw[show 2*q/2=q by omega,show 2*q%2=0 by omega,Rat.divInt_eq_div,Rat.div_mul_cancel (by rw[Ne,Rat.intCast_eq_zero_iff];omega),show((0:Nat):Int)=0 from rfl,Int.add_zero]
theorem qkj {x:Rat} {q:Nat} (h:0<q):cnd x (2*q+1)*(((q:Nat):Int):Rat)=(((x*(q:Rat)).floor+1:Int):Rat):=by
 unfold cnd
 rw[show(2*q+1)/2=q by omega,show(2*q+1)%2=1 by omega,Rat.divInt_eq_div,Rat.div_mul_cancel (by rw[Ne,Rat.intCast_eq_zero_iff];omega),show((1:Nat):Int)=1 from rfl]
theorem qaO {a b c:Rat} (d:0<c) (h:a*c<=b*c):a<=b:=Rat.le_of_mul_le_mul_right h d
theorem qiP (x:Rat) {m:Nat} (hm:1<=m):qlx x m (qhL x m):=by
 obtain⟨i,h1,h2,h3,u⟩:=qkp x m hm
 have hd:(qhL x m).den<=i/2:=by
  rw[h3]
  exact qrg (by omega)
 refine⟨by omega,fun y hy=>?_⟩
 have h:=y.den_pos
 have d:(0:Rat)<((y.den:Int):Rat):=Rat.intCast_pos.2 (by omega)
 have ny:=qg7 y
 have cast:((y.den:Int):Rat)=(y.den:Rat):=rfl
 rcases Int.lt_or_le (x*(y.den:Rat)).floor y.num with c|c
 ·
  have u1:cnd x (2*y.den+1)<=y:=by
   refine qaO d ?_
   rw[qkj h,ny,Rat.intCast_le_intCast]
   omega
  have u0:x<=cnd x (2*y.den+1):=by
   refine qaO d ?_
   rw[qkj h]
   exact Rat.le_of_lt (Rat.lt_floor_add_one _)
  rcases Rat.le_iff_lt_or_eq.1 u1 with k|k
  ·left
   have g:=qfr u0 u1
   have g2:(x-cnd x (2*y.den+1)).abs<(x-y).abs:=by
    rw[Rat.abs_of_nonpos (by grind),Rat.abs_of_nonpos (by grind)]
    grind
   rcases u (2*y.den+1) (by omega) (by omega)with e|⟨e,_⟩
   ·exact qka e g2
   rw[e]
   exact g2
  rcases u (2*y.den+1) (by omega) (by omega)with e|⟨e,ei⟩
  ·rw[k]at e
   exact .inl e
  rw[k]at e
  refine .inr ⟨e,?_⟩
  rcases Nat.lt_or_ge (qhL x m).den y.den with f|f
  ·exact .inl f
  right
  refine⟨by omega,?_⟩
  have:i=2*y.den\/i=2*y.den+1:=by omega
  rcases this with j|j
  ·rw[h3,j]
   refine Rat.le_trans ?_ (Rat.le_trans u0 u1)
   refine qaO d ?_
   rw[qjm h]
   exact Rat.floor_le _
  rw[h3,j]
  exact u1
 
 have u1:y<=cnd x (2*y.den):=by
  refine qaO d ?_
  rw[qjm h,ny,Rat.intCast_le_intCast]
  omega
 have u0:cnd x (2*y.den)<=x:=by
  refine qaO d ?_
  rw[qjm h]
  exact Rat.floor_le _
 rcases Rat.le_iff_lt_or_eq.1 u1 with k|k
 ·left
  have g2:(x-cnd x (2*y.den)).abs<(x-y).abs:=by
   rw[Rat.abs_of_nonneg (by grind),Rat.abs_of_nonneg (by grind)]
   grind
  rcases u (2*y.den) (by omega) (by omega)with e|⟨e,_⟩
  ·exact qka e g2
  rw[e]
  exact g2
 rcases u (2*y.den) (by omega) (by omega)with e|⟨e,ei⟩
 ·rw[<-k]at e
  exact .inl e
 rw[<-k]at e
 refine .inr ⟨e,?_⟩
 rcases Nat.lt_or_ge (qhL x m).den y.den with f|f
 ·exact .inl f
 right
 refine⟨by omega,?_⟩
 rw[h3,show i=2*y.den by omega,<-k]
 exact Rat.le_refl
end Go.Av
end
section
namespace Go.Av
theorem F_eq {n:Int} (d: -9223372036854775808<=n) (h:n<=9223372036854775807): ∃f,qf3 n=some f/\IsF f (n:Rat):=by
 obtain⟨f,e,i⟩:=qfA (Ue d h)
 refine⟨f,?_,i⟩
 unfold qf3
 rw[qik,ZB,e,ZB]
theorem qnQ {N:Nat} (hN:600000<N) {f:qm} {q:Rat} (h:IsF f q) (j:vI q 3900): ∃g,xN N f=some g/\IsF g ((q.floor:Int):Rat):=by
 obtain⟨r,e,i⟩:=qno hN h j
 obtain⟨g,u,d⟩:=qfA i
 refine⟨g,?_,d⟩
 unfold xN
 rw[e,ZB,u,ZB]
theorem qnV {N:Nat} (hN:600000<N) {f g:qm} {p q:Rat} (d:IsF f p) (j:IsF g q) {n:Nat} (hn:n<=1900) (fp:vI p n) (fq:vI q n): ∃r,qbx N f g=some r/\IsF r (q-p).abs:=by
 obtain⟨a,e1,u⟩:=qgX hN d j hn fp fq
 obtain⟨b,e2,i2⟩:=qgX hN j d hn fq fp
 unfold qbx
 rw[e1,ZB,qnz u,ZB,e2,ZB]
 by_cases h:(p-q).num<0
 ·rw[if_pos h,if_pos (by decide)]
  refine⟨b,rfl,?_⟩
  rw[Rat.abs_sub_comm,qfz,if_pos h,Rat.neg_sub]
  exact i2
 rw[if_neg h,if_neg (by split<;>decide)]
 refine⟨a,rfl,?_⟩
 rw[Rat.abs_sub_comm,qfz,if_neg h]
 exact u
theorem qki {N:Nat} (hN:600000<N) {fc fd fk fa fb:qm} {c d k a b:Int} (ic:IsF fc (c:Rat)) (id:IsF fd (d:Rat)) (ik:IsF fk (k:Rat)) (ia:IsF fa (a:Rat)) (ib:IsF fb (b:Rat)) {n:Nat} (h:1<=n) (hn:n<=900) (zc:Fit c n) (zd:Fit d n) (j:Fit k n) (za:Fit a n) (zb:Fit b n):
 ∃u v:qm,kC N ⟨fc,fd⟩ fk ⟨fa,fb⟩=some ⟨u,v⟩/\IsF u ((c*k+a:Int):Rat)/\IsF v ((d*k+b:Int):Rat):=by
 have m1:=qfC (qW zc h) (qW j h)
 have m2:=qfC (qW zd h) (qW j h)
 obtain⟨r1,e1,i1⟩:=qjr hN ic ik (n:=n) (by omega) (qW zc h) (qW j h)
 obtain⟨r2,e2,i2⟩:=qjP hN i1 ia (n:=n+n) (by omega) m1 ((qW za h).mono (by omega))
 obtain⟨r3,e3,i3⟩:=qjr hN id ik (n:=n) (by omega) (qW zd h) (qW j h)
 obtain⟨r4,e4,i4⟩:=qjP hN i3 ib (n:=n+n) (by omega) m2 ((qW zb h).mono (by omega))
 refine⟨r2,r4,?_,?_,?_⟩
 ·unfold kC
  simp only
  rw[e1,ZB,e2,ZB,e3,ZB,e4,ZB]
 ·rw[Rat.intCast_add,Rat.intCast_mul]
  exact i2
 rw[Rat.intCast_add,Rat.intCast_mul]
 exact i4
theorem qkd (r:Rat):r-(r.floor:Rat)=Rat.divInt (r.num%(r.den:Int)) (r.den:Int):=by
 have h:((r.den:Int):Rat)≠0:=by
  rw[Ne,Rat.intCast_eq_zero_iff]
  have:=r.den_pos
  omega
 have e:(r-(r.floor:Rat))*((r.den:Int):Rat)=((r.num%(r.den:Int):Int):Rat):=by
  rw[Rat.sub_eq_add_neg,Rat.add_mul,qg7,Rat.floor_def,Int.emod_def,Rat.intCast_sub,Rat.intCast_mul]
  grind
 rw[Rat.divInt_eq_div,<-e,Rat.mul_div_cancel h]
theorem qi6 {r:Rat} {n:Nat} (h:vI r n):vI (r-(r.floor:Rat)) n:=by
 rw[qkd]
 have d:=r.den_pos
 refine qdC (by omega) ?_ h.2
 refine qbj ?_ h.2
 have:=Int.emod_nonneg r.num (show(r.den:Int)≠0 by omega)
 have:=Int.emod_lt_of_pos r.num (show(0:Int)<(r.den:Int)by omega)
 omega
theorem qlJ {x:Rat} {n:Nat} (h:vI x n):x<=((W^n:Int):Rat)/\ -((W^n:Int):Rat)<=x:=by
 have u:=x.den_pos
 have h1:(x.num.natAbs:Int)<W^n:=h.1
 have d:(0:Int)<=W^n:=by omega
 have j:W^n*1<=W^n*(x.den:Int):=Yc (by omega) d
 rw[<-Rat.intCast_neg]
 constructor
 ·rw[Rat.le_iff,Rat.num_intCast,Rat.den_intCast]
  omega
 rw[Rat.le_iff,Rat.num_intCast,Rat.den_intCast,Int.neg_mul]
 omega
theorem qnA {x:Rat} {n m:Nat} (hx:vI x n) {c d:Int} (h0:0<=d) (hd:d<=m) (hm:m<=1000) (h1:(c:Rat)-x*(d:Rat)<=1) (h2: -1<=(c:Rat)-x*(d:Rat)):Fit c (n+1):=by
 obtain⟨b1,j⟩:=qlJ hx
 have h:(0:Rat)<=(d:Rat):=Rat.intCast_nonneg.2 h0
 have hW:(1:Int)<=W^n:=pow_pos (show(0:Int)<W by decide) n
 have m1:=Rat.mul_le_mul_of_nonneg_right b1 h
 have m2:=Rat.mul_le_mul_of_nonneg_right j h
 have u1:(c:Rat)<=((W^n*d+1:Int):Rat):=by
  rw[Rat.intCast_add,Rat.intCast_mul,show((1:Int):Rat)=1 from rfl]
  grind
 have u:((-(W^n*d+1):Int):Rat)<=(c:Rat):=by
  rw[Rat.intCast_neg,Rat.intCast_add,Rat.intCast_mul,show((1:Int):Rat)=1 from rfl]
  grind
 rw[Rat.intCast_le_intCast]at u1 u
 have m3:W^n*d<=W^n*1000:=Yc (by omega) (by omega)
 have e:W^(n+1)=W^n*W:=Int.pow_succ ..
 have m4:W^n*1001<W^n*W:=Int.mul_lt_mul_of_pos_left (by decide) (by omega)
 unfold Fit
 omega
structure Cvg (x:Rat) (m:Nat) (a b c d:Int) (r:Rat):Prop where
 b0:0<=b
 d0:0<=d
 bm:b<=m
 dm:d<=m
 st:(b=1/\d=0)\/(1<=d/\1<r)
 fr:vI r 4
 za:Fit a 5
 zc:Fit c 5
 eq:x*((d:Rat)*r+(b:Rat))=(c:Rat)*r+(a:Rat)
 det:c*b-d*a=1\/c*b-d*a= -1
theorem qiX {r:Rat} (h:1<r):1<=r.floor:=by
 rw[Rat.le_floor_iff]
 exact Rat.le_of_lt h
theorem Cvg.next {x:Rat} {m:Nat} {a b c d:Int} {r:Rat} (h:Cvg x m a b c d r) (hm1:1<=m) (hm:m<=1000) (fx:vI x 4) (hd:d*r.floor+b<=m) (hr:r≠(r.floor:Rat)):
 Cvg x m c d (c*r.floor+a) (d*r.floor+b) (r-(r.floor:Rat))⁻¹/\1<=d*r.floor+b/\b+d+1<=d+(d*r.floor+b)+(if d=0 then 1 else 0):=by
 have u:0<r-(r.floor:Rat):=by
  rw[<-Rat.lt_iff_sub_pos]
  exact Rat.lt_of_le_of_ne (Rat.floor_le _) (Ne.symm hr)
 have hlt:r-(r.floor:Rat)<1:=by
  have:=Rat.lt_floor_add_one r
  rw[Rat.intCast_add,show((1:Int):Rat)=1 from rfl]at this
  grind
 have hne:r-(r.floor:Rat)≠0:=Rat.ne_of_gt u
 have k1:1<=d*r.floor+b/\b+d+1<=d+(d*r.floor+b)+(if d=0 then 1 else 0):=by
  rcases h.st with⟨e1,e2⟩|⟨e1,e2⟩
  ·rw[e1,e2]
   simp
  have f1:=qiX e2
  have:=Yc f1 h.d0
  have:=h.b0
  rw[if_neg (by omega)]
  omega
 have j:=Rat.mul_inv_cancel _ hne
 have hs:(1:Rat)<(r-(r.floor:Rat))⁻¹:=by
  have p:=Rat.inv_pos.2 u
  have:=Rat.mul_lt_mul_of_pos_right hlt p
  rw[j,Rat.one_mul]at this
  exact this
 generalize hg:(r-(r.floor:Rat))⁻¹=s at*
 have er:r=(r.floor:Rat)+s⁻¹:=by
  rw[<-hg,Rat.inv_inv]
  grind
 generalize hk:r.floor=k at*
 have es:(r-(k:Rat))*s=1:=j
 have e2:x*(((d*k+b:Int):Rat)*s+(d:Rat))=((c*k+a:Int):Rat)*s+(c:Rat):=by
  have h1:=h.eq
  rw[Rat.intCast_add,Rat.intCast_mul,Rat.intCast_add,Rat.intCast_mul]
  have h2:x*((d:Rat)*r+(b:Rat))*s=((c:Rat)*r+(a:Rat))*s:=by rw[h1]
  have h3:r*s=1+(k:Rat)*s:=by grind
  have h4:x*((d:Rat)*(r*s)+(b:Rat)*s)=(c:Rat)*(r*s)+(a:Rat)*s:=by grind
  rw[h3]at h4
  grind
 have dt:(c*k+a)*d-(d*k+b)*c=1\/(c*k+a)*d-(d*k+b)*c= -1:=by
  have:(c*k+a)*d-(d*k+b)*c= -(c*b-d*a):=by grind
  rcases h.det with e|e
  ·right;rw[this,e]
  left;rw[this,e];rfl
 refine⟨?_,k1⟩
 have D1:(1:Rat)<=((d*k+b:Int):Rat)*s+(d:Rat):=by
  have a1:(1:Rat)<=((d*k+b:Int):Rat):=by
   have:=Rat.intCast_le_intCast.2 k1.1
   exact this
  have a2:(0:Rat)<=(d:Rat):=Rat.intCast_nonneg.2 h.d0
  have a3:=Rat.mul_le_mul_of_nonneg_right a1 (show(0:Rat)<=s from Rat.le_trans (by decide) (Rat.le_of_lt hs))
  rw[Rat.one_mul]at a3
  have:=Rat.le_of_lt hs
  grind
 have zz:(((c*k+a:Int):Rat)-x*((d*k+b:Int):Rat))*(((d*k+b:Int):Rat)*s+(d:Rat))=(((c*k+a)*d-(d*k+b)*c:Int):Rat):=by
  rw[Rat.intCast_sub,Rat.intCast_mul,Rat.intCast_mul]
  generalize ((c*k+a:Int):Rat)=C at*
  generalize ((d*k+b:Int):Rat)=E at*
  generalize (c:Rat)=c' at*
  generalize (d:Rat)=d' at*
  have:(C-x*E)*(E*s+d')=C*(E*s+d')-E*(x*(E*s+d')):=by grind
  rw[this,e2]
  grind
 have hz:((c*k+a:Int):Rat)-x*((d*k+b:Int):Rat)<=1/\ -1<=((c*k+a:Int):Rat)-x*((d*k+b:Int):Rat):=by
  generalize ((c*k+a:Int):Rat)-x*((d*k+b:Int):Rat)=z at*
  generalize ((d*k+b:Int):Rat)*s+(d:Rat)=D at*
  have hD0:(0:Rat)<=D:=Rat.le_trans (by decide) D1
  have hb:z*D=1\/z*D= -1:=by
   rw[zz]
   rcases dt with e|e
   ·left;rw[e];rfl
   right;rw[e];rfl
  constructor
  ·rw[<-Rat.not_lt]
   intro hc
   have:=Rat.mul_lt_mul_of_pos_right hc (show(0:Rat)<D by grind)
   rw[Rat.one_mul]at this
   grind
  rw[<-Rat.not_lt]
  intro hc
  have:=Rat.mul_lt_mul_of_pos_right hc (show(0:Rat)<D by grind)
  grind
 exact {b0:=h.d0,d0:=by omega,bm:=h.dm,dm:=hd,st:= .inr ⟨k1.1,hs⟩,fr:=by rw[<-hg];exact qfq (by rw[<-hk];exact qi6 h.fr) (by omega),za:=h.zc,zc:=qnA fx (by omega) hd hm hz.1 hz.2,eq:=e2,det:=dt}
end Go.Av
end
section
namespace Go.Av
theorem xX {z:Int} {m:Nat} (u:0<=z) (h:z<=m) (j:m<=1000) {n:Nat} (d:1<=n):Fit z n:=(fit1 (by omega) (by omega)).mono d
theorem qeL {p q:Rat}:((if p<q then-1 else if p=q then 0 else 1:Int)=0)↔p=q:=by
 by_cases h:p<q
 ·rw[if_pos h]
  exact⟨fun c=>absurd c (by decide),fun c=>absurd (c▸h) Rat.lt_irrefl⟩
 rw[if_neg h]
 by_cases e:p=q
 ·rw[if_pos e]
  exact⟨fun _=>e,fun _=>rfl⟩
 rw[if_neg e]
 exact⟨fun c=>absurd c (by decide),fun c=>absurd c e⟩
def IsC (fa fb fc fd fr:qm) (a b c d:Int) (r:Rat):Prop:=IsF fa (a:Rat)/\IsF fb (b:Rat)/\IsF fc (c:Rat)/\IsF fd (d:Rat)/\IsF fr r
theorem qmA {N:Nat} (hN:600000<N) {x:Rat} {m:Nat} (hm1:1<=m) (hm:m<=1000) (fx:vI x 4) (sx:Sml x 600) {M:qm} (iM:IsF M ((m:Int):Rat)):
 ∀(K:Nat) (fa fb fc j fr:qm) (a b c d:Int) (r:Rat),IsC fa fb fc j fr a b c d r->Cvg x m a b c d r->2*m+6<=K+(b+d).toNat+(if d=0 then 0 else 1)->
 (zQ N M K fa.Num.s fa.Num.w fa.Den.s fa.Den.w fb.Num.s fb.Num.w fb.Den.s fb.Den.w fc.Num.s fc.Num.w fc.Den.s fc.Den.w j.Num.s j.Num.w j.Den.s j.Den.w fr.Num.s fr.Num.w fr.Den.s fr.Den.w=some (.inr (T x,0))/\x.den<=m)\/
 ∃(ga gb gc gd gr:qm) (a b c d:Int) (r:Rat),zQ N M K fa.Num.s fa.Num.w fa.Den.s fa.Den.w fb.Num.s fb.Num.w fb.Den.s fb.Den.w fc.Num.s fc.Num.w fc.Den.s fc.Den.w j.Num.s j.Num.w j.Den.s j.Den.w fr.Num.s fr.Num.w fr.Den.s fr.Den.w=some (.inl (ga.Num.s,ga.Num.w,ga.Den.s,ga.Den.w,gb.Num.s,gb.Num.w,gb.Den.s,gb.Den.w,gc.Num.s,gc.Num.w,gc.Den.s,gc.Den.w,gd.Num.s,gd.Num.w,gd.Den.s,gd.Den.w))/\
  IsC ga gb gc gd gr a b c d r/\Cvg x m a b c d r/\(m:Int)<d*r.floor+b
 |0,fa,fb,fc,j,fr,a,b,c,d,r,hi,h,hK=>by
  have:=h.b0;have:=h.d0;have:=h.bm;have:=h.dm
  exfalso
  split at hK<;>omega
 |K+1,fa,fb,fc,j,fr,a,b,c,d,r,hi,h,hK=>by
  obtain⟨ia,ib,ic,id,ir⟩:=hi
  have zb:=xX h.b0 h.bm hm (n:=5) (by omega)
  have zd:=xX h.d0 h.dm hm (n:=5) (by omega)
  have zk:Fit r.floor 5:=(qiL h.fr.1).mono (by omega)
  obtain⟨fk,e1,ik⟩:=qnQ hN ir (h.fr.mono (by omega))
  obtain⟨u,v,e2,iu,iv⟩:=qki hN ic id ik ia ib (n:=5) (by omega) (by omega) h.zc zd zk h.za zb
  have zv:Fit (d*r.floor+b) 11:=(qf0 (n:=5+5) (yO zd zk) (zb.mono (by omega))).mono (by omega)
  have zu:Fit (c*r.floor+a) 11:=(qf0 (n:=5+5) (yO h.zc zk) (h.za.mono (by omega))).mono (by omega)
  have zm:Fit (m:Int) 11:=xX (by omega) (Int.le_refl _) hm (by omega)
  have e3:=qeS hN iv iM (n:=11) (by omega) (qW zv (by omega)) (qW zm (by omega))
  have ir':IsF ⟨⟨fr.Num.s,fr.Num.w⟩,⟨fr.Den.s,fr.Den.w⟩⟩ r:=ir
  have e4:=qeS hN ir' ik (n:=11) (by omega) (h.fr.mono (by omega)) (qW (zk.mono (by omega)) (by omega))
  rw[zQ]
  rw[show xN N (⟨⟨fr.Num.s,fr.Num.w⟩,⟨fr.Den.s,fr.Den.w⟩⟩:qm)=some fk from e1,ZB,show kC N ⟨⟨⟨fc.Num.s,fc.Num.w⟩,⟨fc.Den.s,fc.Den.w⟩⟩,⟨⟨j.Num.s,j.Num.w⟩,⟨j.Den.s,j.Den.w⟩⟩⟩ fk ⟨⟨⟨fa.Num.s,fa.Num.w⟩,⟨fa.Den.s,fa.Den.w⟩⟩,⟨⟨fb.Num.s,fb.Num.w⟩,⟨fb.Den.s,fb.Den.w⟩⟩⟩=some ⟨u,v⟩from e2,ZB,e3,ZB]
  by_cases hc:(m:Int)<d*r.floor+b
  ·rw[if_pos (qd6.2 (Rat.intCast_lt_intCast.2 hc))]
   exact .inr ⟨fa,fb,fc,j,fr,a,b,c,d,r,rfl,⟨ia,ib,ic,id,ir⟩,h,hc⟩
  rw[if_neg (fun y=>hc (Rat.intCast_lt_intCast.1 (qd6.1 y))),e4,ZB]
  have dpos:1<=d*r.floor+b:=by
   rcases h.st with⟨s1,s2⟩|⟨s1,s2⟩
   ·rw[s1,s2]
    simp
   have:=Yc (qiX s2) h.d0
   have:=h.b0
   omega
  have dne:(((d*r.floor+b:Int):Rat))≠0:=by
   rw[Ne,Rat.intCast_eq_zero_iff]
   omega
  by_cases hr:r=(r.floor:Rat)
  ·left
   have ex:x*((d*r.floor+b:Int):Rat)=((c*r.floor+a:Int):Rat):=by
    have:=h.eq
    rw[Rat.intCast_add,Rat.intCast_mul,Rat.intCast_add,Rat.intCast_mul,<-hr]
    exact this
   obtain⟨w,e5,iw⟩:=qha hN iu iv (n:=11) (by omega) (by omega) (qW zu (by omega)) (qW zv (by omega)) dne
   have exw:((c*r.floor+a:Int):Rat)/((d*r.floor+b:Int):Rat)=x:=by
    rw[<-ex,Rat.mul_div_cancel dne]
   rw[exw]at iw
   rw[if_pos (qeL.2 hr),e5,ZB,qgl hN iw (fx.mono (by omega)),ZB,qfK sx]
   refine⟨rfl,?_⟩
   have hd:(x.den:Int)<=d*r.floor+b:=by
    rw[<-exw,<-Rat.divInt_eq_div,Rat.den_divInt,if_neg (by omega),Int.natCast_ediv]
    have:=jo (((d*r.floor+b).natAbs:Nat):Int) (show(0:Int)<(Int.gcd (d*r.floor+b) (c*r.floor+a):Int)by have:=Int.gcd_pos_of_ne_zero_left (c*r.floor+a) (show d*r.floor+b≠0 by omega);omega)
    omega
   omega
  obtain⟨nx,k1,k2⟩:=h.next hm1 hm fx (by omega) hr
  obtain⟨s,e5,is⟩:=qgX hN ir' ik (n:=11) (by omega) (h.fr.mono (by omega)) (qW (zk.mono (by omega)) (by omega))
  have hne:r-(r.floor:Rat)≠0:=fun e=>hr (by grind)
  obtain⟨t,e6,it⟩:=ql4 hN is ((qi6 h.fr).mono (by omega)) hne
  rw[if_neg (fun y=>hr (qeL.1 y)),e5,ZB,e6,ZB]
  refine qmA hN hm1 hm fx sx iM K fc j u v t c d _ _ _ ⟨ic,id,iu,iv,it⟩ nx ?_
  rw[if_neg (by omega)]
  have:=h.b0
  have:=h.d0
  by_cases z:d=0
  ·rw[if_pos z]at hK k2
   omega
  rw[if_neg z]at hK k2
  omega
end Go.Av
end
section
namespace Go.Av
theorem qpa {N:Nat} (d:10<N) (a b c:Int):qcv N [a,b,c]=some (if a=0 then(if b=0 then c else b)else a):=by
 obtain⟨K,rfl⟩: ∃K,N=K+1+1+1+1:=⟨N-4,by omega⟩
 unfold qcv
 rw[jO,if_pos (by simp),qa6,Yj,ZB]
 by_cases h:a=0
 ·rw[if_neg (by simp[h]),if_pos h,show w64 (0+1)=((1:Nat):Int)from rfl,jO,if_pos (by simp),qA,YK,Yj,ZB]
  by_cases k:b=0
  ·rw[if_neg (by simp[k]),if_pos k,show w64 (((1:Nat):Int)+1)=((2:Nat):Int)from rfl,jO,if_pos (by simp),qA,YK,YK,Yj,ZB]
   by_cases l:c=0
   ·rw[if_neg (by simp[l]),show w64 (((2:Nat):Int)+1)=((3:Nat):Int)from rfl,jO,if_neg (by simp),l]
    rfl
   rw[if_pos (by simp[l])]
   rfl
  rw[if_pos (by simp[k]),if_neg k]
  rfl
 rw[if_pos (by simp[h]),if_neg h]
 rfl
theorem pick {x L M:Rat} {d f:Int} (nL:(L.den:Int)=d) (nM:(M.den:Int)=f) {c:Int}
 (j:c=if(if(x-L).abs<(x-M).abs then-1 else if(x-L).abs=(x-M).abs then 0 else 1:Int)=0 then(if(if(d:Rat)<(f:Rat)then-1 else if(d:Rat)=(f:Rat)then 0 else 1:Int)=0 then(if L<M then-1 else if L=M then 0 else 1)else(if(d:Rat)<(f:Rat)then-1 else if(d:Rat)=(f:Rat)then 0 else 1))else(if(x-L).abs<(x-M).abs then-1 else if(x-L).abs=(x-M).abs then 0 else 1)):
 (¬c>0->le3 x L M)/\(c>0->le3 x M L):=by
 by_cases h1:(x-L).abs=(x-M).abs
 ·rw[if_pos (qeL.2 h1)]at j
  by_cases u:(d:Rat)=(f:Rat)
  ·rw[if_pos (qeL.2 u)]at j
   have u:=Rat.intCast_inj.1 u
   constructor
   ·intro h
    rw[j]at h
    exact .inr ⟨h1,.inr ⟨by omega,Rat.not_lt.1 fun k=>h (qd6.2 k)⟩⟩
   intro h
   rw[j]at h
   exact .inr ⟨h1.symm,.inr ⟨by omega,Rat.le_of_lt (qd6.1 h)⟩⟩
  rw[if_neg (fun k=>u (qeL.1 k))]at j
  constructor
  ·intro h
   rw[j]at h
   have h:=Rat.not_lt.1 (fun k=>h (qd6.2 k))
   have h3:d≠f:=fun k=>u (by rw[k])
   have:=Rat.intCast_le_intCast.1 h
   exact .inr ⟨h1,.inl (by omega)⟩
  intro h
  rw[j]at h
  have:=Rat.intCast_lt_intCast.1 (qd6.1 h)
  exact .inr ⟨h1.symm,.inl (by omega)⟩
 rw[if_neg (fun k=>h1 (qeL.1 k))]at j
 constructor
 ·intro h
  rw[j]at h
  have h:=Rat.not_lt.1 (fun k=>h (qd6.2 k))
  exact .inl (Rat.lt_of_le_of_ne h h1)
 intro h
 rw[j]at h
 exact .inl (qd6.1 h)
theorem qo4 {z:Int} {n:Nat} (h:Fit z n) (d:0<n):(Lib.decDigits z.natAbs).length<=20*n:=by
 refine(xI (by omega)).2 ?_
 have j:(z.natAbs:Int)<W^n:=h
 have u:=(qdd (x:=W) (y:=100000000000000000000) (by decide) (by decide) n).2
 have h3:(100000000000000000000:Int)^n=((10^(20*n):Nat):Int):=by
  rw[Nat.pow_mul,Int.natCast_pow]
  rfl
 omega
theorem qgc {q:Rat} {n:Nat} (h:vI q n) (d:0<n):Sml q (20*n):=by
 have:=qo4 h.2 d
 rw[Int.natAbs_natCast]at this
 exact⟨qo4 h.1 d,this⟩
theorem qk2 {q:Rat} {n:Nat} (h:vI q n):vI q.abs n:=by
 rw[qfz]
 split
 ·exact qhG h
 exact h
theorem qkQ {p q:Rat} {n:Nat} (d:vI p n) (h:vI q n):vI (p-q) (n+n+1):=by
 rw[Rat.sub_eq_add_neg]
 exact qn1 d (qhG h)
theorem qoE {N:Nat} (hN:600000<N) {x:Rat} {m:Nat} (hm1:1<=m) (hm:m<=1000) (sx:Sml x 60) (cx:chk (T x)=0): ∃R,vo N (T x) (m:Int)=some (T R,0)/\qlx x m R/\Sml R 600:=by
 have fx:vI x 4:=qhK sx (by omega) (by omega)
 have lx:=qfR sx
 obtain⟨fm,e1,im⟩:=F_eq (n:=(m:Int)) (by omega) (by omega)
 obtain⟨f0,e2,i0⟩:=F_eq (n:=0) (by decide) (by decide)
 obtain⟨f1,e3,i1⟩:=F_eq (n:=1) (by decide) (by decide)
 obtain⟨fr,e4,ir⟩:=qg8 hN (sx.mono (show 60<=9000 by omega))
 have z0:Fit (0:Int) 5:=xX (m:=1) (by decide) (by decide) (by omega) (by omega)
 have z1:Fit (1:Int) 5:=xX (m:=1) (by decide) (by decide) (by omega) (by omega)
 have st:Cvg x m 0 1 1 0 x:={b0:=by decide,d0:=by decide,bm:=by omega,dm:=by omega,st:= .inl ⟨rfl,rfl⟩,fr:=fx,za:=z0,zc:=z1,eq:=by rw[show((0:Int):Rat)=0 from rfl,show((1:Int):Rat)=1 from rfl];grind,det:= .inl (by decide)}
 have A:=qmA hN hm1 hm fx (sx.mono (by omega)) im N f0 f1 f1 f0 fr 0 1 1 0 x ⟨i0,i1,i1,i0,ir⟩ st (by simp;omega)
 unfold vo qK
 rw[qce hN (by omega),cx,ZB,if_neg (by omega),decide_eq_false (by omega),if_neg (by simp),ZB,qbE (by omega),if_pos rfl,ZB,ZB]
 simp only
 rw[if_neg (by simp),e1,ZB,e2,ZB,e3,ZB,ZB,ZB,e4,ZB]
 rcases A with⟨A1,A2⟩|⟨fa,fb,fc,j,fs,a,b,c,d,r,A1,⟨ia,ib,ic,id,is⟩,h,hk⟩
 ·rw[A1,ZB]
  exact⟨x,rfl,qns A2,sx.mono (by omega)⟩
 rw[A1,ZB]
 simp only
 have d1:1<=d/\1<r:=by
  rcases h.st with⟨s1,s2⟩|s
  ·rw[s1,s2]at hk
   simp at hk
   omega
  exact s
 have hb0:=h.b0
 have hbm:=h.bm
 have hdm:=h.dm
 have zb:=xX h.b0 h.bm hm (n:=5) (by omega)
 have zd:=xX h.d0 h.dm hm (n:=5) (by omega)
 have zmb:Fit ((m:Int)-b) 5:=xX (m:=m) (by omega) (by omega) hm (by omega)
 have dne:(d:Rat)≠0:=by
  rw[Ne,Rat.intCast_eq_zero_iff]
  omega
 obtain⟨r66,b1,j1⟩:=qgX hN im ib (n:=5) (by omega) (qW ((xX (m:=m) (by omega) (Int.le_refl _) hm (by omega):Fit (m:Int) 5)) (by omega)) (qW zb (by omega))
 rw[<-Rat.intCast_sub]at j1
 obtain⟨r67,b2,j2⟩:=qha hN j1 id (n:=5) (by omega) (by omega) (qW zmb (by omega)) (qW zd (by omega)) dne
 have fq:vI ((((m:Int)-b:Int):Rat)/(d:Rat)) 10:=by
  rw[Rat.div_def]
  exact(qfC (n:=5) (qW zmb (by omega)) (qfq (qW zd (by omega)) (by omega))).mono (by omega)
 obtain⟨r68,b3,j3⟩:=qnQ hN j2 (fq.mono (by omega))
 have t1:(((((m:Int)-b:Int):Rat)/(d:Rat)).floor:Int)*d<=(m:Int)-b:=by
  have:=Rat.floor_le ((((m:Int)-b:Int):Rat)/(d:Rat))
  have:=Rat.mul_le_mul_of_nonneg_right this (show(0:Rat)<=(d:Rat)from Rat.intCast_nonneg.2 (by omega))
  rw[Rat.div_mul_cancel dne,<-Rat.intCast_mul,Rat.intCast_le_intCast]at this
  exact this
 have t2:(m:Int)-b<((((((m:Int)-b:Int):Rat)/(d:Rat)).floor:Int)+1)*d:=by
  have:=Rat.lt_floor_add_one ((((m:Int)-b:Int):Rat)/(d:Rat))
  have:=Rat.mul_lt_mul_of_pos_right this (show(0:Rat)<(d:Rat)from Rat.intCast_pos.2 (by omega))
  rw[Rat.div_mul_cancel dne,<-Rat.intCast_mul,Rat.intCast_lt_intCast]at this
  exact this
 have zt:Fit ((((m:Int)-b:Int):Rat)/(d:Rat)).floor 10:=qiL fq.1
 generalize ((((m:Int)-b:Int):Rat)/(d:Rat)).floor=t at*
 have t0:0<=t:=by
  rcases Int.lt_or_le t 0 with k|k
  ·have:=Int.mul_le_mul_of_nonneg_right (show t+1<=0 by omega) (show 0<=d by omega)
   rw[Int.zero_mul]at this
   omega
  exact k
 have tk:t+1<=r.floor:=by
  rcases Int.lt_or_le t r.floor with k|k
  ·omega
  have:=Yc k (show 0<=d by omega)
  rw[Int.mul_comm d t]at this
  omega
 rw[Int.add_mul,Int.one_mul,Int.mul_comm t d]at t2
 rw[Int.mul_comm t d]at t1
 have E1:1<=d*t+b:=by
  rcases Int.lt_or_le 0 t with k|k
  ·have:=Yc (show 1<=t by omega) (show 0<=d by omega)
   omega
  have t00:t=0:=by omega
  rw[t00]at t2⊢
  omega
 obtain⟨u,v,b4,iu,iv⟩:=qki hN ic id j3 ia ib (n:=10) (by omega) (by omega) (h.zc.mono (by omega)) (zd.mono (by omega)) zt (h.za.mono (by omega)) (zb.mono (by omega))
 have zv:Fit (d*t+b) 11:=xX (m:=m) (by omega) (by omega) hm (by omega)
 have zu:Fit (c*t+a) 21:=(qf0 (n:=10+10) (yO (h.zc.mono (show 5<=10 by omega)) zt) (h.za.mono (by omega))).mono (by omega)
 have Ene:(((d*t+b:Int):Rat))≠0:=by
  rw[Ne,Rat.intCast_eq_zero_iff]
  omega
 obtain⟨r70,b5,j5⟩:=qha hN ic id (n:=5) (by omega) (by omega) (qW h.zc (by omega)) (qW zd (by omega)) dne
 obtain⟨r71,b6,j6⟩:=qha hN iu iv (n:=21) (by omega) (by omega) (qW zu (by omega)) (qW (zv.mono (by omega)) (by omega)) Ene
 have hL:=Rat.div_mul_cancel (a:=(c:Rat)) dne
 have hM:=Rat.div_mul_cancel (a:=((c*t+a:Int):Rat)) Ene
 have fL:vI ((c:Rat)/(d:Rat)) 22:=by
  rw[Rat.div_def]
  exact(qfC (qW h.zc (by omega)) (qfq (qW zd (by omega)) (by omega))).mono (by omega)
 have fM:vI (((c*t+a:Int):Rat)/((d*t+b:Int):Rat)) 22:=by
  have e:=Rat.divInt_eq_div (c*t+a) (d*t+b)
  rw[<-e]
  exact(qdC (by omega) (zu.mono (by omega)) (zv.mono (by omega)):vI _ 21).mono (by omega)
 have det:c*(d*t+b)-d*(c*t+a)=1\/c*(d*t+b)-d*(c*t+a)= -1:=by
  have:c*(d*t+b)-d*(c*t+a)=c*b-d*a:=by grind
  rw[this]
  exact h.det
 generalize hLe:(c:Rat)/(d:Rat)=L at*
 generalize hMe:((c*t+a:Int):Rat)/((d*t+b:Int):Rat)=M at*
 have fx22:vI x 22:=fx.mono (by omega)
 obtain⟨r73,b7,j7⟩:=qnV hN j5 ir (n:=22) (by omega) fL fx22
 obtain⟨r75,b8,j8⟩:=qnV hN j6 ir (n:=22) (by omega) fM fx22
 have b9:=qeS hN j7 j8 (n:=45) (by omega) ((qk2 (qkQ (n:=22) fx22 fL)).mono (by omega)) ((qk2 (qkQ (n:=22) fx22 fM)).mono (by omega))
 have b10:=qeS hN id iv (n:=22) (by omega) (qW (zd.mono (by omega)) (by omega)) (qW (zv.mono (by omega)) (by omega))
 have b11:=qeS hN j5 j6 (n:=22) (by omega) fL fM
 have nL:=qdt (L:=L) (c:=c) (e:=c*t+a) (f:=d*t+b) (by omega) hL det
 have nM:(M.den:Int)=d*t+b:=by
  refine qdt (e:=c) (f:=d) (by omega) hM ?_
  rcases det with k|k
  ·right
   rw[Int.mul_comm _ d,Int.mul_comm _ c]
   omega
  left
  rw[Int.mul_comm _ d,Int.mul_comm _ c]
  omega
 rw[show vT N fm (⟨⟨fb.Num.s,fb.Num.w⟩,⟨fb.Den.s,fb.Den.w⟩⟩:qm)=some r66 from b1,ZB,show jQ N r66 (⟨⟨j.Num.s,j.Num.w⟩,⟨j.Den.s,j.Den.w⟩⟩:qm)=some r67 from b2,ZB,b3,ZB,
  show kC N ⟨⟨⟨fc.Num.s,fc.Num.w⟩,⟨fc.Den.s,fc.Den.w⟩⟩,⟨⟨j.Num.s,j.Num.w⟩,⟨j.Den.s,j.Den.w⟩⟩⟩ r68 ⟨⟨⟨fa.Num.s,fa.Num.w⟩,⟨fa.Den.s,fa.Den.w⟩⟩,⟨⟨fb.Num.s,fb.Num.w⟩,⟨fb.Den.s,fb.Den.w⟩⟩⟩=some ⟨u,v⟩from b4,ZB,
  show jQ N (⟨⟨fc.Num.s,fc.Num.w⟩,⟨fc.Den.s,fc.Den.w⟩⟩:qm) (⟨⟨j.Num.s,j.Num.w⟩,⟨j.Den.s,j.Den.w⟩⟩:qm)=some r70 from b5,ZB,b6,ZB,ZB,b7,ZB,ZB,b8,ZB,b9,ZB,
  show zx N (⟨⟨j.Num.s,j.Num.w⟩,⟨j.Den.s,j.Den.w⟩⟩:qm) v=_ from b10,ZB,b11,ZB,qpa (by omega),ZB]
 obtain⟨p1,p2⟩:=pick (x:=x) nL nM rfl
 generalize (if(if(x-L).abs<(x-M).abs then-1 else if(x-L).abs=(x-M).abs then 0 else 1:Int)=0 then(if(if(d:Rat)<((d*t+b:Int):Rat)then-1 else if(d:Rat)=((d*t+b:Int):Rat)then 0 else 1:Int)=0 then(if L<M then-1 else if L=M then 0 else 1)else(if(d:Rat)<((d*t+b:Int):Rat)then-1 else if(d:Rat)=((d*t+b:Int):Rat)then 0 else 1))else(if(x-L).abs<(x-M).abs then-1 else if(x-L).abs=(x-M).abs then 0 else 1):Int)=cc at*
 have hx:(M<=x/\x<=L/\c*(d*t+b)-d*(c*t+a)=1)\/(L<=x/\x<=M/\c*(d*t+b)-d*(c*t+a)= -1):=by
  have w0:0<r-(t:Rat):=by
   have a1:=Rat.intCast_le_intCast.2 tk
   have a2:=Rat.floor_le r
   rw[Rat.intCast_add,show((1:Int):Rat)=1 from rfl]at a1
   grind
  have hd':(0:Rat)<(d:Rat):=Rat.intCast_pos.2 (by omega)
  have hE':(0:Rat)<((d*t+b:Int):Rat):=Rat.intCast_pos.2 (by omega)
  have key:(x-L)*((d:Rat)*(r-(t:Rat)))=(M-x)*((d*t+b:Int):Rat):=by
   have q1:=h.eq
   have q2:((d*t+b:Int):Rat)=(d:Rat)*(t:Rat)+(b:Rat):=by rw[Rat.intCast_add,Rat.intCast_mul]
   have q3:((c*t+a:Int):Rat)=(c:Rat)*(t:Rat)+(a:Rat):=by rw[Rat.intCast_add,Rat.intCast_mul]
   rw[q3,q2]at hM
   rw[q2]
   generalize (d:Rat)=D at*
   generalize (c:Rat)=C at*
   generalize (a:Rat)=A at*
   generalize (b:Rat)=B at*
   generalize (t:Rat)=Tt at*
   have l1:(x-L)*(D*(r-Tt))=x*(D*r+B)-x*(D*Tt+B)-(L*D)*(r-Tt):=by grind
   have l2:(M-x)*(D*Tt+B)=M*(D*Tt+B)-x*(D*Tt+B):=by grind
   rw[l1,l2,q1,hL,hM]
   grind
  have hdw:=Rat.mul_pos hd' w0
  have up:L<=x->x<=M:=by
   intro k
   have k1:0<=(x-L)*((d:Rat)*(r-(t:Rat))):=Rat.mul_nonneg (by grind) (Rat.le_of_lt hdw)
   rw[key]at k1
   rw[<-Rat.not_lt]
   intro k2
   have:=Rat.mul_lt_mul_of_pos_right (show M-x<0 by grind) hE'
   rw[Rat.zero_mul]at this
   exact absurd this (Rat.not_lt.2 k1)
  have dn:x<=L->M<=x:=by
   intro k
   rw[<-Rat.not_lt]
   intro k2
   have k1:0<(M-x)*((d*t+b:Int):Rat):=Rat.mul_pos (by grind) hE'
   rw[<-key]at k1
   have:=Rat.mul_le_mul_of_nonneg_right (show x-L<=0 by grind) (Rat.le_of_lt hdw)
   rw[Rat.zero_mul]at this
   exact absurd k1 (Rat.not_lt.2 this)
  have cr:=qdj (y:=M) (M:=L) (p:=c*t+a) (q:=d*t+b) (e:=c) (f:=d) (by omega) (by omega) hM hL
  have cr2:=qdj (y:=L) (M:=M) (p:=c) (q:=d) (e:=c*t+a) (f:=d*t+b) (by omega) (by omega) hL hM
  rcases det with k|k
  ·left
   have:M<=L:=cr.2 (by rw[Int.mul_comm _ d];omega)
   rcases Rat.le_total (a:=x) (b:=L)with e|e
   ·exact⟨dn e,e,k⟩
   have:=up e
   have e2:x=L:=Rat.le_antisymm (Rat.le_trans this ‹M<=L›) e
   exact⟨by rw[e2];assumption,by rw[e2];exact Rat.le_refl,k⟩
  right
  have:L<=M:=cr2.2 (by rw[Int.mul_comm _ d];omega)
  rcases Rat.le_total (a:=L) (b:=x)with e|e
  ·exact⟨e,up e,k⟩
  have:=dn e
  have e2:x=L:=Rat.le_antisymm e (Rat.le_trans ‹L<=M› this)
  exact⟨by rw[e2];exact Rat.le_refl,by rw[e2];assumption,k⟩
 by_cases hcc:cc>0
 ·rw[if_pos hcc,ZB,show vY N (⟨⟨r71.Num.s,r71.Num.w⟩,⟨r71.Den.s,r71.Den.w⟩⟩:qm)=_ from qgl hN j6 (fM.mono (by omega)),qfK ((qgc fM (by omega)).mono (by omega))]
  exact⟨M,rfl,qlY (by omega) (by omega) hdm (by omega) (by omega) hL hM hx (.inr rfl) (p2 hcc) (qf4 x M),(qgc fM (by omega)).mono (by omega)⟩
 rw[if_neg hcc,ZB,show vY N (⟨⟨r70.Num.s,r70.Num.w⟩,⟨r70.Den.s,r70.Den.w⟩⟩:qm)=_ from qgl hN j5 (fL.mono (by omega)),qfK ((qgc fL (by omega)).mono (by omega))]
 exact⟨L,rfl,qlY (by omega) (by omega) hdm (by omega) (by omega) hL hM hx (.inl rfl) (qf4 x L) (p1 hcc),(qgc fL (by omega)).mono (by omega)⟩
end Go.Av
end
section
namespace Go.Av
theorem qmL (x:Rat) {q k:Nat} (d:0<q) (h:k<2):((((x*(q:Rat)).floor:Int):Rat)+((k:Int):Rat))/(((q:Nat):Int):Rat)=cnd x (2*q+k):=by
 unfold cnd
 rw[show(2*q+k)/2=q by omega,show(2*q+k)%2=k by omega,Rat.divInt_eq_div,Rat.intCast_add]
theorem qga {x:Rat} (sx:Sml x 60) {q:Nat} (hq:0<q) (hq2:q<=1000) {k:Nat} (hk:k<2):
 Sml (x*(q:Rat)) 126/\Sml ((((x*(q:Rat)).floor:Int):Rat)) 126/\Sml ((((x*(q:Rat)).floor:Int):Rat)+((k:Int):Rat)) 261/\Sml (cnd x (2*q+k)) 522/\Sml (x-cnd x (2*q+k)) 1053:=by
 have h:((q:Nat):Rat)=(((q:Nat):Int):Rat):=rfl
 have sq:=qfO (n:=(q:Int)) (by omega) (by omega)
 have sk:=qfO (n:=(k:Int)) (by omega) (by omega)
 have s1:Sml (x*(q:Rat)) 126:=(qmj (n:=7) (by omega) (sx.mono (by omega)) (h▸sq.mono (by omega))).mono (by omega)
 have u:=qiJ s1 (by omega)
 have s3:Sml ((((x*(q:Rat)).floor:Int):Rat)+((k:Int):Rat)) 261:=(qjW (n:=14) (by omega) (u.mono (by omega)) (sk.mono (by omega))).mono (by omega)
 have d:(((q:Nat):Int):Rat)≠0:=by
  rw[Ne,Rat.intCast_eq_zero_iff]
  omega
 have j:Sml (cnd x (2*q+k)) 522:=by
  rw[<-qmL x hq hk,Rat.div_def]
  exact(qmj (n:=29) (by omega) (s3.mono (by omega)) ((qmV sq d).mono (by omega))).mono (by omega)
 refine⟨s1,u,s3,j,?_⟩
 rw[Rat.sub_eq_add_neg]
 exact(qjW (n:=58) (by omega) (sx.mono (by omega)) ((qg0 j).mono (by omega))).mono (by omega)
theorem qjI {x b y:Rat} {k:Nat} (d:Sml b k) (h:Sml y k):Sml (bst x b y) k:=by
 unfold bst
 split<;>assumption
theorem qkO {x:Rat} (d:Sml x 60): ∀m:Nat,m<=1000->Sml (qhL x m) 522
 |0,_=>(qiJ d (by omega)).mono (by omega)
 |m+1,h=>qjI (qjI (qkO d m (by omega)) (qga d (q:=m+1) (by omega) h (k:=0) (by omega)).2.2.2.1) (qga d (q:=m+1) (by omega) h (k:=1) (by omega)).2.2.2.1
theorem ql6 {N:Nat} (h:600000<N) {x b:Rat} (j:Sml x 60) (sb:Sml b 522) {q k:Nat} (hq:0<q) (a0:q<=1000) (hk:k<2):
 ((jU N (k:Int)).bind fun r17=>(qbs N (T (((x*(q:Rat)).floor:Int):Rat)) r17).bind fun r18=>(jU N (q:Int)).bind fun r19=>(qch N r18 r19).bind fun r20=>(qaH N (T x) r20).bind fun r21=>(xn r21).bind fun r22=>(qaH N (T x) (T b)).bind fun r23=>(xn r23).bind fun r24=>(qaG N r22 r24).bind fun r25=>if r25<0 then some r20 else some (T b):Option Str)=some (T (bst x b (cnd x (2*q+k)))):=by
 obtain⟨s1,s2,s3,s4,s5⟩:=qga j hq a0 hk
 have sk:=qfO (n:=(k:Int)) (by omega) (by omega)
 have sq:=qfO (n:=(q:Int)) (by omega) (by omega)
 have u:(((q:Nat):Int):Rat)≠0:=by
  rw[Ne,Rat.intCast_eq_zero_iff]
  omega
 have d:Sml (x-b) 1053:=by
  rw[Rat.sub_eq_add_neg]
  exact(qjW (n:=58) (by omega) (j.mono (by omega)) ((qg0 sb).mono (by omega))).mono (by omega)
 have l1:=qfR s5
 have l2:=qfR d
 rw[qfb (by omega) (by omega) (by omega),ZB,qmz h (k:=261) (by omega) (by omega) (s2.mono (by omega)) (sk.mono (by omega)),ZB,qfb (by omega) (by omega) (by omega),ZB,qpO h (k:=261) (by omega) (by omega) s3 (sq.mono (by omega)) u,ZB,qmL x hq hk,qjD h (k:=522) (by omega) (by omega) (j.mono (by omega)) s4,ZB,qnH (by omega),ZB,qjD h (k:=522) (by omega) (by omega) (j.mono (by omega)) sb,ZB,qnH (by omega),ZB,qmM h (k:=1053) (by omega) (by omega) (qmU s5) (qmU d),ZB]
 unfold bst
 by_cases c:(x-cnd x (2*q+k)).abs<(x-b).abs
 ·rw[if_pos (qnB.2 c),if_pos c]
 rw[if_neg (fun y=>c (qnB.1 y)),if_neg c]
theorem rn_L1 {N:Nat} (hN:600000<N) {x b:Rat} (j:Sml x 60) (sb:Sml b 522) {q:Nat} (h:0<q) (d:q<=1000):qY N (T x) (T (((x*(q:Rat)).floor:Int):Rat)) (q:Int) N (T b) 0=some (T (bst x (bst x b (cnd x (2*q))) (cnd x (2*q+1)))):=by
 obtain⟨K,hK⟩: ∃K,N=K+1+1+1:=⟨N-3,by omega⟩
 have e0:=ql6 hN j sb h d (k:=0) (by omega)
 have u:Sml (bst x b (cnd x (2*q+0))) 522:=qjI sb (qga j h d (k:=0) (by omega)).2.2.2.1
 have e1:=ql6 hN j u h d (k:=1) (by omega)
 have:qY N (T x) (T (((x*(q:Rat)).floor:Int):Rat)) (q:Int) (K+1+1+1) (T b) ((0:Nat):Int)=some (T (bst x (bst x b (cnd x (2*q))) (cnd x (2*q+1)))):=by
  rw[qY,if_pos (by omega),e0,ZB,zn (by omega),qY,if_pos (by omega),e1,ZB,zn (by omega),qY,if_neg (by omega)]
  rfl
 rw[show qY N (T x) (T (((x*(q:Rat)).floor:Int):Rat)) (q:Int) N (T b) 0=qY N (T x) (T (((x*(q:Rat)).floor:Int):Rat)) (q:Int) (K+1+1+1) (T b) ((0:Nat):Int)by rw[<-hK];rfl,this]
theorem qqA {N:Nat} (j:600000<N) {x:Rat} (d:Sml x 60) {m:Nat} (u:m<=1000): ∀(K q:Nat),q<=m->m<K+q->jN N (T x) (m:Int) K (T (qhL x q)) ((q+1:Nat):Int)=some (T (qhL x m))
 |0,q,h,hK=>by omega
 |K+1,q,h,hK=>by
  rw[jN]
  by_cases c:q+1<=m
  ·obtain⟨s1,s2,_⟩:=qga d (q:=q+1) (by omega) (by omega) (k:=0) (by omega)
   have sq:=qfO (n:=((q+1:Nat):Int)) (by omega) (by omega)
   rw[if_pos (by omega),qfb (by omega) (by omega) (by omega),ZB,qml j (k:=60) (by omega) (by omega) d (sq.mono (by omega)),ZB,show(x*(((q+1:Nat):Int):Rat))=x*((q+1:Nat):Rat)from rfl,qiY j (k:=126) (by omega) (by omega) s1,ZB,rn_L1 j d (qkO d q (by omega)) (by omega) (by omega),ZB,zn (by omega)]
   exact qqA j d u K (q+1) c (by omega)
  rw[if_neg (by omega),show q=m by omega]
theorem qoq {N:Nat} (h:600000<N) {x:Rat} (d:Sml x 60) {m:Nat} (j:m<=1000):xZ N (T x) (m:Int)=some (T (qhL x m)):=by
 unfold xZ
 have:=qqA h d j N 0 (by omega) (by omega)
 rw[show((0+1:Nat):Int)=1 from rfl]at this
 rw[qiY h (k:=60) (by omega) (by omega) d,ZB,show T ((x.floor:Int):Rat)=T (qhL x 0)from rfl,this,ZB]
end Go.Av
end
section
namespace Go.Av
theorem qoi {i:Nat} (d:0<i) (h:i<4611686018427387904):w64 ((i:Int)-1)=((i-1:Nat):Int):=by
 rw[qh (by omega) (by omega)]
 omega
theorem qkJ {N:Nat} (hN:600000<N) {a b:Str} (ha:chk a=0) (hb:chk b=0): ∃f g c,vz N a=some f/\vz N b=some g/\zx N f g=some c/\qaG N a b=some c:=by
 obtain⟨p,rfl,h,j⟩:=qd9 ha
 obtain⟨q,rfl,u,d⟩:=qd9 hb
 obtain⟨f,g,e1,e2,e3⟩:=ncmp hN (p:=p) (q:=q) ⟨h,j⟩ ⟨u,d⟩
 exact⟨f,g,_,e1,e2,e3,qmM hN (k:=600) (by omega) (by omega) ⟨h,j⟩ ⟨u,d⟩⟩
theorem qn8 {N:Nat} (hN:600000<N) {t:List ve} (hl:t.length<=1000) (hw: ∀p∈t,p.X.length<=60/\p.Y.length<=60): ∀(K i:Nat),i<=t.length->t.length<K+i->(∀p,0<i->t[i-1]? =some p->chk p.X=0)->
 ∃r,kE N t K (i:Int)=some r/\ky N t K (i:Int)=some r/\(r= .inl ()-> ∀(j:Nat) p,i<=j->t[j]? =some p->chk p.X=0/\chk p.Y=0)/\(∀e,r= .inr e->e≠0)
 |0,i,hi,hK,_=>by omega
 |K+1,i,hi,hK,hp=>by
  rw[kE,ky]
  by_cases h:i<t.length
  ·have hm:=hw t[i] (List.getElem_mem h)
   have e1:=qnn hN (a:=t[i].X) (b:=t[i].Y) (by omega) (by omega)
   have e2:=rrow2 hN (a:=t[i].X) (b:=t[i].Y) (by omega) (by omega)
   rw[if_pos (by omega),if_pos (by omega),qA,Ya h,ZB,ZB,e1,e2,ZB,ZB]
   by_cases c:(if chk t[i].X=0 then chk t[i].Y else chk t[i].X)=0
   ·have cx:chk t[i].X=0:=by
     by_cases d:chk t[i].X=0
     ·exact d
     rw[if_neg d]at c
     exact c
    have cy:chk t[i].Y=0:=by rw[if_pos cx]at c;exact c
    have u: ¬(!decide ((if chk t[i].X=0 then chk t[i].Y else chk t[i].X)=0))=true:=by rw[c];decide
    rw[if_neg u,if_neg u]
    have next: ∃r,kE N t K (w64 ((i:Int)+1))=some r/\ky N t K (w64 ((i:Int)+1))=some r/\(r= .inl ()-> ∀(j:Nat) p,i<=j->t[j]? =some p->chk p.X=0/\chk p.Y=0)/\(∀e,r= .inr e->e≠0):=by
     rw[zn (by omega)]
     obtain⟨r,r1,r2,r3,r4⟩:=qn8 hN hl hw K (i+1) (by omega) (by omega) (fun p _ hx=>by rw[show i+1-1=i by omega,Ya h]at hx;rw[<-Ye hx];exact cx)
     refine⟨r,r1,r2,fun hr j p hj hx=>?_,r4⟩
     by_cases e:j=i
     ·subst e
      rw[Ya h]at hx
      rw[<-Ye hx]
      exact⟨cx,cy⟩
     exact r3 hr j p (by omega) hx
    by_cases c0:0<i
    ·have a0:t[i-1]? =some t[i-1]:=Ya (by omega)
     obtain⟨f,g,cc,f1,f2,f3,f4⟩:=qkJ hN cx (hp _ c0 a0)
     rw[if_pos (by omega),if_pos (by omega),f1,ZB,qoi c0 (by omega),qA,a0]
     simp only[ZB,f2,f3,f4]
     by_cases c1:cc<=0
     ·rw[decide_eq_true c1,if_pos rfl,if_pos rfl]
      exact⟨_,rfl,rfl,fun hr=>(by cases hr),fun e he=>(by cases he;decide)⟩
     rw[decide_eq_false c1,if_neg (by simp),if_neg (by simp)]
     exact next
    rw[if_neg (by omega),if_neg (by omega),ZB,ZB,if_neg (by simp),if_neg (by simp)]
    exact next
   have u:(!decide ((if chk t[i].X=0 then chk t[i].Y else chk t[i].X)=0))=true:=by rw[decide_eq_false c];rfl
   rw[if_pos u,if_pos u]
   exact⟨_,rfl,rfl,fun hr=>(by cases hr),fun e he=>(by cases he;exact c)⟩
  rw[if_neg (by omega),if_neg (by omega)]
  exact⟨_,rfl,rfl,fun _ j p hj hx=>by have:=(Yb.1 hx).1;omega,fun e he=>(by cases he)⟩
theorem qrc {N:Nat} (hN:600000<N) {t:List ve} (hl:t.length<=1000) (hw: ∀p∈t,p.X.length<=60/\p.Y.length<=60): ∃e,vN N t=some e/\yM N t=some e/\(e=0-> ∀p∈t,chk p.X=0/\chk p.Y=0):=by
 have f1:kN N [12,0]=some 12:=by rw[qbE (by omega)];rfl
 have f2:kN N [0,5]=some 5:=by rw[qbE (by omega)];rfl
 have f3:kN N [0,0]=some 0:=by rw[qbE (by omega)];rfl
 unfold vN yM qK
 by_cases h0:t.length=0
 ·rw[if_pos (show(t.length:Int)=0 by omega),decide_eq_true (show(t.length:Int)=0 by omega),decide_eq_false (show¬(t.length:Int)>64 by omega),if_pos rfl,ZB,if_neg (by simp),ZB,f1,ZB,if_pos (by decide)]
  exact⟨12,rfl,rfl,fun h=>by cases h⟩
 by_cases h1:t.length>64
 ·rw[if_neg (show¬(t.length:Int)=0 by omega),decide_eq_false (show¬(t.length:Int)=0 by omega),decide_eq_true (show(t.length:Int)>64 by omega),if_neg (by simp),ZB,if_pos rfl,ZB,f2,ZB,if_pos (by decide),if_pos (by omega)]
  exact⟨5,rfl,rfl,fun h=>by cases h⟩
 obtain⟨r,d,r2,r3,r4⟩:=qn8 hN hl hw N 0 (by omega) (by omega) (fun p h=>by omega)
 rw[show((0:Nat):Int)=0 from rfl]at d r2
 rw[if_neg (show¬(t.length:Int)=0 by omega),decide_eq_false (show¬(t.length:Int)=0 by omega),decide_eq_false (show¬(t.length:Int)>64 by omega),if_neg (by simp),ZB,if_neg (by simp),ZB,f3,ZB,if_neg (by decide),if_neg (by omega),d,r2]
 simp only[ZB]
 cases r with
 |inl u=>
  refine⟨0,rfl,rfl,fun _ p hp=>?_⟩
  obtain⟨j,hj,rfl⟩:=List.getElem_of_mem hp
  exact r3 rfl j _ (by omega) (Ya hj)
 |inr e=>exact⟨e,rfl,rfl,fun h=>absurd h (r4 e rfl)⟩
theorem qjL {N:Nat} (hN:600000<N) {t:List ve} (hl:t.length<=1000) (u: ∀p∈t,chk p.X=0/\chk p.Y=0) {x:Str} (j:chk x=0) {f:qm} (d:vz N x=some f): ∀(K i:Nat) (s:Str) (e:Int),i<=t.length->t.length<K+i->((e=3/\s=[])\/(e=0/\chk s=0))->
 ∃s' e',yz N t f K (i:Int) s e=some (s',e')/\yX N t x K s e (i:Int)=some (s',e')/\((e'=3/\s'=[])\/(e'=0/\chk s'=0))
 |0,i,s,e,hi,hK,_=>by omega
 |K+1,i,s,e,hi,hK,hs=>by
  rw[yz,yX]
  by_cases h:i<t.length
  ·have hm:=u t[i] (List.getElem_mem h)
   obtain⟨f',g,c,f1,f2,f3,f4⟩:=qkJ hN hm.1 j
   obtain rfl:f=g:=by rw[d]at f2;exact Ye f2
   rw[if_pos (by omega),if_pos (by omega),qA,Ya h,ZB,ZB,f1]
   simp only[ZB,f3,f4]
   by_cases cc:c<=0
   ·simp only[if_pos cc,ZB]
    rw[zn (by omega)]
    exact qjL hN hl u j d K (i+1) _ _ (by omega) (by omega) (.inr ⟨rfl,hm.2⟩)
   simp only[if_neg cc,ZB]
   rw[zn (by omega)]
   exact qjL hN hl u j d K (i+1) s e (by omega) (by omega) hs
  rw[if_neg (by omega),if_neg (by omega)]
  exact⟨s,e,rfl,rfl,hs⟩
theorem qnp {N:Nat} (u:600000<N) {x:Str} (j:chk x=0): ∃f,vz N x=some f:=by
 obtain⟨p,rfl,d,h⟩:=qd9 j
 obtain⟨f,e,_⟩:=qg8 u (q:=p) (Sml.mono ⟨d,h⟩ (show 600<=9000 by omega))
 exact⟨f,e⟩
theorem qkx {N:Nat} (hN:600000<N) {t:List ve} (u:t.length<=1000): ∀(K i:Nat),i<=t.length->t.length<K+i->kz N t K (i:Int)=some (.inr true)\/(kz N t K (i:Int)=some (.inl ())/\ ∀(j:Nat) p,i<=j->t[j]? =some p->p.X.length<=60/\p.Y.length<=60)
 |0,i,hi,hK=>by omega
 |K+1,i,hi,hK=>by
  rw[kz]
  by_cases h:i<t.length
  ·rw[if_pos (by omega),qA,Ya h,ZB,qma (by simp) (by omega),ZB]
   by_cases c:t[i].X.length<=60/\t[i].Y.length<=60
   ·have:([t[i].X,t[i].Y].any fun s=>decide (60<s.length))=false:=by
     simp
     omega
    rw[this,if_neg (by simp),zn (by omega)]
    rcases qkx hN u K (i+1) (by omega) (by omega)with e|⟨e,e2⟩
    ·exact .inl e
    refine .inr ⟨e,fun j p hj hp=>?_⟩
    by_cases d:j=i
    ·subst d
     rw[Ya h]at hp
     rw[<-Ye hp]
     exact c
    exact e2 j p (by omega) hp
   have:([t[i].X,t[i].Y].any fun s=>decide (60<s.length))=true:=by
    simp
    omega
   rw[this,if_pos rfl]
   exact .inl rfl
  rw[if_neg (by omega)]
  exact .inr ⟨rfl,fun j p hj hp=>by have:=(Yb.1 hp).1;omega⟩
theorem qnv {N:Nat} (hN:600000<N) {x:Str} (hl:x.length<=10000) {d e:Int} (j:e=if chk x=0 then(if d<1 then 3 else if d>999999999 then 3 else 0)else chk x) (u:e≠0):vo N x d=some ([],e):=by
 unfold vo qK
 rw[qce hN hl,ZB]
 by_cases h:d<1
 ·rw[if_pos h,if_pos rfl,ZB,qbE (by omega),ZB,ZB]
  rw[if_pos h]at j
  simp only
  rw[<-j,if_pos (by simp[u])]
 rw[if_neg h]
 rw[if_neg h]at j
 have e1:(if decide (d>999999999)=true then some 3 else some 0:Option Int)=some (if d>999999999 then 3 else 0):=by
  by_cases c:d>999999999
  ·rw[if_pos (decide_eq_true c),if_pos c]
  rw[if_neg (fun x=>c (of_decide_eq_true x)),if_neg c]
 rw[e1,ZB,qbE (by omega),ZB,ZB]
 simp only
 rw[<-j,if_pos (by simp[u])]
theorem qoK {N:Nat} (d:100000<N) {r:Rat} (h:Sml r 600):ym N (T r) 0 0 (T r)=some true:=by
 have:=qom d h (by omega)
 unfold res at this
 rw[qfK h,if_neg (by simp)]at this
 exact this
theorem qft {N:Nat} (hN:600000<N) (t:List ve) (x:Str) (u:Int):qaf N t x u=some true:=by
 unfold qaf
 rw[show awk=some true from rfl,ZB,if_neg (by simp)]
 by_cases c1:(t.length:Int)>70
 ·rw[if_pos c1,ZB,if_pos rfl,ZB]
 rw[if_neg c1,qma (by simp) (by omega),ZB]
 by_cases c2:60<x.length
 ·rw[if_pos (by simp[c2]),ZB,if_pos rfl,ZB]
 rw[if_neg (by simp[c2])]
 by_cases c3:u>60/\u<=999999999
 ·rw[if_pos c3.1,decide_eq_true c3.2,ZB,if_pos rfl,ZB]
 have e3:(if u>60 then some (decide (u<=999999999))else some false:Option Bool)=some false:=by
  by_cases d:u>60
  ·rw[if_pos d,decide_eq_false (fun k=>c3 ⟨d,k⟩)]
  rw[if_neg d]
 rw[e3,ZB,if_neg (by simp)]
 rcases qkx hN (t:=t) (by omega) N 0 (by omega) (by omega)with e|⟨e,hw⟩
 ·rw[show((0:Nat):Int)=0 from rfl]at e
  rw[e]
  rfl
 rw[show((0:Nat):Int)=0 from rfl]at e
 rw[e,ZB]
 simp only
 have hw: ∀p∈t,p.X.length<=60/\p.Y.length<=60:=fun p hp=>by
  obtain⟨j,hj,rfl⟩:=List.getElem_of_mem hp
  exact hw j _ (by omega) (Ya hj)
 obtain⟨b,b1,b2,b3⟩:=qrc hN (t:=t) (by omega) hw
 have a2:=qgi hN (s:=x) (by omega)
 rw[b2,ZB,b1,ZB,if_neg (by simp)]
 have a0: ∃a1:Str×Int,vo N x u=some a1/\(((yK N x).bind fun r32=>
  if u<1 then(xG true 3).bind fun r34=>(vL N ([r32,r34]:List Int)).bind fun r35=>some (r32,r34,r35)
  else(xG (decide (u>999999999)) 3).bind fun r36=>(vL N ([r32,r36]:List Int)).bind fun r37=>some (r32,r36,r37):Option (Int×Int×Int)).bind fun(n38,n39,n40)=>
  if(!decide (n40=0))=true then(ym N a1.1 a1.2 n40 []).bind fun r43=>some r43
  else(xZ N x u).bind fun r44=>(ym N a1.1 a1.2 0 r44).bind fun r45=>some r45)=some true:=by
  have L:((yK N x).bind fun r32=>
   if u<1 then(xG true 3).bind fun r34=>(vL N ([r32,r34]:List Int)).bind fun r35=>some (r32,r34,r35)
   else(xG (decide (u>999999999)) 3).bind fun r36=>(vL N ([r32,r36]:List Int)).bind fun r37=>some (r32,r36,r37):Option (Int×Int×Int))=some (chk x,(if u<1 then 3 else if u>999999999 then 3 else 0),if chk x=0 then(if u<1 then 3 else if u>999999999 then 3 else 0)else chk x):=by
   unfold xG
   rw[a2,ZB]
   by_cases d:u<1
   ·rw[if_pos d,if_pos rfl,ZB,qfX (by omega),ZB,if_pos d]
   rw[if_neg d,if_neg d]
   by_cases d2:u>999999999
   ·rw[if_pos (decide_eq_true d2),ZB,qfX (by omega),ZB,if_pos d2]
   rw[if_neg (fun k=>d2 (of_decide_eq_true k)),ZB,qfX (by omega),ZB,if_neg d2]
  by_cases z:(if chk x=0 then(if u<1 then 3 else if u>999999999 then 3 else 0)else chk x)=0
  ·have cx:chk x=0:=by
    by_cases d:chk x=0
    ·exact d
    rw[if_neg d]at z
    exact z
   have hm:1<=u/\u<=60:=by
    rw[if_pos cx]at z
    by_cases d:u<1
    ·rw[if_pos d]at z
     exact absurd z (by decide)
    rw[if_neg d]at z
    by_cases d2:u>999999999
    ·rw[if_pos d2]at z
     exact absurd z (by decide)
    omega
   obtain⟨q,rfl,sq,cq⟩:=qpQ (k:=60) (by omega) (by omega) cx
   obtain⟨m,rfl⟩: ∃m:Nat,u=(m:Int):=⟨u.toNat,by omega⟩
   obtain⟨R,r1,r2,r3⟩:=qoE hN (x:=q) (m:=m) (by omega) (by omega) sq cq
   refine⟨_,r1,?_⟩
   rw[L,ZB]
   simp only
   rw[z,if_neg (by simp),qoq hN sq (by omega),ZB,r2.uniq (qiP q (by omega)),qoK (by omega) (r2.uniq (qiP q (by omega))▸r3),ZB]
  refine⟨_,qnv hN (by omega) rfl z,?_⟩
  rw[L,ZB]
  simp only
  rw[if_pos (by simp[z]),qjB z,ZB]
 obtain⟨a1,nn,a0⟩:=a0
 by_cases z:(if b=0 then chk x else b)=0
 ·have b0:b=0:=by
   by_cases d:b=0
   ·exact d
   rw[if_neg d]at z
   exact z
  have cx:chk x=0:=by rw[if_pos b0]at z;exact z
  have hv:=b3 b0
  obtain⟨f,hf⟩:=qnp hN cx
  obtain⟨s',e',s1,s2,s3⟩:=qjL hN (t:=t) (by omega) hv cx hf N 0 [] 3 (by omega) (by omega) (.inl ⟨rfl,rfl⟩)
  rw[show((0:Nat):Int)=0 from rfl]at s1 s2
  have hS:qaq N t x=some (s',e'):=by
   unfold qaq
   rw[b1,ZB,qce hN (by omega),ZB,qbE (by omega),z,ZB,if_neg (by simp),hf,ZB,s1,ZB]
  have hR:qcl N t x=some (s',e'):=by
   unfold qcl
   rw[s2,ZB]
  rw[hS,ZB,nn,ZB,a2,ZB,qfX (by omega),ZB,z,if_pos rfl,hR,ZB,ZB]
  simp only
  have hnum:ym N s' e' e' s'=some true:=by
   rcases s3 with⟨rfl,rfl⟩|⟨rfl,h⟩
   ·exact qjB (by decide) _
   obtain⟨q,rfl,q1,q2⟩:=qd9 h
   exact qoK (by omega) ⟨q1,q2⟩
  rw[hnum,ZB,if_neg (by simp)]
  rw[a2]at a0
  exact a0
 have hS:qaq N t x=some ([],if b=0 then chk x else b):=by
  unfold qaq
  rw[b1,ZB,qce hN (by omega),ZB,qbE (by omega),ZB,if_pos (by simp[z])]
 rw[hS,ZB,nn,ZB,a2,ZB,qfX (by omega),ZB,if_neg z,ZB]
 simp only
 rw[qjB z,ZB,if_neg (by simp)]
 rw[a2]at a0
 exact a0
end Go.Av
end
