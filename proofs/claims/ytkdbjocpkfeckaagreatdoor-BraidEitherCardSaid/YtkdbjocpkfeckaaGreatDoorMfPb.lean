/-
  The reference's numerals.
-/
import Derived.Test.YtkdbjocpkfeckaaGreatDoorMfPa
import Derived.Test.YtkdbjocpkfeckaaGreatDoorAvPt
import Derived.KernelRfl
set_option linter.unusedVariables false
set_option linter.unusedSimpArgs false
set_option maxRecDepth 100000
set_option linter.unusedSectionVars false
section
namespace Go.Av
def nv (w:List Int):Nat:=(dv E9 w).toNat
end Go.Av
end
section
namespace Go.Av
end Go.Av
end
section
namespace Go.Av
end Go.Av
end
section
namespace Go.Av
def T (q:Rat):Str:=Lib.itoa q.num++(if q.den=1 then[]else 47::Lib.decDigits q.den)
end Go.Av
end
section
namespace Go.Av
end Go.Av
end
section
namespace Go.Av
end Go.Av
end
section
namespace Go.Av
def tl (q:Rat):Str:=if q.den=1 then[]else 47::Lib.decDigits q.den
end Go.Av
end
section
namespace Go.Av
def Sml (q:Rat) (k:Nat):Prop:=(Lib.decDigits q.num.natAbs).length<=k/\(Lib.decDigits q.den).length<=k
end Go.Av
end
section
namespace Go.Av
theorem qlx.le {a b:Int} {n:Nat} (h:(a.natAbs:Int)<=(b.natAbs:Int)) (k:qlx b n):qlx a n:=Int.lt_of_le_of_lt h k
theorem den_pos (q:Rat):0<q.den:=Nat.pos_of_ne_zero q.den_nz
end Go.Av
end
section
namespace Go.Av
theorem Sml.mono {q:Rat} {m n:Nat} (h:Sml q m) (hn:m<=n):Sml q n:=⟨Nat.le_trans h.1 hn,Nat.le_trans h.2 hn⟩
end Go.Av
end
section
namespace Go.Av
theorem em0:([]:List Int).isEmpty=true:=rfl
theorem qoL {a:Int} (h1: -9000000000000000000<=a) (h2:a<=9000000000000000000):jY ⟨a,[]⟩=some ⟨-a,[]⟩:=by
 unfold jY;dsimp only;rw[if_pos em0,ZB,if_pos (by simp;omega),qF (by omega) (by omega),show 0-a= -a by omega]
theorem qtT {a:Int} (h1: -9000000000000000000<=a) (h2:a<=9000000000000000000):qa3 ⟨a,[]⟩=some ⟨(a.natAbs:Int),[]⟩:=by
 unfold qa3;dsimp only;by_cases h:a<0
 ·rw[if_pos h,qoL h1 h2,ZB,show(a.natAbs:Int)= -a by omega]
 rw[if_neg h,show(a.natAbs:Int)=a by omega]
theorem qks (a:Int) (l:List Int):vY ⟨a,l⟩=some (if a<0 then-1 else if a=0 then 0 else 1):=by
 unfold vY;congr 1;dsimp only
 repeat' split
 all_goals omega
theorem qt2 {a b:Int} (h1: -9000000000000000000<=a+b) (h2:a+b<=9000000000000000000):qay ⟨a,[]⟩ ⟨b,[]⟩=some ⟨a+b,[]⟩:=by
 unfold qay;dsimp only;rw[if_pos em0,ZB,if_pos em0,qF (by omega) (by omega),if_pos (by rw[beq_iff_eq];exact decide_eq_decide.2 (by omega)),ZB]
theorem qpX {n:Int} (h1: -9000000000000000000<=n) (h2:n<=9000000000000000000):qdE n=some (n.natAbs:Int):=by
 unfold qdE;by_cases h:n<0
 ·rw[if_pos h,qF (by omega) (by omega),qfa (by omega) (by omega)];congr 1;omega
 rw[if_neg h,qfa (by omega) (by omega)];congr 1;omega
theorem qg1 {a b:Int} (a1:a.natAbs<=2000000000000000000) (b1:b.natAbs<=2000000000000000000) (h:(a*b).natAbs<=9000000000000000000):jo ⟨a,[]⟩ ⟨b,[]⟩=some ⟨a*b,[]⟩:=by
 have hab:(a.natAbs:Int)*(b.natAbs:Int)=((a*b).natAbs:Int):=by rw[Int.natAbs_mul,Int.natCast_mul]
 have sg:(if(!((decide (a<0))==(decide (b<0))))=true then-((a*b).natAbs:Int)else((a*b).natAbs:Int))=a*b:=by
  by_cases h1:a<0
  ·by_cases h2:b<0
   ·have:=Int.mul_pos_of_neg_of_neg h1 h2;rw[decide_eq_true h1,decide_eq_true h2,if_neg (by simp)];omega
   have:=Int.mul_nonpos_of_nonpos_of_nonneg (show a<=0 by omega) (show 0<=b by omega);rw[decide_eq_true h1,decide_eq_false h2,if_pos (by simp)];omega
  by_cases h2:b<0
  ·have:=Int.mul_nonpos_of_nonneg_of_nonpos (show 0<=a by omega) (show b<=0 by omega);rw[decide_eq_false h1,decide_eq_true h2,if_pos (by simp)];omega
  have:=Yv (show 0<=a by omega) (show 0<=b by omega);rw[decide_eq_false h1,decide_eq_false h2,if_neg (by simp)];omega
 unfold jo;dsimp only;rw[if_pos em0,ZB,if_pos em0,qpX (by omega) (by omega),ZB,qpX (by omega) (by omega),ZB,qsg (by omega) (by omega),ZB,hab];dsimp only;rw[if_pos (show((a*b).natAbs:Int)/18446744073709551616=0 by omega),show((a*b).natAbs:Int)%18446744073709551616=((a*b).natAbs:Int)by omega,decide_eq_true (show((a*b).natAbs:Int)<=9223372036854775807 by omega),ZB,if_pos rfl];by_cases hs:(!((decide (a<0))==(decide (b<0))))=true
 ·rw[if_pos hs]at sg;rw[if_pos hs,ZB,qF (n:=((a*b).natAbs:Int)) (by omega) (by omega),qF (by omega) (by omega),show 0-((a*b).natAbs:Int)=a*b by omega]
 rw[if_neg hs]at sg;rw[if_neg hs,ZB,qF (by omega) (by omega),sg]
theorem qik {a b:Int} (h1: -9000000000000000000<=a) (h2:a<=9000000000000000000) (hb0:0<b) (hb:b<=9000000000000000000):xC ⟨a,[]⟩ ⟨b,[]⟩=some (⟨a/b,[]⟩,⟨a%b,[]⟩):=by
 have d1:=Int.mul_ediv_add_emod a b;have d2:=Int.emod_nonneg a (show b≠0 by omega);have d3:=Int.emod_lt_of_pos a hb0;have h4:=Int.natAbs_tdiv_le_natAbs a b
 have hq:qsd .i64 a b=some (a.tdiv b):=by
  unfold qsd;rw[if_neg (by omega)];show some (w64 _)=_;rw[qF (by omega) (by omega)]
 have hr:qpJ .i64 a b=some (a.tmod b):=by
  unfold qpJ;rw[if_neg (by omega)]
 have t2:a.tmod b=if 0<=a\/b∣a then a%b else a%b-b:=by
  rw[Int.tmod_eq_emod]
  have:(b.natAbs:Int)=b:=by omega
  split<;>omega
 have t3:a.tdiv b=if 0<=a\/b∣a then a/b else a/b+1:=by
  rw[Int.tdiv_eq_ediv];have:b.sign=1:=Int.sign_eq_one_of_pos hb0;split<;>omega
 unfold xC;dsimp only;rw[if_pos em0,if_pos em0,ZB,if_pos (by simp;omega),hq,ZB,hr,ZB];by_cases hc:0<=a\/b∣a
 ·rw[if_pos hc]at t2 t3;rw[t2,t3,if_neg (by omega),ZB]
 rw[if_neg hc]at t2 t3;rw[t3]at h4
 have e1:w64 (a/b+1-1)=a/b:=by rw[qF (by omega) (by omega)];omega
 have e2:w64 (a%b-b+b)=a%b:=by rw[qF (by omega) (by omega)];omega
 rw[t2,t3,if_pos (by omega),e1,e2,ZB]
theorem qp5: ∀(k K:Nat) (a b:Int),0<=a->0<=b->a<=9000000000000000000->b<=9000000000000000000->b<2^k->2*k+2<=K->qap K a [] b []=some ((Int.gcd a b:Int),[])
 |k,0,a,b,_,_,_,_,_,hK=>by omega
 |k,K+1,a,b,ha,hb,ma,mb,hk,hK=>by
  have sg:=qks b [];rw[qap];rcases(show b=0\/0<b by omega)with h0|h0
  ·subst h0;rw[show vY ⟨0,[]⟩=some 0 from rfl,ZB,if_neg (by simp),Int.gcd_zero,show(a.natAbs:Int)=a by omega]
  match k,hk,hK with
  |0,hk,hK=>simp at hk;omega
  |k+1,hk,hK=>
   have m0:=Int.emod_nonneg a (show b≠0 by omega);have m1:=Int.emod_lt_of_pos a h0;rw[if_neg (by omega),if_neg (by omega)]at sg;rw[sg,ZB,if_pos (by simp),qik (by omega) (by omega) h0 mb,ZB];dsimp only;rw[qk9 ha hb]
   match K,hK with
   |0,hK=>omega
   |K+1,hK=>
    have sr:=qks (a%b) [];rw[qap];rcases(show a%b=0\/0<a%b by omega)with g0|g0
    ·rw[g0,show vY ⟨0,[]⟩=some 0 from rfl,ZB,if_neg (by simp),Int.gcd_zero,show(b.natAbs:Int)=b by omega]
    have n0:=Int.emod_nonneg b (show a%b≠0 by omega);have n1:=Int.emod_lt_of_pos b g0
    have hhalf:b%(a%b)<2^k:=by
     have d1:=Int.mul_ediv_add_emod b (a%b)
     have d2:1<=b/(a%b):=by
      rw[Int.le_ediv_iff_mul_le g0];omega
     have d3:a%b*1<=a%b*(b/(a%b)):=Yc d2 (by omega);rw[Int.pow_succ]at hk;omega
    rw[if_neg (by omega),if_neg (by omega)]at sr;rw[sr,ZB,if_pos (by simp),qik (by omega) (by omega) g0 (by omega),ZB];dsimp only;rw[qk9 hb m0];exact qp5 k K (a%b) (b%(a%b)) m0 n0 (by omega) (by omega) hhalf (by omega)
theorem gcd_s {N:Nat} (hN:200<N) {a b:Int} (ha:a.natAbs<=9000000000000000000) (hb:b.natAbs<=9000000000000000000):qf2 N ⟨a,[]⟩ ⟨b,[]⟩=some ⟨(Int.gcd a b:Int),[]⟩:=by
 unfold qf2;rw[qtT (by omega) (by omega),ZB,qtT (by omega) (by omega),ZB];dsimp only;rw[qp5 63 N _ _ (by omega) (by omega) (by omega) (by omega) (by omega) (by omega),ZB];rfl
theorem qtO {a b:Int} (h1: -9000000000000000000<=a) (h2:a<=9000000000000000000) (hb0:0<b) (hb:b<=9000000000000000000):qa4 ⟨a,[]⟩ ⟨b,[]⟩=some ⟨a/b,[]⟩:=by
 have sg:=qks b [];rw[if_neg (by omega),if_neg (by omega)]at sg;unfold qa4;rw[sg,ZB,if_neg (by omega),ZB];dsimp only;rw[qik h1 h2 hb0 hb,ZB]
def Fq (q:Rat):qo:=⟨⟨q.num,[]⟩,⟨(q.den:Int),[]⟩⟩
def IsF (f:qo) (q:Rat):Prop:=f=Fq q
theorem qni {N:Nat} (hN:200<N) {a b:Int} (ha:a.natAbs<=9000000000000000000) (hb:b.natAbs<=9000000000000000000) (h0:b≠0):qbS N ⟨a,[]⟩ ⟨b,[]⟩=some (Fq (Rat.divInt a b)):=by
 have hg:0<Int.gcd b a:=Int.gcd_pos_of_ne_zero_left _ h0
 have S:(if(if b<0 then-1 else if b=0 then 0 else(1:Int))<0 then
  (jY ⟨a,[]⟩).bind fun r8=>(jY ⟨b,[]⟩).bind fun r9=>some (r8.s,r8.w,r9.s,r9.w)
  else some (a,[],b,[]):Option (Int×(List Int)×Int×(List Int)))=some (b.sign*a,[],(b.natAbs:Int),[]):=by
  by_cases h:b<0
  ·rw[if_pos h,if_pos (by omega),qoL (by omega) (by omega),ZB,qoL (by omega) (by omega),ZB,Int.sign_eq_neg_one_of_neg h,Int.neg_mul,Int.one_mul,show(b.natAbs:Int)= -b by omega]
  rw[if_neg h,if_neg (by omega),Int.sign_eq_one_of_pos (by omega),Int.one_mul,show(b.natAbs:Int)=b by omega]
 have ea:(b.sign*a).natAbs=a.natAbs:=by rw[Int.natAbs_mul,Int.natAbs_sign_of_ne_zero h0,Nat.one_mul]
 have eg:Int.gcd (b.sign*a) (b.natAbs:Int)=Int.gcd b a:=by
  rw[Int.gcd_comm];show Nat.gcd (b.natAbs:Int).natAbs (b.sign*a).natAbs=Nat.gcd b.natAbs a.natAbs;rw[ea];rfl
 have gl:Int.gcd b a<=b.natAbs:=Nat.le_of_dvd (by omega) (Int.gcd_dvd_natAbs_left b a);have en:(Rat.divInt a b).num=b.sign*a/(Int.gcd b a:Int):=Rat.num_divInt ..
 have ed:((Rat.divInt a b).den:Int)=(b.natAbs:Int)/(Int.gcd b a:Int):=by rw[Rat.den_divInt,if_neg h0,Int.natCast_ediv]
 unfold qbS;rw[qks,ZB];dsimp only;rw[S,ZB];dsimp only;rw[if_pos em0,ZB];by_cases h:(b.natAbs:Int)=1
 ·have e1:Int.gcd b a=1:=by omega
  rw[decide_eq_true h,if_pos rfl];unfold Fq;rw[en,ed,e1,h,Int.natCast_one,Int.ediv_one];rfl
 rw[decide_eq_false h,if_neg (by simp),gcd_s hN (by omega) (by omega),ZB,eg,qtO (by omega) (by omega) (by omega) (by omega),ZB,qtO (by omega) (by omega) (by omega) (by omega),ZB];unfold Fq;rw[en,ed]
def Q9 (q:Rat):Prop:=q.num.natAbs<1000000000/\q.den<1000000000
theorem qdb {a b:Int} (ha:a.natAbs<1000000000) (hb:b.natAbs<1000000000):(a*b).natAbs<=1000000000000000000:=by
 rw[Int.natAbs_mul];exact Nat.le_trans (Nat.mul_le_mul (Nat.le_of_lt ha) (Nat.le_of_lt hb)) (by decide)
theorem Q9.d {q:Rat} (h:Q9 q):((q.den:Int)).natAbs<1000000000:=by have:=h.2;omega
theorem Q9.neg {q:Rat} (h:Q9 q):Q9 (-q):=by
 unfold Q9;rw[Rat.neg_num,Rat.neg_den,Int.natAbs_neg];exact h
theorem qte (z:Int):qcz ⟨z,[]⟩=some (Fq (z:Rat)):=by
 unfold qcz qhV;rw[ZB];rfl
theorem qjb (q:Rat):yj (Fq q)=some (decide (q.den=1)):=by
 unfold yj Fq;dsimp only;rw[if_pos em0,ZB];congr 1;exact decide_eq_decide.2 (by omega)
theorem qvl {q:Rat} (h:Q9 q):qbl (Fq q)=some (Fq (-q)):=by
 have:=h.1;unfold qbl;dsimp only[Fq];rw[qoL (by omega) (by omega),ZB,Rat.neg_num,Rat.neg_den]
theorem qmV {N:Nat} (hN:200<N) {p q:Rat} (hp:Q9 p) (hq:Q9 q):xO N (Fq p) (Fq q)=some (Fq (p+q)):=by
 have h1:=hp.1;have h2:=hq.1;have h3:=hp.2;have h4:=hq.2;have m1:=qdb hp.1 hq.d;have m2:=qdb hq.1 hp.d;have m3:=qdb hp.d hq.d
 have long:((jo (Fq p).Num (Fq q).Den).bind fun r9=>
  (jo (Fq q).Num (Fq p).Den).bind fun r10=>
  (qay r9 r10).bind fun r11=>
  (jo (Fq p).Den (Fq q).Den).bind fun r12=>
  (qbS N r11 r12).bind fun r13=>
  some r13)=some (Fq (p+q)):=by
  dsimp only[Fq];rw[qg1 (by omega) (by omega) (by omega),ZB,qg1 (by omega) (by omega) (by omega),ZB,qt2 (by omega) (by omega),ZB,qg1 (by omega) (by omega) (by omega),ZB,qni hN (by omega) (by omega) (qsi p q),ZB,qmR p q];rfl
 unfold xO;rw[qjb,ZB];by_cases c1:p.den=1
 ·rw[decide_eq_true c1,if_pos rfl,qjb,ZB,ZB];by_cases c2:q.den=1
  ·rw[decide_eq_true c2,if_pos rfl];have ep:p=(p.num:Rat):=Rat.ext (by simp) (by simp[c1]);have eq:q=(q.num:Rat):=Rat.ext (by simp) (by simp[c2])
   have es:p+q=((p.num+q.num:Int):Rat):=by rw[Rat.intCast_add,<-ep,<-eq]
   rw[es];dsimp only[Fq];rw[qt2 (by omega) (by omega),ZB,qte,ZB];rfl
  rw[decide_eq_false c2,if_neg (by simp)];exact long
 rw[decide_eq_false c1,if_neg (by simp),ZB,if_neg (by simp)];exact long
theorem qpS {N:Nat} (hN:200<N) {p q:Rat} (hp:Q9 p) (hq:Q9 q):qaE N (Fq p) (Fq q)=some (Fq (p-q)):=by
 unfold qaE;rw[qvl hq,ZB,qmV hN hp hq.neg,ZB,Rat.sub_eq_add_neg]
theorem qkw {N:Nat} (hN:200<N) {p q:Rat} (hp:Q9 p) (hq:Q9 q):yU N (Fq p) (Fq q)=some (Fq (p*q)):=by
 have h1:=hp.1;have h2:=hq.1;have h3:=hp.2;have h4:=hq.2;have m1:=qdb hp.1 hq.1;have m3:=qdb hp.d hq.d;unfold yU;dsimp only[Fq];rw[qg1 (by omega) (by omega) (by omega),ZB,qg1 (by omega) (by omega) (by omega),ZB,qni hN (by omega) (by omega) (qsi p q),ZB,qmI p q];rfl
theorem qvm {N:Nat} (hN:200<N) {p:Rat} (hp:Q9 p) (h0:p≠0):qaA N (Fq p)=some (Fq p⁻¹):=by
 have h1:=hp.1;have h2:=hp.d;unfold qaA;dsimp only[Fq];rw[qni hN (by omega) (by omega) (fun c=>h0 (Rat.num_eq_zero.1 c)),ZB,Rat.inv_def];rfl
end Go.Av
end
section
namespace Go.Av
end Go.Av
end
noncomputable section
namespace Go.Av
open Go.Proofs Go.RowKit
variable [Glob]
def qe8 {β:Type} (v:Nat->β) (k:Nat) (q:β):Nat->β:=fun j=>if j=k then q else v j
def qdx {α:Type} (R:α->Rat->Prop) (n:Nat) (r:List α) (v:Nat->Rat):Prop:=r.length=n/\ ∀j f,r[j]? =some f->R f (v j)
def MR {α:Type} (R:α->Rat->Prop) (n:Nat) (l:List (List α)) (M:Nat->Nat->Rat):Prop:=l.length=n/\ ∀i r,l[i]? =some r->qdx R n r (M i)
variable {α:Type} {R:α->Rat->Prop} {n:Nat}
theorem qdx.set {r:List α} {v:Nat->Rat} (h:qdx R n r v) {f:α} {q:Rat} (hf:R f q) (k:Nat):qdx R n (r.set k f) (qe8 v k q):=by
 refine⟨by rw[Yk];exact h.1,fun j g hj=>?_⟩;unfold qe8;by_cases e:j=k
 ·subst e
  have hl:j<r.length:=by
   have:=(Yb.1 hj).1
   rwa [Yk]at this
  rw[List.getElem?_set_self hl]at hj;cases hj
  rw[if_pos rfl];exact hf
 rw[Yw (fun c=>e c.symm)]at hj;rw[if_neg e];exact h.2 j g hj
theorem qdx.get {r:List α} {v:Nat->Rat} (h:qdx R n r v) {k:Nat} (hk:k<n): ∃f,r[k]? =some f/\R f (v k):=by
 have hk':k<r.length:=by rw[h.1];exact hk
 exact⟨r[k],Ya hk',h.2 k _ (Ya hk')⟩
theorem MR.get {l:List (List α)} {M:Nat->Nat->Rat} (h:MR R n l M) {k:Nat} (hk:k<n): ∃r,l[k]? =some r/\qdx R n r (M k):=by
 have hk':k<l.length:=by rw[h.1];exact hk
 exact⟨l[k],Ya hk',h.2 k _ (Ya hk')⟩
theorem MR.set {l:List (List α)} {M:Nat->Nat->Rat} (h:MR R n l M) {r:List α} {v:Nat->Rat} (hr:qdx R n r v) (k:Nat):MR R n (l.set k r) (qe8 M k v):=by
 refine⟨by rw[Yk];exact h.1,fun j g hj=>?_⟩;unfold qe8;by_cases e:j=k
 ·subst e
  have hl:j<l.length:=by
   have:=(Yb.1 hj).1
   rwa [Yk]at this
  rw[List.getElem?_set_self hl]at hj;cases hj
  rw[if_pos rfl];exact hr
 rw[Yw (fun c=>e c.symm)]at hj;rw[if_neg e];exact h.2 j g hj
theorem MR.congr {l:List (List α)} {M M':Nat->Nat->Rat} (h:MR R n l M) (e: ∀i<n,M i=M' i):MR R n l M':=
 ⟨h.1,fun i r hi=>by
  have hl:i<n:=by rw[<-h.1];exact(Yb.1 hi).1
  rw[<-e i hl];exact h.2 i r hi⟩
theorem qdx.ext {f:Rat->α} {r r':List α} {v:Nat->Rat} (h:qdx (fun x q=>x=f q) n r v) (h':qdx (fun x q=>x=f q) n r' v):r=r':=by
 apply List.ext_getElem?;intro k;by_cases hk:k<n
 ·obtain⟨x,x1,x2⟩:=h.get hk;obtain⟨y,y1,y2⟩:=h'.get hk;rw[x1,y1,x2,y2]
 rw[Yg (by rw[h.1];omega),Yg (by rw[h'.1];omega)]
theorem MR.ext {f:Rat->α} {r r':List (List α)} {M:Nat->Nat->Rat} (h:MR (fun x q=>x=f q) n r M) (h':MR (fun x q=>x=f q) n r' M):r=r':=by
 apply List.ext_getElem?;intro k;by_cases hk:k<n
 ·obtain⟨x,x1,x2⟩:=h.get hk;obtain⟨y,y1,y2⟩:=h'.get hk;rw[x1,y1,x2.ext y2]
 rw[Yg (by rw[h.1];omega),Yg (by rw[h'.1];omega)]
def zx (p:Bool) (t:Rat) (k:Nat) (v:Nat->Rat):Nat->Rat:=
 if p=true then qe8 (qe8 v k (v k*(1-t)+v (k+1)*1)) (k+1) (v k*t+v (k+1)*0)
 else qe8 (qe8 v k (v k*0+v (k+1)*t⁻¹)) (k+1) (v k*1+v (k+1)*(1-t⁻¹))
def qiC (t:Rat) (c:Int) (M:Nat->Nat->Rat):Nat->Nat->Rat:=fun i=>zx (decide (c>0)) t (c.natAbs-1) (M i)
def idM:Nat->Nat->Rat:=fun i=>qe8 (fun _=>0) i 1
def qgb (t:Rat) (w:List Int):Nat->Nat->Rat:=w.foldl (fun M c=>qiC t c M) idM
def qdo (t:Rat) (w:List Int) (v:Nat->Rat):Nat->Rat:=w.foldl (fun v c=>zx (decide (c>0)) t (c.natAbs-1) v) v
theorem qfO (t:Rat): ∀(w:List Int) (M:Nat->Nat->Rat) (i:Nat),w.foldl (fun M c=>qiC t c M) M i=qdo t w (M i)
 |[],M,i=>rfl
 |c::w,M,i=>qfO t w (qiC t c M) i
theorem qfw (a:Int):0<=a*a:=by
 rcases Int.le_total 0 a with h|h
 ·exact Yv h h
 exact Int.mul_nonneg_of_nonpos_of_nonpos h h
def SW (t:Int) (z:Nat->Int):Int:=t*(t*(t*(t*(z 0*z 0)+z 1*z 1)+z 2*z 2)+z 3*z 3)+z 4*z 4
theorem quK {t:Int} (ht:1<=t) {k:Nat} (hk:k<4) {z z':Nat->Int} (h1:z' k=z k*(1-t)+z (k+1)) (h2:z' (k+1)=z k*t) (h3: ∀j,j≠k->j≠k+1->z' j=z j):SW t z'<=t*t*SW t z:=by
 have t1:0<=t-1:=by omega
 have t2:0<=t:=by omega
 have t3:0<=t*t-1:=by have:=Int.mul_le_mul ht ht (by omega) t2;omega
 rcases(show k=0\/k=1\/k=2\/k=3 by omega)with rfl|rfl|rfl|rfl
 ·have a:=h3 2 (by decide) (by decide);have b:=h3 3 (by decide) (by decide);have c:=h3 4 (by decide) (by decide)
  have e:t*t*SW t z-SW t z'=t*t*t*(t*(t-1)*((z 0+z 1)*(z 0+z 1)))+(t*t-1)*(t*(t*(z 2*z 2)+z 3*z 3)+z 4*z 4):=by
   unfold SW;rw[h1,h2,a,b,c];grind
  have:0<=t*t*t*(t*(t-1)*((z 0+z 1)*(z 0+z 1)))+(t*t-1)*(t*(t*(z 2*z 2)+z 3*z 3)+z 4*z 4):=by
   repeat' first|exact qfw _|assumption|apply Int.add_nonneg|apply Yv
  omega
 ·have a:=h3 0 (by decide) (by decide);have b:=h3 3 (by decide) (by decide);have c:=h3 4 (by decide) (by decide)
  have e:t*t*SW t z-SW t z'=t*t*(t*(t-1)*((z 1+z 2)*(z 1+z 2)))+(t*t-1)*(t*(t*(t*(t*(z 0*z 0)))+z 3*z 3)+z 4*z 4):=by
   unfold SW;rw[h1,h2,a,b,c];grind
  have:0<=t*t*(t*(t-1)*((z 1+z 2)*(z 1+z 2)))+(t*t-1)*(t*(t*(t*(t*(z 0*z 0)))+z 3*z 3)+z 4*z 4):=by
   repeat' first|exact qfw _|assumption|apply Int.add_nonneg|apply Yv
  omega
 ·have a:=h3 0 (by decide) (by decide);have b:=h3 1 (by decide) (by decide);have c:=h3 4 (by decide) (by decide)
  have e:t*t*SW t z-SW t z'=t*(t*(t-1)*((z 2+z 3)*(z 2+z 3)))+(t*t-1)*(t*(t*(t*(t*(z 0*z 0)+z 1*z 1)))+z 4*z 4):=by
   unfold SW;rw[h1,h2,a,b,c];grind
  have:0<=t*(t*(t-1)*((z 2+z 3)*(z 2+z 3)))+(t*t-1)*(t*(t*(t*(t*(z 0*z 0)+z 1*z 1)))+z 4*z 4):=by
   repeat' first|exact qfw _|assumption|apply Int.add_nonneg|apply Yv
  omega
 have a:=h3 0 (by decide) (by decide);have b:=h3 1 (by decide) (by decide);have c:=h3 2 (by decide) (by decide)
 have e:t*t*SW t z-SW t z'=t*(t-1)*((z 3+z 4)*(z 3+z 4))+(t*t-1)*(t*(t*(t*(t*(z 0*z 0)+z 1*z 1)+z 2*z 2))):=by
  unfold SW;rw[h1,h2,a,b,c];grind
 have:0<=t*(t-1)*((z 3+z 4)*(z 3+z 4))+(t*t-1)*(t*(t*(t*(t*(z 0*z 0)+z 1*z 1)+z 2*z 2))):=by
  repeat' first|exact qfw _|assumption|apply Int.add_nonneg|apply Yv
 omega
theorem qu6 {t:Int} (ht:1<=t) {k:Nat} (hk:k<4) {z z':Nat->Int} (h1:z' k=z (k+1)) (h2:z' (k+1)=z k*t+z (k+1)*(t-1)) (h3: ∀j,j≠k->j≠k+1->z' j=z j*t):SW t z'<=t*t*SW t z:=by
 have t1:0<=t-1:=by omega
 have t2:0<=t:=by omega
 rcases(show k=0\/k=1\/k=2\/k=3 by omega)with rfl|rfl|rfl|rfl
 ·have a:=h3 2 (by decide) (by decide);have b:=h3 3 (by decide) (by decide);have c:=h3 4 (by decide) (by decide)
  have e:t*t*SW t z-SW t z'=t*t*t*((t-1)*((t*z 0-z 1)*(t*z 0-z 1))):=by
   unfold SW;rw[h1,h2,a,b,c];grind
  have:0<=t*t*t*((t-1)*((t*z 0-z 1)*(t*z 0-z 1))):=by
   repeat' first|exact qfw _|assumption|apply Int.add_nonneg|apply Yv
  omega
 ·have a:=h3 0 (by decide) (by decide);have b:=h3 3 (by decide) (by decide);have c:=h3 4 (by decide) (by decide)
  have e:t*t*SW t z-SW t z'=t*t*((t-1)*((t*z 1-z 2)*(t*z 1-z 2))):=by
   unfold SW;rw[h1,h2,a,b,c];grind
  have:0<=t*t*((t-1)*((t*z 1-z 2)*(t*z 1-z 2))):=by
   repeat' first|exact qfw _|assumption|apply Int.add_nonneg|apply Yv
  omega
 ·have a:=h3 0 (by decide) (by decide);have b:=h3 1 (by decide) (by decide);have c:=h3 4 (by decide) (by decide)
  have e:t*t*SW t z-SW t z'=t*((t-1)*((t*z 2-z 3)*(t*z 2-z 3))):=by
   unfold SW;rw[h1,h2,a,b,c];grind
  have:0<=t*((t-1)*((t*z 2-z 3)*(t*z 2-z 3))):=by
   repeat' first|exact qfw _|assumption|apply Int.add_nonneg|apply Yv
  omega
 have a:=h3 0 (by decide) (by decide);have b:=h3 1 (by decide) (by decide);have c:=h3 2 (by decide) (by decide)
 have e:t*t*SW t z-SW t z'=(t-1)*((t*z 3-z 4)*(t*z 3-z 4)):=by
  unfold SW;rw[h1,h2,a,b,c];grind
 have:0<=(t-1)*((t*z 3-z 4)*(t*z 3-z 4)):=by
  repeat' first|exact qfw _|assumption|apply Int.add_nonneg|apply Yv
 omega
theorem SW_at {t:Int} (ht:1<=t) {z:Nat->Int} {j:Nat} (hj:j<5):z j*z j<=SW t z:=by
 have up: ∀{x:Int},0<=x->x<=t*x:=fun {x} h=>by have:=Int.mul_le_mul_of_nonneg_right ht h;omega
 have q0:=qfw (z 0);have q1:=qfw (z 1);have q2:=qfw (z 2);have q3:=qfw (z 3);have q4:=qfw (z 4);have u0:=up q0;have u1:=up (show 0<=t*(z 0*z 0)+z 1*z 1 by omega);have u2:=up (show 0<=t*(t*(z 0*z 0)+z 1*z 1)+z 2*z 2 by omega);have u3:=up (show 0<=t*(t*(t*(z 0*z 0)+z 1*z 1)+z 2*z 2)+z 3*z 3 by omega);unfold SW;rcases(show j=0\/j=1\/j=2\/j=3\/j=4 by omega)with rfl|rfl|rfl|rfl|rfl<;>omega
theorem qtn {t:Int} (ht:1<=t) {z z':Nat->Int} (h: ∀j,z' j=z j\/z' j=0):SW t z'<=SW t z:=by
 have q: ∀j,z' j*z' j<=z j*z j:=fun j=>by
  rcases h j with e|e
  ·rw[e];exact Int.le_refl _
  rw[e];exact qfw _
 have q0:=q 0;have q1:=q 1;have q2:=q 2;have q3:=q 3;have q4:=q 4
 have m: ∀{x y:Int},x<=y->t*x<=t*y:=fun h=>Yc h (by omega)
 have u0:=m q0;have u1:=m (show t*(z' 0*z' 0)+z' 1*z' 1<=t*(z 0*z 0)+z 1*z 1 by omega);have u2:=m (show t*(t*(z' 0*z' 0)+z' 1*z' 1)+z' 2*z' 2<=t*(t*(z 0*z 0)+z 1*z 1)+z 2*z 2 by omega);have u3:=m (show t*(t*(t*(z' 0*z' 0)+z' 1*z' 1)+z' 2*z' 2)+z' 3*z' 3<=t*(t*(t*(z 0*z 0)+z 1*z 1)+z 2*z 2)+z 3*z 3 by omega);unfold SW;omega
def Wt (t:Int) (v:Nat->Rat) (m L:Nat):Prop:= ∃z:Nat->Int,(∀j,v j*((t:Rat)^m)=((z j:Int):Rat))/\(∀j,5<=j->z j=0)/\SW t z<=t^(L+2)*t^(L+2)
def Rw (t:Int) (v:Nat->Rat) (L:Nat):Prop:= ∃m,m<=L/\Wt t v m L
theorem qdV {t:Int} (ht:1<=t):(t:Rat)≠0:=by
 intro h
 have:t=0:=by exact_mod_cast h
 omega
theorem Rw.step {t:Int} (ht:1<=t) {v:Nat->Rat} {L:Nat} (h:Rw t v L) (p:Bool) {k:Nat} (hk:k<4):Rw t (zx p t k v) (L+1):=by
 obtain⟨m,hm,z,h1,h2,h3⟩:=h;have ne:=qdV ht
 have hB:t*t*(t^(L+2)*t^(L+2))=t^(L+1+2)*t^(L+1+2):=by
  rw[show L+1+2=L+2+1 by omega,Int.pow_succ];generalize t^(L+2)=P;grind
 have mono:t*t*SW t z<=t*t*(t^(L+2)*t^(L+2)):=Yc h3 (qfw t);cases p
 ·refine⟨m+1,by omega,fun j=>if j=k+1 then z k*t+z (k+1)*(t-1)else if j=k then z (k+1)else z j*t,?_,?_,?_⟩
  ·intro j;unfold zx;rw[if_neg (by decide)];unfold qe8;rw[Rat.pow_succ];dsimp only;by_cases a:j=k+1
   ·rw[if_pos a,if_pos a,Rat.intCast_add,Rat.intCast_mul,Rat.intCast_mul,Rat.intCast_sub,<-h1,<-h1];have:(t:Rat)⁻¹*(t:Rat)=1:=Rat.inv_mul_cancel _ ne;generalize (t:Rat)^m=P at*;generalize (t:Rat)⁻¹=I at*;have e1:((1:Int):Rat)=1:=rfl;grind
   rw[if_neg a,if_neg a];by_cases b:j=k
   ·rw[if_pos b,if_pos b,<-h1];have:(t:Rat)⁻¹*(t:Rat)=1:=Rat.inv_mul_cancel _ ne;generalize (t:Rat)^m=P at*;generalize (t:Rat)⁻¹=I at*;grind
   rw[if_neg b,if_neg b,Rat.intCast_mul,<-h1,Rat.mul_assoc]
  ·intro j hj;dsimp only;rw[if_neg (by omega),if_neg (by omega),h2 j hj,Int.zero_mul]
  rw[<-hB];refine Int.le_trans (qu6 ht hk (z:=z) ?_ ?_ ?_) mono
  ·rw[if_neg (by omega),if_pos rfl]
  ·rw[if_pos rfl]
  intro j a b;rw[if_neg b,if_neg a]
 refine⟨m,by omega,fun j=>if j=k+1 then z k*t else if j=k then z k*(1-t)+z (k+1)else z j,?_,?_,?_⟩
 ·intro j;unfold zx;rw[if_pos rfl];unfold qe8;dsimp only;by_cases a:j=k+1
  ·rw[if_pos a,if_pos a,Rat.intCast_mul,<-h1];generalize (t:Rat)^m=P at*;grind
  rw[if_neg a,if_neg a];by_cases b:j=k
  ·rw[if_pos b,if_pos b,Rat.intCast_add,Rat.intCast_mul,Rat.intCast_sub,<-h1,<-h1];have e1:((1:Int):Rat)=1:=rfl;generalize (t:Rat)^m=P at*;grind
  rw[if_neg b,if_neg b,<-h1]
 ·intro j hj;dsimp only;rw[if_neg (by omega),if_neg (by omega),h2 j hj]
 rw[<-hB];refine Int.le_trans (quK ht hk (z:=z) ?_ ?_ ?_) mono
 ·rw[if_neg (by omega),if_pos rfl]
 ·rw[if_pos rfl]
 intro j a b;rw[if_neg b,if_neg a]
theorem Rw.part {t:Int} (ht:1<=t) {v v':Nat->Rat} {L:Nat} (h:Rw t v L) (hv: ∀j,v' j=v j\/v' j=0):Rw t v' L:=by
 obtain⟨m,hm,z,h1,h2,h3⟩:=h
 have c: ∀j,∃y:Int,v' j*((t:Rat)^m)=(y:Rat)/\(y=z j\/y=0):=fun j=>by
  rcases hv j with e|e
  ·exact⟨z j,by rw[e];exact h1 j,.inl rfl⟩
  exact⟨0,by rw[e,Rat.zero_mul];rfl,.inr rfl⟩
 refine⟨m,hm,fun j=>(c j).choose,fun j=>(c j).choose_spec.1,fun j hj=>?_,Int.le_trans (qtn ht (z:=z) fun j=>(c j).choose_spec.2) h3⟩;have:=(c j).choose_spec.2;have h5:=h2 j hj;rcases this with e|e
 ·exact e.trans h5
 exact e
theorem qqJ {t:Int} (ht:1<=t) (i:Nat):i<5->Rw t (idM i) 0:=by
 intro hi;refine⟨0,by omega,fun j=>if j=i then 1 else 0,fun j=>?_,fun j hj=>if_neg (by omega),?_⟩
 ·unfold idM qe8;rw[Rat.pow_zero,Rat.mul_one];dsimp only;split<;>rfl
 have t2:0<=t:=by omega
 have e:t^(0+2)*t^(0+2)=t*(t*(t*t)):=by rw[show 0+2=1+1 from rfl,Int.pow_succ,Int.pow_one];grind
 have up: ∀{x:Int},1<=x->x<=t*x/\1<=t*x:=fun {x} h=>by have:=Int.mul_le_mul_of_nonneg_right ht (show 0<=x by omega);omega
 have u1:=up ht;have u2:=up u1.2;have u3:=up u2.2;rw[e];unfold SW;dsimp only;rcases(show i=0\/i=1\/i=2\/i=3\/i=4 by omega)with rfl|rfl|rfl|rfl|rfl<;>simp<;>omega
theorem qoz {t:Int} (ht:1<=t) {n:Nat} (hn:n<=5): ∀(w:List Int),(∀c∈w,c≠0/\ -(n:Int)<c/\c<n)-> ∀(v:Nat->Rat) (L:Nat),Rw t v L->Rw t (qdo t w v) (L+w.length)
 |[],_,v,L,h=>h
 |c::w,hw,v,L,h=>by
  have hc:=hw c (List.mem_cons_self ..);have:=qoz ht hn w (fun d hd=>hw d (List.mem_cons_of_mem _ hd)) _ (L+1) (h.step ht (decide (c>0)) (k:=c.natAbs-1) (by omega));rw[Yr,show L+(w.length+1)=L+1+w.length by omega];exact this
def Bz (D B:Int) (x:Rat):Prop:= ∃z:Int,x*(D:Rat)=(z:Rat)/\z.natAbs<=B.toNat
theorem Bz.q9 {D B:Int} {x:Rat} (h:Bz D B x) (hD:0<D) (hD9:D<1000000000) (hB:B<1000000000):Q9 x:=by
 obtain⟨z,h1,h2⟩:=h
 have hp':(D:Rat)≠0:=by
  intro h
  have:(D:Int)=0:=by exact_mod_cast h
  omega
 have e:x=Rat.divInt z D:=by rw[Rat.divInt_eq_div,<-h1,Rat.mul_div_cancel hp']
 have hg:0<Int.gcd D z:=Int.gcd_pos_of_ne_zero_left _ (by omega);have n1:=qnv (D.sign*z) (show(0:Int)<(Int.gcd D z:Int)by omega)
 have n2:(D.sign*z).natAbs=z.natAbs:=by rw[Int.natAbs_mul,Int.natAbs_sign_of_ne_zero (by omega),Nat.one_mul]
 have n3:=Nat.div_le_self D.natAbs (Int.gcd D z);rw[e];refine⟨?_,?_⟩
 ·rw[Rat.num_divInt];omega
 rw[Rat.den_divInt,if_neg (by omega)];omega
theorem Rw.bz {t:Int} (ht:1<=t) {v:Nat->Rat} {L:Nat} (h:Rw t v L): ∃m,m<=L/\ ∀j,Bz (t^m) (t^(L+2)) (v j):=by
 obtain⟨m,hm,z,h1,h2,h3⟩:=h;have hB:0<t^(L+2):=Int.pow_pos (by omega);refine⟨m,hm,fun j=>⟨z j,by rw[Rat.intCast_pow];exact h1 j,?_⟩⟩;by_cases hj:j<5
 ·have a:=Int.le_trans (SW_at ht hj) h3;generalize t^(L+2)=P at*;generalize z j=y at*
  have:((y.natAbs:Nat):Int)<=P:=by
   rcases Int.lt_or_le P (y.natAbs:Int)with c|c
   ·exfalso;have e:y*y=(y.natAbs:Int)*(y.natAbs:Int):=(Int.natAbs_mul_self' y).symm;have:=Int.mul_lt_mul c (Int.le_of_lt c) hB (by omega);omega
   exact c
  omega
 rw[h2 j (by omega)];simp
def Cz (t:Int) (c:Rat):Prop:= ∃e y:Int,(e=1\/e=t)/\c*(e:Rat)=(y:Rat)/\y.natAbs<=t.toNat
theorem Bz.mul {t D B:Int} (ht:1<=t) (hB:0<=B) {x c:Rat} (h:Bz D B x) (hc:Cz t c): ∃e:Int,(e=1\/e=t)/\Bz (D*e) (B*t) (x*c):=by
 obtain⟨z,h1,h2⟩:=h;obtain⟨e,y,he,k1,k2⟩:=hc;refine⟨e,he,z*y,?_,?_⟩
 ·rw[Rat.intCast_mul,Rat.intCast_mul,<-h1,<-k1];grind
 rw[Int.natAbs_mul,Int.toNat_mul hB (by omega)];exact Nat.mul_le_mul h2 k2
theorem Rw.q9 {t:Int} (ht:1<=t) {v:Nat->Rat} {L:Nat} (h:Rw t v L) (hL:t^(L+2)<1000000000) (j:Nat):Q9 (v j):=by
 obtain⟨m,hm,hb⟩:=h.bz ht;have:=qbQ ht (show m<=L+2 by omega);exact(hb j).q9 (Int.pow_pos (by omega)) (by omega) hL
theorem Rw.q9c {t:Int} (ht:1<=t) {v:Nat->Rat} {L:Nat} (h:Rw t v L) (hL:t^(L+3)<1000000000) (j:Nat) {c:Rat} (hc:Cz t c):Q9 (v j*c):=by
 obtain⟨m,hm,hb⟩:=h.bz ht;have hP:0<t^(L+2):=Int.pow_pos (by omega);have hM:0<t^m:=Int.pow_pos (by omega);obtain⟨e,he,k⟩:=(hb j).mul ht (Int.le_of_lt hP) hc;rw[show L+3=L+2+1 by omega,Int.pow_succ]at hL;have p1:=qbQ ht (show m+1<=L+2 by omega);rw[Int.pow_succ]at p1;have p2:t^m*1<=t^m*t:=Yc ht (Int.le_of_lt hM);have p3:t^(L+2)*1<=t^(L+2)*t:=Yc ht (Int.le_of_lt hP);rcases he with rfl|rfl
 ·exact k.q9 (by omega) (by omega) hL
 exact k.q9 (by omega) (by omega) hL
end Go.Av
end
noncomputable section
namespace Go.Av
open Go.Proofs Go.RowKit
variable [Glob]
theorem qjW {α:Type} (l:List α) (a:Nat) (x:α):kz l (a:Int) x=l.set a x:=by
 unfold kz;rw[Int.toNat_natCast]
def coV (p:Bool) (t:Rat):(Rat×Rat)×(Rat×Rat):=if p=true then((1-t,t),(1,0))else((0,1),(t⁻¹,1-t⁻¹))
theorem qpZ (p:Bool) (t:Rat) (k:Nat) (v:Nat->Rat):zx p t k v=qe8 (qe8 v k (v k*(coV p t).1.1+v (k+1)*(coV p t).2.1)) (k+1) (v k*(coV p t).1.2+v (k+1)*(coV p t).2.2):=by
 cases p<;>rfl
theorem rep1 {N n:Nat} (hN:10<N) (h1:1<=n) (h2:n<=5) (f:qo):yM N f.Num.s f.Num.w f.Den.s f.Den.w (n:Int)=some (List.replicate n f):=by
 obtain⟨M,rfl⟩: ∃M,N=M+10:=⟨N-10,by omega⟩
 have:n=1\/n=2\/n=3\/n=4\/n=5:=by omega
 rcases this with rfl|rfl|rfl|rfl|rfl
 all_goals (show @Eq (Option _) _ _;kernel_rfl)
theorem F_s (z:Int):qgi z=some (Fq (z:Rat)):=rfl
theorem row0 {n i:Nat} {α:Type} {R:α->Rat->Prop} {z o:α} (hz:R z 0) (ho:R o 1):qdx R n ((List.replicate n z).set i o) (idM i):=by
 have h:qdx R n (List.replicate n z) (fun _=>0):=by
  refine⟨List.length_replicate,fun j f hj=>?_⟩;have:=Yn hj;rw[List.eq_of_mem_replicate this];exact hz
 exact h.set ho i
theorem qqe {N n:Nat} (hN:10<N) (h1:1<=n) (h2:n<=5) {w:List Int} {l1:List (List qo)} (hl:l1.length=n): ∀(K i:Nat) (l2:List (List qo)),l2.length=n->(∀i' r,i'<i->l2[i']? =some r->qdx IsF n r (idM i'))->i<=n->n<K+i-> ∃l,yz N (n:Int) w l1 K l2 (i:Int)=some l/\MR IsF n l idM
 |0,i,l2,e,hr,hi,hK=>by omega
 |K+1,i,l2,e,hr,hi,hK=>by
  unfold yz;by_cases c:i<n
  ·rw[if_pos (by omega),F_s,ZB,rep1 hN h1 h2,ZB,qC,Ya (by omega),ZB,if_pos (by rw[List.length_replicate];omega),ZB,qjW,qC,List.getElem?_set_self (by omega),ZB,F_s,ZB,qC,Ya (by rw[List.length_replicate];omega),ZB,vM (by rw[List.length_replicate];omega),ZB,qjW,List.set_set,zF (by omega)];refine qqe hN h1 h2 hl K (i+1) _ (by rw[Yk];exact e) (fun i' r hi' hr'=>?_) (by omega) (by omega);by_cases d:i'=i
   ·subst d;rw[List.getElem?_set_self (by omega)]at hr';cases hr'
    exact row0 rfl rfl
   rw[Yw (fun q=>d q.symm)]at hr';exact hr i' r (by omega) hr'
  rw[if_neg (by omega)];refine⟨_,rfl,e,fun i' r hr'=>hr i' r ?_ hr'⟩;have:=(Yb.1 hr').1;omega
structure Tk (t:Int):Prop where
 t1:1<=t
 t9:t<1000
theorem qnA:Q9 1:=⟨by decide,by decide⟩
section
variable {t:Int} (S:Tk t)
include S
theorem Tk.qt:Q9 (t:Rat):=by
 have h1:=S.t1;have h2:=S.t9;refine⟨?_,?_⟩
 ·show t.natAbs<_;omega
 show 1<_;decide
theorem Tk.ci:Cz t (t:Rat)⁻¹:=⟨t,1,.inr rfl,Rat.inv_mul_cancel _ (qdV S.t1),by have:=S.t1;simp;omega⟩
theorem Tk.qi:Q9 (t:Rat)⁻¹:=by
 have h1:=S.t1;have h2:=S.t9;have:Bz t 1 (t:Rat)⁻¹:=⟨1,Rat.inv_mul_cancel _ (qdV S.t1),by decide⟩;exact this.q9 (by omega) (by omega) (by decide)
theorem Tk.c0:Cz t 0:=⟨1,0,.inl rfl,by rw[Rat.zero_mul];rfl,by simp⟩
theorem Tk.c1:Cz t 1:=⟨1,1,.inl rfl,by rw[Rat.one_mul],by have:=S.t1;simp;omega⟩
theorem Tk.ct:Cz t (t:Rat):=⟨1,t,.inl rfl,by rw[show((1:Int):Rat)=1 from rfl,Rat.mul_one],by have:=S.t1;omega⟩
theorem Tk.cu:Cz t (1-(t:Rat)):=⟨1,1-t,.inl rfl,by rw[show((1:Int):Rat)=1 from rfl,Rat.mul_one,Rat.intCast_sub];rfl,by have:=S.t1;omega⟩
theorem Tk.cj:Cz t (1-(t:Rat)⁻¹):=⟨t,t-1,.inr rfl,by
 have:=Rat.inv_mul_cancel _ (qdV S.t1);rw[Rat.intCast_sub,show((1:Int):Rat)=1 from rfl]
 grind,by have:=S.t1;omega⟩
theorem Tk.qu:Q9 (1-(t:Rat)):=by
 have h1:=S.t1;have h2:=S.t9;have:Bz 1 t (1-(t:Rat)):=⟨1-t,by rw[show((1:Int):Rat)=1 from rfl,Rat.mul_one,Rat.intCast_sub];rfl,by omega⟩;exact this.q9 (by omega) (by omega) (by omega)
theorem Tk.qj:Q9 (1-(t:Rat)⁻¹):=by
 have h1:=S.t1;have h2:=S.t9
 have:Bz t t (1-(t:Rat)⁻¹):=⟨t-1,by
  have:=Rat.inv_mul_cancel _ (qdV S.t1);rw[Rat.intCast_sub,show((1:Int):Rat)=1 from rfl]
  grind,by omega⟩
 exact this.q9 (by omega) (by omega) (by omega)
theorem qnW (p:Bool) {P:Rat->Prop} (h0:P 0) (h1:P 1) (ht:P t) (hu:P (1-(t:Rat))) (hi:P (t:Rat)⁻¹) (hj:P (1-(t:Rat)⁻¹)):P (coV p t).1.1/\P (coV p t).1.2/\P (coV p t).2.1/\P (coV p t).2.2:=by
 cases p
 ·exact⟨h0,h1,hi,hj⟩
 exact⟨hu,ht,h1,h0⟩
theorem qsG {N:Nat} (hN:200<N) (c:Int):qb1 N c (Fq t)=some ((Fq (coV (decide (c>0)) t).1.1,Fq (coV (decide (c>0)) t).1.2),(Fq (coV (decide (c>0)) t).2.1,Fq (coV (decide (c>0)) t).2.2)):=by
 unfold qb1;rw[F_s,ZB,F_s,ZB];by_cases h:c>0
 ·rw[if_pos h,show((1:Int):Rat)=1 from rfl,qpS hN qnA S.qt,ZB,decide_eq_true h];rfl
 rw[if_neg h,qvm hN S.qt (qdV S.t1),ZB,ZB,show((1:Int):Rat)=1 from rfl,qpS hN qnA S.qi,ZB,decide_eq_false h];rfl
theorem qp4 {N n:Nat} (hN:200<N) (h2:n<=5) {M:Nat->Nat->Rat} {c:Int} (hc:1<=c.natAbs) (hc2:c.natAbs<n) (hM: ∀i,i<n-> ∀j,Q9 (M i j)) (hMc: ∀i,i<n-> ∀j e,Cz t e->Q9 (M i j*e)) {l17:List (List qo)} (hl:l17.length=n):
 ∀(K i:Nat) (l25:List (List qo)),MR IsF n l25 (fun i'=>if i'<i then qiC t c M i' else M i')->i<=n->n<K+i-> ∃l,yJ N l17 (c.natAbs:Int) ((Fq (coV (decide (c>0)) t).1.1,Fq (coV (decide (c>0)) t).1.2),(Fq (coV (decide (c>0)) t).2.1,Fq (coV (decide (c>0)) t).2.2)) K l25 (i:Int)=some l/\MR IsF n l (qiC t c M)
 |0,i,l25,h,hi,hK=>by omega
 |K+1,i,l25,h,hi,hK=>by
  unfold yJ;obtain⟨fa,fb,fc,fd⟩:=qnW S (decide (c>0)) (P:=Cz t) S.c0 S.c1 S.ct S.cu S.ci S.cj;obtain⟨ga,gb,gc,gd⟩:=qnW S (decide (c>0)) (P:=Q9) ⟨by decide,by decide⟩ qnA S.qt S.qu S.qi S.qj;by_cases d:i<n
  ·obtain⟨r,e1,hr⟩:=h.get d;rw[if_neg (Nat.lt_irrefl _)]at hr;obtain⟨k,hk⟩: ∃k,c.natAbs=k+1:=⟨c.natAbs-1,by omega⟩
   have ek:w64 (((k+1:Nat):Int)-1)=(k:Int):=by rw[qrK (by omega) (by omega)];rfl
   obtain⟨x,x1,x2⟩:=hr.get (k:=k) (by omega);obtain⟨y,y1,y2⟩:=hr.get (k:=k+1) (by omega);have x2:x=Fq (M i k):=x2;have y2:y=Fq (M i (k+1)):=y2;subst x2 y2;have hlen:r.length=n:=hr.1;dsimp only;rw[hk,if_pos (by omega),qC,e1,ZB,ek,qC,x1,ZB,zF (by omega),qC,y1,ZB,qkw hN (hM i d _) ga,ZB,qkw hN (hM i d _) gc,ZB,qmV hN (hMc i d _ _ fa) (hMc i d _ _ fc),ZB,vM (by omega),ZB,qkw hN (hM i d _) gb,ZB,qkw hN (hM i d _) gd,ZB,qmV hN (hMc i d _ _ fb) (hMc i d _ _ fd),ZB,qC,Ya (by rw[Yk];omega),ZB,vM (by rw[Yk];omega),ZB,qjW,zF (by omega),show((k+1:Nat):Int)=(c.natAbs:Int)by rw[hk]];refine qp4 hN h2 hc hc2 hM hMc hl K (i+1) _ ((h.set ((hr.set (R:=IsF) rfl k).set (R:=IsF) rfl (k+1)) i).congr fun i' hi'=>?_) (by omega) (by omega);unfold qe8;by_cases g:i'=i
   ·subst g;rw[if_pos rfl,if_pos (by omega)];show _=zx (decide (c>0)) t (c.natAbs-1) (M i');rw[qpZ,hk,Nat.add_sub_cancel];rfl
   rw[if_neg g];show(if i'<i then qiC t c M i' else M i')=_;by_cases g2:i'<i
   ·rw[if_pos g2,if_pos (by omega)]
   rw[if_neg g2,if_neg (by omega)]
  rw[if_neg (by omega)];exact⟨_,rfl,h.congr fun i' hi'=>by rw[if_pos (by omega)]⟩
omit S in
theorem qtH {c:Int} (h1: -100<c) (h2:c<100):qQ c=some (c.natAbs:Int):=by
 unfold qQ;rw[qF (by omega) (by omega)];split<;>congr 1<;>omega
theorem qri {N n:Nat} (hN:600000<N) (h2:n<=5) {w:List Int} (hw: ∀c∈w,c≠0/\ -(n:Int)<c/\c<n) (hl:t^(w.length+2)<1000000000) (hl2:w.length<=1000):
 ∀(K i:Nat) (M:Nat->Nat->Rat) (l17:List (List qo)),MR IsF n l17 M->(∀a,a<n->Rw t (M a) i)->i<=w.length->w.length<K+i-> ∃l,yw N w (Fq t) K l17 (i:Int)=some l/\MR IsF n l ((w.drop i).foldl (fun M c=>qiC t c M) M)
 |0,i,M,l17,h,hb,hi,hK=>by omega
 |K+1,i,M,l17,h,hb,hi,hK=>by
  have t1:=S.t1;unfold yw;by_cases d:i<w.length
  ·have hm:=hw _ (List.getElem_mem d);have p2:=qbQ t1 (show i+2<=w.length+2 by omega);have p3:=qbQ t1 (show i+3<=w.length+2 by omega);obtain⟨l,l1,l2⟩:=qp4 S (N:=N) (by omega) h2 (c:=w[i]) (by omega) (by omega) (fun a ha b=>(hb a ha).q9 t1 (by omega) b) (fun a ha b e he=>(hb a ha).q9c t1 (by omega) b he) h.1 N 0 l17 (h.congr fun i' _=>by rw[if_neg (Nat.not_lt_zero _)]) (by omega) (by omega);rw[show((0:Nat):Int)=0 from rfl]at l1;rw[if_pos (by omega),qC,Ya d,ZB,qtH (by omega) (by omega),ZB,qsG S (by omega),ZB,l1,ZB,zF (by omega),YG d,List.foldl_cons];exact qri hN h2 hw hl hl2 K (i+1) _ l l2 (fun a ha=>(hb a ha).step t1 _ (by omega)) (by omega) (by omega)
  rw[if_neg (by omega),List.drop_eq_nil_of_le (by omega)];exact⟨_,rfl,h⟩
theorem qga {N n:Nat} (hN:600000<N) (h1:1<=n) (h2:n<=5) {w:List Int} (hw: ∀c∈w,c≠0/\ -(n:Int)<c/\c<n) (hl:t^(w.length+2)<1000000000) (hl2:w.length<=1000): ∃l,qa9 N (n:Int) w (Fq t)=some l/\MR IsF n l (qgb t w):=by
 unfold qa9
 have hm:mk 24 (n:Int) ([]:List qo)=some (List.replicate n []):=by
  have:n=1\/n=2\/n=3\/n=4\/n=5:=by omega
  rcases this with rfl|rfl|rfl|rfl|rfl
  all_goals (show @Eq (Option _) _ _;kernel_rfl)
 obtain⟨l,l1,l2⟩:=qqe (N:=N) (n:=n) (w:=w) (l1:=List.replicate n []) (by omega) h1 h2 List.length_replicate N 0 (List.replicate n []) List.length_replicate (fun i' r hi'=>by omega) (by omega) (by omega);obtain⟨m,m1,m2⟩:=qri S hN h2 hw hl hl2 N 0 idM l l2 (fun a ha=>qqJ S.t1 a (by omega)) (by omega) (by omega);rw[hm,ZB,show(0:Int)=((0:Nat):Int)from rfl,l1,ZB,m1,ZB];exact⟨_,rfl,m2⟩
theorem qvf {n:Nat} (h2:n<=5) {w:List Int} (hw: ∀c∈w,c≠0/\ -(n:Int)<c/\c<n) {i:Nat} (hi:i<n):Rw t (qgb t w i) w.length:=by
 have:=qoz S.t1 h2 w hw _ 0 (qqJ S.t1 i (by omega));rw[Nat.zero_add]at this;unfold qgb;rw[qfO];exact this
theorem qnl {n:Nat} (h2:n<=5) {w:List Int} (hw: ∀c∈w,c≠0/\ -(n:Int)<c/\c<n) (hl:t^(w.length+2)<1000000000) {i:Nat} (hi:i<n) (j:Nat):Q9 (qgb t w i j):=(qvf S h2 hw hi).q9 S.t1 hl j
end
end Go.Av
end
noncomputable section
namespace Go.Av
open Go.Proofs Go.RowKit
variable [Glob]
abbrev IsT:Str->Rat->Prop:=fun s q=>s=T q
section
variable {n:Nat} (h2:n<=5) {a b:List Int} (ha: ∀c∈a,c≠0/\ -(n:Int)<c/\c<n) (hb: ∀c∈b,c≠0/\ -(n:Int)<c/\c<n) (hl:a.length+b.length<=16)
include h2 ha hb hl
variable {N:Nat} (hN:600000<N) {u v:List (List Str)} (hu:MR IsT n u (qgb ((3:Int):Rat) a)) (hv:MR IsT n v (qgb ((3:Int):Rat) b))
include hN hu hv
end
end Go.Av
end
noncomputable section
namespace Go.Av
open Go.Proofs Go.RowKit
variable [Glob]
theorem pf_of {u v:List Int} (h: ∀s,pmF s u=pmF s v) (x:Nat):pfP u x=pfP v x:=by
 have:=congrArg (fun s:SB=>s.f x) (h SB.id);rw[qm8,qm8]at this;exact this
theorem qkA {m m':List Int} (h: ∀a b,lkP m a b=lkP m' a b) (k: ∀s,pmF s m=pmF s m') (u v:List Int) (a b:Nat):lkP (u++m++v) a b=lkP (u++m'++v) a b:=by
 have p: ∀x,pfP (u++m) x=pfP (u++m') x:=pf_of fun s=>by rw[xc,xc,k]
 rw[qfS,qfS (u++m'),qfS u m,qfS u m',h,p,p]
theorem qhr (k x:Nat):(tr5 k x=k↔x=k+1)/\(tr5 k x=k+1↔x=k):=by
 unfold tr5;constructor<;>(repeat' split)<;>omega
theorem qkv {k m:Nat} (h:k+1<m\/m+1<k) (x:Nat):(tr5 k x=m↔x=m)/\(tr5 k x=m+1↔x=m+1):=by
 unfold tr5;constructor<;>(repeat' split)<;>omega
theorem qhw {k m:Nat} (h:m=k+1\/k=m+1) (x:Nat):(tr5 k (tr5 m x)=m↔x=k)/\(tr5 k (tr5 m x)=m+1↔x=k+1):=by
 unfold tr5;constructor<;>(repeat' split)<;>omega
theorem qhz {k m:Nat} (h:m=k+1\/k=m+1) (x:Nat):(tr5 k x=m↔tr5 m x=k)/\(tr5 k x=m+1↔tr5 m x=k+1):=by
 unfold tr5;constructor<;>(repeat' split)<;>omega
def ht (k a b:Nat) (s:Int):Int:=if(a=k/\b=k+1)\/(a=k+1/\b=k)then s else 0
theorem qoR {P Q:Prop} [Decidable P] [Decidable Q] (h:P↔Q) (s:Int):(if P then s else 0)=if Q then s else 0:=by simp only[h]
theorem qsZ (k a b:Nat) (s:Int):ht k (tr5 k a) (tr5 k b) s=ht k a b s:=qoR (by rw[(qhr k a).1,(qhr k a).2,(qhr k b).1,(qhr k b).2];omega) s
theorem qqF {k m:Nat} (h:k+1<m\/m+1<k) (a b:Nat) (s:Int):ht m (tr5 k a) (tr5 k b) s=ht m a b s:=qoR (by rw[(qkv h a).1,(qkv h a).2,(qkv h b).1,(qkv h b).2]) s
theorem qkq {k m:Nat} (h:m=k+1\/k=m+1) (a b:Nat) (s:Int):ht m (tr5 k (tr5 m a)) (tr5 k (tr5 m b)) s=ht k a b s:=qoR (by rw[(qhw h a).1,(qhw h a).2,(qhw h b).1,(qhw h b).2]) s
theorem qtb {k m:Nat} (h:m=k+1\/k=m+1) (a b:Nat) (s:Int):ht m (tr5 k a) (tr5 k b) s=ht k (tr5 m a) (tr5 m b) s:=qoR (by rw[(qhz h a).1,(qhz h a).2,(qhz h b).1,(qhz h b).2]) s
theorem qt9 (k a b:Nat) (s:Int):ht k a b (-s)= -ht k a b s:=by unfold ht;split<;>omega
theorem yC (c:Int) (w:List Int) (a b:Nat):lkP (c::w) a b=ht (c.natAbs-1) a b (qbA c)+lkP w (tr5 (c.natAbs-1) a) (tr5 (c.natAbs-1) b):=rfl
theorem qoE (x:Int) (hx:x≠0) (a b:Nat):lkP [x,-x] a b=lkP [] a b:=by
 have hs:qbA (-x)= -qbA x:=by unfold qbA;split<;>split<;>omega
 rw[yC,yC,Int.natAbs_neg,qsZ,hs,qt9];show _+(_+(0:Int))=0;omega
theorem quF {x y:Int} (hx:x≠0) (hy:y≠0) (h:qpd x y=true) (a b:Nat):lkP [x,y] a b=lkP [y,x] a b:=by
 unfold qpd at h;rw[Bool.or_eq_true,Nat.ble_eq,Nat.ble_eq]at h;rw[yC,yC,yC,yC,qqF (by omega),qqF (by omega)];show _+(_+(0:Int))=_+(_+(0:Int));omega
theorem qhu {z:Int} (h:z≠0):qbA z=sg5 z:=by unfold qbA sg5;split<;>split<;>omega
theorem qeQ {z:Int} (h:z≠0) {y:Int} (hy:y≠0):qbA (sg5 z*(y.natAbs:Int))=qbA z/\(sg5 z*(y.natAbs:Int)).natAbs=y.natAbs/\((0<sg5 z*(y.natAbs:Int))↔0<z):=by
 unfold qbA sg5;by_cases p:z<0
 ·rw[if_pos p,if_neg (show¬0<z by omega)];refine⟨if_neg (by omega),by omega,by omega⟩
 rw[if_neg p,if_pos (show 0<z by omega)];refine⟨if_pos (by omega),by omega,by omega⟩
theorem qgB {x y z:Int} {l:List Int} (hx:x≠0) (hy:y≠0) (hz:z≠0) (h:qfD x y z=some l):x.natAbs=z.natAbs/\(y.natAbs-1=x.natAbs-1+1\/x.natAbs-1=y.natAbs-1+1)/\((qbA x=qbA y/\l=[sg5 z*(y.natAbs:Int),x,y])\/(qbA y=qbA z/\l=[y,z,sg5 x*(y.natAbs:Int)])):=by
 unfold qfD at h;split at h
 ·rename_i c;refine⟨c.1,by omega,?_⟩;split at h
  ·rename_i d;exact .inl ⟨by rw[qhu hx,qhu hy,d],(Ye h).symm⟩
  split at h
  ·rename_i d;exact .inr ⟨by rw[qhu hy,qhu hz,d],(Ye h).symm⟩
  cases h
 cases h
theorem qub {x y z:Int} {l:List Int} (hx:x≠0) (hy:y≠0) (hz:z≠0) (h:qfD x y z=some l) (a b:Nat):lkP [x,y,z] a b=lkP l a b:=by
 obtain⟨e,n,r⟩:=qgB hx hy hz h
 have key: ∀(p q r:Int),lkP [x,y,z] a b=ht (x.natAbs-1) a b (qbA x)+(ht (x.natAbs-1) (tr5 (y.natAbs-1) a) (tr5 (y.natAbs-1) b) (qbA y)+ht (y.natAbs-1) a b (qbA z)):=fun p q r=>by
  rw[yC,yC,yC,<-e,qtb n,qkq (by omega)];show _+(_+(_+(0:Int)))=_;omega
 rw[key 0 0 0];rcases r with⟨s,rfl⟩|⟨s,rfl⟩
 ·obtain⟨u1,u2,_⟩:=qeQ hz hy;rw[yC,yC,yC,u1,u2,qkq n];show _=_+(_+(_+(0:Int)));rw[s];omega
 obtain⟨u1,u2,_⟩:=qeQ hx hy;rw[yC,yC,yC,u1,u2,<-e,qkq n];show _=_+(_+(_+(0:Int)));rw[s];omega
theorem Mv.lk {n:Nat} {w v:List Int} (h:Mv n w v) (hw:qaf n w) (a b:Nat):lkP w a b=lkP v a b:=by
 cases h with
 |@ins u v x hx=>
  have:=qkA (m:=[]) (m':=[x,-x]) (fun a b=>(qoE x hx.1 a b).symm) (fun s=>(qho s x).symm) u v a b
  rwa [YQ]at this
 |@can u v x=>
  have:=qkA (m:=[x,-x]) (m':=[]) (fun a b=>qoE x (hw x (by simp)).1 a b) (fun s=>qho s x) u v a b
  rwa [YQ]at this
 |@swp u v x y h=>
  have hx:=(hw x (by simp)).1;have hy:=(hw y (by simp)).1;refine qkA (fun a b=>quF hx hy h a b) (fun s=>?_) u v a b;have:=Mv.pm (n:=n) (.swp (u:=[]) (v:=[]) h) (fun c hc=>hw c (by simp at hc⊢;rcases hc with rfl|rfl<;>simp)) s;simpa using this
 |@trn u v l x y z h=>
  have hx:=(hw x (by simp)).1;have hy:=(hw y (by simp)).1;have hz:=(hw z (by simp)).1;exact qkA (fun a b=>qub hx hy hz h a b) (fun s=>qpM hx hy h) u v a b
theorem qam {v:Nat->Rat} {k j:Nat} {q:Rat}:qe8 v k q j=if j=k then q else v j:=rfl
theorem qsV {t:Rat} (ht:t≠0) (p:Bool) (k:Nat) (v:Nat->Rat):zx (!p) t k (zx p t k v)=v:=by
 have I:=Rat.inv_mul_cancel t ht;generalize t⁻¹=i at I;funext j;cases p<;>simp only[zx,qam,Bool.not_true,Bool.not_false,if_true,ZF,if_false]
 all_goals
  by_cases a:j=k+1
  ·subst a;simp;grind
  by_cases b:j=k
  ·subst b;simp;grind
  simp[a,b]
theorem qu3 {t:Rat} {k m:Nat} (h:k+1<m\/m+1<k) (p q:Bool) (v:Nat->Rat):zx q t m (zx p t k v)=zx p t k (zx q t m v):=by
 have n1:m≠k:=by omega
 have n2:m≠k+1:=by omega
 have n3:m+1≠k:=by omega
 have n4:k≠m:=by omega
 have n5:k≠m+1:=by omega
 have n6:k+1≠m:=by omega
 funext j;by_cases a:j=k
 ·subst a;cases p<;>cases q<;>simp[zx,qam,n1,n2,n3,n4,n5,n6]
 by_cases b:j=k+1
 ·subst b;cases p<;>cases q<;>simp[zx,qam,n1,n2,n3,n4,n5,n6]
 by_cases c:j=m
 ·subst c;cases p<;>cases q<;>simp[zx,qam,n1,n2,n3,n4,n5,n6]
 by_cases d:j=m+1
 ·subst d;cases p<;>cases q<;>simp[zx,qam,n1,n2,n3,n4,n5,n6]
 cases p<;>cases q<;>simp[zx,qam,a,b,c,d]
theorem st_up {t:Rat} (ht:t≠0) (k:Nat) (p q r:Bool) (h:p=q\/q=r) (v:Nat->Rat):zx r t k (zx q t (k+1) (zx p t k v))=if p=q then zx q t (k+1) (zx p t k (zx r t (k+1) v))else zx p t (k+1) (zx r t k (zx q t (k+1) v)):=by
 have I:=Rat.inv_mul_cancel t ht;generalize hi:t⁻¹=i at I
 have n1:k≠k+1+1:=by omega
 have n2:k+1+1≠k:=by omega
 funext j;by_cases a:j=k
 ·subst a;cases p<;>cases q<;>cases r<;>simp_all [zx,qam]<;>grind
 by_cases b:j=k+1
 ·subst b;cases p<;>cases q<;>cases r<;>simp_all [zx,qam]<;>grind
 by_cases c:j=k+1+1
 ·subst c;cases p<;>cases q<;>cases r<;>simp_all [zx,qam]<;>grind
 cases p<;>cases q<;>cases r<;>simp_all [zx,qam]
theorem st_dn {t:Rat} (ht:t≠0) (k:Nat) (p q r:Bool) (h:p=q\/q=r) (v:Nat->Rat):zx r t (k+1) (zx q t k (zx p t (k+1) v))=if p=q then zx q t k (zx p t (k+1) (zx r t k v))else zx p t k (zx r t (k+1) (zx q t k v)):=by
 have I:=Rat.inv_mul_cancel t ht;generalize hi:t⁻¹=i at I
 have n1:k≠k+1+1:=by omega
 have n2:k+1+1≠k:=by omega
 funext j;by_cases a:j=k
 ·subst a;cases p<;>cases q<;>cases r<;>simp_all [zx,qam]<;>grind
 by_cases b:j=k+1
 ·subst b;cases p<;>cases q<;>cases r<;>simp_all [zx,qam]<;>grind
 by_cases c:j=k+1+1
 ·subst c;cases p<;>cases q<;>cases r<;>simp_all [zx,qam]<;>grind
 cases p<;>cases q<;>cases r<;>simp_all [zx,qam]
theorem qtF {t:Rat} (ht:t≠0) {k m:Nat} (n:m=k+1\/k=m+1) (p q r:Bool) (h:p=q\/q=r) (v:Nat->Rat):zx r t k (zx q t m (zx p t k v))=if p=q then zx q t m (zx p t k (zx r t m v))else zx p t m (zx r t k (zx q t m v)):=by
 rcases n with rfl|rfl
 ·exact st_up ht k p q r h v
 exact st_dn ht m p q r h v
def lt1 (t:Rat) (c:Int):(Nat->Rat)->Nat->Rat:=zx (decide (c>0)) t (c.natAbs-1)
theorem xE (t:Rat) (c:Int) (w:List Int) (v:Nat->Rat):qdo t (c::w) v=qdo t w (lt1 t c v):=rfl
theorem qef (t:Rat) (v:Nat->Rat):qdo t [] v=v:=rfl
theorem qf3 (t:Rat) (a b:List Int) (v:Nat->Rat):qdo t (a++b) v=qdo t b (qdo t a v):=by
 unfold qdo;rw[List.foldl_append]
theorem qn4 {x y:Int} (hx:x≠0) (hy:y≠0):qbA x=qbA y↔decide (x>0)=decide (y>0):=by
 unfold qbA;by_cases a:0<x<;>by_cases b:0<y<;>simp[a,b]
theorem qtD {t:Rat} (ht:t≠0) {x y z:Int} {l:List Int} (hx:x≠0) (hy:y≠0) (hz:z≠0) (h:qfD x y z=some l) (v:Nat->Rat):qdo t [x,y,z] v=qdo t l v:=by
 obtain⟨e,n,r⟩:=qgB hx hy hz h;rw[qn4 hx hy,qn4 hy hz]at r;have key:=qtF ht n (decide (x>0)) (decide (y>0)) (decide (z>0)) (by rcases r with⟨s,_⟩|⟨s,_⟩<;>simp[s]) v
 have lhs:qdo t [x,y,z] v=zx (decide (z>0)) t (x.natAbs-1) (zx (decide (y>0)) t (y.natAbs-1) (zx (decide (x>0)) t (x.natAbs-1) v)):=by
  conv=>rhs;rw[e]
  rw[<-e];rw[xE,xE,xE,qef];unfold lt1;rw[<-e]
 rw[lhs,key];rcases r with⟨s,rfl⟩|⟨s,rfl⟩
 ·obtain⟨_,u2,u3⟩:=qeQ hz hy;rw[if_pos s,xE,xE,xE,qef];unfold lt1;rw[u2,decide_eq_decide.2 (show sg5 z*(y.natAbs:Int)>0↔z>0 from u3)]
 obtain⟨_,u2,u3⟩:=qeQ hx hy;rw[xE,xE,xE,qef];unfold lt1;rw[u2,decide_eq_decide.2 (show sg5 x*(y.natAbs:Int)>0↔x>0 from u3),<-e];by_cases g:decide (x>0)=decide (y>0)
 ·rw[if_pos g,s,g.trans s]
 rw[if_neg g]
theorem qhv {t:Rat} {m m':List Int} (h: ∀v,qdo t m v=qdo t m' v) (u v:List Int) (x:Nat->Rat):qdo t (u++m++v) x=qdo t (u++m'++v) x:=by
 rw[qf3,qf3 t u m,qf3 t (u++m'),qf3 t u m',h]
theorem Mv.run {t:Rat} (ht:t≠0) {n:Nat} {w v:List Int} (h:Mv n w v) (hw:qaf n w) (x:Nat->Rat):qdo t w x=qdo t v x:=by
 have pair: ∀(c:Int),c≠0-> ∀v,qdo t [c,-c] v=qdo t [] v:=fun c hc v=>by
  rw[xE,xE,qef,qef];unfold lt1;rw[Int.natAbs_neg,show decide (-c>0)=!decide (c>0)by by_cases a:c>0<;>simp[a]<;>omega];exact qsV ht _ _ v
 cases h with
 |@ins u v c hc=>
  have:=qhv (m:=[]) (m':=[c,-c]) (fun v=>(pair c hc.1 v).symm) u v x
  rwa [YQ]at this
 |@can u v c=>
  have:=qhv (m:=[c,-c]) (m':=[]) (fun v=>pair c (hw c (by simp)).1 v) u v x
  rwa [YQ]at this
 |@swp u v a b h=>
  have ha:=(hw a (by simp)).1;have hb:=(hw b (by simp)).1;refine qhv (fun v=>?_) u v x;unfold qpd at h;rw[Bool.or_eq_true,Nat.ble_eq,Nat.ble_eq]at h;exact qu3 (by omega) _ _ v
 |@trn u v l a b c h=>
  exact qhv (fun v=>qtD ht (hw a (by simp)).1 (hw b (by simp)).1 (hw c (by simp)).1 h v) u v x
theorem Mv.mat {t:Rat} (ht:t≠0) {n:Nat} {w v:List Int} (h:Mv n w v) (hw:qaf n w):qgb t w=qgb t v:=by
 funext i;unfold qgb;rw[qfO,qfO,h.run ht hw]
end Go.Av
end
noncomputable section
namespace Go.Av
open Go.Proofs Go.RowKit
variable [Glob]
abbrev t2:Rat:=((2:Int):Rat)
theorem Tk2:Tk 2:=⟨by decide,by decide⟩
theorem qur {q:Rat} (h:Q9 q):yX (Fq q) (Fq q)=some true:=by
 have m1:=qdb h.1 h.d;have h1:=h.1;have h2:=h.2;unfold yX qbi;dsimp only[Fq];rw[qg1 (by omega) (by omega) (by omega),ZB,ZB];unfold qbP;dsimp only;rw[if_pos em0,ZB,if_pos em0,if_neg (Int.lt_irrefl _),if_neg (Int.lt_irrefl _)];rfl
theorem qtU {n:Nat} (h2:n<=5) {r:List qo} {v:Nat->Rat} (h:qdx IsF n r v) (hv: ∀j,Q9 (v j)): ∀(K i:Nat),i<=n->n<K+i->qK r r K (i:Int)=some (.inl ())
 |0,i,hi,hK=>by omega
 |K+1,i,hi,hK=>by
  unfold qK;have hl:=h.1;by_cases c:i<n
  ·obtain⟨x,x1,x2⟩:=h.get c;have x2:x=Fq (v i):=x2;rw[if_pos (by omega),qC,x1,ZB,ZB,x2,qur (hv i),ZB,if_neg (by decide),zF (by omega)];exact qtU h2 h hv K (i+1) (by omega) (by omega)
  rw[if_neg (by omega)]
theorem quh {N n:Nat} (hN:10<N) (h2:n<=5) {r:List qo} {v:Nat->Rat} (h:qdx IsF n r v) (hv: ∀j,Q9 (v j)):zX N r r=some true:=by
 unfold zX jv;have:=qtU h2 h hv N 0 (by omega) (by omega);rw[show((0:Nat):Int)=0 from rfl]at this;rw[decide_eq_true rfl,if_neg (by decide),this];rfl
theorem qtP {N n:Nat} (hN:10<N) (h2:n<=5) {l:List (List qo)} {M:Nat->Nat->Rat} (h:MR IsF n l M) (hM: ∀i,i<n-> ∀j,Q9 (M i j)): ∀(K i:Nat),i<=n->n<K+i->qL N l l K (i:Int)=some (.inl ())
 |0,i,hi,hK=>by omega
 |K+1,i,hi,hK=>by
  unfold qL;have hl:=h.1;by_cases c:i<n
  ·obtain⟨x,x1,x2⟩:=h.get c;rw[if_pos (by omega),qC,x1,ZB,ZB,quh hN h2 x2 (hM i c),ZB,if_neg (by decide),zF (by omega)];exact qtP hN h2 h hM K (i+1) (by omega) (by omega)
  rw[if_neg (by omega)]
theorem quY {N n:Nat} (hN:10<N) (h2:n<=5) {l l':List (List qo)} {M:Nat->Nat->Rat} (h:MR IsF n l M) (h':MR IsF n l' M) (hM: ∀i,i<n-> ∀j,Q9 (M i j)):zy N l l'=some true:=by
 obtain rfl:=MR.ext (f:=Fq) h h';unfold zy;have:=qtP hN h2 h hM N 0 (by omega) (by omega);rw[show((0:Nat):Int)=0 from rfl]at this;rw[decide_eq_true rfl,if_neg (by decide),this];rfl
end Go.Av
end
section
namespace Go.Av
structure QTb where
 n:Nat
 cnt:Nat
 rows:List (List Nat)
 tab:Nat
 flp:Nat
 pos:List Nat
 neg:List Nat
 idc:Nat
 half:Nat
def frc {α:Type} (v:Nat) (f:Nat->α):α:=Nat.casesOn v (f 0) fun k=>f (k+1)
theorem qmT {α:Type} (v:Nat) (f:Nat->α):frc v f=f v:=by cases v<;>rfl
def QTb.dec (T:QTb) (c:Nat):List Nat:=T.rows.getD c []
def QTb.v (T:QTb) (s x:Nat):Nat:=Nat.land (Nat.shiftRight T.tab (Nat.mul 10 (Nat.add (Nat.mul 32 s) x))) 1023
def QTb.a (T:QTb) (s x:Nat):Nat:=Nat.land (T.v s x) 31
def QTb.b (T:QTb) (s x:Nat):Nat:=Nat.shiftRight (T.v s x) 5
def QTb.fl (T:QTb) (c:Nat):Nat:=Nat.land (Nat.shiftRight T.flp (Nat.mul 5 c)) 31
def qpN (T:QTb):Nat->List Nat->List Nat
 |x,[]=>[x]
 |x,s::r=>frc (T.v s x) fun v=>frc (Nat.land v 31) fun a=>frc (Nat.shiftRight v 5) fun b=>b::qpN T a r
theorem qoN (T:QTb) (x:Nat):qpN T x []=[x]:=rfl
theorem qar (T:QTb) (x s:Nat) (r:List Nat):qpN T x (s::r)=T.b s x::qpN T (T.a s x) r:=by
 rw[qpN,qmT,qmT,qmT];rfl
def qal:Nat->(Nat->Bool)->Bool
 |0,_=>true
 |k+1,f=>bif f k then qal k f else false
theorem yK: ∀{k:Nat} {f:Nat->Bool},qal k f=true-> ∀i,i<k->f i=true
 |0,f,h,i,hi=>by omega
 |k+1,f,h,i,hi=>by
  unfold qal at h
  cases c:f k with
  |false=>rw[c]at h;cases h
  |true=>
   rw[c,cond_true]at h;by_cases e:i=k
   ·subst e;exact c
   exact yK h i (by omega)
def eqN:List Nat->List Nat->Bool
 |[],[]=>true
 |a::l,b::k=>bif Nat.beq a b then eqN l k else false
 |_,_=>false
theorem qeF: ∀{l k:List Nat},eqN l k=true->l=k
 |[],[],h=>rfl
 |a::l,b::k,h=>by
  unfold eqN at h
  cases c:Nat.beq a b with
  |false=>rw[c]at h;cases h
  |true=>rw[c,cond_true]at h;rw[Nat.eq_of_beq_eq_true c,qeF h]
 |[],b::k,h=>by cases h
 |a::l,[],h=>by cases h
def QTb.ck2 (T:QTb) (s x:Nat):Bool:=
 match qdF T.n (T.n*T.n) (T.dec s) (T.dec x)with
 |(p,q)=>bif Nat.blt (T.a s x) T.cnt then bif Nat.blt (T.b s x) T.cnt then bif eqN p (T.dec (T.a s x))then bif eqN q (T.dec (T.b s x))then
  bif Nat.beq (T.a s x) s then bif Nat.beq (T.b s x) x then(qeo (T.dec s) (T.dec x) (T.n-1)).isNone else true else true else false else false else false else false
def QTb.ck1 (T:QTb) (c:Nat):Bool:=
 bif eqN (qfk T.n (T.dec c)) (T.dec (T.fl c))then bif Nat.blt (T.fl c) T.cnt then
  bif Nat.beq (T.a T.idc c) c then bif Nat.beq (T.b T.idc c) T.idc then bif Nat.beq (T.a T.half c) T.half then bif Nat.beq (T.b T.half c) c then bif Nat.beq (T.a c T.idc) c then Nat.beq (T.b c T.idc) T.idc else false else false else false else false else false else false else false
def QTb.ckl (T:QTb) (i:Nat):Bool:=
 bif eqN (T.dec (T.pos.getD i 0)) (qfr i (List.range T.n))then bif eqN (T.dec (T.neg.getD i 0)) (qbk i (qbW T.n))then bif Nat.blt (T.pos.getD i 0) T.cnt then Nat.blt (T.neg.getD i 0) T.cnt else false else false else false
def QTb.ck0 (T:QTb):Bool:=
 bif eqN (T.dec T.idc) (List.range T.n)then bif eqN (T.dec T.half) (qbW T.n)then bif Nat.blt T.idc T.cnt then bif Nat.blt T.half T.cnt then
  bif Nat.beq (T.fl T.idc) T.idc then Nat.beq (T.fl T.half) T.half else false else false else false else false else false
def QTb.ckd (T:QTb) (s x:Nat):Bool:=bif eqN (T.dec s) (T.dec x)then Nat.beq s x else true
def QTb.ck (T:QTb):Bool:=
 bif T.ck0 then bif qal (T.n-1) T.ckl then bif qal T.cnt T.ck1 then bif qal T.cnt (fun s=>qal T.cnt (T.ck2 s))then qal T.cnt (fun s=>qal T.cnt (T.ckd s))else false else false else false else false
theorem kr {a b:Bool} (h:(bif a then b else false)=true):a=true/\b=true:=by
 cases a<;>simp_all
structure QTb.Ok (T:QTb):Prop where
 a_: ∀s x,s<T.cnt->x<T.cnt->T.a s x<T.cnt
 b_: ∀s x,s<T.cnt->x<T.cnt->T.b s x<T.cnt
 pr: ∀s x,s<T.cnt->x<T.cnt->qdF T.n (T.n*T.n) (T.dec s) (T.dec x)=(T.dec (T.a s x),T.dec (T.b s x))
 nf: ∀s x,s<T.cnt->x<T.cnt->T.a s x=s->T.b s x=x->qeo (T.dec s) (T.dec x) (T.n-1)=none
 fl: ∀c,c<T.cnt->qfk T.n (T.dec c)=T.dec (T.fl c)
 fl_: ∀c,c<T.cnt->T.fl c<T.cnt
 ida: ∀c,c<T.cnt->T.a T.idc c=c
 idb: ∀c,c<T.cnt->T.b T.idc c=T.idc
 haa: ∀c,c<T.cnt->T.a T.half c=T.half
 hab: ∀c,c<T.cnt->T.b T.half c=c
 ria: ∀c,c<T.cnt->T.a c T.idc=c
 rib: ∀c,c<T.cnt->T.b c T.idc=T.idc
 po: ∀i,i+1<T.n->T.dec (T.pos.getD i 0)=qfr i (List.range T.n)/\T.pos.getD i 0<T.cnt
 ne: ∀i,i+1<T.n->T.dec (T.neg.getD i 0)=qbk i (qbW T.n)/\T.neg.getD i 0<T.cnt
 id:T.dec T.idc=List.range T.n
 ha:T.dec T.half=qbW T.n
 id_:T.idc<T.cnt
 ha_:T.half<T.cnt
 fi:T.fl T.idc=T.idc
 fh:T.fl T.half=T.half
 inj: ∀s x,s<T.cnt->x<T.cnt->T.dec s=T.dec x->s=x
theorem qkX: ∀l:List Nat,eqN l l=true
 |[]=>rfl
 |a::l=>by rw[eqN,Nat.beq_refl,cond_true,qkX l]
theorem qfu {a b:Nat} (h:Nat.blt a b=true):a<b:=by simpa[Nat.blt_eq]using h
theorem y9 {a b:Nat} (h:Nat.beq a b=true):a=b:=Nat.eq_of_beq_eq_true h
theorem QTb.ok {T:QTb} (h:T.ck=true):T.Ok:=by
 obtain⟨h0,h⟩:=kr h;obtain⟨h1,h⟩:=kr h;obtain⟨h2,h⟩:=kr h;obtain⟨h3,h4⟩:=kr h;obtain⟨z1,z⟩:=kr h0;obtain⟨z2,z⟩:=kr z;obtain⟨z3,z⟩:=kr z;obtain⟨z4,z⟩:=kr z;obtain⟨z5,z6⟩:=kr z
 have c2:=fun(s x:Nat) (hs:s<T.cnt) (hx:x<T.cnt)=>yK (yK h3 s hs) x hx
 have c2': ∀s x,s<T.cnt->x<T.cnt->T.a s x<T.cnt/\T.b s x<T.cnt/\qdF T.n (T.n*T.n) (T.dec s) (T.dec x)=(T.dec (T.a s x),T.dec (T.b s x))/\(T.a s x=s->T.b s x=x->qeo (T.dec s) (T.dec x) (T.n-1)=none):=fun s x hs hx=>by
  have:=c2 s x hs hx;unfold QTb.ck2 at this;rcases e:qdF T.n (T.n*T.n) (T.dec s) (T.dec x)with⟨p,q⟩
  rw[e]at this;obtain⟨y1,y⟩:=kr this;obtain⟨y2,y⟩:=kr y;obtain⟨y3,y⟩:=kr y;obtain⟨y4,y⟩:=kr y;refine⟨qfu y1,qfu y2,by rw[qeF y3,qeF y4],fun ea eb=>?_⟩;rw[ea,eb,Nat.beq_refl,Nat.beq_refl,cond_true,cond_true]at y;exact Option.isNone_iff_eq_none.1 y
 have c1: ∀c,c<T.cnt->qfk T.n (T.dec c)=T.dec (T.fl c)/\T.fl c<T.cnt/\T.a T.idc c=c/\T.b T.idc c=T.idc/\T.a T.half c=T.half/\T.b T.half c=c/\T.a c T.idc=c/\T.b c T.idc=T.idc:=fun c hc=>by
  obtain⟨y1,y⟩:=kr (yK h2 c hc);obtain⟨y2,y⟩:=kr y;obtain⟨y3,y⟩:=kr y;obtain⟨y4,y⟩:=kr y;obtain⟨y5,y⟩:=kr y;obtain⟨y6,y⟩:=kr y;obtain⟨y7,y8⟩:=kr y;exact⟨qeF y1,qfu y2,y9 y3,y9 y4,y9 y5,y9 y6,y9 y7,y9 y8⟩
 have cl: ∀i,i+1<T.n->(T.dec (T.pos.getD i 0)=qfr i (List.range T.n)/\T.pos.getD i 0<T.cnt)/\(T.dec (T.neg.getD i 0)=qbk i (qbW T.n)/\T.neg.getD i 0<T.cnt):=fun i hi=>by
  obtain⟨y1,y⟩:=kr (yK h1 i (by omega));obtain⟨y2,y⟩:=kr y;obtain⟨y3,y4⟩:=kr y;exact⟨⟨qeF y1,qfu y3⟩,qeF y2,qfu y4⟩
 refine⟨fun s x a b=>(c2' s x a b).1,fun s x a b=>(c2' s x a b).2.1,fun s x a b=>(c2' s x a b).2.2.1,fun s x a b=>(c2' s x a b).2.2.2,fun c h=>(c1 c h).1,fun c h=>(c1 c h).2.1,fun c h=>(c1 c h).2.2.1,fun c h=>(c1 c h).2.2.2.1,fun c h=>(c1 c h).2.2.2.2.1,fun c h=>(c1 c h).2.2.2.2.2.1,fun c h=>(c1 c h).2.2.2.2.2.2.1,fun c h=>(c1 c h).2.2.2.2.2.2.2,fun i h=>(cl i h).1,fun i h=>(cl i h).2,qeF z1,qeF z2,qfu z3,qfu z4,y9 z5,y9 z6,fun s x hs hx e=>?_⟩;have:=yK (yK h4 s hs) x hx;unfold QTb.ckd at this;rw[e,qkX,cond_true]at this;exact y9 this
def Cod (T:QTb) (R:List Nat):Prop:= ∀c∈R,c<T.cnt
theorem Cod.nil (T:QTb):Cod T []:=fun c h=>by cases h
theorem Cod.cons {T:QTb} {x:Nat} {R:List Nat} (h:x<T.cnt) (k:Cod T R):Cod T (x::R):=fun c hc=>by
 rcases List.mem_cons.1 hc with rfl|hc
 ·exact h
 exact k c hc
theorem Cod.hd {T:QTb} {x:Nat} {R:List Nat} (h:Cod T (x::R)):x<T.cnt:=h x List.mem_cons_self
theorem Cod.tl {T:QTb} {x:Nat} {R:List Nat} (h:Cod T (x::R)):Cod T R:=fun c hc=>h c (List.mem_cons_of_mem _ hc)
theorem qcs {T:QTb} (hT:T.Ok): ∀{R:List Nat} {x:Nat},x<T.cnt->Cod T R->Cod T (qpN T x R)
 |[],x,hx,h=>Cod.cons hx (Cod.nil T)
 |s::r,x,hx,h=>by
  rw[qar];exact Cod.cons (hT.b_ _ _ h.hd hx) (qcs hT (hT.a_ _ _ h.hd hx) h.tl)
theorem qkh {T:QTb} (hT:T.Ok): ∀{R:List Nat} {x:Nat},x<T.cnt->Cod T R->qgX T.n (T.dec x) (R.map T.dec)=(qpN T x R).map T.dec
 |[],x,hx,h=>rfl
 |s::r,x,hx,h=>by
  rw[qar,List.map_cons,List.map_cons,qgX,hT.pr s x h.hd hx];dsimp only;rw[qkh hT (hT.a_ _ _ h.hd hx) h.tl]
theorem qeZ {T:QTb} (hT:T.Ok) {R:List Nat} (h:Cod T R):Cod T (R.map T.fl):=fun c hc=>by
 obtain⟨d,hd,rfl⟩:=List.mem_map.1 hc;exact hT.fl_ d (h d hd)
theorem qnZ {T:QTb} (hT:T.Ok): ∀{R:List Nat},Cod T R->(R.map T.dec).map (qfk T.n)=(R.map T.fl).map T.dec
 |[],h=>rfl
 |s::r,h=>by
  rw[List.map_cons,List.map_cons,List.map_cons,List.map_cons,hT.fl s h.hd,qnZ hT h.tl]
def nfN (T:QTb):List Nat->Bool
 |[]=>true
 |x::r=>match r with
  |[]=>true
  |s::_=>bif Nat.beq (T.a s x) s then bif Nat.beq (T.b s x) x then nfN T r else false else false
theorem qrq {T:QTb} (hT:T.Ok): ∀{R:List Nat},Cod T R->nfN T R=true->qnf T.n (R.map T.dec)=true
 |[],h,k=>rfl
 |[x],h,k=>rfl
 |x::s::r,h,k=>by
  unfold nfN at k;obtain⟨k1,k⟩:=kr k;obtain⟨k2,k⟩:=kr k;have hr:=qrq hT h.tl k;rw[List.map_cons,List.map_cons,qnf];rw[List.map_cons]at hr;rw[hr,hT.nf s x h.tl.hd h.hd (y9 k1) (y9 k2)];rfl
theorem qdC {T:QTb} {x s:Nat} {r:List Nat} (h1:T.a s x=s) (h2:T.b s x=x) (h:nfN T (s::r)=true):nfN T (x::s::r)=true:=by
 rw[nfN];rw[h1,h2,Nat.beq_refl,Nat.beq_refl,cond_true,cond_true,h]
theorem qta {T:QTb} {x:Nat} (h:x<T.cnt) (k:Nat):Cod T (List.replicate k x):=fun c hc=>by
 rw[(List.mem_replicate.1 hc).2];exact h
theorem Cod.app {T:QTb} {R S:List Nat} (h:Cod T R) (k:Cod T S):Cod T (R++S):=fun c hc=>(List.mem_append.1 hc).elim (h c) (k c)
theorem Cod.left {T:QTb} {R S:List Nat} (h:Cod T (R++S)):Cod T R:=fun c hc=>h c (List.mem_append_left _ hc)
theorem Cod.right {T:QTb} {R S:List Nat} (h:Cod T (R++S)):Cod T S:=fun c hc=>h c (List.mem_append_right _ hc)
theorem qqH {T:QTb} (hT:T.Ok) {M:List Nat} (hM:Cod T M) (hn:nfN T M=true) (d h:Nat):nfN T (List.replicate d T.idc++(M++List.replicate h T.half))=true:=by
 have tail: ∀{R:List Nat},Cod T R->nfN T R=true->nfN T (R++List.replicate h T.half)=true:=by
  intro R
  induction R with
  |nil=>
   intro _ _;rw[List.nil_append]
   induction h with
   |zero=>rfl
   |succ k ih=>
    cases k with
    |zero=>rfl
    |succ k=>
     rw[List.replicate_succ,List.replicate_succ];rw[List.replicate_succ]at ih;exact qdC (hT.haa _ hT.ha_) (hT.hab _ hT.ha_) ih
  |cons x r ih=>
   intro hc hr
   cases r with
   |nil=>
    cases h with
    |zero=>rfl
    |succ k=>
     have:=ih (Cod.nil T) rfl;rw[List.nil_append,List.replicate_succ]at this;rw[List.replicate_succ];exact qdC (hT.haa _ hc.hd) (hT.hab _ hc.hd) this
   |cons s r=>
    unfold nfN at hr;obtain⟨k1,k⟩:=kr hr;obtain⟨k2,k⟩:=kr k;exact qdC (y9 k1) (y9 k2) (ih hc.tl k)
 have h1:=tail hM hn;have c1:Cod T (M++List.replicate h T.half):=hM.app (qta hT.ha_ h);generalize M++List.replicate h T.half=R at*
 induction d with
 |zero=>exact h1
 |succ d ih=>
  cases d with
  |zero=>
   cases R with
   |nil=>rfl
   |cons s r=>
    exact qdC (hT.ria _ c1.hd) (hT.rib _ c1.hd) h1
  |succ d=>
   rw[List.replicate_succ,List.replicate_succ,List.cons_append,List.cons_append];rw[List.replicate_succ,List.cons_append]at ih;exact qdC (hT.ida _ hT.id_) (hT.idb _ hT.id_) ih
end Go.Av
end
section
namespace Go.Av
def shd (z:Nat):List Nat->List Nat
 |[]=>[]
 |x::r=>bif Nat.beq x z then shd z r else x::r
def stl (z:Nat):List Nat->Nat×List Nat
 |[]=>(0,[])
 |x::r=>match stl z r with
  |(h,[])=>bif Nat.beq x z then(h+1,[])else(h,[x])
  |(h,y::l)=>(h,x::y::l)
theorem qrF (z:Nat): ∀M:List Nat,∃d,M=List.replicate d z++shd z M
 |[]=>⟨0,rfl⟩
 |x::r=>by
  unfold shd
  cases c:Nat.beq x z with
  |false=>exact⟨0,rfl⟩
  |true=>
   obtain⟨d,hd⟩:=qrF z r;refine⟨d+1,?_⟩;rw[cond_true,List.replicate_succ,List.cons_append,<-hd,y9 c]
theorem qnj (z:Nat): ∀M:List Nat,M=(stl z M).2++List.replicate (stl z M).1 z
 |[]=>rfl
 |x::r=>by
  have ih:=qnj z r;unfold stl;rcases e:stl z r with⟨h,l⟩
  rw[e]at ih
  cases l with
  |nil=>
   dsimp only
   cases c:Nat.beq x z with
   |false=>rw[cond_false];rw[ih];rfl
   |true=>rw[cond_true];rw[ih,y9 c];rfl
  |cons y l=>dsimp only;rw[ih];rfl
abbrev FmN:=Nat×List Nat
def fmS (T:QTb) (H:Nat) (M:List Nat):FmN:=match stl T.half (shd T.idc M)with|(h,l)=>(Nat.add H h,l)
def fmN (T:QTb) (i:Nat) (p:Bool) (s:FmN):FmN:=
 bif p then fmS T s.1 (qpN T (T.pos.getD i 0) s.2)else fmS T (Nat.sub s.1 1) (qpN T (T.neg.getD i 0) (s.2.map T.fl))
theorem qss (T:QTb) (H:Nat) (M:List Nat): ∃d h,M=List.replicate d T.idc++((fmS T H M).2++List.replicate h T.half)/\(fmS T H M).1=H+h:=by
 obtain⟨d,hd⟩:=qrF T.idc M;have h2:=qnj T.half (shd T.idc M);refine⟨d,(stl T.half (shd T.idc M)).1,?_,rfl⟩;rw[show(fmS T H M).2=(stl T.half (shd T.idc M)).2 from rfl,<-h2,<-hd]
structure RS (T:QTb) (k:Nat) (R:List Nat) (s:FmN):Prop where
 cod:Cod T R
 sh: ∃d h,R=List.replicate d T.idc++(s.2++List.replicate h T.half)/\s.1+k=16+h
theorem RS.nil (T:QTb):RS T 0 [] (16,[]):=⟨Cod.nil T,0,0,rfl,rfl⟩
theorem qn3 {T:QTb} (hT:T.Ok) {x:Nat} (hx:x<T.cnt) (R:List Nat): ∀d,qpN T x (List.replicate d T.idc++R)=List.replicate d T.idc++qpN T x R
 |0=>rfl
 |d+1=>by
  rw[List.replicate_succ,List.cons_append,List.cons_append,qar,hT.idb x hx,hT.ida x hx,qn3 hT hx R d]
theorem qia {T:QTb} (hT:T.Ok) {x:Nat} (hx:x<T.cnt): ∀h,qpN T x (List.replicate h T.half)=x::List.replicate h T.half
 |0=>rfl
 |h+1=>by
  rw[List.replicate_succ,qar,hT.hab x hx,hT.haa x hx,qia hT hT.ha_ h]
theorem qn5 {T:QTb} (hT:T.Ok) (h:Nat): ∀{M:List Nat} {x:Nat},x<T.cnt->Cod T M->qpN T x (M++List.replicate h T.half)=qpN T x M++List.replicate h T.half
 |[],x,hx,hM=>by rw[List.nil_append,qia hT hx];rfl
 |s::M,x,hx,hM=>by
  rw[List.cons_append,qar,qar,qn5 hT h (hT.a_ _ _ hM.hd hx) hM.tl];rfl
theorem qsY {α:Type} (a b:Nat) (x:α) (l:List α):List.replicate a x++(List.replicate b x++l)=List.replicate (a+b) x++l:=by
 rw[<-Yz,List.replicate_append_replicate]
theorem RS.pass {T:QTb} (hT:T.Ok) {k:Nat} {R:List Nat} {H:Nat} {M:List Nat} (h:RS T k R (H,M)) {x:Nat} (hx:x<T.cnt):RS T k (qpN T x R) (fmS T H (qpN T x M)):=by
 obtain⟨c,d,h0,e,e2⟩:=h;dsimp only at e e2;subst e;have hM:Cod T M:=c.right.left;obtain⟨d',h',f1,f2⟩:=qss T H (qpN T x M);refine⟨qcs hT hx c,d+d',h'+h0,?_,by omega⟩;rw[qn3 hT hx,qn5 hT h0 hx hM]
 conv=>lhs;rw[f1]
 rw[Yz,Yz,List.replicate_append_replicate,qsY]
theorem RS.flip {T:QTb} (hT:T.Ok) {k:Nat} {R:List Nat} {H:Nat} {M:List Nat} (h:RS T k R (H,M)) (hH:1<=H):RS T (k+1) (R.map T.fl) (H-1,M.map T.fl):=by
 obtain⟨c,d,h0,e,e2⟩:=h;dsimp only at e e2;subst e;refine⟨qeZ hT c,d,h0,?_,by dsimp only;omega⟩;rw[List.map_append,List.map_append,List.map_replicate,List.map_replicate,hT.fi,hT.fh]
def rwN (T:QTb) (R:List Nat) (c:Int):List Nat:=if 0<c then qpN T (T.pos.getD (c.natAbs-1) 0) R else qpN T (T.neg.getD (c.natAbs-1) 0) (R.map T.fl)
def fmL (T:QTb) (s:FmN) (c:Int):FmN:=fmN T (c.natAbs-1) (decide (0<c)) s
def ngN (k:Nat) (c:Int):Nat:=if 0<c then k else k+1
theorem RS.step {T:QTb} (hT:T.Ok) {k:Nat} {R:List Nat} {s:FmN} (h:RS T k R s) {c:Int} (hc:c≠0/\ -(T.n:Int)<c/\c<T.n) (hH:1<=s.1):RS T (ngN k c) (rwN T R c) (fmL T s c):=by
 obtain⟨i,hi⟩: ∃i,c.natAbs=i+1:=⟨c.natAbs-1,by omega⟩
 have hin:i+1<T.n:=by omega
 unfold rwN fmL fmN ngN;rw[hi,Nat.add_sub_cancel];obtain⟨H,M⟩:=s;by_cases hp:0<c
 ·rw[if_pos hp,if_pos hp,decide_eq_true hp,cond_true];exact h.pass hT (hT.po i hin).2
 rw[if_neg hp,if_neg hp,decide_eq_false hp,cond_false];exact(h.flip hT hH).pass hT (hT.ne i hin).2
theorem qtg {T:QTb} (hT:T.Ok) {R:List Nat} (h:Cod T R) {c:Int} (hc:c≠0/\ -(T.n:Int)<c/\c<T.n):qjJ T.n (R.map T.dec) c=(rwN T R c).map T.dec:=by
 obtain⟨i,hi⟩: ∃i,c.natAbs=i+1:=⟨c.natAbs-1,by omega⟩
 have hin:i+1<T.n:=by omega
 unfold qjJ rwN;rw[hi,Nat.add_sub_cancel];by_cases hp:0<c
 ·rw[if_pos hp,if_pos hp,<-(hT.po i hin).1,qkh hT (hT.po i hin).2 h]
 rw[if_neg hp,if_neg hp,<-(hT.ne i hin).1,qnZ hT h,qkh hT (hT.ne i hin).2 (qeZ hT h)]
end Go.Av
end
section
namespace Go.Av
def qb9 (s:List Int) (x:Int):List Int:=match s with
 |[]=>[x]
 |y::t=>if y= -x then t else x::y::t
theorem qgK (x:Int):qb9 [] x=[x]:=rfl
theorem qb6 {x y:Int} (t:List Int) (h:y= -x):qb9 (y::t) x=t:=if_pos h
theorem qbX {x y:Int} (t:List Int) (h: ¬y= -x):qb9 (y::t) x=x::y::t:=if_neg h
def fact (s w:List Int):List Int:=w.foldl qb9 s
def fred (w:List Int):List Int:=(fact [] w).reverse
def zJ (w:List Int):List Int:=(w.map fun x=> -x).reverse
def qae:List Int->Prop
 |[]=>True
 |x::t=>x≠0/\(∀y∈t.head?,y≠ -x)/\qae t
def Nz (w:List Int):Prop:= ∀x∈w,x≠0
theorem Nz.app {u v:List Int} (h:Nz u) (k:Nz v):Nz (u++v):=fun x hx=>(List.mem_append.1 hx).elim (h x) (k x)
theorem Nz.left {u v:List Int} (h:Nz (u++v)):Nz u:=fun x hx=>h x (List.mem_append_left _ hx)
theorem Nz.right {u v:List Int} (h:Nz (u++v)):Nz v:=fun x hx=>h x (List.mem_append_right _ hx)
theorem Nz.inv {u:List Int} (h:Nz u):Nz (zJ u):=fun x hx=>by
 simp only[zJ,List.mem_reverse,List.mem_map]at hx;obtain⟨y,hy,rfl⟩:=hx;have:=h y hy;omega
theorem qhI:zJ []=[]:=rfl
theorem qrc (u v:List Int):zJ (u++v)=zJ v++zJ u:=by simp[zJ]
theorem qqC (x:Int):zJ [x]=[-x]:=rfl
theorem qaB (x:Int) (u:List Int):zJ (x::u)=zJ u++[-x]:=by simp[zJ]
theorem qgO (u:List Int):zJ (zJ u)=u:=by simp[zJ,List.map_reverse,Function.comp_def]
theorem xU (s u v:List Int):fact s (u++v)=fact (fact s u) v:=by simp[fact]
theorem qdz (s:List Int) (x:Int):fact s [x]=qb9 s x:=rfl
theorem qji (s:List Int) (x:Int) (w:List Int):fact s (x::w)=fact (qb9 s x) w:=rfl
theorem qpy {s:List Int} {x:Int} (h:qae s) (hx:x≠0):qae (qb9 s x):=by
 cases s with
 |nil=>exact⟨hx,by simp,trivial⟩
 |cons y t=>
  unfold qb9;dsimp only;split
  ·exact h.2.2
  rename_i n;exact⟨hx,by intro z hz;simp at hz;subst hz;exact n,h⟩
theorem qfP {s w:List Int} (h:qae s) (hw:Nz w):qae (fact s w):=by
 induction w generalizing s with
 |nil=>exact h
 |cons x w ih=>exact ih (qpy h (hw x (List.mem_cons_self ..))) (fun y hy=>hw y (List.mem_cons_of_mem _ hy))
theorem qiW {s:List Int} {x:Int} (h:qae s) (hx:x≠0):qb9 (qb9 s x) (-x)=s:=by
 cases s with
 |nil=>rw[qgK,qb6 _ (by omega)]
 |cons y t=>
  by_cases n:y= -x
  ·rw[qb6 t n]
   cases t with
   |nil=>rw[qgK,n]
   |cons z t=>
    have:=h.2.1 z (by simp);rw[qbX _ (by omega),n]
  rw[qbX t n,qb6 _ (by omega)]
theorem qqr {s w:List Int} {x:Int} (h:x∈fact s w):x∈s\/x∈w:=by
 induction w generalizing s with
 |nil=>exact .inl h
 |cons y w ih=>
  rcases ih h with h|h
  ·cases s with
   |nil=>simp[qb9]at h;exact .inr (by simp[h])
   |cons z t=>
    unfold qb9 at h;dsimp only at h;split at h
    ·exact .inl (List.mem_cons_of_mem _ h)
    rcases List.mem_cons.1 h with h|h
    ·exact .inr (by simp[h])
    exact .inl h
  exact .inr (List.mem_cons_of_mem _ h)
theorem qit {w:List Int} {x:Int} (h:x∈fred w):x∈w:=by
 rcases qqr (List.mem_reverse.1 h)with h|h
 ·cases h
 exact h
theorem qhB {w:List Int} (h:Nz w):Nz (fred w):=fun x hx=>h x (qit hx)
theorem qpb {w:List Int} (hw:Nz w): ∀{s:List Int},qae s->fact s (fred w)=fact s w:=by
 suffices∀(r:List Int),Nz r-> ∀{s:List Int},qae s->fact s (fred r.reverse)=fact s r.reverse by
  intro s hs;have:=this w.reverse (fun x hx=>hw x (List.mem_reverse.1 hx)) hs;simpa using this
 intro r
 induction r with
 |nil=>intro _ s _;rfl
 |cons x r ih=>
  intro hr s hs;have hx:x≠0:=hr x (List.mem_cons_self ..)
  have hr':Nz r:=fun y hy=>hr y (List.mem_cons_of_mem _ hy)
  have hrr:Nz r.reverse:=fun y hy=>hr' y (List.mem_reverse.1 hy)
  have e:=ih hr' hs;have hR:qae (fact [] r.reverse):=qfP trivial hrr;rw[List.reverse_cons,xU,<-e,qdz]
  have g:fred (r.reverse++[x])=(qb9 (fact [] r.reverse) x).reverse:=by
   unfold fred;rw[xU,qdz]
  rw[g];have f:fred r.reverse=(fact [] r.reverse).reverse:=rfl;rw[f]
  cases c:fact [] r.reverse with
  |nil=>rfl
  |cons y t=>
   rw[c]at hR;by_cases n:y= -x
   ·rw[qb6 t n,List.reverse_cons,xU,qdz]
    have hS:qae (fact s t.reverse):=by
     refine qfP hs (fun z hz=>?_);refine qhB hrr z ?_;rw[f,c,List.reverse_cons];exact List.mem_append_left _ hz
    have:=qiW hS (x:= -x) (by omega);rw[Int.neg_neg]at this;rw[n,this]
   rw[qbX t n,List.reverse_cons,xU,qdz]
end Go.Av
end
section
namespace Go.Av
def Feq (u v:List Int):Prop:= ∀s,qae s->fact s u=fact s v
theorem Feq.rfl_ {u:List Int}:Feq u u:=fun s _=>rfl
theorem Feq.symm {u v:List Int} (h:Feq u v):Feq v u:=fun s hs=>(h s hs).symm
theorem Feq.trans {u v w:List Int} (h:Feq u v) (k:Feq v w):Feq u w:=fun s hs=>(h s hs).trans (k s hs)
theorem Feq.app {u v x y:List Int} (hu:Nz u) (h:Feq u v) (k:Feq x y):Feq (u++x) (v++y):=fun s hs=>by
 rw[xU,xU,<-h s hs,k _ (qfP hs hu)]
theorem Feq.red {u:List Int} (h:Nz u):Feq (fred u) u:=fun s hs=>qpb h hs
theorem Feq.fred {u v:List Int} (h:Feq u v):fred u=fred v:=by
 unfold Go.Av.fred;rw[h [] trivial]
theorem qoU {s:List Int} (h:qae s):fact [] s.reverse=s:=by
 induction s with
 |nil=>rfl
 |cons x t ih=>
  rw[List.reverse_cons,xU,ih h.2.2,qdz]
  cases t with
  |nil=>rfl
  |cons y t=>exact qbX _ (h.2.1 y (by simp))
def FR (w:List Int):Prop:=qae w.reverse
theorem FR.fix {w:List Int} (h:FR w):fred w=w:=by
 have:=qoU h;rw[List.reverse_reverse]at this;unfold fred;rw[this,List.reverse_reverse]
theorem qoP {w:List Int} (h:Nz w):FR (fred w):=by
 unfold FR fred;rw[List.reverse_reverse];exact qfP trivial h
theorem Feq.uniq {u v:List Int} (hv:FR v) (h:Feq u v):Go.Av.fred u=v:=by rw[h.fred,hv.fix]
theorem qeJ (x:Int) (hx:x≠0):Feq [x,-x] []:=fun s hs=>qiW hs hx
theorem qjZ {u:List Int} (h:Nz u):Feq (u++zJ u) []:=by
 induction u with
 |nil=>exact .rfl_
 |cons x u ih=>
  have hx:=h x (List.mem_cons_self ..)
  have hu:Nz u:=fun y hy=>h y (List.mem_cons_of_mem _ hy)
  rw[qaB,show x::u++(zJ u++[-x])=[x]++((u++zJ u)++[-x])by simp];refine Feq.trans (Feq.app (fun y hy=>?_) .rfl_ (Feq.app (hu.app hu.inv) (ih hu) .rfl_)) (qeJ x hx);simp at hy;omega
theorem qiS {u:List Int} (h:Nz u):Feq (zJ u++u) []:=by
 have:=qjZ h.inv
 rwa [qgO]at this
def qjV (x:List (List Int)) (g:Int):List Int:=if 0<g then x.getD (g-1).toNat []else zJ (x.getD (-g-1).toNat [])
def qb0 (x:List (List Int)) (w:List Int):List Int:=w.flatMap (qjV x)
theorem qb5 (x:List (List Int)) (u v:List Int):qb0 x (u++v)=qb0 x u++qb0 x v:=List.flatMap_append
theorem qfT (x:List (List Int)) (g:Int):qb0 x [g]=qjV x g:=by simp[qb0]
theorem qo4 (x:List (List Int)) (g:Int) (w:List Int):qb0 x (g::w)=qjV x g++qb0 x w:=by simp[qb0]
theorem ql0 (x:List (List Int)) {g:Int} (h:g≠0):qjV x (-g)=zJ (qjV x g):=by
 unfold qjV;by_cases p:0<g
 ·rw[if_neg (by omega),if_pos p,Int.neg_neg]
 rw[if_pos (by omega),if_neg p,qgO]
theorem qrP (x:List (List Int)) {w:List Int} (h:Nz w):qb0 x (zJ w)=zJ (qb0 x w):=by
 induction w with
 |nil=>rfl
 |cons g w ih=>
  rw[qaB,qb5,ih (fun y hy=>h y (List.mem_cons_of_mem _ hy)),qfT,ql0 x (h g (List.mem_cons_self ..)),qo4,qrc]
def Nzs (x:List (List Int)):Prop:= ∀w∈x,Nz w
theorem Nzs.getD {x:List (List Int)} (h:Nzs x) (k:Nat):Nz (x.getD k []):=by
 rw[Yy]
 cases c:x[k]? with
 |none=>intro y hy;simp at hy
 |some w=>exact h w (Yn c)
theorem qoo {x:List (List Int)} (h:Nzs x) (g:Int):Nz (qjV x g):=by
 unfold qjV;split
 ·exact h.getD _
 exact(h.getD _).inv
theorem qcm {x:List (List Int)} (h:Nzs x) (w:List Int):Nz (qb0 x w):=fun y hy=>by
 simp only[qb0,List.mem_flatMap]at hy;obtain⟨g,_,hg⟩:=hy;exact qoo h g y hg
theorem qjB {x:List (List Int)} (hx:Nzs x) {w:List Int} (hw:Nz w):Feq (qb0 x (fred w)) (qb0 x w):=by
 suffices∀(r:List Int),Nz r->Feq (qb0 x (fred r.reverse)) (qb0 x r.reverse)by
  have:=this w.reverse (fun y hy=>hw y (List.mem_reverse.1 hy));simpa using this
 intro r
 induction r with
 |nil=>intro _;exact .rfl_
 |cons g r ih=>
  intro hr;have hg:g≠0:=hr g (List.mem_cons_self ..)
  have hr':Nz r:=fun y hy=>hr y (List.mem_cons_of_mem _ hy)
  have hrr:Nz r.reverse:=fun y hy=>hr' y (List.mem_reverse.1 hy)
  have e:=ih hr'
  have k:fred (r.reverse++[g])=(qb9 (fact [] r.reverse) g).reverse:=by
   unfold fred;rw[xU,qdz]
  have f:fred r.reverse=(fact [] r.reverse).reverse:=rfl;rw[List.reverse_cons,k,qb5];refine Feq.trans ?_ (Feq.app (qcm hx _) e .rfl_);rw[f]
  cases c:fact [] r.reverse with
  |nil=>exact .rfl_
  |cons y t=>
   by_cases n:y= -g
   ·rw[qb6 t n,List.reverse_cons,qb5,qfT,n,ql0 x hg,qfT,Yz];refine Feq.symm ?_;have:=Feq.app (qcm hx t.reverse) .rfl_ (qiS (qoo hx g))
    rwa [YQ]at this
   rw[qbX t n,List.reverse_cons,qb5];exact .rfl_
theorem qae.app {s t:List Int}:qae (s++t)↔qae s/\qae t/\ ∀x∈s.getLast?,∀y∈t.head?,y≠ -x:=by
 induction s with
 |nil=>simp[qae]
 |cons a s ih=>
  cases s with
  |nil=>
   simp only[List.singleton_append,qae,List.head?_nil,List.getLast?_singleton];constructor
   ·rintro⟨h1,h2,h3⟩;exact⟨⟨h1,by simp,trivial⟩,h3,fun x hx y hy=>by simp at hx;subst hx;exact h2 y hy⟩
   rintro⟨⟨h1,_,_⟩,h3,h4⟩;exact⟨h1,fun y hy=>h4 a (by simp) y hy,h3⟩
  |cons b s=>
   have e:(a::b::s).getLast? =(b::s).getLast? :=by simp[List.getLast?_cons_cons]
   rw[List.cons_append,e];simp only[qae]at ih⊢;rw[ih];simp only[List.cons_append,List.head?_cons];constructor
   ·rintro⟨h1,h2,h3,h4,h5⟩;exact⟨⟨h1,h2,h3⟩,h4,h5⟩
   rintro⟨⟨h1,h2,h3⟩,h4,h5⟩;exact⟨h1,h2,h3,h4,h5⟩
structure qjq (w:List Int) (u:List Int) (g:Int):Prop where
 eq_:w=u++[g]++zJ u
 pos:0<g
 red:FR w
end Go.Av
end
section
namespace Go.Av
theorem qae.rev {w:List Int} (h:qae w):qae w.reverse:=by
 induction w with
 |nil=>trivial
 |cons x t ih=>
  rw[List.reverse_cons,qae.app];refine⟨ih h.2.2,⟨h.1,by simp,trivial⟩,fun a ha y hy=>?_⟩;simp only[List.getLast?_reverse]at ha;simp at hy;have:=h.2.1 a ha;omega
theorem FR.of {w:List Int} (h:qae w):FR w:=h.rev
theorem FR.to {w:List Int} (h:FR w):qae w:=by
 have:=qae.rev h
 rwa [List.reverse_reverse]at this
theorem qae.nz {w:List Int} (h:qae w):Nz w:=by
 induction w with
 |nil=>intro x hx;simp at hx
 |cons y t ih=>
  intro x hx;rcases List.mem_cons.1 hx with e|e
  ·rw[e];exact h.1
  exact ih h.2.2 x e
theorem conj1 {w u:List Int} {g x:Int} (h:qjq w u g) (hx:x≠0): ∃u',Feq ([x]++w++[-x]) (u'++[g]++zJ u')/\FR (u'++[g]++zJ u'):=by
 have hg:=h.pos
 have nx: ∀{y:Int},y≠0->Nz [y]:=fun hy z hz=>by simp at hz;omega
 have hr:=h.red.to;have he:=h.eq_;subst he
 cases u with
 |nil=>
  simp only[qhI,List.nil_append,YQ]at hr⊢;by_cases e:x=g
  ·subst e;exact⟨[],by simpa[qhI]using Feq.app (nx hx) (.rfl_ (u:=[x])) (qeJ x hx),.of hr⟩
  by_cases e':x= -g
  ·subst e';refine⟨[],?_,.of hr⟩;have:=Feq.app ((nx hx).app (nx (by omega:g≠0))) (by have:=qeJ (-g) hx;rwa [Int.neg_neg]at this:Feq ([-g]++[g]) []) (.rfl_ (u:=[g]));simpa[qhI]using this
  refine⟨[x],by simpa[zJ]using Feq.rfl_,.of ?_⟩;simp only[qqC,List.singleton_append,List.cons_append,List.nil_append,qae,List.head?_cons,List.head?_nil];refine⟨hx,?_,by omega,?_,by omega,by simp,trivial⟩
  ·intro y hy;simp at hy;omega
  intro y hy;simp at hy;omega
 |cons y t=>
  have hy:y≠0:=hr.1;rw[qaB]at hr⊢
  have e1:y::t++[g]++(zJ t++[-y])=[y]++((t++[g]++zJ t)++[-y]):=by simp
  have hm:qae (t++[g]++zJ t):=by
   rw[e1,qae.app]at hr;exact(qae.app.1 hr.2.1).1
  by_cases e:y= -x
  ·refine⟨t,?_,.of hm⟩;rw[e1,e,Int.neg_neg];have a1:=Feq.app (Nz.app (nx hx) (nx (by omega: -x≠0))) (qeJ x hx) (Feq.app hm.nz .rfl_ (qeJ x hx));simpa using a1
  refine⟨x::y::t,?_,.of ?_⟩
  ·rw[qaB,qaB];simpa using Feq.rfl_
  have e2:x::y::t++[g]++zJ (x::y::t)=[x]++(((y::t++[g]++zJ t)++[-y])++[-x]):=by simp[qaB]
  have e3:y::t++[g]++(zJ t++[-y])=((y::t++[g]++zJ t)++[-y]):=by simp
  rw[e3]at hr;rw[e2,qae.app];refine⟨⟨hx,by simp,trivial⟩,?_,?_⟩
  ·rw[qae.app];refine⟨hr,⟨by omega,by simp,trivial⟩,fun a ha b hb=>?_⟩;rw[List.getLast?_append,List.getLast?_singleton,Option.some_or]at ha;simp at ha hb;omega
  intro a ha b hb;simp at ha hb;omega
theorem qtL {w u:List Int} {g:Int} (h:qjq w u g) {a:List Int} (ha:Nz a): ∃u',qjq (fred (a++w++zJ a)) u' g:=by
 suffices∃u',Feq (a++w++zJ a) (u'++[g]++zJ u')/\FR (u'++[g]++zJ u')by
  obtain⟨u',h1,h2⟩:=this;exact⟨u',h1.uniq h2,h.pos,by rw[h1.uniq h2];exact h2⟩
 induction a with
 |nil=>exact⟨u,by rw[h.eq_];simpa[zJ]using Feq.rfl_,by rw[<-h.eq_];exact h.red⟩
 |cons x a ih=>
  have hx:=ha x (List.mem_cons_self ..);obtain⟨u1,h1,h2⟩:=ih (fun y hy=>ha y (List.mem_cons_of_mem _ hy));obtain⟨u2,h3,h4⟩:=conj1 (x:=x) ⟨rfl,h.pos,h2⟩ hx;refine⟨u2,?_,h4⟩
  have nx:Nz [x]:=fun z hz=>by simp at hz;omega
  have hn:Nz (a++w++zJ a):=by
   have:Nz a:=fun y hy=>ha y (List.mem_cons_of_mem _ hy)
   exact(this.app h.red.to.nz).app this.inv
  have:=(Feq.app (nx.app hn) (Feq.app nx (.rfl_ (u:=[x])) h1) (.rfl_ (u:=[-x]))).trans h3;rw[qaB];simpa using this
def xI (im:List (List Int)) (c:Int):List (List Int):=
 let i:=c.natAbs-1;let a:=im.getD i [];let b:=im.getD (i+1) []
 if 0<c then(im.set i (fred (a++b++zJ a))).set (i+1) a else(im.set i b).set (i+1) (fred (zJ b++a++b))
theorem qby (im:List (List Int)) (c:Int):(xI im c).length=im.length:=by
 unfold xI;dsimp only;split<;>simp
theorem qp8 {im:List (List Int)} {i:Nat} (h:i+1<im.length): ∃p a b q,im=p++a::b::q/\p.length=i:=by
 refine⟨im.take i,im[i],im[i+1],im.drop (i+2),?_,by simp;omega⟩;rw[<-YG h,<-YG (by omega),List.take_append_drop]
theorem set2 (p:List (List Int)) (a b A B:List Int) (q:List (List Int)):((p++a::b::q).set p.length A).set (p.length+1) B=p++A::B::q:=by
 induction p with
 |nil=>rfl
 |cons x p ih=>
  simp only[List.cons_append,Yr,List.set_cons_succ];rw[ih]
theorem qld (p:List (List Int)) (a b:List Int) (q:List (List Int)):(p++a::b::q).getD p.length []=a:=by
 simp[List.getD_eq_getElem?_getD]
theorem qlj (p:List (List Int)) (a b:List Int) (q:List (List Int)):(p++a::b::q).getD (p.length+1) []=b:=by
 rw[Yy,Yo (by omega)];simp
theorem qlJ {p:List (List Int)} {a b:List Int} {q:List (List Int)} {c:Int} (h:c.natAbs-1=p.length):
 xI (p++a::b::q) c=if 0<c then p++fred (a++b++zJ a)::a::q else p++b::fred (zJ b++a++b)::q:=by
 unfold xI;dsimp only;rw[h,qld,qlj,set2,set2]
def iota1 (n:Nat):List Int:=(List.range n).map fun k:Nat=>((k:Nat):Int)+1
def fid (n:Nat):List (List Int):=(List.range n).map fun k:Nat=>[((k:Nat):Int)+1]
theorem qdX (n:Nat):(fid n).length=n:=by simp[fid]
theorem qsF {n k:Nat} (h:k<n):(fid n).getD k []=[(k:Int)+1]:=by
 rw[Yy];simp[fid,List.getElem?_map,List.getElem?_range h]
structure FOK (n:Nat) (im:List (List Int)) (row:List Int):Prop where
 len:im.length=n
 at_: ∀k,k<n-> ∃(u:List Int) (v:Nat),v<n/\row[k]? =some (v:Int)/\qjq (im.getD k []) u ((v:Int)+1)
 let_: ∀w∈im,∀y∈w,y≠0/\ -(n:Int)<=y/\y<=n
 prod:Feq im.flatten (iota1 n)
theorem FOK.nz {n:Nat} {im:List (List Int)} {row:List Int} (h:FOK n im row):Nzs im:=fun w hw y hy=>(h.let_ w hw y hy).1
theorem FOK.step {n:Nat} {im:List (List Int)} {row:List Int} (h:FOK n im row) {c:Int} (hc:c≠0/\ -(n:Int)<c/\c<n) {x y:Int}
 (hx:row[c.natAbs-1]? =some x) (hy:row[c.natAbs]? =some y) (hr:row.length=n):FOK n (xI im c) ((row.set (c.natAbs-1) y).set c.natAbs x):=by
 obtain⟨i,hi⟩: ∃i,c.natAbs=i+1:=⟨c.natAbs-1,by omega⟩
 have hin:i+1<n:=by omega
 rw[hi]at hx hy⊢;rw[Nat.add_sub_cancel]at hx⊢;obtain⟨p,a,b,q,e,hp⟩:=qp8 (im:=im) (i:=i) (by rw[h.len];exact hin);have hs:=qlJ (p:=p) (a:=a) (b:=b) (q:=q) (c:=c) (by omega);have h0:=h.at_ i (by omega);have h1:=h.at_ (i+1) hin;have hnz:=h.nz;subst e hp;rw[qld]at h0;rw[qlj]at h1;have ha:Nz a:=hnz a (by simp);have hb:Nz b:=hnz b (by simp);obtain⟨u0,v0,l0,r0,c0⟩:=h0;obtain⟨u1,v1,l1,r1,c1⟩:=h1
 have ex:x=(v0:Int):=by rw[hx]at r0;exact Ye r0
 have ey:y=(v1:Int):=by rw[hy]at r1;exact Ye r1
 subst ex ey;have la:=h.let_ a (by simp);have lb:=h.let_ b (by simp)
 have linv: ∀{w:List Int},(∀y∈w,y≠0/\ -(n:Int)<=y/\y<=n)-> ∀y∈zJ w,y≠0/\ -(n:Int)<=y/\y<=n:=fun hw y hy=>by
  simp only[zJ,List.mem_reverse,List.mem_map]at hy;obtain⟨z,hz,rfl⟩:=hy;have:=hw z hz;omega
 have lapp: ∀{u w:List Int},(∀y∈u,y≠0/\ -(n:Int)<=y/\y<=n)->(∀y∈w,y≠0/\ -(n:Int)<=y/\y<=n)-> ∀y∈u++w,y≠0/\ -(n:Int)<=y/\y<=n:=fun hu hw y hy=>(List.mem_append.1 hy).elim (hu y) (hw y)
 have key: ∃A B,xI (p++a::b::q) c=p++A::B::q/\(∃u,qjq A u ((v1:Int)+1))/\(∃u,qjq B u ((v0:Int)+1))/\(∀y∈A,y≠0/\ -(n:Int)<=y/\y<=n)/\(∀y∈B,y≠0/\ -(n:Int)<=y/\y<=n)/\Feq (A++B) (a++b):=by
  rw[hs];by_cases hpos:0<c
  ·rw[if_pos hpos];refine⟨_,_,rfl,qtL c1 ha,⟨u0,c0⟩,fun y hy=>lapp (lapp la lb) (linv la) y (qit hy),la,?_⟩;have hN:Nz (a++b++zJ a):=(ha.app hb).app ha.inv;refine Feq.trans (Feq.app (qhB hN) (Feq.red hN) .rfl_) ?_;have:=Feq.app (ha.app hb) (.rfl_ (u:=a++b)) (qiS ha);simpa using this
  rw[if_neg hpos];have cb:=qtL c0 hb.inv;rw[qgO]at cb;refine⟨_,_,rfl,⟨u1,c1⟩,cb,lb,fun y hy=>lapp (lapp (linv lb) la) lb y (qit hy),?_⟩;have hN:Nz (zJ b++a++b):=(hb.inv.app ha).app hb;refine Feq.trans (Feq.app hb .rfl_ (Feq.red hN)) ?_;have:=Feq.app (hb.app hb.inv) (qjZ hb) (.rfl_ (u:=a++b));simpa using this
 obtain⟨A,B,e1,cA,cB,lA,lB,hAB⟩:=key;rw[e1]
 have hlen:(p++A::B::q).length=n:=by
  have:=h.len;simp at this⊢;omega
 refine⟨hlen,fun k hk=>?_,fun w hw y hy=>?_,?_⟩
 ·by_cases k0:k=p.length
  ·subst k0;rw[qld,Yw (by omega),List.getElem?_set_self (by omega)];obtain⟨u,hu⟩:=cA;exact⟨u,v1,l1,rfl,hu⟩
  by_cases k1:k=p.length+1
  ·subst k1;rw[qlj,List.getElem?_set_self (by simp;omega)];obtain⟨u,hu⟩:=cB;exact⟨u,v0,l0,rfl,hu⟩
  rw[Yw (fun e=>k1 e.symm),Yw (fun e=>k0 e.symm)];have:=h.at_ k hk
  have e2:(p++A::B::q).getD k []=(p++a::b::q).getD k []:=by
   rw[Yy,Yy];rcases Nat.lt_or_ge k p.length with hlt|hge
   ·rw[Yf hlt,Yf hlt]
   obtain⟨j,rfl⟩: ∃j,k=p.length+(j+2):=⟨k-p.length-2,by omega⟩;rw[Yo (by omega),Yo (by omega),Nat.add_sub_cancel_left];rfl
  rw[e2];exact this
 ·simp only[List.mem_append,List.mem_cons]at hw;rcases hw with hw|rfl|rfl|hw
  ·exact h.let_ w (by simp[hw]) y hy
  ·exact lA y hy
  ·exact lB y hy
  exact h.let_ w (by simp[hw]) y hy
 refine Feq.trans ?_ h.prod
 have np:Nz p.flatten:=fun y hy=>by
  obtain⟨w,hw,hyw⟩:=List.mem_flatten.1 hy;exact hnz w (by simp[hw]) y hyw
 have nA:Nz A:=fun y hy=>(lA y hy).1
 have nB:Nz B:=fun y hy=>(lB y hy).1
 have:=Feq.app np (.rfl_ (u:=p.flatten)) (Feq.app (nA.app nB) hAB (.rfl_ (u:=q.flatten)));simpa using this
end Go.Av
end
section
namespace Go.Av
theorem getDo {p:List (List Int)} {a b A B:List Int} {q:List (List Int)} {k:Nat} (h0:k≠p.length) (h1:k≠p.length+1):(p++A::B::q).getD k []=(p++a::b::q).getD k []:=by
 rw[Yy,Yy];rcases Nat.lt_or_ge k p.length with hlt|hge
 ·rw[Yf hlt,Yf hlt]
 obtain⟨j,rfl⟩: ∃j,k=p.length+(j+2):=⟨k-p.length-2,by omega⟩;rw[Yo (by omega),Yo (by omega),Nat.add_sub_cancel_left];rfl
theorem qe5 {im:List (List Int)} {c:Int} {i:Nat} (hi:c.natAbs=i+1) (hl:i+1<im.length) (k:Nat):
 (xI im c).getD k []=if k=i then(if 0<c then fred (im.getD i []++im.getD (i+1) []++zJ (im.getD i []))else im.getD (i+1) [])
  else if k=i+1 then(if 0<c then im.getD i []else fred (zJ (im.getD (i+1) [])++im.getD i []++im.getD (i+1) []))else im.getD k []:=by
 obtain⟨p,a,b,q,e,hp⟩:=qp8 (im:=im) (i:=i) hl;subst e hp;rw[qlJ (by omega),qld,qlj];by_cases k0:k=p.length
 ·rw[if_pos k0,k0];split<;>rw[qld]
 rw[if_neg k0];by_cases k1:k=p.length+1
 ·rw[if_pos k1,k1];split<;>rw[qlj]
 rw[if_neg k1];split<;>exact getDo k0 k1
theorem qel {im:List (List Int)} (h:Nzs im) {c:Int} {i:Nat} (hi:c.natAbs=i+1) (hl:i+1<im.length):Nzs (xI im c):=by
 intro w hw;obtain⟨k,hk,rfl⟩:=List.getElem_of_mem hw
 have e:(xI im c)[k]=(xI im c).getD k []:=by rw[Yy,Ya hk];rfl
 rw[e,qe5 hi hl];have ha:=h.getD i;have hb:=h.getD (i+1);split
 ·split
  ·exact qhB ((ha.app hb).app ha.inv)
  exact hb
 split
 ·split
  ·exact ha
  exact qhB ((hb.inv.app ha).app hb)
 exact h.getD k
structure qkG (n:Nat) (x Y Z:List (List Int)):Prop where
 yl:Y.length=n
 zl:Z.length=n
 yn:Nzs Y
 zn:Nzs Z
 eq_: ∀k,k<n->Feq (qb0 x (Y.getD k [])) (Z.getD k [])
theorem qkG.step {n:Nat} {x Y Z:List (List Int)} (hx:Nzs x) (h:qkG n x Y Z) {c:Int} (hc:c≠0/\ -(n:Int)<c/\c<n):qkG n x (xI Y c) (xI Z c):=by
 obtain⟨i,hi⟩: ∃i,c.natAbs=i+1:=⟨c.natAbs-1,by omega⟩
 have hin:i+1<n:=by omega
 have yl:=h.yl;have zl:=h.zl;refine⟨by rw[qby,yl],by rw[qby,zl],qel h.yn hi (by omega),qel h.zn hi (by omega),fun k hk=>?_⟩;rw[qe5 hi (by omega),qe5 hi (by omega)];have ya:=h.yn.getD i;have yb:=h.yn.getD (i+1);have za:=h.zn.getD i;have zb:=h.zn.getD (i+1);have ea:=h.eq_ i (by omega);have eb:=h.eq_ (i+1) hin
 have inv: ∀{y z:List Int},Nz y->Nz z->Feq (qb0 x y) z->Feq (qb0 x (zJ y)) (zJ z):=fun {y z} hy hz e=>by
  rw[qrP x hy];have hs:=qcm hx y
  have t1:Feq (zJ (qb0 x y)) (zJ (qb0 x y)++(z++zJ z)):=by
   have:=(Feq.app hs.inv .rfl_ (qjZ hz)).symm;simpa using this
  have t2:Feq (zJ (qb0 x y)++(z++zJ z)) (zJ (qb0 x y)++(qb0 x y++zJ z)):=Feq.app hs.inv .rfl_ (Feq.app hz e.symm .rfl_)
  have t3:Feq (zJ (qb0 x y)++(qb0 x y++zJ z)) (zJ z):=by
   have:=Feq.app (hs.inv.app hs) (qiS hs) (.rfl_ (u:=zJ z));simpa using this
  exact(t1.trans t2).trans t3
 by_cases k0:k=i
 ·rw[if_pos k0,if_pos k0];by_cases hp:0<c
  ·rw[if_pos hp,if_pos hp];have hN:=(ya.app yb).app ya.inv;have hM:=(za.app zb).app za.inv;refine(qjB hx hN).trans (Feq.trans ?_ (Feq.red hM).symm);rw[qb5,qb5];exact Feq.app ((qcm hx _).app (qcm hx _)) (Feq.app (qcm hx _) ea eb) (inv ya za ea)
  rw[if_neg hp,if_neg hp];exact eb
 rw[if_neg k0,if_neg k0];by_cases k1:k=i+1
 ·rw[if_pos k1,if_pos k1];by_cases hp:0<c
  ·rw[if_pos hp,if_pos hp];exact ea
  rw[if_neg hp,if_neg hp];have hN:=(yb.inv.app ya).app yb;have hM:=(zb.inv.app za).app zb;refine(qjB hx hN).trans (Feq.trans ?_ (Feq.red hM).symm);rw[qb5,qb5];exact Feq.app ((qcm hx _).app (qcm hx _)) (Feq.app (qcm hx _) (inv yb zb eb) ea) eb
 rw[if_neg k1,if_neg k1];exact h.eq_ k hk
def qa6 (n:Nat) (w:List Int):List (List Int):=w.foldl xI (fid n)
theorem qgG (n:Nat) (a b:List Int):qa6 n (a++b)=b.foldl xI (qa6 n a):=by simp[qa6]
theorem qh7 (n:Nat):Nzs (fid n):=fun w hw y hy=>by
 simp only[fid,List.mem_map,List.mem_range]at hw;obtain⟨k,hk,rfl⟩:=hw;simp at hy;omega
def vD (n:Nat) (w:List Int):Prop:= ∀c∈w,c≠0/\ -(n:Int)<c/\c<n
theorem qkG.fold {n:Nat} {x:List (List Int)} (hx:Nzs x): ∀{w:List Int} {Y Z:List (List Int)},vD n w->qkG n x Y Z->qkG n x (w.foldl xI Y) (w.foldl xI Z)
 |[],Y,Z,hw,h=>h
 |c::w,Y,Z,hw,h=>by
  rw[List.foldl_cons,List.foldl_cons];exact qkG.fold hx (w:=w) (fun d hd=>hw d (List.mem_cons_of_mem _ hd)) (h.step hx (hw c (List.mem_cons_self ..)))
theorem qju (n:Nat): ∀(w:List Int) (im:List (List Int)),(w.foldl xI im).length=im.length
 |[],im=>rfl
 |c::w,im=>by rw[List.foldl_cons,qju n w,qby]
theorem qoy {n:Nat}: ∀{w:List Int} {im:List (List Int)},vD n w->im.length=n->Nzs im->Nzs (w.foldl xI im)
 |[],im,hw,hl,h=>h
 |c::w,im,hw,hl,h=>by
  have hc:=hw c (List.mem_cons_self ..);obtain⟨i,hi⟩: ∃i,c.natAbs=i+1:=⟨c.natAbs-1,by omega⟩;rw[List.foldl_cons];exact qoy (w:=w) (fun d hd=>hw d (List.mem_cons_of_mem _ hd)) (by rw[qby,hl]) (qel h hi (by omega))
theorem qi8 {n:Nat} {a b:List Int} (ha:vD n a) (hb:vD n b):qkG n (qa6 n a) (qa6 n b) (qa6 n (a++b)):=by
 rw[qgG];have hn:=qoy ha (qdX n) (qh7 n)
 have hl:(qa6 n a).length=n:=by unfold qa6;rw[qju n,qdX]
 refine qkG.fold hn hb ⟨qdX n,hl,qh7 n,hn,fun k hk=>?_⟩;rw[qsF hk,qfT];unfold qjV;rw[if_pos (by omega),show(((k:Int)+1)-1).toNat=k by omega];exact .rfl_
end Go.Av
end
section
namespace Go.Av
inductive QT (α:Type) where
 |e
 |lf (k:Nat) (s:α)
 |nd (l r:QT α)
section
variable {α:Type}
def QT.Mem:QT α->Nat->α->Prop
 | .e,_,_=>False
 | .lf k' s',k,s=>k=k'/\s=s'
 | .nd l r,k,s=>if k%2=1 then r.Mem (k/2) s else l.Mem (k/2) s
theorem QT.Mem.uniq: ∀{t:QT α} {k:Nat} {s s':α},t.Mem k s->t.Mem k s'->s=s'
 | .e,k,s,s',h,_=>h.elim
 | .lf k' x,k,s,s',h,h'=>h.2.trans h'.2.symm
 | .nd l r,k,s,s',h,h'=>by
   unfold QT.Mem at h h';split at h
   ·rename_i c;rw[if_pos c]at h';exact h.uniq h'
   rename_i c;rw[if_neg c]at h';exact h.uniq h'
theorem beqN {a b:Nat}:Nat.beq a b=true↔a=b:=⟨Nat.eq_of_beq_eq_true,fun h=>by subst h;exact Nat.beq_refl a⟩
theorem beqF {a b:Nat} (h:Nat.beq a b=false):a≠b:=fun e=>by rw[beqN.2 e]at h;cases h
end
end Go.Av
end
section
namespace Go.Av
def eqI:Int->Int->Bool
 | .ofNat a,.ofNat b=>Nat.beq a b
 | .negSucc a,.negSucc b=>Nat.beq a b
 |_,_=>false
def eqL {α:Type} (f:α->α->Bool):List α->List α->Bool
 |[],[]=>true
 |a::l,b::k=>bif f a b then eqL f l k else false
 |_,_=>false
theorem qj5: ∀(a b:Int),eqI a b=true->a=b
 | .ofNat a,.ofNat b,h=>by rw[beqN.1 h]
 | .negSucc a,.negSucc b,h=>by rw[beqN.1 h]
 | .ofNat a,.negSucc b,h=>by cases h
 | .negSucc a,.ofNat b,h=>by cases h
theorem qh1 {α:Type} {f:α->α->Bool} (hf: ∀a b,f a b=true->a=b): ∀(l k:List α),eqL f l k=true->l=k
 |[],[],h=>rfl
 |a::l,b::k,h=>by
  unfold eqL at h
  cases c:f a b with
  |false=>rw[c,cond_false]at h;cases h
  |true=>rw[c,cond_true]at h;rw[hf _ _ c,qh1 hf l k h]
 |[],b::k,h=>by cases h
 |a::l,[],h=>by cases h
def qn9 (s:List Int) (x:Int):List Int:=match s with
 |[]=>[x]
 |y::t=>bif eqI y (-x)then t else x::y::t
def qi4:List Int->List Int->List Int
 |s,[]=>s
 |s,x::w=>qi4 (qn9 s x) w
def qpR {α:Type}:List α->List α->List α
 |[],r=>r
 |a::l,r=>qpR l (a::r)
def qrR:List Int->List Int->List Int
 |[],r=>r
 |a::l,r=>qrR l (-a::r)
def qqO (a b:List Int):List Int:=qpR (qi4 (qi4 (qi4 [] a) b) (qrR a [])) []
def qpO (a b:List Int):List Int:=qpR (qi4 (qi4 (qi4 [] (qrR b [])) a) b) []
def qgU:Nat->Bool->List (List Int)->List (List Int)
 |0,true,a::b::l=>qqO a b::a::l
 |0,false,a::b::l=>b::qpO a b::l
 |i+1,p,a::l=>a::qgU i p l
 |_,_,l=>l
end Go.Av
end
section
namespace Go.Av
theorem qoH (a b:Int):eqI a b=true↔a=b:=⟨qj5 a b,fun h=>by subst h;cases a<;>exact Nat.beq_refl _⟩
theorem qp3 (s:List Int) (x:Int):qn9 s x=qb9 s x:=by
 cases s with
 |nil=>rfl
 |cons y t=>
  unfold qn9;dsimp only;by_cases h:y= -x
  ·rw[(qoH _ _).2 h,cond_true,qb6 t h]
  have:eqI y (-x)=false:=by
   cases c:eqI y (-x)with
   |false=>rfl
   |true=>exact absurd ((qoH _ _).1 c) h
  rw[this,cond_false,qbX t h]
theorem qdJ: ∀(w s:List Int),qi4 s w=fact s w
 |[],s=>by cases s<;>rfl
 |x::w,s=>by
  have:qi4 s (x::w)=qi4 (qn9 s x) w:=by cases s<;>rfl
  rw[this,qdJ w,qp3,qji]
theorem qkl {α:Type}: ∀(l r:List α),qpR l r=l.reverse++r
 |[],r=>rfl
 |a::l,r=>by rw[qpR,qkl l];simp
theorem qkT: ∀(l r:List Int),qrR l r=zJ l++r
 |[],r=>rfl
 |a::l,r=>by rw[qrR,qkT l,qaB];simp
theorem qq4 (a b:List Int):qqO a b=fred (a++b++zJ a):=by
 unfold qqO fred;rw[qdJ,qdJ,qdJ,qkT,qkl,YQ,YQ,xU,xU]
theorem qrz (a b:List Int):qpO a b=fred (zJ b++a++b):=by
 unfold qpO fred;rw[qdJ,qdJ,qdJ,qkT,qkl,YQ,YQ,xU,xU]
theorem ql1: ∀(i:Nat) (p:Bool) (im:List (List Int)),i+1<im.length->qgU i p im=bif p then(im.set i (fred (im.getD i []++im.getD (i+1) []++zJ (im.getD i [])))).set (i+1) (im.getD i [])else(im.set i (im.getD (i+1) [])).set (i+1) (fred (zJ (im.getD (i+1) [])++im.getD i []++im.getD (i+1) []))
 |0,true,a::b::l,h=>by simp[qgU,qq4]
 |0,false,a::b::l,h=>by simp[qgU,qrz]
 |i+1,p,a::l,h=>by
  rw[qgU,ql1 i p l (by simp at h;omega)];cases p<;>simp
 |0,p,[],h=>by simp at h
 |0,p,[a],h=>by simp at h
 |i+1,p,[],h=>by simp at h
theorem qlL {i:Nat} {c:Int} (hc:c.natAbs=i+1) {im:List (List Int)} (h:i+1<im.length):qgU i (decide (0<c)) im=xI im c:=by
 rw[ql1 i _ im h];unfold xI;dsimp only;rw[hc,Nat.add_sub_cancel];by_cases p:0<c
 ·rw[decide_eq_true p,if_pos p];rfl
 rw[decide_eq_false p,if_neg p];rfl
end Go.Av
end
section
namespace Go.Av
def qfst (p:List Nat):Nat->Nat->Option Nat
 |0,_=>none
 |k+1,i=>bif qgV i p then some i else qfst p k (i+1)
def wdq (n:Nat):Nat->List Nat->List Int
 |0,_=>[]
 |K+1,p=>match qfst p (n-1) 0 with
  |none=>[]
  |some i=>((i+1:Nat):Int)::wdq n K (qfr i p)
def QTb.wd (T:QTb) (c:Nat):List Int:=wdq T.n (T.n*T.n) (T.dec c)
def kimg (n:Nat) (w:List Int):List (List Int):=w.foldl (fun im c=>qgU (c.natAbs-1) (decide (0<c)) im) (fid n)
theorem qjy {n:Nat}: ∀(w:List Int) (im:List (List Int)),vD n w->im.length=n->w.foldl (fun im c=>qgU (c.natAbs-1) (decide (0<c)) im) im=w.foldl xI im
 |[],im,h,hl=>rfl
 |c::w,im,h,hl=>by
  have hc:=h c (List.mem_cons_self ..);rw[List.foldl_cons,List.foldl_cons,qlL (i:=c.natAbs-1) (c:=c) (by omega) (by omega)];exact qjy w _ (fun d hd=>h d (List.mem_cons_of_mem _ hd)) (by rw[qby,hl])
theorem qoQ {n:Nat} {w:List Int} (h:vD n w):kimg n w=qa6 n w:=qjy w _ h (qdX n)
def imE (n:Nat) (u v:List Int):Bool:=eqL (eqL eqI) (kimg n u) (kimg n v)
def BE (n:Nat) (u v:List Int):Prop:=qa6 n u=qa6 n v
theorem qiD {n:Nat} {u v:List Int} (hu:vD n u) (hv:vD n v) (h:imE n u v=true):BE n u v:=by
 unfold BE;rw[<-qoQ hu,<-qoQ hv];exact qh1 (qh1 qj5) _ _ h
theorem vD.app {n:Nat} {u v:List Int} (h:vD n u) (k:vD n v):vD n (u++v):=fun c hc=>(List.mem_append.1 hc).elim (h c) (k c)
theorem vD.inv {n:Nat} {u:List Int} (h:vD n u):vD n (zJ u):=fun y hy=>by
 simp only[zJ,List.mem_reverse,List.mem_map]at hy;obtain⟨z,hz,rfl⟩:=hy;have:=h z hz;omega
theorem BE.right {n:Nat} {u u':List Int} (h:BE n u u') (y:List Int):BE n (u++y) (u'++y):=by
 unfold BE at*;rw[qgG,qgG,h]
theorem qq0 {im:List (List Int)} (hz:Nzs im) (h: ∀k,FR (im.getD k [])) {c:Int} {i:Nat} (hi:c.natAbs=i+1) (hl:i+1<im.length): ∀k,FR ((xI im c).getD k []):=fun k=>by
 rw[qe5 hi hl];have ha:=hz.getD i;have hb:=hz.getD (i+1);split
 ·split
  ·exact qoP ((ha.app hb).app ha.inv)
  exact h _
 split
 ·split
  ·exact h _
  exact qoP ((hb.inv.app ha).app hb)
 exact h k
theorem qkE {n:Nat}: ∀{w:List Int} {im:List (List Int)},vD n w->im.length=n->Nzs im->(∀k,FR (im.getD k []))-> ∀k,FR ((w.foldl xI im).getD k [])
 |[],im,hw,hl,hz,h=>h
 |c::w,im,hw,hl,hz,h=>by
  have hc:=hw c (List.mem_cons_self ..);obtain⟨i,hi⟩: ∃i,c.natAbs=i+1:=⟨c.natAbs-1,by omega⟩;rw[List.foldl_cons];exact qkE (w:=w) (fun d hd=>hw d (List.mem_cons_of_mem _ hd)) (by rw[qby,hl]) (qel hz hi (by omega)) (qq0 hz h hi (by omega))
theorem qrY (n:Nat): ∀k,FR ((fid n).getD k []):=fun k=>by
 rw[Yy];unfold fid;rw[YA]
 cases e:(List.range n)[k]? with
 |none=>exact trivial
 |some j=>
  refine FR.of ?_;show qae [((j:Nat):Int)+1];simp[qae];omega
theorem BE.left {n:Nat} {v v':List Int} (x:List Int) (hx:vD n x) (hv:vD n v) (hv':vD n v') (h:BE n v v'):BE n (x++v) (x++v'):=by
 unfold BE at*;have r1:=qi8 hx hv;have r2:=qi8 hx hv';rw[<-h]at r2;have f1:=qkE (hx.app hv) (qdX n) (qh7 n) (qrY n);have f2:=qkE (hx.app hv') (qdX n) (qh7 n) (qrY n);apply List.ext_getElem?;intro k;by_cases hk:k<n
 ·have e1:=r1.eq_ k hk;have e2:=r2.eq_ k hk;have e3:Feq ((qa6 n (x++v)).getD k []) ((qa6 n (x++v')).getD k []):=e1.symm.trans e2;have e4:=e3.fred;have g1:fred ((qa6 n (x++v)).getD k [])=(qa6 n (x++v)).getD k []:=(f1 k).fix;have g2:fred ((qa6 n (x++v')).getD k [])=(qa6 n (x++v')).getD k []:=(f2 k).fix;rw[g1,g2,Yy,Yy,Ya (by rw[r1.zl];exact hk),Ya (by rw[r2.zl];exact hk)]at e4;rw[Ya (by rw[r1.zl];exact hk),Ya (by rw[r2.zl];exact hk)];exact congrArg some e4
 rw[Yg (by rw[r1.zl];omega),Yg (by rw[r2.zl];omega)]
theorem BE.symm {n:Nat} {u v:List Int} (h:BE n u v):BE n v u:=Eq.symm h
theorem BE.trans {n:Nat} {u v w:List Int} (h:BE n u v) (k:BE n v w):BE n u w:=Eq.trans h k
theorem BE.rfl_ {n:Nat} {u:List Int}:BE n u u:=rfl
def QTb.dn (T:QTb):List Int:=zJ (T.wd T.half)
def letE (n:Nat):List Int->Bool
 |[]=>true
 |c::w=>bif decide (0<c)then bif decide (c<n)then letE n w else false else false
theorem qoi {n:Nat}: ∀{w:List Int},letE n w=true-> ∀c∈w,0<c/\c<n
 |[],h,c,hc=>by cases hc
 |d::w,h,c,hc=>by
  obtain⟨h1,h⟩:=kr h;obtain⟨h2,h3⟩:=kr h;rcases List.mem_cons.1 hc with rfl|hc
  ·exact⟨of_decide_eq_true h1,of_decide_eq_true h2⟩
  exact qoi h3 c hc
def QTb.cw2 (T:QTb) (s x:Nat):Bool:=bif Nat.beq (T.a s x) s then bif Nat.beq (T.b s x) x then true else imE T.n (T.wd s++T.wd x) (T.wd (T.a s x)++T.wd (T.b s x))else imE T.n (T.wd s++T.wd x) (T.wd (T.a s x)++T.wd (T.b s x))
def QTb.cw1 (T:QTb) (c:Nat):Bool:=bif letE T.n (T.wd c)then bif Nat.ble (T.wd c).length 6 then imE T.n (T.dn++T.wd (T.fl c)) (T.wd c++T.dn)else false else false
def QTb.cwl (T:QTb) (i:Nat):Bool:=bif eqL eqI (T.wd (T.pos.getD i 0)) [((i+1:Nat):Int)]then imE T.n (T.dn++T.wd (T.neg.getD i 0)) [-((i+1:Nat):Int)]else false
def QTb.cw0 (T:QTb):Bool:=bif eqL eqI (T.wd T.idc) []then bif imE T.n (T.wd T.half++T.dn) []then imE T.n (T.dn++T.wd T.half) []else false else false
def QTb.cw (T:QTb):Bool:=bif T.cw0 then bif qal (T.n-1) T.cwl then bif qal T.cnt T.cw1 then qal T.cnt (fun s=>qal T.cnt (T.cw2 s))else false else false else false
structure QTb.Wd (T:QTb):Prop where
 let_: ∀c,c<T.cnt->vD T.n (T.wd c)
 len: ∀c,c<T.cnt->(T.wd c).length<=6
 pr: ∀s x,s<T.cnt->x<T.cnt->BE T.n (T.wd s++T.wd x) (T.wd (T.a s x)++T.wd (T.b s x))
 fl: ∀c,c<T.cnt->BE T.n (T.dn++T.wd (T.fl c)) (T.wd c++T.dn)
 po: ∀i,i+1<T.n->T.wd (T.pos.getD i 0)=[((i+1:Nat):Int)]
 ne: ∀i,i+1<T.n->BE T.n (T.dn++T.wd (T.neg.getD i 0)) [-((i+1:Nat):Int)]
 id:T.wd T.idc=[]
 hd:BE T.n (T.wd T.half++T.dn) []
 dh:BE T.n (T.dn++T.wd T.half) []
theorem vD.nil (n:Nat):vD n []:=fun c h=>by cases h
theorem QTb.wd_ok {T:QTb} (hT:T.Ok) (h:T.cw=true):T.Wd:=by
 obtain⟨h0,h⟩:=kr h;obtain⟨h1,h⟩:=kr h;obtain⟨h2,h3⟩:=kr h;obtain⟨z1,z⟩:=kr h0;obtain⟨z2,z3⟩:=kr z
 have hl: ∀c,c<T.cnt->vD T.n (T.wd c):=fun c hc x hx=>by
  obtain⟨y1,y⟩:=kr (yK h2 c hc);have:=qoi y1 x hx;omega
 have hd:vD T.n T.dn:=(hl _ hT.ha_).inv;refine⟨hl,fun c hc=>?_,fun s x hs hx=>?_,fun c hc=>?_,fun i hi=>?_,fun i hi=>?_,?_,?_,?_⟩
 ·obtain⟨y1,y⟩:=kr (yK h2 c hc);exact Ys (kr y).1
 ·have:=yK (yK h3 s hs) x hx;have e:=qiD ((hl s hs).app (hl x hx)) ((hl _ (hT.a_ s x hs hx)).app (hl _ (hT.b_ s x hs hx)));unfold QTb.cw2 at this
  cases c:Nat.beq (T.a s x) s with
  |false=>rw[c,cond_false]at this;exact e this
  |true=>
   rw[c,cond_true]at this
   cases d:Nat.beq (T.b s x) x with
   |false=>rw[d,cond_false]at this;exact e this
   |true=>rw[y9 c,y9 d];exact BE.rfl_
 ·obtain⟨y1,y⟩:=kr (yK h2 c hc);exact qiD (hd.app (hl _ (hT.fl_ c hc))) ((hl c hc).app hd) (kr y).2
 ·obtain⟨y1,y2⟩:=kr (yK h1 i (by omega));exact qh1 qj5 _ _ y1
 ·obtain⟨y1,y2⟩:=kr (yK h1 i (by omega));refine qiD (hd.app (hl _ (hT.ne i hi).2)) (fun c hc=>?_) y2;rw[List.mem_singleton.1 hc];omega
 ·exact qh1 qj5 _ _ z1
 ·exact qiD ((hl _ hT.ha_).app hd) (vD.nil _) z2
 exact qiD (hd.app (hl _ hT.ha_)) (vD.nil _) z3
def wsN (T:QTb):List Nat->List Int
 |[]=>[]
 |x::r=>wsN T r++T.wd x
theorem qbn {T:QTb} (hW:T.Wd): ∀{R:List Nat},Cod T R->vD T.n (wsN T R)
 |[],h=>vD.nil _
 |x::r,h=>(qbn hW h.tl).app (hW.let_ x h.hd)
theorem qkJ (T:QTb) (S:List Nat): ∀R:List Nat,wsN T (R++S)=wsN T S++wsN T R
 |[]=>by simp[wsN]
 |x::r=>by rw[List.cons_append,wsN,wsN,qkJ T S r,Yz]
theorem qiy {T:QTb} (hT:T.Ok) (hW:T.Wd): ∀{R:List Nat} {x:Nat},x<T.cnt->Cod T R->BE T.n (wsN T (qpN T x R)) (wsN T R++T.wd x)
 |[],x,hx,h=>by rw[qoN];exact BE.rfl_
 |s::r,x,hx,h=>by
  rw[qar,wsN,wsN,Yz];have ha:=hT.a_ s x h.hd hx;have hb:=hT.b_ s x h.hd hx;have h1:=(qiy hT hW ha h.tl).right (T.wd (T.b s x));rw[Yz]at h1;exact h1.trans (BE.left _ (qbn hW h.tl) ((hW.let_ _ ha).app (hW.let_ _ hb)) ((hW.let_ s h.hd).app (hW.let_ x hx)) (hW.pr s x h.hd hx).symm)
theorem qkg {T:QTb} (hT:T.Ok) (hW:T.Wd):vD T.n T.dn:=(hW.let_ _ hT.ha_).inv
theorem qls {T:QTb} (hT:T.Ok) (hW:T.Wd): ∀{R:List Nat},Cod T R->BE T.n (T.dn++wsN T (R.map T.fl)) (wsN T R++T.dn)
 |[],h=>by simp[wsN];exact BE.rfl_
 |s::r,h=>by
  rw[List.map_cons,wsN,wsN,<-Yz];have h1:=(qls hT hW h.tl).right (T.wd (T.fl s));rw[Yz (wsN T r) T.dn]at h1;rw[Yz (wsN T r) (T.wd s) T.dn];exact h1.trans (BE.left _ (qbn hW h.tl) ((qkg hT hW).app (hW.let_ _ (hT.fl_ s h.hd))) ((hW.let_ s h.hd).app (qkg hT hW)) (hW.fl s h.hd))
def rpw (w:List Int):Nat->List Int
 |0=>[]
 |k+1=>rpw w k++w
theorem qcr {n:Nat} {w:List Int} (h:vD n w): ∀k,vD n (rpw w k)
 |0=>vD.nil _
 |k+1=>(qcr h k).app h
theorem qhC (w:List Int) (a:Nat): ∀b,rpw w (a+b)=rpw w a++rpw w b
 |0=>by simp[rpw]
 |b+1=>by rw[Nat.add_succ,rpw,rpw,qhC w a b,Yz]
theorem qkb (T:QTb) (x:Nat): ∀k,wsN T (List.replicate k x)=rpw (T.wd x) k
 |0=>rfl
 |k+1=>by rw[List.replicate_succ,wsN,qkb T x k,rpw]
theorem qnE: ∀k,rpw [] k=[]
 |0=>rfl
 |k+1=>by rw[rpw,qnE k];rfl
theorem qpA {T:QTb} (hT:T.Ok) (hW:T.Wd) {k:Nat} {R:List Nat} (h:Cod T R) {w:List Int} (hw:vD T.n w) (e:BE T.n w (rpw T.dn k++wsN T R)) {c:Int} (hc:c≠0/\ -(T.n:Int)<c/\c<T.n):
 BE T.n (w++[c]) (rpw T.dn (ngN k c)++wsN T (rwN T R c)):=by
 obtain⟨i,hi⟩: ∃i,c.natAbs=i+1:=⟨c.natAbs-1,by omega⟩
 have hin:i+1<T.n:=by omega
 have hd:=qkg hT hW;refine(e.right [c]).trans ?_;unfold rwN ngN;rw[hi,Nat.add_sub_cancel,Yz];by_cases hp:0<c
 ·rw[if_pos hp,if_pos hp];have hx:=(hT.po i hin).2;have p:=qiy hT hW hx h;rw[hW.po i hin,show((i+1:Nat):Int)=c by omega]at p;exact(BE.left _ (qcr hd k) (qbn hW (qcs hT hx h)) ((qbn hW h).app fun d hd=>by rw[List.mem_singleton.1 hd];exact hc) p).symm
 rw[if_neg hp,if_neg hp,rpw,Yz];have hx:=(hT.ne i hin).2;have hf:=qeZ hT h;have lf:=qbn hW hf;have l1:=hW.let_ _ hx
 have lc:vD T.n [c]:=fun d hd=>by rw[List.mem_singleton.1 hd];exact hc
 refine BE.left _ (qcr hd k) ((qbn hW h).app lc) (hd.app (qbn hW (qcs hT hx hf))) ?_;have a1:=BE.left T.dn hd (qbn hW (qcs hT hx hf)) (lf.app l1) (qiy hT hW hx hf);have a2:=(qls hT hW h).right (T.wd (T.neg.getD i 0));rw[Yz,Yz]at a2;have a3:=BE.left (wsN T R) (qbn hW h) (hd.app l1) (v':=[c]) lc (by have:=hW.ne i hin;rwa [show-((i+1:Nat):Int)=c by omega]at this);exact((a1.trans a2).trans a3).symm
def splN (T:QTb) (s:FmN):List Int:=(if 16<=s.1 then rpw (T.wd T.half) (s.1-16)else rpw T.dn (16-s.1))++wsN T s.2
theorem qfy {n:Nat} {u v:List Int} (hu:vD n u) (hv:vD n v) (h:BE n (u++v) []): ∀k,BE n (rpw u k++rpw v k) []
 |0=>BE.rfl_
 |k+1=>by
  rw[show rpw v (k+1)=v++rpw v k by
   have:=qhC v 1 k;rw[Nat.add_comm 1 k]at this
   rw[this];rfl,rpw,Yz,<-Yz u]
  have:=BE.left (rpw u k) (qcr hu k) ((hu.app hv).app (qcr hv k)) (qcr hv k) (h.right (rpw v k));exact this.trans (qfy hu hv h k)
theorem quE {T:QTb} (hT:T.Ok) (hW:T.Wd) {k:Nat} {R:List Nat} {s:FmN} (h:RS T k R s):BE T.n (rpw T.dn k++wsN T R) (splN T s):=by
 obtain⟨c,d,h0,rfl,e2⟩:=h;have hd:=qkg hT hW;have hh:=hW.let_ _ hT.ha_;have hM:=qbn hW c.right.left;rw[qkJ,qkJ,qkb,qkb,hW.id,qnE,YQ,<-Yz];unfold splN;refine BE.right ?_ _;by_cases g:k<=h0
 ·rw[if_pos (by omega),show s.1-16=h0-k by omega,show h0=k+(h0-k)by omega,qhC,<-Yz,show k+(h0-k)-k=h0-k by omega];have:=(qfy hd hh hW.dh k).right (rpw (T.wd T.half) (h0-k))
  rwa [List.nil_append]at this
 rw[show k=(k-h0)+h0 by omega,qhC,Yz];have:=BE.left (rpw T.dn (k-h0)) (qcr hd _) ((qcr hd h0).app (qcr hh h0)) (vD.nil _) (qfy hd hh hW.dh h0);rw[YQ]at this;by_cases g2:16<=s.1
 ·omega
 rw[if_neg g2,show 16-s.1=k-h0 by omega];exact this
end Go.Av
end
section
namespace Go.Av
def npB (T:QTb) (s x:Nat):Bool:=bif Nat.beq (T.a s x) s then Nat.beq (T.b s x) x else false
def dmN (T:QTb):Bool:=
 bif qal T.cnt (fun t=>qal T.cnt fun s=>bif npB T t s then qal T.cnt fun x=>npB T (T.b t (T.a s x)) (T.b s x)else true)then
 qal T.cnt (fun s=>bif Nat.beq (T.a s T.half) T.half then qal T.cnt fun x=>bif npB T (T.a s x) (T.b s x)then(bif npB T s x then npB T (T.fl s) (T.fl x)else true)else false else false)else false
structure qlz (T:QTb):Prop where
 dom: ∀t s x,t<T.cnt->s<T.cnt->x<T.cnt->npB T t s=true->npB T (T.b t (T.a s x)) (T.b s x)=true
 pr: ∀s x,s<T.cnt->x<T.cnt->npB T (T.a s x) (T.b s x)=true
 fl: ∀s x,s<T.cnt->x<T.cnt->npB T s x=true->npB T (T.fl s) (T.fl x)=true
 ha: ∀s,s<T.cnt->T.a s T.half=T.half
theorem qvh {T:QTb} (h:dmN T=true):qlz T:=by
 obtain⟨h1,h2⟩:=kr h;refine⟨fun t s x ht hs hx e=>?_,fun s x hs hx=>?_,fun s x hs hx e=>?_,fun s hs=>?_⟩
 ·have:=yK (yK h1 t ht) s hs;rw[e,cond_true]at this;exact yK this x hx
 ·obtain⟨_,g⟩:=kr (yK h2 s hs);exact(kr (yK g x hx)).1
 ·obtain⟨_,g⟩:=kr (yK h2 s hs);have:=(kr (yK g x hx)).2
  rwa [e,cond_true]at this
 exact y9 (kr (yK h2 s hs)).1
theorem qj3 {T:QTb} {s x:Nat} (h:npB T s x=true):T.a s x=s/\T.b s x=x:=by
 obtain⟨h1,h2⟩:=kr h;exact⟨y9 h1,y9 h2⟩
theorem qeR {T:QTb} {x s:Nat} {r:List Nat} (h:nfN T (x::s::r)=true):npB T s x=true/\nfN T (s::r)=true:=by
 unfold nfN at h;obtain⟨h1,h⟩:=kr h;obtain⟨h2,h3⟩:=kr h;refine⟨?_,h3⟩;unfold npB;rw[h1,h2];rfl
theorem qhl {T:QTb} {x s:Nat} {r:List Nat} (h:npB T s x=true) (k:nfN T (s::r)=true):nfN T (x::s::r)=true:=qdC (qj3 h).1 (qj3 h).2 k
theorem qvq {T:QTb} {x:Nat}: ∀{r:List Nat},nfN T (x::r)=true->nfN T r=true
 |[],h=>rfl
 |s::r,h=>(qeR h).2
theorem qh8 {T:QTb} (hT:T.Ok) (D:qlz T): ∀{M:List Nat} {x:Nat},x<T.cnt->Cod T M->nfN T M=true->nfN T (qpN T x M)=true
 |[],x,hx,c,h=>rfl
 |[s],x,hx,c,h=>by
  rw[qar,qoN];exact qhl (D.pr s x c.hd hx) rfl
 |s::t::r,x,hx,c,h=>by
  obtain⟨h1,h2⟩:=qeR h;have ih:=qh8 hT D (hT.a_ s x c.hd hx) c.tl h2;rw[qar,qar]at*;exact qhl (D.dom t s x c.tl.hd c.hd hx h1) ih
theorem qlY {T:QTb} (D:qlz T): ∀{M:List Nat},Cod T M->nfN T M=true->nfN T (M.map T.fl)=true
 |[],c,h=>rfl
 |[x],c,h=>rfl
 |x::s::r,c,h=>by
  obtain⟨h1,h2⟩:=qeR h;exact qhl (D.fl s x c.tl.hd c.hd h1) (qlY D c.tl h2)
theorem qlA {T:QTb}: ∀{A B:List Nat},nfN T (A++B)=true->nfN T A=true
 |[],B,h=>rfl
 |[x],B,h=>rfl
 |x::s::r,B,h=>by
  obtain⟨h1,h2⟩:=qeR h;exact qhl h1 (qlA (A:=s::r) h2)
theorem qro {T:QTb} (z:Nat): ∀{M:List Nat},nfN T M=true->nfN T (shd z M)=true
 |[],h=>rfl
 |x::r,h=>by
  unfold shd
  cases Nat.beq x z with
  |false=>exact h
  |true=>exact qro z (qvq h)
theorem qoM {T:QTb} (z:Nat): ∀{M:List Nat},Cod T M->Cod T (shd z M)
 |[],h=>h
 |x::r,h=>by
  unfold shd
  cases Nat.beq x z with
  |false=>exact h
  |true=>exact qoM z h.tl
theorem qqc {z:Nat}: ∀{M:List Nat} {x:Nat} {r:List Nat},shd z M=x::r->x≠z
 |[],x,r,h=>by cases h
 |y::M,x,r,h=>by
  unfold shd at h
  cases c:Nat.beq y z with
  |false=>
   rw[c,cond_false]at h;injection h with h1 h2;subst h1;intro e;rw[e,Nat.beq_refl]at c;cases c
  |true=>rw[c,cond_true]at h;exact qqc h
theorem qtY {T:QTb} (hT:T.Ok): ∀{M:List Nat},Cod T M->nfN T M=true->(∀x r,M=x::r->x≠T.idc)-> ∀c∈M,c≠T.idc
 |[],c,h,k,y,hy=>by cases hy
 |[x],c,h,k,y,hy=>by rw[List.mem_singleton.1 hy];exact k x [] rfl
 |x::s::r,c,h,k,y,hy=>by
  obtain⟨h1,h2⟩:=qeR h;have hx:=k x _ rfl;rcases List.mem_cons.1 hy with rfl|hy
  ·exact hx
  refine qtY hT c.tl h2 (fun x' r' e=>?_) y hy;injection e with e1 e2;subst e1;intro e;have:=(qj3 h1).1;rw[e,hT.ida _ c.hd]at this;exact hx this
theorem qoc {T:QTb} (D:qlz T): ∀{M:List Nat},Cod T M->nfN T M=true->(∀c,M.getLast? =some c->c≠T.half)-> ∀c∈M,c≠T.half
 |[],c,h,k,y,hy=>by cases hy
 |[x],c,h,k,y,hy=>by rw[List.mem_singleton.1 hy];exact k x rfl
 |x::s::r,c,h,k,y,hy=>by
  obtain⟨h1,h2⟩:=qeR h;have ih:=qoc D c.tl h2 (fun z hz=>k z (by rw[List.getLast?_cons_cons];exact hz));rcases List.mem_cons.1 hy with rfl|hy
  ·intro e;have:=(qj3 h1).1;rw[e,D.ha s c.tl.hd]at this;exact ih s (List.mem_cons_self ..) this.symm
  exact ih y hy
theorem qlw (z:Nat): ∀(M:List Nat) (c:Nat),(stl z M).2.getLast? =some c->c≠z
 |[],c,h=>by cases h
 |x::r,c,h=>by
  have ih:=qlw z r;unfold stl at h;rcases e:stl z r with⟨k,l⟩
  rw[e]at h ih
  cases l with
  |nil=>
   dsimp only at h
   cases b:Nat.beq x z with
   |true=>rw[b,cond_true]at h;cases h
   |false=>
    rw[b,cond_false]at h;have:c=x:=(Ye h).symm;subst this;intro e;rw[e,Nat.beq_refl]at b;cases b
  |cons y l=>
   dsimp only at h;rw[List.getLast?_cons_cons]at h;exact ih c h
def noN (T:QTb):List Nat->Bool
 |[]=>true
 |x::r=>bif Nat.beq x T.idc then false else bif Nat.beq x T.half then false else noN T r
theorem qp9 {T:QTb}: ∀{M:List Nat},(∀c∈M,c≠T.idc)->(∀c∈M,c≠T.half)->noN T M=true
 |[],h,k=>rfl
 |x::r,h,k=>by
  have f: ∀{a b:Nat},a≠b->Nat.beq a b=false:=fun {a b} e=>by
   cases c:Nat.beq a b with
   |false=>rfl
   |true=>exact absurd (y9 c) e
  unfold noN;rw[f (h x (List.mem_cons_self ..)),f (k x (List.mem_cons_self ..)),cond_false,cond_false];exact qp9 (fun c hc=>h c (List.mem_cons_of_mem _ hc)) (fun c hc=>k c (List.mem_cons_of_mem _ hc))
structure NF (T:QTb) (s:FmN):Prop where
 cod:Cod T s.2
 nf:nfN T s.2=true
 no:noN T s.2=true
theorem qrx {T:QTb} (hT:T.Ok) (D:qlz T) (H:Nat) {M:List Nat} (c:Cod T M) (h:nfN T M=true):NF T (fmS T H M):=by
 have e:=qnj T.half (shd T.idc M);have c1:=qoM T.idc c;have n1:=qro T.idc h;have q:(fmS T H M).2=(stl T.half (shd T.idc M)).2:=rfl
 have c2:Cod T (stl T.half (shd T.idc M)).2:=by rw[e]at c1;exact c1.left
 have n2:nfN T (stl T.half (shd T.idc M)).2=true:=by rw[e]at n1;exact qlA n1
 refine⟨by rw[q];exact c2,by rw[q];exact n2,?_⟩;rw[q];refine qp9 (fun x hx=>?_) (qoc D c2 n2 (qlw T.half _));exact qtY hT c1 n1 (fun x r e=>qqc e) x (by rw[e];exact List.mem_append_left _ hx)
theorem qum {T:QTb} (hT:T.Ok) (D:qlz T) {s:FmN} (h:NF T s) {c:Int} (hc:c≠0/\ -(T.n:Int)<c/\c<T.n):NF T (fmL T s c):=by
 have hi:c.natAbs-1+1<T.n:=by omega
 unfold fmL fmN
 cases decide (0<c)with
 |true=>exact qrx hT D _ (qcs hT (hT.po _ hi).2 h.cod) (qh8 hT D (hT.po _ hi).2 h.cod h.nf)
 |false=>exact qrx hT D _ (qcs hT (hT.ne _ hi).2 (qeZ hT h.cod)) (qh8 hT D (hT.ne _ hi).2 (qeZ hT h.cod) (qlY D h.cod h.nf))
def fmW (T:QTb) (w:List Int):FmN:=w.foldl (fmL T) (16,[])
theorem qt0 {T:QTb} (hT:T.Ok) (D:qlz T): ∀{w:List Int} {s:FmN},(∀c∈w,c≠0/\ -(T.n:Int)<c/\c<T.n)->NF T s->NF T (w.foldl (fmL T) s)
 |[],s,hw,h=>h
 |c::w,s,hw,h=>by
  rw[List.foldl_cons];exact qt0 hT D (fun d hd=>hw d (List.mem_cons_of_mem _ hd)) (qum hT D h (hw c (List.mem_cons_self ..)))
end Go.Av
end
section
namespace Go.Av
section
variable {n:Nat} (hn:n<=12) {N:Nat} (hN:2000<N)
include hn hN
theorem qiQ {w:List Int} (W:jT n w) (n2:2<=n): ∀(K i k:Nat) (l:List SB),l.length=i->(∀s∈l,s.Ok n)->k<=i->i<=w.length->w.length<K+i->
 vT N (n:Int) w K (-(k:Int)) (qaz n l) (i:Int)=some (-(((w.drop i).foldl ngN k:Nat):Int),qaz n ((w.drop i).foldl (qbt n) l))
 |0,i,k,l,hl,ho,h1,hi,hK=>by omega
 |K+1,i,k,l,hl,ho,h1,hiw,hK=>by
  have wl:=W.len;unfold vT;by_cases hi:i<w.length
  ·have hx:w[i]? =some w[i]:=Ya hi;have hc:=W.let_ _ (List.getElem_mem hi);rw[YG hi,List.foldl_cons,List.foldl_cons];generalize w[i]=c at*;obtain⟨m,hm⟩: ∃m:Nat,c.natAbs=m+1:=⟨c.natAbs-1,by omega⟩
   have hm2:m+1<n:=by omega
   have q1:w64 (((m+1:Nat):Int)-1)=(m:Int):=by rw[qF (by omega) (by omega)];omega
   rw[if_pos (by omega),qC,hx];simp only[ZB,vZ (show-1000<c/\c<1000 by omega),hm,q1];unfold ngN qbt;rw[hm,Nat.add_sub_cancel];by_cases pos:c>0
   ·rw[if_pos pos,qfL hN (by omega),ZB,<-SB.id_li,qfv (by omega) SB.id hm2];simp only[ZB];rw[qgM (by rw[qba];simp;omega) (by rw[qba];simp;omega)];simp only[ZB];rw[zF (by omega),show qaz n l++[(SB.id.fr m).li n]=qaz n (l++[SB.id.fr m])by simp[qaz],if_pos (show 0<c from pos),if_pos (show 0<c from pos)]
    exact qiQ W n2 K (i+1) k _ (by simp[hl]) (fun s hs=>by
     rcases List.mem_append.1 hs with hs|hs
     ·exact ho s hs
     rw[List.mem_singleton.1 hs];exact(Us n).fr hm2) (by omega) (by omega) (by omega)
   rw[if_neg pos,qlo hn hN (by omega) ho,ZB,qnQ hN (by omega),ZB,qja (by omega) hN (Up n) hm2];simp only[ZB];rw[qgM (by rw[qba];simp;omega) (by rw[qba];simp;omega)];simp only[ZB];rw[zF (by omega),qF (n:= -(k:Int)-1) (by omega) (by omega),if_neg (show¬0<c from pos),if_neg (show¬0<c from pos),show-(k:Int)-1= -((k+1:Nat):Int)by omega,show qaz n (l.map (SB.flip n))++[((Ue n).bk m).li n]=qaz n (l.map (SB.flip n)++[(Ue n).bk m])by simp[qaz]]
   exact qiQ W n2 K (i+1) (k+1) _ (by simp[hl]) (fun s hs=>by
    rcases List.mem_append.1 hs with hs|hs
    ·obtain⟨u,hu,rfl⟩:=List.mem_map.1 hs;exact(ho u hu).flip
    rw[List.mem_singleton.1 hs];exact(Up n).bk hm2) (by omega) (by omega) (by omega)
  rw[if_neg (by omega),List.drop_eq_nil_of_le (by omega)];rfl
end
theorem qlb {T:QTb} (hT:T.Ok): ∀(w:List Int) (l:List SB) (R:List Nat) (k:Nat) (s:FmN),vD T.n w->QOK T.n l (R.map T.dec)->RS T k R s->k+w.length<=15->
 QOK T.n (w.foldl (qbt T.n) l) ((w.foldl (rwN T) R).map T.dec)/\RS T (w.foldl ngN k) (w.foldl (rwN T) R) (w.foldl (fmL T) s)/\(w.foldl (qbt T.n) l).length=l.length+w.length
 |[],l,R,k,s,hw,q,r,hk=>⟨q,r,rfl⟩
 |c::w,l,R,k,s,hw,q,r,hk=>by
  have hc:=hw c (List.mem_cons_self ..);simp only[Yr]at hk;have e:=r.sh
  have h1:1<=s.1:=by
   obtain⟨d,h,_,e⟩:=r.sh;omega
  have q2:=q.step hc;rw[qtg hT r.cod hc]at q2;have r2:=r.step hT hc h1;have:=qlb hT w _ _ _ _ (fun d hd=>hw d (List.mem_cons_of_mem _ hd)) q2.1 r2 (by unfold ngN;split<;>omega);rw[q2.2]at this;rw[List.foldl_cons,List.foldl_cons,List.foldl_cons,List.foldl_cons,Yr];exact⟨this.1,this.2.1,by rw[this.2.2];omega⟩
theorem qnV {T:QTb} (hT:T.Ok) (hW:T.Wd): ∀(w u:List Int) (k:Nat) (R:List Nat),vD T.n u->vD T.n w->Cod T R->BE T.n u (rpw T.dn k++wsN T R)->BE T.n (u++w) (rpw T.dn (w.foldl ngN k)++wsN T (w.foldl (rwN T) R))
 |[],u,k,R,hu,hw,hR,h=>by rw[YQ];exact h
 |c::w,u,k,R,hu,hw,hR,h=>by
  have hc:=hw c (List.mem_cons_self ..);have h2:=qpA hT hW hR hu h hc
  have lu:vD T.n (u++[c]):=hu.app fun d hd=>by rw[List.mem_singleton.1 hd];exact hc
  have hR2:Cod T (rwN T R c):=by
   unfold rwN
   have hi:c.natAbs-1+1<T.n:=by omega
   split
   ·exact qcs hT (hT.po _ hi).2 hR
   exact qcs hT (hT.ne _ hi).2 (qeZ hT hR)
  have:=qnV hT hW w (u++[c]) _ _ lu (fun d hd=>hw d (List.mem_cons_of_mem _ hd)) hR2 h2;rw[Yz]at this;exact this
theorem qs7 (n:Nat):QOK n [] []:=⟨fun s h=>(by cases h),⟨qad [],Pst.refl,fun q hq=>absurd hq (Nat.not_lt_zero q),rfl⟩⟩
theorem qlE {T:QTb} (hT:T.Ok) {w:List Int} (hw:vD T.n w) (hl:w.length<=15):
 QOK T.n (w.foldl (qbt T.n) []) ((w.foldl (rwN T) []).map T.dec)/\RS T (w.foldl ngN 0) (w.foldl (rwN T) []) (fmW T w)/\(w.foldl (qbt T.n) []).length=w.length:=by
 have:=qlb hT w [] [] 0 (16,[]) hw (qs7 T.n) (RS.nil T) (by omega);exact⟨this.1,this.2.1,by rw[this.2.2];simp⟩
theorem qnS {T:QTb} (hT:T.Ok) (hW:T.Wd) {w:List Int} (hw:vD T.n w) (hl:w.length<=15):BE T.n w (splN T (fmW T w)):=by
 have h:=qnV hT hW w [] 0 [] (vD.nil _) hw (Cod.nil T) BE.rfl_;rw[List.nil_append]at h;exact h.trans (quE hT hW (qlE hT hw hl).2.1)
def QTb.cI (T:QTb) (c:Nat):List Int:=(T.dec c).map fun v:Nat=>(v:Int)
def fmI (T:QTb) (s:FmN):qcl:=⟨(s.1:Int)-16,s.2.reverse.map T.cI⟩
theorem qrw (n:Nat) (s:SB):s.li n=(s.row n).map fun v:Nat=>(v:Int):=by
 unfold SB.li SB.row;rw[List.map_map];rfl
theorem qgq (n:Nat) (L:Nat->SB): ∀k,(xk n L k).reverse=(List.range k).map fun q=>(L q).row n
 |0=>rfl
 |k+1=>by rw[xk,List.reverse_cons,qgq n L k,List.range_succ,List.map_append];rfl
theorem qpa (n m:Nat) (L:Nat->SB):yc n m L=(xk n L m).reverse.map fun p=>p.map fun v:Nat=>(v:Int):=by
 rw[qgq,List.map_map];unfold yc;congr 1;funext q;exact qrw n (L q)
theorem qlp: ∀(a b:List Nat),a.map (fun v:Nat=>(v:Int))=b.map (fun v:Nat=>(v:Int))->a=b
 |[],[],h=>rfl
 |x::a,y::b,h=>by
  rw[List.map_cons,List.map_cons]at h;injection h with h1 h2;rw[qlp a b h2,Int.ofNat.inj h1]
 |[],y::b,h=>by cases h
 |x::a,[],h=>by cases h
theorem qmq {T:QTb} (hT:T.Ok) {c d:Nat} (hc:c<T.cnt) (hd:d<T.cnt) (h:T.cI c=T.cI d):c=d:=hT.inj c d hc hd (qlp _ _ h)
theorem qr6 {T:QTb} (hT:T.Ok):T.cI T.idc=qbr T.n:=by
 unfold QTb.cI;rw[hT.id];rfl
theorem qj9 {T:QTb} (hT:T.Ok):T.cI T.half=(Ue T.n).li T.n:=by
 unfold QTb.cI;rw[hT.ha,qrw,qds]
theorem qig {T:QTb} (hT:T.Ok): ∀{a b:List Nat},Cod T a->Cod T b->a.map T.cI=b.map T.cI->a=b
 |[],[],ha,hb,h=>rfl
 |x::a,y::b,ha,hb,h=>by
  rw[List.map_cons,List.map_cons]at h;injection h with h1 h2;rw[qig hT ha.tl hb.tl h2,qmq hT ha.hd hb.hd h1]
 |[],y::b,ha,hb,h=>by cases h
 |x::a,[],ha,hb,h=>by cases h
theorem Cod.rev {T:QTb} {R:List Nat} (h:Cod T R):Cod T R.reverse:=fun c hc=>h c (List.mem_reverse.1 hc)
theorem qsJ {T:QTb} (hT:T.Ok) {s t:FmN} (hs:Cod T s.2) (ht:Cod T t.2) (h:fmI T s=fmI T t):s=t:=by
 unfold fmI at h;injection h with h1 h2;have e:=qig hT hs.rev ht.rev h2;obtain⟨s1,s2⟩:=s;obtain⟨t1,t2⟩:=t
 have:s2=t2:=by simpa using e
 rw[this,show s1=t1 by dsimp only at h1;omega]
structure FcOK (T:QTb) (s:FmN) (L:Nat->SB):Prop where
 ok:OkM T.n s.2.length L
 nf:Nf T.n s.2.length L
 row: ∀j (hj:j<s.2.length),(L j).row T.n=T.dec (s.2.reverse[j]'(by simpa using hj))
theorem qpV {T:QTb}: ∀{M:List Nat},noN T M=true-> ∀c∈M,c≠T.idc/\c≠T.half
 |[],h,c,hc=>by cases hc
 |x::r,h,c,hc=>by
  unfold noN at h
  cases e:Nat.beq x T.idc with
  |true=>rw[e]at h;cases h
  |false=>
   rw[e,cond_false]at h
   cases e2:Nat.beq x T.half with
   |true=>rw[e2]at h;cases h
   |false=>
    rw[e2,cond_false]at h;rcases List.mem_cons.1 hc with rfl|hc
    ·exact⟨beqF e,beqF e2⟩
    exact qpV h c hc
theorem qpC {T:QTb} (hT:T.Ok) (n2:2<=T.n) (n4:T.n<=12) {N:Nat} (hN:100000<N) {w:List Int} (W:jT T.n w) (hl:w.length<=14) (hf:nfN T (fmW T w).2=true) (hno:noN T (fmW T w).2=true):
 xP N (T.n:Int) w=some (fmI T (fmW T w))/\ ∃L,FcOK T (fmW T w) L:=by
 have wl:=W.len
 have hw:vD T.n w:=fun c hc=>by have:=W.let_ c hc;omega
 obtain⟨q,r,ll⟩:=qlE hT hw (by omega);obtain⟨B,b1,b2,b3⟩:=q.ex;have lok:=qeW q.ok;rw[ll]at b1 b2 b3 lok;generalize hm:w.length=m at*
 have hmu: ∀L:Nat->SB,mu5 T.n L m<=28224:=fun L=>by
  refine Nat.le_trans (qqR m) ?_;have h1:T.n*T.n<=12*12:=Nat.mul_le_mul n4 n4;have h2:m*(T.n*T.n)<=14*144:=Nat.mul_le_mul hl h1;exact Nat.mul_le_mul hl h2
 obtain⟨A,a1,a2,a3,a4⟩:=qke (n:=T.n) (m:=m) n4 (by omega) (by omega) (N:=N) (by omega) (fun L=>by have:=hmu L;omega) N 0 (qad (w.foldl (qbt T.n) [])) lok (Nat.zero_le _) (by have:=hmu (qad (w.foldl (qbt T.n) []));omega) (fun j hj=>by omega);obtain⟨cR,d,h0,eR,e2⟩:=r
 have cM:Cod T (fmW T w).2:=by rw[eR]at cR;exact cR.right.left
 have nfB:Nf T.n m B:=fun k i c=>by
  have hk:=c.k_;refine qqb b2 (Nat.le_refl m) ?_ k i hk c;rw[<-b3];exact qrq hT cR (by rw[eR];exact qqH hT cM hf d h0)
 obtain rfl:=qe2 _ (Nat.le_refl _) a2 b1 a3 nfB
 have eM:yc T.n m A=((w.foldl (rwN T) []).reverse).map T.cI:=by
  rw[qpa,<-b3,<-List.map_reverse,List.map_map];rfl
 have eRr:(w.foldl (rwN T) []).reverse=List.replicate h0 T.half++((fmW T w).2.reverse++List.replicate d T.idc):=by
  rw[eR];simp
 have hln:h0+(fmW T w).2.length+d=m:=by
  have:=congrArg List.length eM;rw[ja,eRr]at this;simp at this;omega
 refine⟨?_,fun j=>A (h0+j),fun j hj=>a4 _ (by omega),fun k i c=>a3 (h0+k) i ⟨by have:=c.k_;omega,c.i_,c.b_,c.e_⟩,fun j hj=>?_⟩
 ·unfold xP;have b0:=qiQ (n:=T.n) n4 (N:=N) (by omega) W n2 N 0 0 [] rfl (fun s hs=>by cases hs) (Nat.le_refl _) (Nat.zero_le _) (by omega);rw[show qaz T.n ([]:List SB)=[]from rfl,show(-((0:Nat):Int))=0 from rfl,show((0:Nat):Int)=0 from rfl,YR]at b0
  have rF:qaz T.n (w.foldl (qbt T.n) [])=yc T.n m (qad (w.foldl (qbt T.n) [])):=qk2 (by rw[qba,ll]) fun q hq=>by
   rw[qjk (by rw[ll];exact hq)];unfold qad;rw[Yy,Ya (by rw[ll];exact hq)];rfl
  rw[if_neg (by omega),b0,ZB,rF]
  have p0:qaQ N (yc T.n m (qad (w.foldl (qbt T.n) [])))=some (yc T.n m A):=by
   unfold qaQ;rw[show((0:Nat):Int)=0 from rfl]at a1;rw[a1,ZB]
  dsimp only;rw[p0,ZB,ja,ja,if_pos rfl,ZB]
  have hng: ∀(u:List Int) (k:Nat),u.foldl ngN k<=k+u.length:=by
   intro u
   induction u with
   |nil=>intro k;exact Nat.le_refl _
   |cons c u ih=>
    intro k;rw[List.foldl_cons,Yr];refine Nat.le_trans (ih _) ?_;unfold ngN;split<;>omega
  have hk:=hng w 0;have f0:=qhh (n:=T.n) n4 n2 (N:=N) (by omega) (by omega) a4 N 0 (-((w.foldl ngN 0:Nat):Int)) [] (Nat.zero_le _) (by omega) (by omega) (by omega) (Nat.zero_le _);rw[show((0:Nat):Int)=0 from rfl,YR,List.nil_append]at f0;rw[f0,ZB]
  have nI: ∀c∈(fmW T w).2.reverse,T.cI c≠qbr T.n/\T.cI c≠(Ue T.n).li T.n:=fun c hc=>by
   have hc2:=List.mem_reverse.1 hc;have:=qpV hno c hc2;exact⟨fun e=>this.1 (qmq hT (cM c hc2) hT.id_ (by rw[e,qr6 hT])),fun e=>this.2 (qmq hT (cM c hc2) hT.ha_ (by rw[e,qj9 hT]))⟩
  have hne:(Ue T.n).li T.n≠qbr T.n:=qjX n4 n2
  have cnt:(yc T.n m A).countP (fun x=>decide (x=(Ue T.n).li T.n))=h0:=by
   rw[eM,eRr,List.map_append,List.map_append,List.countP_append,List.countP_append,List.map_replicate,List.map_replicate,qj9 hT,qr6 hT,List.countP_replicate,List.countP_replicate]
   have z:((fmW T w).2.reverse.map T.cI).countP (fun x=>decide (x=(Ue T.n).li T.n))=0:=by
    rw[List.countP_eq_zero];intro x hx;obtain⟨c,hc,rfl⟩:=List.mem_map.1 hx;simpa using(nI c hc).2
   rw[z];simp[Ne.symm hne]
  have fil:(yc T.n m A).filter (fun x=>!decide (x=qbr T.n)&&!decide (x=(Ue T.n).li T.n))=(fmW T w).2.reverse.map T.cI:=by
   rw[eM,eRr,List.map_append,List.map_append,List.filter_append,List.filter_append,List.map_replicate,List.map_replicate,qj9 hT,qr6 hT]
   have z:((fmW T w).2.reverse.map T.cI).filter (fun x=>!decide (x=qbr T.n)&&!decide (x=(Ue T.n).li T.n))=(fmW T w).2.reverse.map T.cI:=by
    rw[List.filter_eq_self];intro x hx;obtain⟨c,hc,rfl⟩:=List.mem_map.1 hx;simp[(nI c hc).1,(nI c hc).2]
   rw[z];simp
  rw[cnt,fil];dsimp only;unfold fmI;congr 2;omega
 have hq:h0+j<m:=by omega
 have e1:=congrArg (fun z:List (List Nat)=>z.reverse[h0+j]?) b3;rw[qgq,<-List.map_reverse,eRr,YA,YA,Yo (by simp),List.length_replicate,Nat.add_sub_cancel_left,Yf (by simpa using hj),List.getElem?_range hq,Ya (by simpa using hj)]at e1;exact(Ye e1).symm
end Go.Av
end
section
namespace Go.Av
def qT2:QTb:=⟨2,2,[[0,1],[1,0]],72181409904875314414374968516587674608769193923998367054820377053136271193305186106925957803847713792,32,[1],[0],0,1⟩
def qT3:QTb:=⟨3,6,[[0,1,2],[0,2,1],[1,0,2],[1,2,0],[2,0,1],[2,1,0]],8266444832593256110278504056324975968503043804566250863407260539807837122730277548901335238120097395179051920032784121885944365959314536480922739183161704479908532888759525628914427475701484775992797476535919946361258797552121693278065530760138100112689290939756654604389242850736458767737950760870612468550431008366489984023528034147806255775601685454698281011192935300900373995265410456645285650811097701860214837219642145815646556704835918396369342363658459293544675424415982589867407839793775616,171050048,[2,1],[4,3],0,5⟩
def qT4:QTb:=⟨4,24,[[0,1,2,3],[0,1,3,2],[0,2,1,3],[0,2,3,1],[0,3,1,2],[0,3,2,1],[1,0,2,3],[1,0,3,2],[1,2,0,3],[1,2,3,0],[1,3,0,2],[1,3,2,0],[2,0,1,3],[2,0,3,1],[2,1,0,3],[2,1,3,0],[2,3,0,1],[2,3,1,0],[3,0,1,2],[3,0,2,1],[3,1,0,2],[3,1,2,0],[3,2,0,1],[3,2,1,0]],49924679964118950158504773047712293008357572476700065051888262983812057941490288147443351685426771215159984320836562853297116792287243261337793508672679251465644859717201945477412550594078187220419246253422400668501238822705186209631823664795546556725802353443597366994676083434298407497895951006041340697925103439831429288656551147713465281614174897695110438160528146578989233620903067625154729735852172944938768903786003427752492075541580189905618886734922591285116646371245110358685073318595789079558477297991090241916855011136828568208244471641454901805830279422430958743345433364647924354266092999170769933150084419990857426812155074405611150780835374419587994421388349476497668576829772488824900890943580440564475224948382613975569030959140137112946356581733181767804982837299001275241404024428423969945375118018346251689811035666654288789377498673465654056046472367046584590543393353605191609945521833629814704248581809745682262940627633852625899232412773399747183302053873722142720448400276228892069755475979637633022120133509269817175026926090945579051002275436700445082501496335987190279038950560271464274442251761989218996321827353813610005240986238361113907433293778101564204070566329073411198764754719454991281569784587907213314050180094441658837772201767737978404315443030869776484701693495790906741003166215916682350154151789114301259079812398741228901552670752772395833617508221840505129725629199784506605943043680284619804642750999491474547619553548489473624190326497049323827710585797376128535162121336392147624711654859716099592102869074139412083732499915758752748885407482110554388566101216417935215251003517456352892825683218863073492610190489573499633703322144945645623511650086536431133964455733231818730410381913488209559937579397955745483507689917102846472843567664143105810769946017619388434306508209431226370530891092075784336003387970392890486318636301860961540143886450558313887045598385752921294146328527693950926360982960926679499102240763953829825506070855435692925060097073536747148584138050668920091924574974555317321554774419427977255641596038254215103565789710315231253691377676323688829991038820329597762396240623059261092946519163386353067005187428775114373499030304537824708080794941093469489225553214118469148918400762649165981331577145360589521920,978316295202967168895658715385301184,[6,2,1],[22,21,17],0,23⟩
end Go.Av
end
section
namespace Go.Av
open Go
theorem qu2:qT2.ck=true:=by kernel_rfl
theorem quC:qT3.ck=true:=by kernel_rfl
theorem qus:qT4.ck=true:=by kernel_rfl
theorem quU:dmN qT2=true:=by kernel_rfl
theorem quz:dmN qT3=true:=by kernel_rfl
theorem quq:dmN qT4=true:=by kernel_rfl
theorem quZ:qT2.cw=true:=by kernel_rfl
theorem qug:qT3.cw=true:=by kernel_rfl
theorem quA:qT4.cw=true:=by kernel_rfl
end Go.Av
end
section
namespace Go.Av
def bet:Nat->Nat
 |0=>1
 |1=>30
 |2=>500
 |3=>7000
 |_=>0
theorem qqL (k:Nat):bet k<10007:=by
 unfold bet;split<;>omega
def evl (x:Int) (z:Nat):Nat:=if 0<x then(2*z+bet (x.natAbs-1))%10007 else(5004*(z+(10007-bet (x.natAbs-1))))%10007
def ev:List Int->Nat->Nat
 |[],z=>z
 |x::u,z=>evl x (ev u z)
theorem qrB (x:Int) (z:Nat):evl x z<10007:=by
 unfold evl;split<;>exact Nat.mod_lt _ (by omega)
theorem qiH: ∀(u:List Int) (z:Nat),z<10007->ev u z<10007
 |[],z,h=>h
 |x::u,z,h=>qrB _ _
theorem qmb {x:Int} (hx:x≠0) {z:Nat} (hz:z<10007):evl x (evl (-x) z)=z:=by
 unfold evl;rw[Int.natAbs_neg];have:=qqL (x.natAbs-1);generalize bet (x.natAbs-1)=b at*;by_cases h:0<x
 ·rw[if_pos h,if_neg (by omega)];omega
 rw[if_neg h,if_pos (by omega)];omega
theorem qes: ∀(u v:List Int) (z:Nat),ev (u++v) z=ev u (ev v z)
 |[],v,z=>rfl
 |x::u,v,z=>by rw[List.cons_append,ev,ev,qes u v z]
theorem qnD: ∀(u:List Int),Nz u-> ∀z,z<10007->ev u (ev (zJ u) z)=z
 |[],h,z,hz=>rfl
 |x::u,h,z,hz=>by
  rw[qaB,qes,ev];have e:ev [-x] z=evl (-x) z:=rfl;rw[e,qnD u (fun y hy=>h y (List.mem_cons_of_mem _ hy)) _ (qrB _ _),qmb (h x List.mem_cons_self) hz]
theorem qsW {s:List Int} {x:Int} (hx:x≠0) (hs:Nz s) {z:Nat} (hz:z<10007):ev (qb9 s x).reverse z=ev s.reverse (evl x z):=by
 cases s with
 |nil=>rfl
 |cons y t=>
  by_cases e:y= -x
  ·rw[qb6 t e,List.reverse_cons,qes]
   have:ev [y] (evl x z)=z:=by
    show evl y (evl x z)=z;have:=qmb (x:=y) (hs y List.mem_cons_self) hz;rw[e,Int.neg_neg]at this;rw[e];exact this
   rw[this]
  rw[qbX t e,show(x::y::t).reverse=(y::t).reverse++[x]from List.reverse_cons,qes];rfl
theorem qru {s:List Int} {x:Int} (hx:x≠0) (hs:Nz s):Nz (qb9 s x):=fun y hy=>by
 cases s with
 |nil=>rw[qgK]at hy;rw[List.mem_singleton.1 hy];exact hx
 |cons a t=>
  by_cases e:a= -x
  ·rw[qb6 t e]at hy;exact hs y (List.mem_cons_of_mem _ hy)
  rw[qbX t e]at hy;rcases List.mem_cons.1 hy with rfl|hy
  ·exact hx
  exact hs y hy
theorem qqz: ∀(w s:List Int),Nz w->Nz s-> ∀z,z<10007->ev (fact s w).reverse z=ev s.reverse (ev w z)
 |[],s,hw,hs,z,hz=>rfl
 |x::w,s,hw,hs,z,hz=>by
  have hx:=hw x List.mem_cons_self
  have hw':Nz w:=fun y hy=>hw y (List.mem_cons_of_mem _ hy)
  rw[qji,qqz w _ hw' (qru hx hs) z hz,qsW hx hs (qiH w z hz)];rfl
theorem qoa {w:List Int} (hw:Nz w) {z:Nat} (hz:z<10007):ev (fred w) z=ev w z:=qqz w [] hw (fun y hy=>by cases hy) z hz
def Lin (u:List Int) (c:Nat):Prop:=c<10007/\ ∀z,z<10007->ev u z=(2*z+c)%10007
theorem Lin.at0 {u:List Int} {c:Nat} (h:Lin u c):c=ev u 0:=by
 have:=h.2 0 (by omega);have:=h.1;omega
theorem Lin.conj {a b:List Int} {p q:Nat} (ha:Nz a) (hb:Nz b) (h:Lin a p) (k:Lin b q):Lin (fred (a++b++zJ a)) ((2*q+(10007-p))%10007):=by
 refine⟨Nat.mod_lt _ (by omega),fun z hz=>?_⟩;rw[qoa ((ha.app hb).app ha.inv) hz,qes,qes];have e:=qnD a ha z hz;have hy:=qiH (zJ a) z hz;generalize ev (zJ a) z=y at*;rw[h.2 y hy]at e;rw[k.2 y hy,h.2 _ (Nat.mod_lt _ (by omega))];have:=h.1;have:=k.1;omega
theorem Lin.conji {a b:List Int} {p q:Nat} (ha:Nz a) (hb:Nz b) (h:Lin a p) (k:Lin b q):Lin (fred (zJ b++a++b)) ((5004*(p+q))%10007):=by
 refine⟨Nat.mod_lt _ (by omega),fun z hz=>?_⟩;rw[qoa ((hb.inv.app ha).app hb) hz,qes,qes];have e:=qnD b hb (ev a (ev b z)) (qiH _ _ (qiH _ _ hz));have hy:=qiH (zJ b) (ev a (ev b z)) (qiH _ _ (qiH _ _ hz));generalize ev (zJ b) (ev a (ev b z))=y at*;rw[k.2 y hy,k.2 z hz,h.2 _ (Nat.mod_lt _ (by omega))]at e;have:=h.1;have:=k.1;omega
def qgy:List (List Int)->List Nat->Prop
 |[],[]=>True
 |u::l,c::t=>Lin u c/\qgy l t
 |_,_=>False
theorem qgy.uniq: ∀{l:List (List Int)} {s t:List Nat},qgy l s->qgy l t->s=t
 |[],[],[],h,k=>rfl
 |[],c::s,_,h,k=>by cases h
 |[],[],c::t,h,k=>by cases k
 |u::l,[],_,h,k=>by cases h
 |u::l,c::s,[],h,k=>by cases k
 |u::l,c::s,d::t,h,k=>by rw[h.1.at0,k.1.at0,h.2.uniq k.2]
def qg5:Nat->Bool->List Nat->List Nat
 |0,true,a::b::l=>(2*b+(10007-a))%10007::a::l
 |0,false,a::b::l=>b::(5004*(a+b))%10007::l
 |i+1,p,a::l=>a::qg5 i p l
 |_,_,l=>l
theorem qgy.step: ∀(i:Nat) (p:Bool) {im:List (List Int)} {t:List Nat},Nzs im->i+1<im.length->qgy im t->qgy (bif p then(im.set i (fred (im.getD i []++im.getD (i+1) []++zJ (im.getD i [])))).set (i+1) (im.getD i [])else(im.set i (im.getD (i+1) [])).set (i+1) (fred (zJ (im.getD (i+1) [])++im.getD i []++im.getD (i+1) []))) (qg5 i p t)
 |0,true,a::b::l,c::d::t,hz,hi,h=>by
  have ha:Nz a:=hz a List.mem_cons_self;have hb:Nz b:=hz b (List.mem_cons_of_mem _ List.mem_cons_self);exact⟨h.1.conj ha hb h.2.1,h.1,h.2.2⟩
 |0,false,a::b::l,c::d::t,hz,hi,h=>by
  have ha:Nz a:=hz a List.mem_cons_self;have hb:Nz b:=hz b (List.mem_cons_of_mem _ List.mem_cons_self);exact⟨h.2.1,h.1.conji ha hb h.2.1,h.2.2⟩
 |i+1,p,a::l,c::t,hz,hi,h=>by
  have:=qgy.step i p (im:=l) (t:=t) (fun w hw=>hz w (List.mem_cons_of_mem _ hw)) (by simp at hi;omega) h.2;cases p
  ·exact⟨h.1,this⟩
  exact⟨h.1,this⟩
 |0,p,[],t,hz,hi,h=>by simp at hi
 |0,p,[a],t,hz,hi,h=>by simp at hi
 |0,p,a::b::l,[],hz,hi,h=>by cases h
 |0,p,a::b::l,[c],hz,hi,h=>by cases h.2
 |i+1,p,[],t,hz,hi,h=>by simp at hi
 |i+1,p,a::l,[],hz,hi,h=>by cases h
end Go.Av
end
section
namespace Go.Av
abbrev mIns:Str:=[105,110,115,101,114,116]
abbrev mCan:Str:=[99,97,110,99,101,108]
abbrev mSwp:Str:=[115,119,97,112]
abbrev mTrn:Str:=[116,117,114,110]
section
variable {N:Nat} (hN:2000<N) {n:Nat} (h1:1<=n) (h2:n<=12)
include hN h1 h2
theorem bf4: ∀a b c d:Int,ky N [a,b,c,d]=some (qkN [a,b,c,d]):=fun a b c d=>qdq (by simp) (by simp;omega)
theorem qjw {u v:List Int} (hw:(u++v).length<=4000) {L:Int} (hl:L≠0/\ -(n:Int)<L/\L<n):zK N (n:Int) (u++v) (⟨mIns,(u.length:Int),L⟩:qG)=some (u++[L,-L]++v,0):=by
 have lw:(u++v).length=u.length+v.length:=Yq;unfold zK qat;dsimp only;simp only[ZB,yA,bf4 hN h1 h2];rw[if_pos (by decide),qhL (by omega) (by omega),qjR.2 hl];simp only[ZB];have b:decide ((u.length:Int)>w64 (((u++v).length:Int)-0))=false:=decide_eq_false (by rw[qF (by omega) (by omega)];omega)
 have z:w64 ((u.length:Int)+0)=(u.length:Int):=by rw[qF (by omega) (by omega)];omega
 have wL:w64 (0-L)= -L:=by rw[qF (by omega) (by omega)];omega
 have r2:qgT (u++v) (u.length:Int) (u.length:Int) L (-L)=some (u++[L,-L]++v):=by
  unfold qgT;rw[if_pos (.inl rfl),qhe (Nat.le_refl _) (by omega) (by omega),List.take_left,List.drop_left]
 rw[if_neg (by omega),b,ZB];dsimp only;rw[if_neg (by decide),z,qmJ (Nat.le_refl _) (by omega),ZB];unfold qbm;rw[ZB,if_neg (by decide),qbG (by omega),ZB];unfold qak;rw[ZB,wL,r2,ZB]
omit h1 h2 hN in
theorem qcq {u v:List Int} (l:List Int) (j:Nat) (hj:j<l.length):(u++l++v)[u.length+j]? =l[j]? :=by
 rw[Yz,Yo (by omega),Nat.add_sub_cancel_left,Yf hj]
omit h1 h2 hN in
theorem qmO {u l v:List Int}:(u++l++v).take u.length=u/\(u++l++v).drop (u.length+l.length)=v:=by
 constructor
 ·rw[Yz,List.take_left]
 rw[show u.length+l.length=(u++l).length by rw[Yq],List.drop_left]
theorem qps {u v:List Int} {x:Int} (hw:(u++[x,-x]++v).length<=4000) (hx: -100<x/\x<100):zK N (n:Int) (u++[x,-x]++v) (⟨mCan,(u.length:Int),0⟩:qG)=some (u++v,0):=by
 have lw:(u++[x,-x]++v).length=u.length+2+v.length:=by simp;omega
 have g0:(u++[x,-x]++v)[u.length]? =some x:=qcq [x,-x] 0 (by simp);have g1:(u++[x,-x]++v)[u.length+1]? =some (-x):=qcq [x,-x] 1 (by simp);have td:(u++[x,-x]++v).take u.length=u/\(u++[x,-x]++v).drop (u.length+2)=v:=qmO;generalize u++[x,-x]++v=w at*;unfold zK qat;dsimp only;simp only[ZB,yA,bf4 hN h1 h2];have b:decide ((u.length:Int)>w64 ((w.length:Int)-2))=false:=decide_eq_false (by rw[qF (by omega) (by omega)];omega)
 have z:w64 ((u.length:Int)+2)=((u.length+2:Nat):Int):=by rw[qF (by omega) (by omega)];rfl
 have wy:w64 (0- -x)=x:=by rw[qF (by omega) (by omega)];omega
 have k3:qbp [x,-x]=some (decide (x=w64 (0- -x))):=rfl
 have r0:ql9 w (u.length:Int) ((u.length+2:Nat):Int)=some (w.take u.length++[]++w.drop (u.length+2)):=by
  unfold ql9;rw[if_pos (by omega),qhe (by omega) (by omega) (by omega)]
 rw[if_neg (by decide),if_pos (by decide),if_neg (by omega),b,ZB];dsimp only;rw[if_neg (by decide),z,qnU g0 g1,ZB,k3,ZB,wy,decide_eq_true rfl,if_neg (by decide),qbG (by omega),ZB];unfold qah;rw[ZB,r0,ZB,td.1,td.2,YQ]
theorem qpm {u v:List Int} {x y:Int} (hw:(u++[x,y]++v).length<=4000) (hx: -100<x/\x<100) (hy: -100<y/\y<100) (e:((((x.natAbs:Int)-(y.natAbs:Int)).natAbs:Nat):Int)>=2):zK N (n:Int) (u++[x,y]++v) (⟨mSwp,(u.length:Int),0⟩:qG)=some (u++[y,x]++v,0):=by
 have lw:(u++[x,y]++v).length=u.length+2+v.length:=by simp;omega
 have g0:(u++[x,y]++v)[u.length]? =some x:=qcq [x,y] 0 (by simp);have g1:(u++[x,y]++v)[u.length+1]? =some y:=qcq [x,y] 1 (by simp);have td:(u++[x,y]++v).take u.length=u/\(u++[x,y]++v).drop (u.length+2)=v:=qmO;generalize u++[x,y]++v=w at*;unfold zK qat;dsimp only;simp only[ZB,yA,bf4 hN h1 h2];have b:decide ((u.length:Int)>w64 ((w.length:Int)-2))=false:=decide_eq_false (by rw[qF (by omega) (by omega)];omega)
 have z:w64 ((u.length:Int)+2)=((u.length+2:Nat):Int):=by rw[qF (by omega) (by omega)];rfl
 have k0:idx [x,y] 0=some x:=rfl;have k1:idx [x,y] 1=some y:=rfl;have e0:w64 (((x.natAbs:Nat):Int)-((y.natAbs:Nat):Int))=(x.natAbs:Int)-(y.natAbs:Int):=qF (by omega) (by omega)
 have k5:qas [x,y]=some (decide (((((x.natAbs:Int)-(y.natAbs:Int)).natAbs:Nat):Int)>=2)):=by
  unfold qas;simp only[k0,k1,ZB,vZ (show-1000<x/\x<1000 by omega),vZ (show-1000<y/\y<1000 by omega),e0,vZ (show-1000<(x.natAbs:Int)-(y.natAbs:Int)/\(x.natAbs:Int)-(y.natAbs:Int)<1000 by omega)]
 have k6:qaj [x,y] mSwp (u.length:Int) 0=some (y,x):=rfl
 have r2:qgT w (u.length:Int) ((u.length+2:Nat):Int) y x=some (w.take u.length++[y,x]++w.drop (u.length+2)):=by
  unfold qgT;rw[if_pos (.inr (by omega)),qhe (by omega) (by omega) (by omega)]
 rw[if_neg (by decide),if_neg (by decide),if_pos (by decide),if_neg (by omega),b,ZB];dsimp only;rw[if_neg (by decide),z,qnU g0 g1,ZB,k5,ZB,decide_eq_true e,if_neg (by decide),qbG (by omega),ZB,k6,ZB];dsimp only;rw[r2,ZB,td.1,td.2]
theorem qpr {u v:List Int} {x y q:Int} {l:List Int} (hw:(u++[x,y,q]++v).length<=4000) (bx:x≠0/\ -(n:Int)<x/\x<n) (by_:y≠0/\ -(n:Int)<y/\y<n) (bz:q≠0/\ -(n:Int)<q/\q<n) (e:qfD x y q=some l) (sg:sg5 x=sg5 y\/sg5 y=sg5 q):zK N (n:Int) (u++[x,y,q]++v) (⟨mTrn,(u.length:Int),0⟩:qG)=some (u++l++v,0):=by
 have lw:(u++[x,y,q]++v).length=u.length+3+v.length:=by simp;omega
 have g0:(u++[x,y,q]++v)[u.length]? =some x:=qcq [x,y,q] 0 (by simp);have g1:(u++[x,y,q]++v)[u.length+1]? =some y:=qcq [x,y,q] 1 (by simp);have g2:(u++[x,y,q]++v)[u.length+2]? =some q:=qcq [x,y,q] 2 (by simp);have td:(u++[x,y,q]++v).take u.length=u/\(u++[x,y,q]++v).drop (u.length+3)=v:=qmO;generalize u++[x,y,q]++v=w at*;unfold zK qat;dsimp only;simp only[ZB,yA,bf4 hN h1 h2];have b:decide ((u.length:Int)>w64 ((w.length:Int)-3))=false:=decide_eq_false (by rw[qF (by omega) (by omega)];omega)
 have z:w64 ((u.length:Int)+3)=((u.length+3:Nat):Int):=by rw[qF (by omega) (by omega)];rfl
 rw[if_neg (by decide),if_neg (by decide),if_neg (by decide),if_pos (by decide),if_neg (by omega),b,ZB];dsimp only;rw[if_neg (by decide),z,qsK g0 g1 g2,ZB];rcases qrM bx by_ bz (by omega) (u.length:Int)with e'|⟨l',t1,t2,t3,t4⟩
 ·exfalso;have rX:=vZ (show-1000<x/\x<1000 by omega);have rY:=vZ (show-1000<y/\y<1000 by omega);have rZ:=vZ (show-1000<q/\q<1000 by omega);have e0:w64 (((x.natAbs:Nat):Int)-((y.natAbs:Nat):Int))=(x.natAbs:Int)-(y.natAbs:Int):=qF (by omega) (by omega);have ad:=vZ (show-1000<(x.natAbs:Int)-(y.natAbs:Int)/\(x.natAbs:Int)-(y.natAbs:Int)<1000 by omega);unfold qfD at e;by_cases c:x.natAbs=q.natAbs/\(x.natAbs=y.natAbs+1\/y.natAbs=x.natAbs+1)
  ·have k0:idx [x,y,q] 0=some x:=rfl;have k1:idx [x,y,q] 1=some y:=rfl;have k2:idx [x,y,q] 2=some q:=rfl;unfold qaw at e';simp only[k0,k1,k2,ZB,rX,rY,rZ,e0,ad,qgA bx.1,qgA by_.1,qgA bz.1]at e';rw[if_pos (show((x.natAbs:Nat):Int)=((q.natAbs:Nat):Int)by omega),if_pos (show((((x.natAbs:Int)-(y.natAbs:Int)).natAbs:Nat):Int)=1 by omega)]at e';rcases sg with s|s
   ·rw[if_pos s]at e';exact absurd e' (by decide)
   by_cases s':sg5 x=sg5 y
   ·rw[if_pos s']at e';exact absurd e' (by decide)
   rw[if_neg s',decide_eq_true s]at e';exact absurd e' (by decide)
  rw[if_neg c]at e;cases e
 rw[e]at t1;obtain rfl:=Ye t1
 have r2:qlr w (u.length:Int) ((u.length+3:Nat):Int) l=some (w.take u.length++l++w.drop (u.length+3)):=by
  unfold qlr;rw[if_pos ⟨by omega,by rw[t2];omega⟩,qhe (by omega) (by omega) (by omega)]
 rw[t3,ZB,if_neg (by decide),qbG (by omega),ZB,t4,ZB,r2,ZB,td.1,td.2]
end
end Go.Av
end
section
namespace Go.Av
theorem apb2 {α:Type} (l:List α) (x y:α) (r:List α):l++[x]++[y]++r=l++x::y::r:=by simp
theorem apb1 {α:Type} (l:List α) (x:α) (r:List α):l++[x]++r=l++x::r:=by simp
def Chn (N n:Nat):List Int->List qG->List Int->Prop
 |w,[],v=>w=v
 |w,m::ms,v=> ∃u,zK N (n:Int) w m=some (u,0)/\Mv n w u/\Chn N n u ms v
theorem Chn.app {N n:Nat}: ∀{ms:List qG} {w v u:List Int} {ns:List qG},Chn N n w ms v->Chn N n v ns u->Chn N n w (ms++ns) u
 |[],w,v,u,ns,h,k=>by obtain rfl:w=v:=h;exact k
 |m::ms,w,v,u,ns,⟨x,h1,hm,h2⟩,k=>⟨x,h1,hm,h2.app k⟩
theorem Chn.one {N n:Nat} {w v:List Int} {m:qG} (h:zK N (n:Int) w m=some (v,0)) (hm:Mv n w v):Chn N n w [m] v:=⟨v,h,hm,rfl⟩
theorem qnI {N n:Nat} {v:List Int} {l:List qG} (hl:l.length<=100000): ∀(K i:Nat) (w:List Int),i<=l.length->l.length<K+i->Chn N n w (l.drop i) v->yF N (n:Int) l K w (i:Int)=some (.inl v)
 |0,i,w,hi,hK,h=>by omega
 |K+1,i,w,hi,hK,h=>by
  unfold yF;by_cases c:i<l.length
  ·rw[YG c]at h;obtain⟨u,h1,_,h2⟩:=h;rw[if_pos (by omega),qC,Ya c,ZB,h1,ZB,if_neg (show¬(!decide ((0:Int)=0))=true by decide),zF (by omega)];exact qnI hl K (i+1) u (by omega) (by omega) h2
  rw[List.drop_eq_nil_of_le (by omega)]at h;obtain rfl:w=v:=h;rw[if_neg (by omega)]
section
variable {N:Nat} (hN:110000<N) {n:Nat} (h1:1<=n) (h2:n<=12)
include hN h1 h2
theorem qi2 {a b:List Int} (A:jT n a) (B:jT n b) {l:List qG} (hl:l.length<=100000) (h:Chn N n a l b):xq N (n:Int) a b l=some 0:=by
 have la:=A.len;have lb:=B.len;have m:=qnI hl N 0 a (Nat.zero_le _) (by omega) h;rw[show((0:Nat):Int)=0 from rfl]at m;unfold xq qdc;rw[qbN (by omega) A B,ZB,if_neg (by decide),if_neg (by omega),qbG (by omega),ZB,m];simp only[ZB];rw[qdp (by omega) (by omega),ZB,decide_eq_true rfl,yA,ZB,qdq (by simp) (by simp;omega)];rfl
omit h1 h2 hN in
theorem qj1 {w v:List Int} {o:Option (List qG)} {k:Str} {A L:Int} (h:zK N (n:Int) w (⟨k,A,L⟩:qG)=some (v,0)) (ho:(hof o).length<=1000000):jg N (n:Int) w o k A L=some (v,hof o++[(⟨k,A,L⟩:qG)]):=by
 unfold jg;rw[h]
 cases o with
 |none=>rfl
 |some l=>
  have hl:l.length<=1000000:=ho;simp only[ZB];rw[qgM (by simp;omega) (by simp;omega)];rfl
omit h1 h2 hN in
theorem quw {w v:List Int} {l:List qG} {k:Str} {A L:Int} (h:zK N (n:Int) w (⟨k,A,L⟩:qG)=some (v,0)) (hl:l.length<=1000000):yE N (n:Int) w l k A L=some (v,l++[(⟨k,A,L⟩:qG)]):=by
 unfold yE;rw[h];simp only[ZB];rw[qgM (by simp;omega) (by simp;omega)];rfl
def InH (n:Nat) (x:Int) (m:List Int):Prop:= ∀z∈m,(z≠0/\ -(n:Int)<z/\z<n)/\z.natAbs≠x.natAbs/\z.natAbs+1≠x.natAbs
omit h1 h2 hN in
theorem trn_I {x z:Int} (hx:x≠0) (hz:z≠0) (h:z.natAbs=x.natAbs+1):qfD x z (-x)=some (qa1 x z)/\(sg5 x=sg5 z\/sg5 z=sg5 (-x)):=by
 have hn:(-x).natAbs=x.natAbs:=Int.natAbs_neg x;unfold qfD qa1;rw[if_pos (show x.natAbs=(-x).natAbs/\(x.natAbs=z.natAbs+1\/z.natAbs=x.natAbs+1)from⟨hn.symm,.inr h⟩),if_pos h];unfold sg5;by_cases px:x<0
 ·have e1:(if x<0 then(-1:Int)else 1)= -1:=if_pos px;have e2:(if-x<0 then(-1:Int)else 1)=1:=if_neg (by omega);by_cases pz:z<0
  ·have e3:(if z<0 then(-1:Int)else 1)= -1:=if_pos pz;have:0<x*z:=Int.mul_pos_of_neg_of_neg px pz;rw[e1,e2,e3,if_pos rfl,if_pos this];refine⟨?_,.inl rfl⟩;rw[show(1:Int)*(z.natAbs:Int)= -z by omega]
  have e3:(if z<0 then(-1:Int)else 1)=1:=if_neg pz
  have: ¬0<x*z:=by
   have:=Int.mul_neg_of_neg_of_pos px (show 0<z by omega);omega
  rw[e1,e2,e3,if_neg (by decide),if_pos rfl,if_neg this];refine⟨?_,.inr rfl⟩;rw[show(-1:Int)*(z.natAbs:Int)= -z by omega]
 have e1:(if x<0 then(-1:Int)else 1)=1:=if_neg px;have e2:(if-x<0 then(-1:Int)else 1)= -1:=if_pos (by omega);by_cases pz:z<0
 ·have e3:(if z<0 then(-1:Int)else 1)= -1:=if_pos pz
  have: ¬0<x*z:=by
   have:=Int.mul_neg_of_pos_of_neg (show 0<x by omega) pz;omega
  rw[e1,e2,e3,if_neg (by decide),if_pos rfl,if_neg this];refine⟨?_,.inr rfl⟩;rw[show(1:Int)*(z.natAbs:Int)= -z by omega]
 have e3:(if z<0 then(-1:Int)else 1)=1:=if_neg pz;have:0<x*z:=Int.mul_pos (by omega) (by omega);rw[e1,e2,e3,if_pos rfl,if_pos this];refine⟨?_,.inl rfl⟩;rw[show(-1:Int)*(z.natAbs:Int)= -z by omega]
omit h1 h2 hN in
theorem qrp {x z:Int} (h:z.natAbs=x.natAbs+1):(qa1 x z).length=3:=by
 unfold qa1;rw[if_pos h];split<;>rfl
omit h1 h2 hN in
theorem qr3 {x z:Int} (h:z.natAbs≠x.natAbs+1):qa1 x z=[z]:=if_neg h
theorem qkp {x:Int} (hx:x≠0/\ -(n:Int)<x/\x<n) {w0:List Int} (t:List Int): ∀(m:List Int) (K:Nat) (u:List Int) (o:Option (List qG)),InH n x m->m.length<K->u.length+3*m.length+t.length<=3900->w0.length<=4000->(hof o).length+2*m.length<=999000->
 ∃ms,qR N (n:Int) w0 x K (u++x::m++ -x::t) o (u.length:Int)=some (u++m.flatMap (qa1 x)++t,hof o++ms,((u++m.flatMap (qa1 x)++t).length:Int)-(w0.length:Int))/\Chn N n (u++x::m++ -x::t) ms (u++m.flatMap (qa1 x)++t)/\ms.length<=2*m.length+1
 |[],0,u,o,hm,hK,hl,hw,ho=>by omega
 |z::m,0,u,o,hm,hK,hl,hw,ho=>by omega
 |[],K+1,u,o,hm,hK,hl,hw,ho=>by
  simp only[List.length_nil]at hl ho
  have ww:u++x::[]++ -x::t=u++[x,-x]++t:=by simp
  have ap:=qps (N:=N) (by omega) h1 h2 (u:=u) (v:=t) (x:=x) (by simp;omega) (by omega);have g1:(u++[x,-x]++t)[u.length+1]? =some (-x):=qcq [x,-x] 1 (by simp);refine⟨[⟨mCan,(u.length:Int),0⟩],?_,?_,by simp⟩
  ·rw[ww];unfold qR;rw[zF (by omega),qC,g1,ZB,if_pos (by rw[qF (by omega) (by omega)];omega),qj1 ap (by omega)];simp only[ZB,List.flatMap_nil,YQ];rw[qF (by omega) (by simp;omega)]
  rw[ww];simp only[List.flatMap_nil,YQ];exact Chn.one ap Mv.can
 |z::m,K+1,u,o,hm,hK,hl,hw,ho=>by
  obtain⟨bz,c1,c2⟩:=hm z (List.mem_cons_self ..)
  have hm':InH n x m:=fun y hy=>hm y (List.mem_cons_of_mem _ hy)
  simp only[Yr]at hK hl ho;have ax:=vZ (show-1000<x/\x<1000 by omega);have az:=vZ (show-1000<z/\z<1000 by omega);have e0:w64 (((x.natAbs:Nat):Int)-((z.natAbs:Nat):Int))=(x.natAbs:Int)-(z.natAbs:Int):=qF (by omega) (by omega);have ad:=vZ (show-1000<(x.natAbs:Int)-(z.natAbs:Int)/\(x.natAbs:Int)-(z.natAbs:Int)<1000 by omega)
  have ww:u++x::z::m++ -x::t=u++[x,z]++(m++ -x::t):=by simp
  have g1:(u++[x,z]++(m++ -x::t))[u.length+1]? =some z:=qcq [x,z] 1 (by simp)
  have nx: ¬z=w64 (0-x):=by rw[qF (by omega) (by omega)];omega
  by_cases far:z.natAbs=x.natAbs+1
  ·
   obtain⟨tr,sg⟩:=trn_I hx.1 bz.1 far;have l3:=qrp far;have ap1:=qjw (N:=N) (by omega) h1 h2 (u:=u++[x,z]) (v:=m++ -x::t) (by simp;omega) (L:= -x) (by omega);rw[Int.neg_neg]at ap1
   have w2:u++[x,z]++[-x,x]++(m++ -x::t)=u++[x,z,-x]++(x::m++ -x::t):=by simp
   have ap2:=qpr (N:=N) (by omega) h1 h2 (u:=u) (v:=x::m++ -x::t) (x:=x) (y:=z) (q:= -x) (l:=qa1 x z) (by simp;omega) hx bz (by omega) tr sg;rw[<-w2]at ap2
   have w3:u++qa1 x z++(x::m++ -x::t)=(u++qa1 x z)++x::m++ -x::t:=by simp
   rw[w3]at ap2
   have lu:(u++qa1 x z).length=u.length+3:=by rw[Yq,l3]
   have la:(u++[x,z]).length=u.length+2:=by simp
   rw[la]at ap1
   obtain⟨ms,q1,q2,q3⟩:=qkp hx t m K (u++qa1 x z) (some (hof o++[⟨mIns,((u.length+2:Nat):Int),-x⟩]++[⟨mTrn,(u.length:Int),0⟩])) hm' (by omega) (by rw[lu];omega) hw (by
    show(hof o++[_]++[_]).length+_<=_
    simp;omega)
   have fl:(z::m).flatMap (qa1 x)=qa1 x z++m.flatMap (qa1 x):=List.flatMap_cons
   have wf:u++(z::m).flatMap (qa1 x)++t=(u++qa1 x z)++m.flatMap (qa1 x)++t:=by rw[fl];simp
   rw[wf];refine⟨⟨mIns,((u.length+2:Nat):Int),-x⟩::⟨mTrn,(u.length:Int),0⟩::ms,?_,?_,by simp only[Yr];omega⟩
   ·rw[ww];unfold qR;rw[zF (by omega),qC,g1,ZB,if_neg nx];simp only[ax,az,e0,ad,ZB]
    have a2:w64 ((u.length:Int)+2)=((u.length+2:Nat):Int):=by rw[qF (by omega) (by omega)];rfl
    have a3:w64 ((u.length:Int)+3)=((u.length+3:Nat):Int):=by rw[qF (by omega) (by omega)];rfl
    have nx':w64 (0-x)= -x:=by rw[qF (by omega) (by omega)];omega
    rw[if_neg (by omega),a2,nx',qj1 ap1 (by omega)];simp only[ZB];rw[quw ap2 (by simp;omega)];simp only[ZB];rw[a3,<-lu,q1];show some (_,(hof o++[_]++[_])++ms,_)=_;rw[apb2]
   rw[ww];have m1:=Mv.ins (n:=n) (u:=u++[x,z]) (v:=m++ -x::t) (x:= -x) (by omega);rw[Int.neg_neg]at m1;have m2:=Mv.trn (n:=n) (u:=u) (v:=x::m++ -x::t) tr;rw[<-w2,w3]at m2;exact⟨_,ap1,m1,_,ap2,m2,q2⟩
  
  have ap:=qpm (N:=N) (by omega) h1 h2 (u:=u) (v:=m++ -x::t) (x:=x) (y:=z) (by simp;omega) (by omega) (by omega) (by omega)
  have w3:u++[z,x]++(m++ -x::t)=(u++[z])++x::m++ -x::t:=by simp
  rw[w3]at ap
  have lu:(u++[z]).length=u.length+1:=by simp
  obtain⟨ms,q1,q2,q3⟩:=qkp hx t m K (u++[z]) (some (hof o++[⟨mSwp,(u.length:Int),0⟩])) hm' (by omega) (by rw[lu];omega) hw (by
   show(hof o++[_]).length+_<=_
   simp;omega)
  have fl:(z::m).flatMap (qa1 x)=[z]++m.flatMap (qa1 x):=by rw[List.flatMap_cons,qr3 far]
  have wf:u++(z::m).flatMap (qa1 x)++t=(u++[z])++m.flatMap (qa1 x)++t:=by rw[fl];simp
  rw[wf];refine⟨⟨mSwp,(u.length:Int),0⟩::ms,?_,?_,by simp only[Yr];omega⟩
  ·rw[ww];unfold qR;rw[zF (by omega),qC,g1,ZB,if_neg nx];simp only[ax,az,e0,ad,ZB];rw[if_pos (by omega),qj1 ap (by omega)];simp only[ZB];rw[<-lu,q1];show some (_,(hof o++[_])++ms,_)=_;rw[apb1 (hof o)]
  rw[ww];have m1:=Mv.swp (n:=n) (u:=u) (v:=m++ -x::t) (x:=x) (y:=z) (by unfold qpd;rw[Bool.or_eq_true,Nat.ble_eq,Nat.ble_eq];omega);rw[w3]at m1;exact⟨_,ap,m1,q2⟩
end
end Go.Av
end
section
namespace Go.Av
def adv:List Int->List Int->Option (List Int×List Int×Int×List Int)
 |s,[]=>none
 |s,y::r=>match scI y s []with
  |none=>adv (y::s) r
  |some (s',m)=>some (s',m,y,r)
theorem qhY {y:Int}: ∀{s m s' m':List Int},scI y s m=some (s',m')->s.reverse++m=s'.reverse++ -y::m'/\(∀z∈m',z∈m\/(z.natAbs≠y.natAbs/\z.natAbs+1≠y.natAbs))/\s'.length<=s.length
 |[],m,s',m',h=>by cases h
 |z::s,m,s',m',h=>by
  unfold scI at h;split at h
  ·rename_i c;obtain⟨rfl,rfl⟩:=Prod.mk.inj (Ye h);exact⟨by simp[c],fun z hz=> .inl hz,Nat.le_succ _⟩
  split at h
  ·cases h
  rename_i c d;obtain⟨h1,h2,h3⟩:=qhY h;refine⟨by rw[<-h1];simp,fun x hx=>?_,Nat.le_succ_of_le h3⟩;rcases h2 x hx with h|h
  ·rcases List.mem_cons.1 h with rfl|h
   ·exact .inr ⟨fun e=>d (.inl e),fun e=>d (.inr e)⟩
   exact .inl h
  exact .inr h
theorem qkS: ∀(p s r:List Int),adv s p=none->adv s (p++r)=adv (p.reverse++s) r
 |[],s,r,h=>rfl
 |y::p,s,r,h=>by
  unfold adv at h;rw[List.cons_append,adv]
  cases c:scI y s []with
  |some q=>rw[c]at h;cases h
  |none=>
   rw[c]at h;dsimp only at h⊢;rw[qkS p _ r h];simp
theorem qn0: ∀(p s r:List Int),adv s (p++r)=none->adv s p=none
 |[],s,r,h=>rfl
 |y::p,s,r,h=>by
  rw[List.cons_append]at h;unfold adv at h⊢
  cases c:scI y s []with
  |some q=>rw[c]at h;cases h
  |none=>rw[c]at h;exact qn0 p _ r h
theorem qe0: ∀{J:Nat} {s r v:List Int},hrI J s r=some v->r.length<J
 |0,s,r,v,h=>by cases h
 |J+1,s,[],v,h=>Nat.succ_pos _
 |J+1,s,y::r,v,h=>by
  unfold hrI at h
  cases c:scI y s []with
  |none=>rw[c]at h;have:=qe0 h;simp;omega
  |some q=>
   rw[c]at h;have:=qe0 h;simp only[qcT,Yq]at this;simp;omega
def hres (p:List Int):Int×Int×Bool:=match adv [] p with
 |none=>(0,0,false)
 |some (s',m,y,r)=>((s'.length:Int),((s'.length+1+m.length:Nat):Int),true)
theorem qt7 {w:List Int} {y:Int} {j:Nat} (hy:w[j]? =some y) (hw: ∀z∈w,-1000<z/\z<1000): ∀(s m p:List Int) (K:Nat),w=s.reverse++p->s.length<K->s.length<=100000->
 qJ w (j:Int) K ((s.length:Int)-1)=(match scI y s m with
  |none=>some (.inl ())
  |some (s',_)=>some (.inr ((s'.length:Int),(j:Int),true)))
 |s,m,p,0,e,hK,hl=>by omega
 |[],m,p,K+1,e,hK,hl=>by
  unfold qJ;rw[if_neg (by simp)];rfl
 |z::t,m,p,K+1,e,hK,hl=>by
  simp only[Yr]at hK hl
  have e2:w=t.reverse++z::p:=by rw[e];simp
  have gz:w[t.length]? =some z:=by
   rw[e2,Yo (by simp)];simp
  have bz:=hw z (Yn gz);have bY:=hw y (Yn hy)
  have l1:((z::t).length:Int)-1=(t.length:Int):=by simp
  unfold qJ;rw[l1,if_pos (by omega),qC,gz,ZB,qC,hy,ZB,show w64 (0-y)= -y from(qF (by omega) (by omega)).trans (by omega)];unfold scI;by_cases c:z= -y
  ·rw[if_pos c,if_pos c]
  rw[if_neg c,if_neg c,vZ bz,vZ bY];simp only[ZB];by_cases d:z.natAbs=y.natAbs
  ·rw[if_pos (show((z.natAbs:Nat):Int)=((y.natAbs:Nat):Int)by omega),ZB,if_pos rfl,if_pos (.inl d)]
  rw[if_neg (show¬((z.natAbs:Nat):Int)=((y.natAbs:Nat):Int)by omega),ZB,qF (by omega) (by omega)];by_cases f:z.natAbs+1=y.natAbs
  ·rw[decide_eq_true (show((z.natAbs:Nat):Int)=((y.natAbs:Nat):Int)-1 by omega),if_pos rfl,if_pos (.inr f)]
  rw[decide_eq_false (show¬((z.natAbs:Nat):Int)=((y.natAbs:Nat):Int)-1 by omega),if_neg (by decide),if_neg (by omega),qF (by omega) (by omega)];exact qt7 hy hw t (z::m) (z::p) K e2 (by omega) (by omega)
theorem qt3 {N:Nat} {w t:List Int} (hw: ∀z∈w,-1000<z/\z<1000) (hN:w.length<N) (hl:w.length<=100000): ∀(r s:List Int) (K L:Nat),w=s.reverse++r++t->r.length<K->L=s.length+r.length->
 qI N w (L:Int) K (s.length:Int)=(match adv s r with
  |none=>some (.inl ())
  |some (s',m,y,r)=>some (.inr ((s'.length:Int),((s'.length+1+m.length:Nat):Int),true)))
 |r,s,0,L,e,hK,hL=>by omega
 |[],s,K+1,L,e,hK,hL=>by
  unfold qI;rw[if_neg (by simp at hL;omega)];rfl
 |y::r,s,K+1,L,e,hK,hL=>by
  simp only[Yr]at hK hL
  have lw:w.length=s.length+(r.length+1)+t.length:=by rw[e];simp;omega
  have gy:w[s.length]? =some y:=by
   rw[e,Yz,Yo (by simp)];simp
  have h1:=qt7 gy hw s [] (y::r++t) N (by rw[e];simp) (by omega) (by omega);unfold qI;rw[if_pos (by omega),qF (n:=(s.length:Int)-1) (by omega) (by omega),h1];unfold adv
  cases c:scI y s []with
  |none=>
   simp only[ZB];rw[zF (by omega)];exact qt3 (t:=t) hw hN hl r (y::s) K L (by rw[e];simp) (by omega) (by simp;omega)
  |some q=>
   obtain⟨s',m⟩:=q;have sp:=(qhY c).1;have:=congrArg List.length sp;simp at this;simp only[ZB];rw[show s.length=s'.length+1+m.length by omega]
theorem qjO {N:Nat} {p t:List Int} (hw: ∀z∈p++t,-1000<z/\z<1000) (hN:(p++t).length<N) (hl:(p++t).length<=100000) (n:Int) (o:Option (List qG)):jk N n (p++t) o (p.length:Int)=some (hres p):=by
 have:=qt3 (t:=t) hw hN hl p [] N p.length (by simp) (by simp at hN;omega) (by simp);unfold jk hres;rw[show((0:Int))=(([]:List Int).length:Int)from rfl,this]
 cases adv [] p with
 |none=>rfl
 |some q=>obtain⟨s',m,y,r⟩:=q;rfl
theorem h2_L1:@zh=@qJ:=by
 funext w j K
 induction K with
 |zero=>rfl
 |succ K ih=>
  funext n8;unfold zh qJ;rw[ih]
theorem h2_L0:@zi=@qI:=by
 funext N w L K
 induction K with
 |zero=>rfl
 |succ K ih=>
  funext n4;unfold zi qI;rw[ih,h2_L1]
theorem qmw {N:Nat} {p t:List Int} (hw: ∀z∈p++t,-1000<z/\z<1000) (hN:(p++t).length<N) (hl:(p++t).length<=100000) (n:Int) (o:List qG):jO N n (p++t) o (p.length:Int)=some (hres p):=by
 have:=qjO hw hN hl n none;unfold jk at this;unfold jO;rw[h2_L0];exact this
theorem flat_len (y:Int): ∀m:List Int,m.length<=(m.flatMap (qa1 y)).length
 |[]=>Nat.le_refl _
 |z::m=>by
  rw[List.flatMap_cons,Yq,Yr];have:=flat_len y m
  have:1<=(qa1 y z).length:=by unfold qa1;split<;>(try split)<;>simp
  omega
section
variable {N:Nat} (hN:110000<N) {n:Nat} (h1:1<=n) (h2:n<=12)
include hN h1 h2
theorem qsC {t:List Int} (ht:t.length<=20) (lt:qaf n t): ∀(J:Nat) (s r v:List Int),hrI J s r=some v->adv [] s.reverse=none->qaf n (s.reverse++r)->s.length+J<=1140-> ∀(K:Nat) (o:Option (List qG)),J<K->(hof o).length+2*(J-r.length)+J<=900000->
 ∃o' ms,jQ N (n:Int) K (s.reverse++r++t) o ((s.reverse++r).length:Int) (hres (s.reverse++r)).1 (hres (s.reverse++r)).2.1 (hres (s.reverse++r)).2.2=some (v.reverse++t,o')/\hof o'=hof o++ms/\Chn N n (s.reverse++r++t) ms (v.reverse++t)/\ms.length<=2*(J-r.length)+J
 |0,s,r,v,h,hf,hp,hl,K,o,hK,ho=>by cases h
 |J+1,s,r,v,h,hf,hp,hl,0,o,hK,ho=>by omega
 |J+1,s,[],v,h,hf,hp,hl,K+1,o,hK,ho=>by
  obtain rfl:=Ye h
  have e:hres (s.reverse++[])=(0,0,false):=by unfold hres;rw[YQ,hf]
  refine⟨o,[],?_,by simp,?_,by simp⟩
  ·rw[e];unfold jQ;rw[if_neg (by decide),YQ]
  rw[YQ];rfl
 |J+1,s,y::r,v,h,hf,hp,hl,K+1,o,hK,ho=>by
  have lr:=qe0 h;unfold hrI at h
  have hpa:adv [] (s.reverse++y::r)=adv s (y::r):=by
   rw[qkS s.reverse [] (y::r) hf];simp
  cases c:scI y s []with
  |none=>
   rw[c]at h;have lr2:=qe0 h
   have e:s.reverse++y::r=(y::s).reverse++r:=by simp
   have hf2:adv [] (y::s).reverse=none:=by
    rw[List.reverse_cons,qkS s.reverse [] [y] hf];simp only[List.reverse_reverse,YQ];unfold adv;rw[c];rfl
   rw[e]at hp⊢;obtain⟨o',ms,q1,q2,q3,q4⟩:=qsC ht lt J (y::s) r v h hf2 hp (by simp only[Yr];omega) (K+1) o (by omega) (by simp only[Yr]at ho;omega);exact⟨o',ms,q1,q2,q3,by simp only[Yr];omega⟩
  |some q=>
   obtain⟨s',m⟩:=q;rw[c]at h;dsimp only at h;have lr2:=qe0 h;obtain⟨sp,sm,sl⟩:=qhY c;rw[YQ]at sp;have spl:=congrArg List.length sp;simp only[Yq,List.length_reverse,Yr]at spl;simp only[Yr]at lr ho
   have gl:(qcT y m r).length=(m.flatMap (qa1 (-y))).length+r.length:=by unfold qcT;rw[Yq]
   have fl:=flat_len (-y) m;have by_:=hp y (by simp)
   have er:hres (s.reverse++y::r)=((s'.length:Int),((s'.length+1+m.length:Nat):Int),true):=by
    unfold hres;rw[hpa];unfold adv;rw[c]
   have ew:s.reverse++y::r++t=s'.reverse++ -y::m++ - -y::(r++t):=by rw[sp,Int.neg_neg];simp
   have lm: ∀z∈m,z≠0/\ -(n:Int)<z/\z<n:=fun z hz=>hp z (List.mem_append_left _ (by rw[sp];exact List.mem_append_right _ (List.mem_cons_of_mem _ hz)))
   have ih:InH n (-y) m:=fun z hz=>by
    refine⟨lm z hz,?_⟩;rw[Int.natAbs_neg];rcases sm z hz with h|h
    ·cases h
    exact h
   have lw:(s.reverse++y::r++t).length=s.length+1+r.length+t.length:=by simp;omega
   obtain⟨ms1,a1,a2,a3⟩:=qkp hN h1 h2 (x:= -y) (by omega) (w0:=s.reverse++y::r++t) (r++t) m N s'.reverse o ih (by omega) (by simp only[List.length_reverse,Yq];omega) (by omega) (by omega);rw[<-ew]at a1 a2
   have e3:s'.reverse++m.flatMap (qa1 (-y))++(r++t)=s'.reverse++qcT y m r++t:=by unfold qcT;simp
   rw[e3]at a1 a2;have hf2:adv [] s'.reverse=none:=qn0 s'.reverse [] (-y::m) (by rw[<-sp];exact hf)
   have lp:qaf n (s'.reverse++qcT y m r):=fun z hz=>by
    rcases List.mem_append.1 hz with hz|hz
    ·exact hp z (List.mem_append_left _ (by rw[sp];exact List.mem_append_left _ hz))
    unfold qcT at hz;rcases List.mem_append.1 hz with hz|hz
    ·obtain⟨q,hq,hz⟩:=List.mem_flatMap.1 hz;have bq:=lm q hq;unfold qa1 at hz;split at hz
     ·split at hz
      ·simp at hz;rcases hz with rfl|rfl|rfl<;>omega
      simp at hz;rcases hz with rfl|rfl|rfl<;>omega
     simp at hz;subst hz;exact bq
    exact hp z (List.mem_append_right _ (List.mem_cons_of_mem _ hz))
   have l1000: ∀z∈s'.reverse++qcT y m r++t,-1000<z/\z<1000:=fun z hz=>by
    rcases List.mem_append.1 hz with hz|hz
    ·have:=lp z hz;omega
    have:=lt z hz;omega
   have lw2:(s'.reverse++qcT y m r++t).length=s'.length+(qcT y m r).length+t.length:=by simp;omega
   have ms1l:(hof (some (hof o++ms1))).length+2*(J-(qcT y m r).length)+J<=900000:=by
    show(hof o++ms1).length+2*(J-(qcT y m r).length)+J<=900000;rw[Yq];omega
   obtain⟨o',ms,q1,q2,q3,q4⟩:=qsC ht lt J s' (qcT y m r) v h hf2 lp (by omega) K (some (hof o++ms1)) (by omega) ms1l;have q2:hof o'=(hof o++ms1)++ms:=q2;refine⟨o',ms1++ms,?_,by rw[q2,Yz],a2.app q3,by rw[Yq,Yr];omega⟩;rw[er];unfold jQ
   have gx:idx (s.reverse++y::r++t) (s'.length:Int)=some (-y):=by
    rw[ew,qC,Yz,Yo (by simp)];simp
   unfold yN;dsimp only;rw[if_pos rfl,gx];simp only[ZB];rw[show(s'.length:Int)=(s'.reverse.length:Int)by simp,a1];simp only[ZB]
   have len:w64 (((s.reverse++y::r).length:Int)+(((s'.reverse++qcT y m r++t).length:Int)-((s.reverse++y::r++t).length:Int)))=((s'.reverse++qcT y m r).length:Int):=by
    have x1:(s.reverse++y::r++t).length=(s.reverse++y::r).length+t.length:=Yq;have x2:(s'.reverse++qcT y m r++t).length=(s'.reverse++qcT y m r).length+t.length:=Yq;rw[qF (by omega) (by omega)];omega
   rw[len,qmw l1000 (by omega) (by omega)];simp only[ZB];exact q1
end
end Go.Av
end
