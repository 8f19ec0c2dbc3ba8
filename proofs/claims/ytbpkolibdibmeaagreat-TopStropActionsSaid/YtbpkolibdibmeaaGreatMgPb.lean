/-
  Long division of lists of digits of 64 bits.
-/
import Derived.Test.YtbpkolibdibmeaaGreatMgPa
import Derived.Test.YtbpkolibdibmeaaGreatAvPt
import Derived.KernelRfl
set_option linter.unusedVariables false
set_option linter.unusedSimpArgs false
set_option maxRecDepth 100000
set_option linter.unusedSectionVars false
noncomputable section
namespace Go.Av
theorem qnd {a b:Int} (ha:0<=a) (hb:0<=b):Int.gcd a b=Int.gcd b (a%b):=by
 obtain⟨m,rfl⟩:=Int.eq_ofNat_of_zero_le ha;obtain⟨n,rfl⟩:=Int.eq_ofNat_of_zero_le hb;show Nat.gcd m n=Nat.gcd n (m%n);rw[Nat.gcd_comm m n,Nat.gcd_rec n m,Nat.gcd_comm]
theorem qn5 (a:Int) {g:Int} (hg:0<g):((a/g).natAbs:Int)<=(a.natAbs:Int):=by
 have:=Int.natAbs_ediv_le_natAbs a g;omega
theorem qnO (p q:Rat):p+q=Rat.divInt (p.num*q.den+q.num*p.den) ((p.den:Int)*q.den):=by
 rw[Rat.add_def',<-Rat.divInt_ofNat,Int.natCast_mul]
theorem qou (p q:Rat):p*q=Rat.divInt (p.num*q.num) ((p.den:Int)*q.den):=by
 rw[Rat.mul_def',<-Rat.divInt_ofNat,Int.natCast_mul]
theorem qrE (p q:Rat):(p.den:Int)*q.den≠0:=Int.mul_ne_zero (by have:=p.den_pos;omega) (by have:=q.den_pos;omega)
theorem em0:([]:List Int).isEmpty=true:=rfl
theorem qoD {a:Int} (h1: -9000000000000000000<=a) (h2:a<=9000000000000000000):vI ⟨a,[]⟩=some ⟨-a,[]⟩:=by
 unfold vI;dsimp only;rw[if_pos em0,ZB,if_pos (by simp;omega),qz (by omega) (by omega),show 0-a= -a by omega]
theorem quB {a:Int} (h1: -9000000000000000000<=a) (h2:a<=9000000000000000000):qbI ⟨a,[]⟩=some ⟨(a.natAbs:Int),[]⟩:=by
 unfold qbI;dsimp only;by_cases h:a<0
 ·rw[if_pos h,qoD h1 h2,ZB,show(a.natAbs:Int)= -a by omega]
 rw[if_neg h,show(a.natAbs:Int)=a by omega]
theorem qln (a:Int) (l:List Int):yL ⟨a,l⟩=some (if a<0 then-1 else if a=0 then 0 else 1):=by
 unfold yL;congr 1;dsimp only
 repeat' split
 all_goals omega
theorem quA {a b:Int} (h1: -9000000000000000000<=a+b) (h2:a+b<=9000000000000000000):qbd ⟨a,[]⟩ ⟨b,[]⟩=some ⟨a+b,[]⟩:=by
 unfold qbd;dsimp only;rw[if_pos em0,ZB,if_pos em0,qz (by omega) (by omega),if_pos (by rw[beq_iff_eq];exact decide_eq_decide.2 (by omega)),ZB]
theorem qtk {n:Int} (h1: -9000000000000000000<=n) (h2:n<=9000000000000000000):qd7 n=some (n.natAbs:Int):=by
 unfold qd7;by_cases h:n<0
 ·rw[if_pos h,qz (by omega) (by omega),qgd (by omega) (by omega)];congr 1;omega
 rw[if_neg h,qgd (by omega) (by omega)];congr 1;omega
theorem qh0 {a b:Int} (a1:a.natAbs<=2000000000000000000) (b1:b.natAbs<=2000000000000000000) (h:(a*b).natAbs<=9000000000000000000):jA ⟨a,[]⟩ ⟨b,[]⟩=some ⟨a*b,[]⟩:=by
 have hab:(a.natAbs:Int)*(b.natAbs:Int)=((a*b).natAbs:Int):=by rw[Int.natAbs_mul,Int.natCast_mul]
 have sg:(if(!((decide (a<0))==(decide (b<0))))=true then-((a*b).natAbs:Int)else((a*b).natAbs:Int))=a*b:=by
  by_cases h1:a<0
  ·by_cases h2:b<0
   ·have:=Int.mul_pos_of_neg_of_neg h1 h2;rw[decide_eq_true h1,decide_eq_true h2,if_neg (by simp)];omega
   have:=Int.mul_nonpos_of_nonpos_of_nonneg (show a<=0 by omega) (show 0<=b by omega);rw[decide_eq_true h1,decide_eq_false h2,if_pos (by simp)];omega
  by_cases h2:b<0
  ·have:=Int.mul_nonpos_of_nonneg_of_nonpos (show 0<=a by omega) (show b<=0 by omega);rw[decide_eq_false h1,decide_eq_true h2,if_pos (by simp)];omega
  have:=Yv (show 0<=a by omega) (show 0<=b by omega);rw[decide_eq_false h1,decide_eq_false h2,if_neg (by simp)];omega
 unfold jA;dsimp only;rw[if_pos em0,ZB,if_pos em0,qtk (by omega) (by omega),ZB,qtk (by omega) (by omega),ZB,qqE (by omega) (by omega),ZB,hab];dsimp only;rw[if_pos (show((a*b).natAbs:Int)/18446744073709551616=0 by omega),show((a*b).natAbs:Int)%18446744073709551616=((a*b).natAbs:Int)by omega,decide_eq_true (show((a*b).natAbs:Int)<=9223372036854775807 by omega),ZB,if_pos rfl];by_cases hs:(!((decide (a<0))==(decide (b<0))))=true
 ·rw[if_pos hs]at sg;rw[if_pos hs,ZB,qz (n:=((a*b).natAbs:Int)) (by omega) (by omega),qz (by omega) (by omega),show 0-((a*b).natAbs:Int)=a*b by omega]
 rw[if_neg hs]at sg;rw[if_neg hs,ZB,qz (by omega) (by omega),sg]
theorem qjs {a b:Int} (h1: -9000000000000000000<=a) (h2:a<=9000000000000000000) (hb0:0<b) (hb:b<=9000000000000000000):qak ⟨a,[]⟩ ⟨b,[]⟩=some (⟨a/b,[]⟩,⟨a%b,[]⟩):=by
 have d1:=Int.mul_ediv_add_emod a b;have d2:=Int.emod_nonneg a (show b≠0 by omega);have d3:=Int.emod_lt_of_pos a hb0;have h4:=Int.natAbs_tdiv_le_natAbs a b
 have hq:qqC .i64 a b=some (a.tdiv b):=by
  unfold qqC;rw[if_neg (by omega)];show some (w64 _)=_;rw[qz (by omega) (by omega)]
 have hr:qs6 .i64 a b=some (a.tmod b):=by
  unfold qs6;rw[if_neg (by omega)]
 have t2:a.tmod b=if 0<=a\/b∣a then a%b else a%b-b:=by
  rw[Int.tmod_eq_emod]
  have:(b.natAbs:Int)=b:=by omega
  split<;>omega
 have t3:a.tdiv b=if 0<=a\/b∣a then a/b else a/b+1:=by
  rw[Int.tdiv_eq_ediv];have:b.sign=1:=Int.sign_eq_one_of_pos hb0;split<;>omega
 unfold qak;dsimp only;rw[if_pos em0,if_pos em0,ZB,if_pos (by simp;omega),hq,ZB,hr,ZB];by_cases hc:0<=a\/b∣a
 ·rw[if_pos hc]at t2 t3;rw[t2,t3,if_neg (by omega),ZB]
 rw[if_neg hc]at t2 t3;rw[t3]at h4
 have e1:w64 (a/b+1-1)=a/b:=by rw[qz (by omega) (by omega)];omega
 have e2:w64 (a%b-b+b)=a%b:=by rw[qz (by omega) (by omega)];omega
 rw[t2,t3,if_pos (by omega),e1,e2,ZB]
theorem qr5: ∀(k K:Nat) (a b:Int),0<=a->0<=b->a<=9000000000000000000->b<=9000000000000000000->b<2^k->2*k+2<=K->qa2 K a [] b []=some ((Int.gcd a b:Int),[])
 |k,0,a,b,_,_,_,_,_,hK=>by omega
 |k,K+1,a,b,ha,hb,ma,mb,hk,hK=>by
  have sg:=qln b [];rw[qa2];rcases(show b=0\/0<b by omega)with h0|h0
  ·subst h0;rw[show yL ⟨0,[]⟩=some 0 from rfl,ZB,if_neg (by simp),Int.gcd_zero,show(a.natAbs:Int)=a by omega]
  match k,hk,hK with
  |0,hk,hK=>simp at hk;omega
  |k+1,hk,hK=>
   have m0:=Int.emod_nonneg a (show b≠0 by omega);have m1:=Int.emod_lt_of_pos a h0;rw[if_neg (by omega),if_neg (by omega)]at sg;rw[sg,ZB,if_pos (by simp),qjs (by omega) (by omega) h0 mb,ZB];dsimp only;rw[qnd ha hb]
   match K,hK with
   |0,hK=>omega
   |K+1,hK=>
    have sr:=qln (a%b) [];rw[qa2];rcases(show a%b=0\/0<a%b by omega)with g0|g0
    ·rw[g0,show yL ⟨0,[]⟩=some 0 from rfl,ZB,if_neg (by simp),Int.gcd_zero,show(b.natAbs:Int)=b by omega]
    have n0:=Int.emod_nonneg b (show a%b≠0 by omega);have n1:=Int.emod_lt_of_pos b g0
    have hhalf:b%(a%b)<2^k:=by
     have d1:=Int.mul_ediv_add_emod b (a%b)
     have d2:1<=b/(a%b):=by
      rw[Int.le_ediv_iff_mul_le g0];omega
     have d3:a%b*1<=a%b*(b/(a%b)):=Yc d2 (by omega);rw[Int.pow_succ]at hk;omega
    rw[if_neg (by omega),if_neg (by omega)]at sr;rw[sr,ZB,if_pos (by simp),qjs (by omega) (by omega) g0 (by omega),ZB];dsimp only;rw[qnd hb m0];exact qr5 k K (a%b) (b%(a%b)) m0 n0 (by omega) (by omega) hhalf (by omega)
theorem gcd_s {N:Nat} (hN:200<N) {a b:Int} (ha:a.natAbs<=9000000000000000000) (hb:b.natAbs<=9000000000000000000):qgI N ⟨a,[]⟩ ⟨b,[]⟩=some ⟨(Int.gcd a b:Int),[]⟩:=by
 unfold qgI;rw[quB (by omega) (by omega),ZB,quB (by omega) (by omega),ZB];dsimp only;rw[qr5 63 N _ _ (by omega) (by omega) (by omega) (by omega) (by omega) (by omega),ZB];rfl
theorem quF {a b:Int} (h1: -9000000000000000000<=a) (h2:a<=9000000000000000000) (hb0:0<b) (hb:b<=9000000000000000000):qbM ⟨a,[]⟩ ⟨b,[]⟩=some ⟨a/b,[]⟩:=by
 have sg:=qln b [];rw[if_neg (by omega),if_neg (by omega)]at sg;unfold qbM;rw[sg,ZB,if_neg (by omega),ZB];dsimp only;rw[qjs h1 h2 hb0 hb,ZB]
def Fq (q:Rat):qo:=⟨⟨q.num,[]⟩,⟨(q.den:Int),[]⟩⟩
def IsF (f:qo) (q:Rat):Prop:=f=Fq q
theorem qom {N:Nat} (hN:200<N) {a b:Int} (ha:a.natAbs<=9000000000000000000) (hb:b.natAbs<=9000000000000000000) (h0:b≠0):qcA N ⟨a,[]⟩ ⟨b,[]⟩=some (Fq (Rat.divInt a b)):=by
 have hg:0<Int.gcd b a:=Int.gcd_pos_of_ne_zero_left _ h0
 have S:(if(if b<0 then-1 else if b=0 then 0 else(1:Int))<0 then
  (vI ⟨a,[]⟩).bind fun r8=>(vI ⟨b,[]⟩).bind fun r9=>some (r8.s,r8.w,r9.s,r9.w)
  else some (a,[],b,[]):Option (Int×(List Int)×Int×(List Int)))=some (b.sign*a,[],(b.natAbs:Int),[]):=by
  by_cases h:b<0
  ·rw[if_pos h,if_pos (by omega),qoD (by omega) (by omega),ZB,qoD (by omega) (by omega),ZB,Int.sign_eq_neg_one_of_neg h,Int.neg_mul,Int.one_mul,show(b.natAbs:Int)= -b by omega]
  rw[if_neg h,if_neg (by omega),Int.sign_eq_one_of_pos (by omega),Int.one_mul,show(b.natAbs:Int)=b by omega]
 have ea:(b.sign*a).natAbs=a.natAbs:=by rw[Int.natAbs_mul,Int.natAbs_sign_of_ne_zero h0,Nat.one_mul]
 have eg:Int.gcd (b.sign*a) (b.natAbs:Int)=Int.gcd b a:=by
  rw[Int.gcd_comm];show Nat.gcd (b.natAbs:Int).natAbs (b.sign*a).natAbs=Nat.gcd b.natAbs a.natAbs;rw[ea];rfl
 have gl:Int.gcd b a<=b.natAbs:=Nat.le_of_dvd (by omega) (Int.gcd_dvd_natAbs_left b a);have en:(Rat.divInt a b).num=b.sign*a/(Int.gcd b a:Int):=Rat.num_divInt ..
 have ed:((Rat.divInt a b).den:Int)=(b.natAbs:Int)/(Int.gcd b a:Int):=by rw[Rat.den_divInt,if_neg h0,Int.natCast_ediv]
 unfold qcA;rw[qln,ZB];dsimp only;rw[S,ZB];dsimp only;rw[if_pos em0,ZB];by_cases h:(b.natAbs:Int)=1
 ·have e1:Int.gcd b a=1:=by omega
  rw[decide_eq_true h,if_pos rfl];unfold Fq;rw[en,ed,e1,h,Int.natCast_one,Int.ediv_one];rfl
 rw[decide_eq_false h,if_neg (by simp),gcd_s hN (by omega) (by omega),ZB,eg,quF (by omega) (by omega) (by omega) (by omega),ZB,quF (by omega) (by omega) (by omega) (by omega),ZB];unfold Fq;rw[en,ed]
def Q9 (q:Rat):Prop:=q.num.natAbs<1000000000/\q.den<1000000000
theorem qdG {a b:Int} (ha:a.natAbs<1000000000) (hb:b.natAbs<1000000000):(a*b).natAbs<=1000000000000000000:=by
 rw[Int.natAbs_mul];exact Nat.le_trans (Nat.mul_le_mul (Nat.le_of_lt ha) (Nat.le_of_lt hb)) (by decide)
theorem Q9.d {q:Rat} (h:Q9 q):((q.den:Int)).natAbs<1000000000:=by have:=h.2;omega
theorem Q9.neg {q:Rat} (h:Q9 q):Q9 (-q):=by
 unfold Q9;rw[Rat.neg_num,Rat.neg_den,Int.natAbs_neg];exact h
theorem qt3 (z:Int):qdb ⟨z,[]⟩=some (Fq (z:Rat)):=by
 unfold qdb qiR;rw[ZB];rfl
theorem qko (q:Rat):yO (Fq q)=some (decide (q.den=1)):=by
 unfold yO Fq;dsimp only;rw[if_pos em0,ZB];congr 1;exact decide_eq_decide.2 (by omega)
theorem qvo {q:Rat} (h:Q9 q):qbR (Fq q)=some (Fq (-q)):=by
 have:=h.1;unfold qbR;dsimp only[Fq];rw[qoD (by omega) (by omega),ZB,Rat.neg_num,Rat.neg_den]
theorem qoj {N:Nat} (hN:200<N) {p q:Rat} (hp:Q9 p) (hq:Q9 q):qaA N (Fq p) (Fq q)=some (Fq (p+q)):=by
 have h1:=hp.1;have h2:=hq.1;have h3:=hp.2;have h4:=hq.2;have m1:=qdG hp.1 hq.d;have m2:=qdG hq.1 hp.d;have m3:=qdG hp.d hq.d
 have long:((jA (Fq p).Num (Fq q).Den).bind fun r9=>
  (jA (Fq q).Num (Fq p).Den).bind fun r10=>
  (qbd r9 r10).bind fun r11=>
  (jA (Fq p).Den (Fq q).Den).bind fun r12=>
  (qcA N r11 r12).bind fun r13=>
  some r13)=some (Fq (p+q)):=by
  dsimp only[Fq];rw[qh0 (by omega) (by omega) (by omega),ZB,qh0 (by omega) (by omega) (by omega),ZB,quA (by omega) (by omega),ZB,qh0 (by omega) (by omega) (by omega),ZB,qom hN (by omega) (by omega) (qrE p q),ZB,qnO p q];rfl
 unfold qaA;rw[qko,ZB];by_cases c1:p.den=1
 ·rw[decide_eq_true c1,if_pos rfl,qko,ZB,ZB];by_cases c2:q.den=1
  ·rw[decide_eq_true c2,if_pos rfl];have ep:p=(p.num:Rat):=Rat.ext (by simp) (by simp[c1]);have eq:q=(q.num:Rat):=Rat.ext (by simp) (by simp[c2])
   have es:p+q=((p.num+q.num:Int):Rat):=by rw[Rat.intCast_add,<-ep,<-eq]
   rw[es];dsimp only[Fq];rw[quA (by omega) (by omega),ZB,qt3,ZB];rfl
  rw[decide_eq_false c2,if_neg (by simp)];exact long
 rw[decide_eq_false c1,if_neg (by simp),ZB,if_neg (by simp)];exact long
theorem qsY {N:Nat} (hN:200<N) {p q:Rat} (hp:Q9 p) (hq:Q9 q):qbl N (Fq p) (Fq q)=some (Fq (p-q)):=by
 unfold qbl;rw[qvo hq,ZB,qoj hN hp hq.neg,ZB,Rat.sub_eq_add_neg]
theorem qkN {N:Nat} (hN:200<N) {p q:Rat} (hp:Q9 p) (hq:Q9 q):xI N (Fq p) (Fq q)=some (Fq (p*q)):=by
 have h1:=hp.1;have h2:=hq.1;have h3:=hp.2;have h4:=hq.2;have m1:=qdG hp.1 hq.1;have m3:=qdG hp.d hq.d;unfold xI;dsimp only[Fq];rw[qh0 (by omega) (by omega) (by omega),ZB,qh0 (by omega) (by omega) (by omega),ZB,qom hN (by omega) (by omega) (qrE p q),ZB,qou p q];rfl
theorem qvQ {N:Nat} (hN:200<N) {p:Rat} (hp:Q9 p) (h0:p≠0):qbf N (Fq p)=some (Fq p⁻¹):=by
 have h1:=hp.1;have h2:=hp.d;unfold qbf;dsimp only[Fq];rw[qom hN (by omega) (by omega) (fun c=>h0 (Rat.num_eq_zero.1 c)),ZB,Rat.inv_def];rfl
section
open Go.Proofs Go.RowKit
variable [Glob]
def qfT {β:Type} (v:Nat->β) (k:Nat) (q:β):Nat->β:=fun j=>if j=k then q else v j
def qd1 {α:Type} (R:α->Rat->Prop) (n:Nat) (r:List α) (v:Nat->Rat):Prop:=r.length=n/\ ∀j f,r[j]? =some f->R f (v j)
def MR {α:Type} (R:α->Rat->Prop) (n:Nat) (l:List (List α)) (M:Nat->Nat->Rat):Prop:=l.length=n/\ ∀i r,l[i]? =some r->qd1 R n r (M i)
variable {α:Type} {R:α->Rat->Prop} {n:Nat}
theorem qd1.set {r:List α} {v:Nat->Rat} (h:qd1 R n r v) {f:α} {q:Rat} (hf:R f q) (k:Nat):qd1 R n (r.set k f) (qfT v k q):=by
 refine⟨by rw[Yk];exact h.1,fun j g hj=>?_⟩;unfold qfT;by_cases e:j=k
 ·subst e
  have hl:j<r.length:=by
   have:=(Yb.1 hj).1
   rwa [Yk]at this
  rw[List.getElem?_set_self hl]at hj;cases hj
  rw[if_pos rfl];exact hf
 rw[Yw (fun c=>e c.symm)]at hj;rw[if_neg e];exact h.2 j g hj
theorem qd1.get {r:List α} {v:Nat->Rat} (h:qd1 R n r v) {k:Nat} (hk:k<n): ∃f,r[k]? =some f/\R f (v k):=by
 have hk':k<r.length:=by rw[h.1];exact hk
 exact⟨r[k],Ya hk',h.2 k _ (Ya hk')⟩
theorem MR.get {l:List (List α)} {M:Nat->Nat->Rat} (h:MR R n l M) {k:Nat} (hk:k<n): ∃r,l[k]? =some r/\qd1 R n r (M k):=by
 have hk':k<l.length:=by rw[h.1];exact hk
 exact⟨l[k],Ya hk',h.2 k _ (Ya hk')⟩
theorem MR.set {l:List (List α)} {M:Nat->Nat->Rat} (h:MR R n l M) {r:List α} {v:Nat->Rat} (hr:qd1 R n r v) (k:Nat):MR R n (l.set k r) (qfT M k v):=by
 refine⟨by rw[Yk];exact h.1,fun j g hj=>?_⟩;unfold qfT;by_cases e:j=k
 ·subst e
  have hl:j<l.length:=by
   have:=(Yb.1 hj).1
   rwa [Yk]at this
  rw[List.getElem?_set_self hl]at hj;cases hj
  rw[if_pos rfl];exact hr
 rw[Yw (fun c=>e c.symm)]at hj;rw[if_neg e];exact h.2 j g hj
theorem MR.congr {l:List (List α)} {M M':Nat->Nat->Rat} (h:MR R n l M) (e: ∀i<n,M i=M' i):MR R n l M':=
 ⟨h.1,fun i r hi=>by
  have hl:i<n:=by rw[<-h.1];exact(Yb.1 hi).1
  rw[<-e i hl];exact h.2 i r hi⟩
theorem qd1.ext {f:Rat->α} {r r':List α} {v:Nat->Rat} (h:qd1 (fun x q=>x=f q) n r v) (h':qd1 (fun x q=>x=f q) n r' v):r=r':=by
 apply List.ext_getElem?;intro k;by_cases hk:k<n
 ·obtain⟨x,x1,x2⟩:=h.get hk;obtain⟨y,y1,y2⟩:=h'.get hk;rw[x1,y1,x2,y2]
 rw[Yg (by rw[h.1];omega),Yg (by rw[h'.1];omega)]
theorem MR.ext {f:Rat->α} {r r':List (List α)} {M:Nat->Nat->Rat} (h:MR (fun x q=>x=f q) n r M) (h':MR (fun x q=>x=f q) n r' M):r=r':=by
 apply List.ext_getElem?;intro k;by_cases hk:k<n
 ·obtain⟨x,x1,x2⟩:=h.get hk;obtain⟨y,y1,y2⟩:=h'.get hk;rw[x1,y1,x2.ext y2]
 rw[Yg (by rw[h.1];omega),Yg (by rw[h'.1];omega)]
def zB (p:Bool) (t:Rat) (k:Nat) (v:Nat->Rat):Nat->Rat:=
 if p=true then qfT (qfT v k (v k*(1-t)+v (k+1)*1)) (k+1) (v k*t+v (k+1)*0)
 else qfT (qfT v k (v k*0+v (k+1)*t⁻¹)) (k+1) (v k*1+v (k+1)*(1-t⁻¹))
def qiW (t:Rat) (c:Int) (M:Nat->Nat->Rat):Nat->Nat->Rat:=fun i=>zB (decide (c>0)) t (c.natAbs-1) (M i)
def idM:Nat->Nat->Rat:=fun i=>qfT (fun _=>0) i 1
def qic (t:Rat) (w:List Int):Nat->Nat->Rat:=w.foldl (fun M c=>qiW t c M) idM
def qd3 (t:Rat) (w:List Int) (v:Nat->Rat):Nat->Rat:=w.foldl (fun v c=>zB (decide (c>0)) t (c.natAbs-1) v) v
theorem qg8 (t:Rat): ∀(w:List Int) (M:Nat->Nat->Rat) (i:Nat),w.foldl (fun M c=>qiW t c M) M i=qd3 t w (M i)
 |[],M,i=>rfl
 |c::w,M,i=>qg8 t w (qiW t c M) i
theorem qhc (a:Int):0<=a*a:=by
 rcases Int.le_total 0 a with h|h
 ·exact Yv h h
 exact Int.mul_nonneg_of_nonpos_of_nonpos h h
def SW (t:Int) (z:Nat->Int):Int:=t*(t*(t*(t*(z 0*z 0)+z 1*z 1)+z 2*z 2)+z 3*z 3)+z 4*z 4
theorem qva {t:Int} (ht:1<=t) {k:Nat} (hk:k<4) {z z':Nat->Int} (h1:z' k=z k*(1-t)+z (k+1)) (h2:z' (k+1)=z k*t) (h3: ∀j,j≠k->j≠k+1->z' j=z j):SW t z'<=t*t*SW t z:=by
 have t1:0<=t-1:=by omega
 have t2:0<=t:=by omega
 have t3:0<=t*t-1:=by have:=Int.mul_le_mul ht ht (by omega) t2;omega
 rcases(show k=0\/k=1\/k=2\/k=3 by omega)with rfl|rfl|rfl|rfl
 ·have a:=h3 2 (by decide) (by decide);have b:=h3 3 (by decide) (by decide);have c:=h3 4 (by decide) (by decide)
  have e:t*t*SW t z-SW t z'=t*t*t*(t*(t-1)*((z 0+z 1)*(z 0+z 1)))+(t*t-1)*(t*(t*(z 2*z 2)+z 3*z 3)+z 4*z 4):=by
   unfold SW;rw[h1,h2,a,b,c];grind
  have:0<=t*t*t*(t*(t-1)*((z 0+z 1)*(z 0+z 1)))+(t*t-1)*(t*(t*(z 2*z 2)+z 3*z 3)+z 4*z 4):=by
   repeat' first|exact qhc _|assumption|apply Int.add_nonneg|apply Yv
  omega
 ·have a:=h3 0 (by decide) (by decide);have b:=h3 3 (by decide) (by decide);have c:=h3 4 (by decide) (by decide)
  have e:t*t*SW t z-SW t z'=t*t*(t*(t-1)*((z 1+z 2)*(z 1+z 2)))+(t*t-1)*(t*(t*(t*(t*(z 0*z 0)))+z 3*z 3)+z 4*z 4):=by
   unfold SW;rw[h1,h2,a,b,c];grind
  have:0<=t*t*(t*(t-1)*((z 1+z 2)*(z 1+z 2)))+(t*t-1)*(t*(t*(t*(t*(z 0*z 0)))+z 3*z 3)+z 4*z 4):=by
   repeat' first|exact qhc _|assumption|apply Int.add_nonneg|apply Yv
  omega
 ·have a:=h3 0 (by decide) (by decide);have b:=h3 1 (by decide) (by decide);have c:=h3 4 (by decide) (by decide)
  have e:t*t*SW t z-SW t z'=t*(t*(t-1)*((z 2+z 3)*(z 2+z 3)))+(t*t-1)*(t*(t*(t*(t*(z 0*z 0)+z 1*z 1)))+z 4*z 4):=by
   unfold SW;rw[h1,h2,a,b,c];grind
  have:0<=t*(t*(t-1)*((z 2+z 3)*(z 2+z 3)))+(t*t-1)*(t*(t*(t*(t*(z 0*z 0)+z 1*z 1)))+z 4*z 4):=by
   repeat' first|exact qhc _|assumption|apply Int.add_nonneg|apply Yv
  omega
 have a:=h3 0 (by decide) (by decide);have b:=h3 1 (by decide) (by decide);have c:=h3 2 (by decide) (by decide)
 have e:t*t*SW t z-SW t z'=t*(t-1)*((z 3+z 4)*(z 3+z 4))+(t*t-1)*(t*(t*(t*(t*(z 0*z 0)+z 1*z 1)+z 2*z 2))):=by
  unfold SW;rw[h1,h2,a,b,c];grind
 have:0<=t*(t-1)*((z 3+z 4)*(z 3+z 4))+(t*t-1)*(t*(t*(t*(t*(z 0*z 0)+z 1*z 1)+z 2*z 2))):=by
  repeat' first|exact qhc _|assumption|apply Int.add_nonneg|apply Yv
 omega
theorem qvu {t:Int} (ht:1<=t) {k:Nat} (hk:k<4) {z z':Nat->Int} (h1:z' k=z (k+1)) (h2:z' (k+1)=z k*t+z (k+1)*(t-1)) (h3: ∀j,j≠k->j≠k+1->z' j=z j*t):SW t z'<=t*t*SW t z:=by
 have t1:0<=t-1:=by omega
 have t2:0<=t:=by omega
 rcases(show k=0\/k=1\/k=2\/k=3 by omega)with rfl|rfl|rfl|rfl
 ·have a:=h3 2 (by decide) (by decide);have b:=h3 3 (by decide) (by decide);have c:=h3 4 (by decide) (by decide)
  have e:t*t*SW t z-SW t z'=t*t*t*((t-1)*((t*z 0-z 1)*(t*z 0-z 1))):=by
   unfold SW;rw[h1,h2,a,b,c];grind
  have:0<=t*t*t*((t-1)*((t*z 0-z 1)*(t*z 0-z 1))):=by
   repeat' first|exact qhc _|assumption|apply Int.add_nonneg|apply Yv
  omega
 ·have a:=h3 0 (by decide) (by decide);have b:=h3 3 (by decide) (by decide);have c:=h3 4 (by decide) (by decide)
  have e:t*t*SW t z-SW t z'=t*t*((t-1)*((t*z 1-z 2)*(t*z 1-z 2))):=by
   unfold SW;rw[h1,h2,a,b,c];grind
  have:0<=t*t*((t-1)*((t*z 1-z 2)*(t*z 1-z 2))):=by
   repeat' first|exact qhc _|assumption|apply Int.add_nonneg|apply Yv
  omega
 ·have a:=h3 0 (by decide) (by decide);have b:=h3 1 (by decide) (by decide);have c:=h3 4 (by decide) (by decide)
  have e:t*t*SW t z-SW t z'=t*((t-1)*((t*z 2-z 3)*(t*z 2-z 3))):=by
   unfold SW;rw[h1,h2,a,b,c];grind
  have:0<=t*((t-1)*((t*z 2-z 3)*(t*z 2-z 3))):=by
   repeat' first|exact qhc _|assumption|apply Int.add_nonneg|apply Yv
  omega
 have a:=h3 0 (by decide) (by decide);have b:=h3 1 (by decide) (by decide);have c:=h3 2 (by decide) (by decide)
 have e:t*t*SW t z-SW t z'=(t-1)*((t*z 3-z 4)*(t*z 3-z 4)):=by
  unfold SW;rw[h1,h2,a,b,c];grind
 have:0<=(t-1)*((t*z 3-z 4)*(t*z 3-z 4)):=by
  repeat' first|exact qhc _|assumption|apply Int.add_nonneg|apply Yv
 omega
theorem SW_at {t:Int} (ht:1<=t) {z:Nat->Int} {j:Nat} (hj:j<5):z j*z j<=SW t z:=by
 have up: ∀{x:Int},0<=x->x<=t*x:=fun {x} h=>by have:=Int.mul_le_mul_of_nonneg_right ht h;omega
 have q0:=qhc (z 0);have q1:=qhc (z 1);have q2:=qhc (z 2);have q3:=qhc (z 3);have q4:=qhc (z 4);have u0:=up q0;have u1:=up (show 0<=t*(z 0*z 0)+z 1*z 1 by omega);have u2:=up (show 0<=t*(t*(z 0*z 0)+z 1*z 1)+z 2*z 2 by omega);have u3:=up (show 0<=t*(t*(t*(z 0*z 0)+z 1*z 1)+z 2*z 2)+z 3*z 3 by omega);unfold SW;rcases(show j=0\/j=1\/j=2\/j=3\/j=4 by omega)with rfl|rfl|rfl|rfl|rfl<;>omega
def Wt (t:Int) (v:Nat->Rat) (m L:Nat):Prop:= ∃z:Nat->Int,(∀j,v j*((t:Rat)^m)=((z j:Int):Rat))/\(∀j,5<=j->z j=0)/\SW t z<=t^(L+2)*t^(L+2)
def Rw (t:Int) (v:Nat->Rat) (L:Nat):Prop:= ∃m,m<=L/\Wt t v m L
theorem qex {t:Int} (ht:1<=t):(t:Rat)≠0:=by
 intro h
 have:t=0:=by exact_mod_cast h
 omega
theorem Rw.step {t:Int} (ht:1<=t) {v:Nat->Rat} {L:Nat} (h:Rw t v L) (p:Bool) {k:Nat} (hk:k<4):Rw t (zB p t k v) (L+1):=by
 obtain⟨m,hm,z,h1,h2,h3⟩:=h;have ne:=qex ht
 have hB:t*t*(t^(L+2)*t^(L+2))=t^(L+1+2)*t^(L+1+2):=by
  rw[show L+1+2=L+2+1 by omega,Int.pow_succ];generalize t^(L+2)=P;grind
 have mono:t*t*SW t z<=t*t*(t^(L+2)*t^(L+2)):=Yc h3 (qhc t);cases p
 ·refine⟨m+1,by omega,fun j=>if j=k+1 then z k*t+z (k+1)*(t-1)else if j=k then z (k+1)else z j*t,?_,?_,?_⟩
  ·intro j;unfold zB;rw[if_neg (by decide)];unfold qfT;rw[Rat.pow_succ];dsimp only;by_cases a:j=k+1
   ·rw[if_pos a,if_pos a,Rat.intCast_add,Rat.intCast_mul,Rat.intCast_mul,Rat.intCast_sub,<-h1,<-h1];have:(t:Rat)⁻¹*(t:Rat)=1:=Rat.inv_mul_cancel _ ne;generalize (t:Rat)^m=P at*;generalize (t:Rat)⁻¹=I at*;have e1:((1:Int):Rat)=1:=rfl;grind
   rw[if_neg a,if_neg a];by_cases b:j=k
   ·rw[if_pos b,if_pos b,<-h1];have:(t:Rat)⁻¹*(t:Rat)=1:=Rat.inv_mul_cancel _ ne;generalize (t:Rat)^m=P at*;generalize (t:Rat)⁻¹=I at*;grind
   rw[if_neg b,if_neg b,Rat.intCast_mul,<-h1,Rat.mul_assoc]
  ·intro j hj;dsimp only;rw[if_neg (by omega),if_neg (by omega),h2 j hj,Int.zero_mul]
  rw[<-hB];refine Int.le_trans (qvu ht hk (z:=z) ?_ ?_ ?_) mono
  ·rw[if_neg (by omega),if_pos rfl]
  ·rw[if_pos rfl]
  intro j a b;rw[if_neg b,if_neg a]
 refine⟨m,by omega,fun j=>if j=k+1 then z k*t else if j=k then z k*(1-t)+z (k+1)else z j,?_,?_,?_⟩
 ·intro j;unfold zB;rw[if_pos rfl];unfold qfT;dsimp only;by_cases a:j=k+1
  ·rw[if_pos a,if_pos a,Rat.intCast_mul,<-h1];generalize (t:Rat)^m=P at*;grind
  rw[if_neg a,if_neg a];by_cases b:j=k
  ·rw[if_pos b,if_pos b,Rat.intCast_add,Rat.intCast_mul,Rat.intCast_sub,<-h1,<-h1];have e1:((1:Int):Rat)=1:=rfl;generalize (t:Rat)^m=P at*;grind
  rw[if_neg b,if_neg b,<-h1]
 ·intro j hj;dsimp only;rw[if_neg (by omega),if_neg (by omega),h2 j hj]
 rw[<-hB];refine Int.le_trans (qva ht hk (z:=z) ?_ ?_ ?_) mono
 ·rw[if_neg (by omega),if_pos rfl]
 ·rw[if_pos rfl]
 intro j a b;rw[if_neg b,if_neg a]
theorem qqz {t:Int} (ht:1<=t) (i:Nat):i<5->Rw t (idM i) 0:=by
 intro hi;refine⟨0,by omega,fun j=>if j=i then 1 else 0,fun j=>?_,fun j hj=>if_neg (by omega),?_⟩
 ·unfold idM qfT;rw[Rat.pow_zero,Rat.mul_one];dsimp only;split<;>rfl
 have t2:0<=t:=by omega
 have e:t^(0+2)*t^(0+2)=t*(t*(t*t)):=by rw[show 0+2=1+1 from rfl,Int.pow_succ,Int.pow_one];grind
 have up: ∀{x:Int},1<=x->x<=t*x/\1<=t*x:=fun {x} h=>by have:=Int.mul_le_mul_of_nonneg_right ht (show 0<=x by omega);omega
 have u1:=up ht;have u2:=up u1.2;have u3:=up u2.2;rw[e];unfold SW;dsimp only;rcases(show i=0\/i=1\/i=2\/i=3\/i=4 by omega)with rfl|rfl|rfl|rfl|rfl<;>simp<;>omega
theorem qoA {t:Int} (ht:1<=t) {n:Nat} (hn:n<=5): ∀(w:List Int),(∀c∈w,c≠0/\ -(n:Int)<c/\c<n)-> ∀(v:Nat->Rat) (L:Nat),Rw t v L->Rw t (qd3 t w v) (L+w.length)
 |[],_,v,L,h=>h
 |c::w,hw,v,L,h=>by
  have hc:=hw c (List.mem_cons_self ..);have:=qoA ht hn w (fun d hd=>hw d (List.mem_cons_of_mem _ hd)) _ (L+1) (h.step ht (decide (c>0)) (k:=c.natAbs-1) (by omega));rw[Yr,show L+(w.length+1)=L+1+w.length by omega];exact this
def Bz (D B:Int) (x:Rat):Prop:= ∃z:Int,x*(D:Rat)=(z:Rat)/\z.natAbs<=B.toNat
theorem Bz.q9 {D B:Int} {x:Rat} (h:Bz D B x) (hD:0<D) (hD9:D<1000000000) (hB:B<1000000000):Q9 x:=by
 obtain⟨z,h1,h2⟩:=h
 have hp':(D:Rat)≠0:=by
  intro h
  have:(D:Int)=0:=by exact_mod_cast h
  omega
 have e:x=Rat.divInt z D:=by rw[Rat.divInt_eq_div,<-h1,Rat.mul_div_cancel hp']
 have hg:0<Int.gcd D z:=Int.gcd_pos_of_ne_zero_left _ (by omega);have n1:=qn5 (D.sign*z) (show(0:Int)<(Int.gcd D z:Int)by omega)
 have n2:(D.sign*z).natAbs=z.natAbs:=by rw[Int.natAbs_mul,Int.natAbs_sign_of_ne_zero (by omega),Nat.one_mul]
 have n3:=Nat.div_le_self D.natAbs (Int.gcd D z);rw[e];refine⟨?_,?_⟩
 ·rw[Rat.num_divInt];omega
 rw[Rat.den_divInt,if_neg (by omega)];omega
theorem Rw.bz {t:Int} (ht:1<=t) {v:Nat->Rat} {L:Nat} (h:Rw t v L): ∃m,m<=L/\ ∀j,Bz (t^m) (t^(L+2)) (v j):=by
 obtain⟨m,hm,z,h1,h2,h3⟩:=h;have hB:0<t^(L+2):=Int.pow_pos (by omega);refine⟨m,hm,fun j=>⟨z j,by rw[Rat.intCast_pow];exact h1 j,?_⟩⟩;by_cases hj:j<5
 ·have a:=Int.le_trans (SW_at ht hj) h3;generalize t^(L+2)=P at*;generalize z j=y at*
  have:((y.natAbs:Nat):Int)<=P:=by
   rcases Int.lt_or_le P (y.natAbs:Int)with c|c
   ·exfalso;have e:y*y=(y.natAbs:Int)*(y.natAbs:Int):=(Int.natAbs_mul_self' y).symm;have:=Int.mul_lt_mul c (Int.le_of_lt c) hB (by omega);omega
   exact c
  omega
 rw[h2 j (by omega)];simp
def Cz (t:Int) (c:Rat):Prop:= ∃e y:Int,(e=1\/e=t)/\c*(e:Rat)=(y:Rat)/\y.natAbs<=t.toNat
theorem Bz.mul {t D B:Int} (ht:1<=t) (hB:0<=B) {x c:Rat} (h:Bz D B x) (hc:Cz t c): ∃e:Int,(e=1\/e=t)/\Bz (D*e) (B*t) (x*c):=by
 obtain⟨z,h1,h2⟩:=h;obtain⟨e,y,he,k1,k2⟩:=hc;refine⟨e,he,z*y,?_,?_⟩
 ·rw[Rat.intCast_mul,Rat.intCast_mul,<-h1,<-k1];grind
 rw[Int.natAbs_mul,Int.toNat_mul hB (by omega)];exact Nat.mul_le_mul h2 k2
theorem Rw.q9 {t:Int} (ht:1<=t) {v:Nat->Rat} {L:Nat} (h:Rw t v L) (hL:t^(L+2)<1000000000) (j:Nat):Q9 (v j):=by
 obtain⟨m,hm,hb⟩:=h.bz ht;have:=qeX ht (show m<=L+2 by omega);exact(hb j).q9 (Int.pow_pos (by omega)) (by omega) hL
theorem Rw.q9c {t:Int} (ht:1<=t) {v:Nat->Rat} {L:Nat} (h:Rw t v L) (hL:t^(L+3)<1000000000) (j:Nat) {c:Rat} (hc:Cz t c):Q9 (v j*c):=by
 obtain⟨m,hm,hb⟩:=h.bz ht;have hP:0<t^(L+2):=Int.pow_pos (by omega);have hM:0<t^m:=Int.pow_pos (by omega);obtain⟨e,he,k⟩:=(hb j).mul ht (Int.le_of_lt hP) hc;rw[show L+3=L+2+1 by omega,Int.pow_succ]at hL;have p1:=qeX ht (show m+1<=L+2 by omega);rw[Int.pow_succ]at p1;have p2:t^m*1<=t^m*t:=Yc ht (Int.le_of_lt hM);have p3:t^(L+2)*1<=t^(L+2)*t:=Yc ht (Int.le_of_lt hP);rcases he with rfl|rfl
 ·exact k.q9 (by omega) (by omega) hL
 exact k.q9 (by omega) (by omega) hL
end
section
open Go.Proofs Go.RowKit
variable [Glob]
theorem qkW {α:Type} (l:List α) (a:Nat) (x:α):zQ l (a:Int) x=l.set a x:=by
 unfold zQ;rw[Int.toNat_natCast]
def coV (p:Bool) (t:Rat):(Rat×Rat)×(Rat×Rat):=if p=true then((1-t,t),(1,0))else((0,1),(t⁻¹,1-t⁻¹))
theorem qqP (p:Bool) (t:Rat) (k:Nat) (v:Nat->Rat):zB p t k v=qfT (qfT v k (v k*(coV p t).1.1+v (k+1)*(coV p t).2.1)) (k+1) (v k*(coV p t).1.2+v (k+1)*(coV p t).2.2):=by
 cases p<;>rfl
theorem rep1 {N n:Nat} (hN:10<N) (h1:1<=n) (h2:n<=5) (f:qo):xz N f.Num.s f.Num.w f.Den.s f.Den.w (n:Int)=some (List.replicate n f):=by
 obtain⟨M,rfl⟩: ∃M,N=M+10:=⟨N-10,by omega⟩
 have:n=1\/n=2\/n=3\/n=4\/n=5:=by omega
 rcases this with rfl|rfl|rfl|rfl|rfl
 all_goals (show @Eq (Option _) _ _;kernel_rfl)
theorem F_s (z:Int):qg0 z=some (Fq (z:Rat)):=rfl
theorem row0 {n i:Nat} {α:Type} {R:α->Rat->Prop} {z o:α} (hz:R z 0) (ho:R o 1):qd1 R n ((List.replicate n z).set i o) (idM i):=by
 have h:qd1 R n (List.replicate n z) (fun _=>0):=by
  refine⟨List.length_replicate,fun j f hj=>?_⟩;have:=Yn hj;rw[List.eq_of_mem_replicate this];exact hz
 exact h.set ho i
theorem qst {N n:Nat} (hN:10<N) (h1:1<=n) (h2:n<=5) {w:List Int} {l1:List (List qo)} (hl:l1.length=n): ∀(K i:Nat) (l2:List (List qo)),l2.length=n->(∀i' r,i'<i->l2[i']? =some r->qd1 IsF n r (idM i'))->i<=n->n<K+i-> ∃l,xm N (n:Int) w l1 K l2 (i:Int)=some l/\MR IsF n l idM
 |0,i,l2,e,hr,hi,hK=>by omega
 |K+1,i,l2,e,hr,hi,hK=>by
  unfold xm;by_cases c:i<n
  ·rw[if_pos (by omega),F_s,ZB,rep1 hN h1 h2,ZB,qw,Ya (by omega),ZB,if_pos (by rw[List.length_replicate];omega),ZB,qkW,qw,List.getElem?_set_self (by omega),ZB,F_s,ZB,qw,Ya (by rw[List.length_replicate];omega),ZB,jX (by rw[List.length_replicate];omega),ZB,qkW,List.set_set,qR (by omega)];refine qst hN h1 h2 hl K (i+1) _ (by rw[Yk];exact e) (fun i' r hi' hr'=>?_) (by omega) (by omega);by_cases d:i'=i
   ·subst d;rw[List.getElem?_set_self (by omega)]at hr';cases hr'
    exact row0 rfl rfl
   rw[Yw (fun q=>d q.symm)]at hr';exact hr i' r (by omega) hr'
  rw[if_neg (by omega)];refine⟨_,rfl,e,fun i' r hr'=>hr i' r ?_ hr'⟩;have:=(Yb.1 hr').1;omega
structure Tk (t:Int):Prop where
 t1:1<=t
 t9:t<1000
theorem qnJ:Q9 1:=⟨by decide,by decide⟩
section
variable {t:Int} (S:Tk t)
include S
theorem Tk.qt:Q9 (t:Rat):=by
 have h1:=S.t1;have h2:=S.t9;refine⟨?_,?_⟩
 ·show t.natAbs<_;omega
 show 1<_;decide
theorem Tk.ci:Cz t (t:Rat)⁻¹:=⟨t,1,.inr rfl,Rat.inv_mul_cancel _ (qex S.t1),by have:=S.t1;simp;omega⟩
theorem Tk.qi:Q9 (t:Rat)⁻¹:=by
 have h1:=S.t1;have h2:=S.t9;have:Bz t 1 (t:Rat)⁻¹:=⟨1,Rat.inv_mul_cancel _ (qex S.t1),by decide⟩;exact this.q9 (by omega) (by omega) (by decide)
theorem Tk.c0:Cz t 0:=⟨1,0,.inl rfl,by rw[Rat.zero_mul];rfl,by simp⟩
theorem Tk.c1:Cz t 1:=⟨1,1,.inl rfl,by rw[Rat.one_mul],by have:=S.t1;simp;omega⟩
theorem Tk.ct:Cz t (t:Rat):=⟨1,t,.inl rfl,by rw[show((1:Int):Rat)=1 from rfl,Rat.mul_one],by have:=S.t1;omega⟩
theorem Tk.cu:Cz t (1-(t:Rat)):=⟨1,1-t,.inl rfl,by rw[show((1:Int):Rat)=1 from rfl,Rat.mul_one,Rat.intCast_sub];rfl,by have:=S.t1;omega⟩
theorem Tk.cj:Cz t (1-(t:Rat)⁻¹):=⟨t,t-1,.inr rfl,by
 have:=Rat.inv_mul_cancel _ (qex S.t1);rw[Rat.intCast_sub,show((1:Int):Rat)=1 from rfl]
 grind,by have:=S.t1;omega⟩
theorem Tk.qu:Q9 (1-(t:Rat)):=by
 have h1:=S.t1;have h2:=S.t9;have:Bz 1 t (1-(t:Rat)):=⟨1-t,by rw[show((1:Int):Rat)=1 from rfl,Rat.mul_one,Rat.intCast_sub];rfl,by omega⟩;exact this.q9 (by omega) (by omega) (by omega)
theorem Tk.qj:Q9 (1-(t:Rat)⁻¹):=by
 have h1:=S.t1;have h2:=S.t9
 have:Bz t t (1-(t:Rat)⁻¹):=⟨t-1,by
  have:=Rat.inv_mul_cancel _ (qex S.t1);rw[Rat.intCast_sub,show((1:Int):Rat)=1 from rfl]
  grind,by omega⟩
 exact this.q9 (by omega) (by omega) (by omega)
theorem qpo (p:Bool) {P:Rat->Prop} (h0:P 0) (h1:P 1) (ht:P t) (hu:P (1-(t:Rat))) (hi:P (t:Rat)⁻¹) (hj:P (1-(t:Rat)⁻¹)):P (coV p t).1.1/\P (coV p t).1.2/\P (coV p t).2.1/\P (coV p t).2.2:=by
 cases p
 ·exact⟨h0,h1,hi,hj⟩
 exact⟨hu,ht,h1,h0⟩
theorem qtW {N:Nat} (hN:200<N) (c:Int):qcz N c (Fq t)=some ((Fq (coV (decide (c>0)) t).1.1,Fq (coV (decide (c>0)) t).1.2),(Fq (coV (decide (c>0)) t).2.1,Fq (coV (decide (c>0)) t).2.2)):=by
 unfold qcz;rw[F_s,ZB,F_s,ZB];by_cases h:c>0
 ·rw[if_pos h,show((1:Int):Rat)=1 from rfl,qsY hN qnJ S.qt,ZB,decide_eq_true h];rfl
 rw[if_neg h,qvQ hN S.qt (qex S.t1),ZB,ZB,show((1:Int):Rat)=1 from rfl,qsY hN qnJ S.qi,ZB,decide_eq_false h];rfl
theorem qte {N n:Nat} (hN:200<N) (h2:n<=5) {M:Nat->Nat->Rat} {c:Int} (hc:1<=c.natAbs) (hc2:c.natAbs<n) (hM: ∀i,i<n-> ∀j,Q9 (M i j)) (hMc: ∀i,i<n-> ∀j e,Cz t e->Q9 (M i j*e)) {l17:List (List qo)} (hl:l17.length=n):
 ∀(K i:Nat) (l25:List (List qo)),MR IsF n l25 (fun i'=>if i'<i then qiW t c M i' else M i')->i<=n->n<K+i-> ∃l,xk N l17 (c.natAbs:Int) ((Fq (coV (decide (c>0)) t).1.1,Fq (coV (decide (c>0)) t).1.2),(Fq (coV (decide (c>0)) t).2.1,Fq (coV (decide (c>0)) t).2.2)) K l25 (i:Int)=some l/\MR IsF n l (qiW t c M)
 |0,i,l25,h,hi,hK=>by omega
 |K+1,i,l25,h,hi,hK=>by
  unfold xk;obtain⟨fa,fb,fc,fd⟩:=qpo S (decide (c>0)) (P:=Cz t) S.c0 S.c1 S.ct S.cu S.ci S.cj;obtain⟨ga,gb,gc,gd⟩:=qpo S (decide (c>0)) (P:=Q9) ⟨by decide,by decide⟩ qnJ S.qt S.qu S.qi S.qj;by_cases d:i<n
  ·obtain⟨r,e1,hr⟩:=h.get d;rw[if_neg (Nat.lt_irrefl _)]at hr;obtain⟨k,hk⟩: ∃k,c.natAbs=k+1:=⟨c.natAbs-1,by omega⟩
   have ek:w64 (((k+1:Nat):Int)-1)=(k:Int):=by rw[qsw (by omega) (by omega)];rfl
   obtain⟨x,x1,x2⟩:=hr.get (k:=k) (by omega);obtain⟨y,y1,y2⟩:=hr.get (k:=k+1) (by omega);have x2:x=Fq (M i k):=x2;have y2:y=Fq (M i (k+1)):=y2;subst x2 y2;have hlen:r.length=n:=hr.1;dsimp only;rw[hk,if_pos (by omega),qw,e1,ZB,ek,qw,x1,ZB,qR (by omega),qw,y1,ZB,qkN hN (hM i d _) ga,ZB,qkN hN (hM i d _) gc,ZB,qoj hN (hMc i d _ _ fa) (hMc i d _ _ fc),ZB,jX (by omega),ZB,qkN hN (hM i d _) gb,ZB,qkN hN (hM i d _) gd,ZB,qoj hN (hMc i d _ _ fb) (hMc i d _ _ fd),ZB,qw,Ya (by rw[Yk];omega),ZB,jX (by rw[Yk];omega),ZB,qkW,qR (by omega),show((k+1:Nat):Int)=(c.natAbs:Int)by rw[hk]];refine qte hN h2 hc hc2 hM hMc hl K (i+1) _ ((h.set ((hr.set (R:=IsF) rfl k).set (R:=IsF) rfl (k+1)) i).congr fun i' hi'=>?_) (by omega) (by omega);unfold qfT;by_cases g:i'=i
   ·subst g;rw[if_pos rfl,if_pos (by omega)];show _=zB (decide (c>0)) t (c.natAbs-1) (M i');rw[qqP,hk,Nat.add_sub_cancel];rfl
   rw[if_neg g];show(if i'<i then qiW t c M i' else M i')=_;by_cases g2:i'<i
   ·rw[if_pos g2,if_pos (by omega)]
   rw[if_neg g2,if_neg (by omega)]
  rw[if_neg (by omega)];exact⟨_,rfl,h.congr fun i' hi'=>by rw[if_pos (by omega)]⟩
omit S in
theorem qtG {c:Int} (h1: -100<c) (h2:c<100):qX c=some (c.natAbs:Int):=by
 unfold qX;rw[qz (by omega) (by omega)];split<;>congr 1<;>omega
theorem qqA {N n:Nat} (hN:600000<N) (h2:n<=5) {w:List Int} (hw: ∀c∈w,c≠0/\ -(n:Int)<c/\c<n) (hl:t^(w.length+2)<1000000000) (hl2:w.length<=1000):
 ∀(K i:Nat) (M:Nat->Nat->Rat) (l17:List (List qo)),MR IsF n l17 M->(∀a,a<n->Rw t (M a) i)->i<=w.length->w.length<K+i-> ∃l,xn N w (Fq t) K l17 (i:Int)=some l/\MR IsF n l ((w.drop i).foldl (fun M c=>qiW t c M) M)
 |0,i,M,l17,h,hb,hi,hK=>by omega
 |K+1,i,M,l17,h,hb,hi,hK=>by
  have t1:=S.t1;unfold xn;by_cases d:i<w.length
  ·have hm:=hw _ (List.getElem_mem d);have p2:=qeX t1 (show i+2<=w.length+2 by omega);have p3:=qeX t1 (show i+3<=w.length+2 by omega);obtain⟨l,l1,l2⟩:=qte S (N:=N) (by omega) h2 (c:=w[i]) (by omega) (by omega) (fun a ha b=>(hb a ha).q9 t1 (by omega) b) (fun a ha b e he=>(hb a ha).q9c t1 (by omega) b he) h.1 N 0 l17 (h.congr fun i' _=>by rw[if_neg (Nat.not_lt_zero _)]) (by omega) (by omega);rw[show((0:Nat):Int)=0 from rfl]at l1;rw[if_pos (by omega),qw,Ya d,ZB,qtG (by omega) (by omega),ZB,qtW S (by omega),ZB,l1,ZB,qR (by omega),YG d,List.foldl_cons];exact qqA hN h2 hw hl hl2 K (i+1) _ l l2 (fun a ha=>(hb a ha).step t1 _ (by omega)) (by omega) (by omega)
  rw[if_neg (by omega),List.drop_eq_nil_of_le (by omega)];exact⟨_,rfl,h⟩
theorem qgU {N n:Nat} (hN:600000<N) (h1:1<=n) (h2:n<=5) {w:List Int} (hw: ∀c∈w,c≠0/\ -(n:Int)<c/\c<n) (hl:t^(w.length+2)<1000000000) (hl2:w.length<=1000): ∃l,qbJ N (n:Int) w (Fq t)=some l/\MR IsF n l (qic t w):=by
 unfold qbJ
 have hm:mk 24 (n:Int) ([]:List qo)=some (List.replicate n []):=by
  have:n=1\/n=2\/n=3\/n=4\/n=5:=by omega
  rcases this with rfl|rfl|rfl|rfl|rfl
  all_goals (show @Eq (Option _) _ _;kernel_rfl)
 obtain⟨l,l1,l2⟩:=qst (N:=N) (n:=n) (w:=w) (l1:=List.replicate n []) (by omega) h1 h2 List.length_replicate N 0 (List.replicate n []) List.length_replicate (fun i' r hi'=>by omega) (by omega) (by omega);obtain⟨m,m1,m2⟩:=qqA S hN h2 hw hl hl2 N 0 idM l l2 (fun a ha=>qqz S.t1 a (by omega)) (by omega) (by omega);rw[hm,ZB,show(0:Int)=((0:Nat):Int)from rfl,l1,ZB,m1,ZB];exact⟨_,rfl,m2⟩
theorem qvB {n:Nat} (h2:n<=5) {w:List Int} (hw: ∀c∈w,c≠0/\ -(n:Int)<c/\c<n) {i:Nat} (hi:i<n):Rw t (qic t w i) w.length:=by
 have:=qoA S.t1 h2 w hw _ 0 (qqz S.t1 i (by omega));rw[Nat.zero_add]at this;unfold qic;rw[qg8];exact this
theorem qnv {n:Nat} (h2:n<=5) {w:List Int} (hw: ∀c∈w,c≠0/\ -(n:Int)<c/\c<n) (hl:t^(w.length+2)<1000000000) {i:Nat} (hi:i<n) (j:Nat):Q9 (qic t w i j):=(qvB S h2 hw hi).q9 S.t1 hl j
end
end
section
open Go.Proofs Go.RowKit
variable [Glob]
section
variable {n:Nat} (h2:n<=5) {a b:List Int} (ha: ∀c∈a,c≠0/\ -(n:Int)<c/\c<n) (hb: ∀c∈b,c≠0/\ -(n:Int)<c/\c<n) (hl:a.length+b.length<=16)
include h2 ha hb hl
end
end
section
open Go.Proofs Go.RowKit
variable [Glob]
theorem pf_of {u v:List Int} (h: ∀s,pmF s u=pmF s v) (x:Nat):pfP u x=pfP v x:=by
 have:=congrArg (fun s:SB=>s.f x) (h SB.id);rw[qnm,qnm]at this;exact this
theorem qlq {m m':List Int} (h: ∀a b,lkP m a b=lkP m' a b) (k: ∀s,pmF s m=pmF s m') (u v:List Int) (a b:Nat):lkP (u++m++v) a b=lkP (u++m'++v) a b:=by
 have p: ∀x,pfP (u++m) x=pfP (u++m') x:=pf_of fun s=>by rw[xX,xX,k]
 rw[qg5,qg5 (u++m'),qg5 u m,qg5 u m',h,p,p]
theorem qiv (k x:Nat):(tr5 k x=k↔x=k+1)/\(tr5 k x=k+1↔x=k):=by
 unfold tr5;constructor<;>(repeat' split)<;>omega
theorem qkX {k m:Nat} (h:k+1<m\/m+1<k) (x:Nat):(tr5 k x=m↔x=m)/\(tr5 k x=m+1↔x=m+1):=by
 unfold tr5;constructor<;>(repeat' split)<;>omega
theorem qiq {k m:Nat} (h:m=k+1\/k=m+1) (x:Nat):(tr5 k (tr5 m x)=m↔x=k)/\(tr5 k (tr5 m x)=m+1↔x=k+1):=by
 unfold tr5;constructor<;>(repeat' split)<;>omega
theorem qin {k m:Nat} (h:m=k+1\/k=m+1) (x:Nat):(tr5 k x=m↔tr5 m x=k)/\(tr5 k x=m+1↔tr5 m x=k+1):=by
 unfold tr5;constructor<;>(repeat' split)<;>omega
def ht (k a b:Nat) (s:Int):Int:=if(a=k/\b=k+1)\/(a=k+1/\b=k)then s else 0
theorem qoY {P Q:Prop} [Decidable P] [Decidable Q] (h:P↔Q) (s:Int):(if P then s else 0)=if Q then s else 0:=by simp only[h]
theorem qt6 (k a b:Nat) (s:Int):ht k (tr5 k a) (tr5 k b) s=ht k a b s:=qoY (by rw[(qiv k a).1,(qiv k a).2,(qiv k b).1,(qiv k b).2];omega) s
theorem qqU {k m:Nat} (h:k+1<m\/m+1<k) (a b:Nat) (s:Int):ht m (tr5 k a) (tr5 k b) s=ht m a b s:=qoY (by rw[(qkX h a).1,(qkX h a).2,(qkX h b).1,(qkX h b).2]) s
theorem qlf {k m:Nat} (h:m=k+1\/k=m+1) (a b:Nat) (s:Int):ht m (tr5 k (tr5 m a)) (tr5 k (tr5 m b)) s=ht k a b s:=qoY (by rw[(qiq h a).1,(qiq h a).2,(qiq h b).1,(qiq h b).2]) s
theorem qug {k m:Nat} (h:m=k+1\/k=m+1) (a b:Nat) (s:Int):ht m (tr5 k a) (tr5 k b) s=ht k (tr5 m a) (tr5 m b) s:=qoY (by rw[(qin h a).1,(qin h a).2,(qin h b).1,(qin h b).2]) s
theorem qvh (k a b:Nat) (s:Int):ht k a b (-s)= -ht k a b s:=by unfold ht;split<;>omega
theorem y9 (c:Int) (w:List Int) (a b:Nat):lkP (c::w) a b=ht (c.natAbs-1) a b (qb8 c)+lkP w (tr5 (c.natAbs-1) a) (tr5 (c.natAbs-1) b):=rfl
theorem qoP (x:Int) (hx:x≠0) (a b:Nat):lkP [x,-x] a b=lkP [] a b:=by
 have hs:qb8 (-x)= -qb8 x:=by unfold qb8;split<;>split<;>omega
 rw[y9,y9,Int.natAbs_neg,qt6,hs,qvh];show _+(_+(0:Int))=0;omega
theorem qvN {x y:Int} (hx:x≠0) (hy:y≠0) (h:qlK x y=true) (a b:Nat):lkP [x,y] a b=lkP [y,x] a b:=by
 unfold qlK at h;rw[Bool.or_eq_true,Nat.ble_eq,Nat.ble_eq]at h;rw[y9,y9,y9,y9,qqU (by omega),qqU (by omega)];show _+(_+(0:Int))=_+(_+(0:Int));omega
theorem qie {z:Int} (h:z≠0):qb8 z=sg5 z:=by unfold qb8 sg5;split<;>split<;>omega
theorem qfz {z:Int} (h:z≠0) {y:Int} (hy:y≠0):qb8 (sg5 z*(y.natAbs:Int))=qb8 z/\(sg5 z*(y.natAbs:Int)).natAbs=y.natAbs/\((0<sg5 z*(y.natAbs:Int))↔0<z):=by
 unfold qb8 sg5;by_cases p:z<0
 ·rw[if_pos p,if_neg (show¬0<z by omega)];refine⟨if_neg (by omega),by omega,by omega⟩
 rw[if_neg p,if_pos (show 0<z by omega)];refine⟨if_pos (by omega),by omega,by omega⟩
theorem qhk {x y z:Int} {l:List Int} (hx:x≠0) (hy:y≠0) (hz:z≠0) (h:qcG x y z=some l):x.natAbs=z.natAbs/\(y.natAbs-1=x.natAbs-1+1\/x.natAbs-1=y.natAbs-1+1)/\((qb8 x=qb8 y/\l=[sg5 z*(y.natAbs:Int),x,y])\/(qb8 y=qb8 z/\l=[y,z,sg5 x*(y.natAbs:Int)])):=by
 unfold qcG at h;split at h
 ·rename_i c;refine⟨c.1,by omega,?_⟩;split at h
  ·rename_i d;exact .inl ⟨by rw[qie hx,qie hy,d],(Ye h).symm⟩
  split at h
  ·rename_i d;exact .inr ⟨by rw[qie hy,qie hz,d],(Ye h).symm⟩
  cases h
 cases h
theorem qvI {x y z:Int} {l:List Int} (hx:x≠0) (hy:y≠0) (hz:z≠0) (h:qcG x y z=some l) (a b:Nat):lkP [x,y,z] a b=lkP l a b:=by
 obtain⟨e,n,r⟩:=qhk hx hy hz h
 have key: ∀(p q r:Int),lkP [x,y,z] a b=ht (x.natAbs-1) a b (qb8 x)+(ht (x.natAbs-1) (tr5 (y.natAbs-1) a) (tr5 (y.natAbs-1) b) (qb8 y)+ht (y.natAbs-1) a b (qb8 z)):=fun p q r=>by
  rw[y9,y9,y9,<-e,qug n,qlf (by omega)];show _+(_+(_+(0:Int)))=_;omega
 rw[key 0 0 0];rcases r with⟨s,rfl⟩|⟨s,rfl⟩
 ·obtain⟨u1,u2,_⟩:=qfz hz hy;rw[y9,y9,y9,u1,u2,qlf n];show _=_+(_+(_+(0:Int)));rw[s];omega
 obtain⟨u1,u2,_⟩:=qfz hx hy;rw[y9,y9,y9,u1,u2,<-e,qlf n];show _=_+(_+(_+(0:Int)));rw[s];omega
theorem Mv.lk {n:Nat} {w v:List Int} (h:Mv n w v) (hw:yQ n w) (a b:Nat):lkP w a b=lkP v a b:=by
 cases h with
 |@ins u v x hx=>
  have:=qlq (m:=[]) (m':=[x,-x]) (fun a b=>(qoP x hx.1 a b).symm) (fun s=>(qih s x).symm) u v a b
  rwa [YQ]at this
 |@can u v x=>
  have:=qlq (m:=[x,-x]) (m':=[]) (fun a b=>qoP x (hw x (by simp)).1 a b) (fun s=>qih s x) u v a b
  rwa [YQ]at this
 |@swp u v x y h=>
  have hx:=(hw x (by simp)).1;have hy:=(hw y (by simp)).1;refine qlq (fun a b=>qvN hx hy h a b) (fun s=>?_) u v a b;have:=Mv.pm (n:=n) (.swp (u:=[]) (v:=[]) h) (fun c hc=>hw c (by simp at hc⊢;rcases hc with rfl|rfl<;>simp)) s;simpa using this
 |@trn u v l x y z h=>
  have hx:=(hw x (by simp)).1;have hy:=(hw y (by simp)).1;have hz:=(hw z (by simp)).1;exact qlq (fun a b=>qvI hx hy hz h a b) (fun s=>qqO hx hy h) u v a b
theorem qaT {v:Nat->Rat} {k j:Nat} {q:Rat}:qfT v k q j=if j=k then q else v j:=rfl
theorem qtU {t:Rat} (ht:t≠0) (p:Bool) (k:Nat) (v:Nat->Rat):zB (!p) t k (zB p t k v)=v:=by
 have I:=Rat.inv_mul_cancel t ht;generalize t⁻¹=i at I;funext j;cases p<;>simp only[zB,qaT,Bool.not_true,Bool.not_false,if_true,ZF,if_false]
 all_goals
  by_cases a:j=k+1
  ·subst a;simp;grind
  by_cases b:j=k
  ·subst b;simp;grind
  simp[a,b]
theorem qu5 {t:Rat} {k m:Nat} (h:k+1<m\/m+1<k) (p q:Bool) (v:Nat->Rat):zB q t m (zB p t k v)=zB p t k (zB q t m v):=by
 have n1:m≠k:=by omega
 have n2:m≠k+1:=by omega
 have n3:m+1≠k:=by omega
 have n4:k≠m:=by omega
 have n5:k≠m+1:=by omega
 have n6:k+1≠m:=by omega
 funext j;by_cases a:j=k
 ·subst a;cases p<;>cases q<;>simp[zB,qaT,n1,n2,n3,n4,n5,n6]
 by_cases b:j=k+1
 ·subst b;cases p<;>cases q<;>simp[zB,qaT,n1,n2,n3,n4,n5,n6]
 by_cases c:j=m
 ·subst c;cases p<;>cases q<;>simp[zB,qaT,n1,n2,n3,n4,n5,n6]
 by_cases d:j=m+1
 ·subst d;cases p<;>cases q<;>simp[zB,qaT,n1,n2,n3,n4,n5,n6]
 cases p<;>cases q<;>simp[zB,qaT,a,b,c,d]
theorem st_up {t:Rat} (ht:t≠0) (k:Nat) (p q r:Bool) (h:p=q\/q=r) (v:Nat->Rat):zB r t k (zB q t (k+1) (zB p t k v))=if p=q then zB q t (k+1) (zB p t k (zB r t (k+1) v))else zB p t (k+1) (zB r t k (zB q t (k+1) v)):=by
 have I:=Rat.inv_mul_cancel t ht;generalize hi:t⁻¹=i at I
 have n1:k≠k+1+1:=by omega
 have n2:k+1+1≠k:=by omega
 funext j;by_cases a:j=k
 ·subst a;cases p<;>cases q<;>cases r<;>simp_all [zB,qaT]<;>grind
 by_cases b:j=k+1
 ·subst b;cases p<;>cases q<;>cases r<;>simp_all [zB,qaT]<;>grind
 by_cases c:j=k+1+1
 ·subst c;cases p<;>cases q<;>cases r<;>simp_all [zB,qaT]<;>grind
 cases p<;>cases q<;>cases r<;>simp_all [zB,qaT]
theorem st_dn {t:Rat} (ht:t≠0) (k:Nat) (p q r:Bool) (h:p=q\/q=r) (v:Nat->Rat):zB r t (k+1) (zB q t k (zB p t (k+1) v))=if p=q then zB q t k (zB p t (k+1) (zB r t k v))else zB p t k (zB r t (k+1) (zB q t k v)):=by
 have I:=Rat.inv_mul_cancel t ht;generalize hi:t⁻¹=i at I
 have n1:k≠k+1+1:=by omega
 have n2:k+1+1≠k:=by omega
 funext j;by_cases a:j=k
 ·subst a;cases p<;>cases q<;>cases r<;>simp_all [zB,qaT]<;>grind
 by_cases b:j=k+1
 ·subst b;cases p<;>cases q<;>cases r<;>simp_all [zB,qaT]<;>grind
 by_cases c:j=k+1+1
 ·subst c;cases p<;>cases q<;>cases r<;>simp_all [zB,qaT]<;>grind
 cases p<;>cases q<;>cases r<;>simp_all [zB,qaT]
theorem qtD {t:Rat} (ht:t≠0) {k m:Nat} (n:m=k+1\/k=m+1) (p q r:Bool) (h:p=q\/q=r) (v:Nat->Rat):zB r t k (zB q t m (zB p t k v))=if p=q then zB q t m (zB p t k (zB r t m v))else zB p t m (zB r t k (zB q t m v)):=by
 rcases n with rfl|rfl
 ·exact st_up ht k p q r h v
 exact st_dn ht m p q r h v
def lt1 (t:Rat) (c:Int):(Nat->Rat)->Nat->Rat:=zB (decide (c>0)) t (c.natAbs-1)
theorem qag (t:Rat) (c:Int) (w:List Int) (v:Nat->Rat):qd3 t (c::w) v=qd3 t w (lt1 t c v):=rfl
theorem qfm (t:Rat) (v:Nat->Rat):qd3 t [] v=v:=rfl
theorem qhb (t:Rat) (a b:List Int) (v:Nat->Rat):qd3 t (a++b) v=qd3 t b (qd3 t a v):=by
 unfold qd3;rw[List.foldl_append]
theorem qpx {x y:Int} (hx:x≠0) (hy:y≠0):qb8 x=qb8 y↔decide (x>0)=decide (y>0):=by
 unfold qb8;by_cases a:0<x<;>by_cases b:0<y<;>simp[a,b]
theorem qtE {t:Rat} (ht:t≠0) {x y z:Int} {l:List Int} (hx:x≠0) (hy:y≠0) (hz:z≠0) (h:qcG x y z=some l) (v:Nat->Rat):qd3 t [x,y,z] v=qd3 t l v:=by
 obtain⟨e,n,r⟩:=qhk hx hy hz h;rw[qpx hx hy,qpx hy hz]at r;have key:=qtD ht n (decide (x>0)) (decide (y>0)) (decide (z>0)) (by rcases r with⟨s,_⟩|⟨s,_⟩<;>simp[s]) v
 have lhs:qd3 t [x,y,z] v=zB (decide (z>0)) t (x.natAbs-1) (zB (decide (y>0)) t (y.natAbs-1) (zB (decide (x>0)) t (x.natAbs-1) v)):=by
  conv=>rhs;rw[e]
  rw[<-e];rw[qag,qag,qag,qfm];unfold lt1;rw[<-e]
 rw[lhs,key];rcases r with⟨s,rfl⟩|⟨s,rfl⟩
 ·obtain⟨_,u2,u3⟩:=qfz hz hy;rw[if_pos s,qag,qag,qag,qfm];unfold lt1;rw[u2,decide_eq_decide.2 (show sg5 z*(y.natAbs:Int)>0↔z>0 from u3)]
 obtain⟨_,u2,u3⟩:=qfz hx hy;rw[qag,qag,qag,qfm];unfold lt1;rw[u2,decide_eq_decide.2 (show sg5 x*(y.natAbs:Int)>0↔x>0 from u3),<-e];by_cases g:decide (x>0)=decide (y>0)
 ·rw[if_pos g,s,g.trans s]
 rw[if_neg g]
theorem qij {t:Rat} {m m':List Int} (h: ∀v,qd3 t m v=qd3 t m' v) (u v:List Int) (x:Nat->Rat):qd3 t (u++m++v) x=qd3 t (u++m'++v) x:=by
 rw[qhb,qhb t u m,qhb t (u++m'),qhb t u m',h]
theorem Mv.run {t:Rat} (ht:t≠0) {n:Nat} {w v:List Int} (h:Mv n w v) (hw:yQ n w) (x:Nat->Rat):qd3 t w x=qd3 t v x:=by
 have pair: ∀(c:Int),c≠0-> ∀v,qd3 t [c,-c] v=qd3 t [] v:=fun c hc v=>by
  rw[qag,qag,qfm,qfm];unfold lt1;rw[Int.natAbs_neg,show decide (-c>0)=!decide (c>0)by by_cases a:c>0<;>simp[a]<;>omega];exact qtU ht _ _ v
 cases h with
 |@ins u v c hc=>
  have:=qij (m:=[]) (m':=[c,-c]) (fun v=>(pair c hc.1 v).symm) u v x
  rwa [YQ]at this
 |@can u v c=>
  have:=qij (m:=[c,-c]) (m':=[]) (fun v=>pair c (hw c (by simp)).1 v) u v x
  rwa [YQ]at this
 |@swp u v a b h=>
  have ha:=(hw a (by simp)).1;have hb:=(hw b (by simp)).1;refine qij (fun v=>?_) u v x;unfold qlK at h;rw[Bool.or_eq_true,Nat.ble_eq,Nat.ble_eq]at h;exact qu5 (by omega) _ _ v
 |@trn u v l a b c h=>
  exact qij (fun v=>qtE ht (hw a (by simp)).1 (hw b (by simp)).1 (hw c (by simp)).1 h v) u v x
theorem Mv.mat {t:Rat} (ht:t≠0) {n:Nat} {w v:List Int} (h:Mv n w v) (hw:yQ n w):qic t w=qic t v:=by
 funext i;unfold qic;rw[qg8,qg8,h.run ht hw]
end
section
open Go.Proofs Go.RowKit
variable [Glob]
abbrev t2:Rat:=((2:Int):Rat)
theorem Tk2:Tk 2:=⟨by decide,by decide⟩
theorem qvy {q:Rat} (h:Q9 q):jZ (Fq q) (Fq q)=some true:=by
 have m1:=qdG h.1 h.d;have h1:=h.1;have h2:=h.2;unfold jZ qbj;dsimp only[Fq];rw[qh0 (by omega) (by omega) (by omega),ZB,ZB];unfold qaw;dsimp only;rw[if_pos em0,ZB,if_pos em0,if_neg (Int.lt_irrefl _),if_neg (Int.lt_irrefl _)];rfl
theorem quy {n:Nat} (h2:n<=5) {r:List qo} {v:Nat->Rat} (h:qd1 IsF n r v) (hv: ∀j,Q9 (v j)): ∀(K i:Nat),i<=n->n<K+i->qE r r K (i:Int)=some (.inl ())
 |0,i,hi,hK=>by omega
 |K+1,i,hi,hK=>by
  unfold qE;have hl:=h.1;by_cases c:i<n
  ·obtain⟨x,x1,x2⟩:=h.get c;have x2:x=Fq (v i):=x2;rw[if_pos (by omega),qw,x1,ZB,ZB,x2,qvy (hv i),ZB,if_neg (by decide),qR (by omega)];exact quy h2 h hv K (i+1) (by omega) (by omega)
  rw[if_neg (by omega)]
theorem qvH {N n:Nat} (hN:10<N) (h2:n<=5) {r:List qo} {v:Nat->Rat} (h:qd1 IsF n r v) (hv: ∀j,Q9 (v j)):ky N r r=some true:=by
 unfold ky zX;have:=quy h2 h hv N 0 (by omega) (by omega);rw[show((0:Nat):Int)=0 from rfl]at this;rw[decide_eq_true rfl,if_neg (by decide),this];rfl
theorem quC {N n:Nat} (hN:10<N) (h2:n<=5) {l:List (List qo)} {M:Nat->Nat->Rat} (h:MR IsF n l M) (hM: ∀i,i<n-> ∀j,Q9 (M i j)): ∀(K i:Nat),i<=n->n<K+i->qD N l l K (i:Int)=some (.inl ())
 |0,i,hi,hK=>by omega
 |K+1,i,hi,hK=>by
  unfold qD;have hl:=h.1;by_cases c:i<n
  ·obtain⟨x,x1,x2⟩:=h.get c;rw[if_pos (by omega),qw,x1,ZB,ZB,qvH hN h2 x2 (hM i c),ZB,if_neg (by decide),qR (by omega)];exact quC hN h2 h hM K (i+1) (by omega) (by omega)
  rw[if_neg (by omega)]
theorem qvs {N n:Nat} (hN:10<N) (h2:n<=5) {l l':List (List qo)} {M:Nat->Nat->Rat} (h:MR IsF n l M) (h':MR IsF n l' M) (hM: ∀i,i<n-> ∀j,Q9 (M i j)):qP N l l'=some true:=by
 obtain rfl:=MR.ext (f:=Fq) h h';unfold qP;have:=quC hN h2 h hM N 0 (by omega) (by omega);rw[show((0:Nat):Int)=0 from rfl]at this;rw[decide_eq_true rfl,if_neg (by decide),this];rfl
end
structure QTb where
 n:Nat
 cnt:Nat
 rows:List (List Nat)
 tab:Nat
 flp:Nat
 pos:List Nat
 neg:List Nat
 idc:Nat
 half:Nat
def frc {α:Type} (v:Nat) (f:Nat->α):α:=Nat.casesOn v (f 0) fun k=>f (k+1)
theorem qnt {α:Type} (v:Nat) (f:Nat->α):frc v f=f v:=by cases v<;>rfl
def QTb.dec (T:QTb) (c:Nat):List Nat:=T.rows.getD c []
def QTb.v (T:QTb) (s x:Nat):Nat:=Nat.land (Nat.shiftRight T.tab (Nat.mul 10 (Nat.add (Nat.mul 32 s) x))) 1023
def QTb.a (T:QTb) (s x:Nat):Nat:=Nat.land (T.v s x) 31
def QTb.b (T:QTb) (s x:Nat):Nat:=Nat.shiftRight (T.v s x) 5
def QTb.fl (T:QTb) (c:Nat):Nat:=Nat.land (Nat.shiftRight T.flp (Nat.mul 5 c)) 31
def qpN (T:QTb):Nat->List Nat->List Nat
 |x,[]=>[x]
 |x,s::r=>frc (T.v s x) fun v=>frc (Nat.land v 31) fun a=>frc (Nat.shiftRight v 5) fun b=>b::qpN T a r
theorem qpI (T:QTb) (x:Nat):qpN T x []=[x]:=rfl
theorem qa5 (T:QTb) (x s:Nat) (r:List Nat):qpN T x (s::r)=T.b s x::qpN T (T.a s x) r:=by
 rw[qpN,qnt,qnt,qnt];rfl
def qal:Nat->(Nat->Bool)->Bool
 |0,_=>true
 |k+1,f=>bif f k then qal k f else false
theorem xh: ∀{k:Nat} {f:Nat->Bool},qal k f=true-> ∀i,i<k->f i=true
 |0,f,h,i,hi=>by omega
 |k+1,f,h,i,hi=>by
  unfold qal at h
  cases c:f k with
  |false=>rw[c]at h;cases h
  |true=>
   rw[c,cond_true]at h;by_cases e:i=k
   ·subst e;exact c
   exact xh h i (by omega)
def eqN:List Nat->List Nat->Bool
 |[],[]=>true
 |a::l,b::k=>bif Nat.beq a b then eqN l k else false
 |_,_=>false
theorem qfp: ∀{l k:List Nat},eqN l k=true->l=k
 |[],[],h=>rfl
 |a::l,b::k,h=>by
  unfold eqN at h
  cases c:Nat.beq a b with
  |false=>rw[c]at h;cases h
  |true=>rw[c,cond_true]at h;rw[Nat.eq_of_beq_eq_true c,qfp h]
 |[],b::k,h=>by cases h
 |a::l,[],h=>by cases h
def QTb.ck2 (T:QTb) (s x:Nat):Bool:=
 match qed T.n (T.n*T.n) (T.dec s) (T.dec x)with
 |(p,q)=>bif Nat.blt (T.a s x) T.cnt then bif Nat.blt (T.b s x) T.cnt then bif eqN p (T.dec (T.a s x))then bif eqN q (T.dec (T.b s x))then
  bif Nat.beq (T.a s x) s then bif Nat.beq (T.b s x) x then(qe3 (T.dec s) (T.dec x) (T.n-1)).isNone else true else true else false else false else false else false
def QTb.ck1 (T:QTb) (c:Nat):Bool:=
 bif eqN (qgc T.n (T.dec c)) (T.dec (T.fl c))then bif Nat.blt (T.fl c) T.cnt then
  bif Nat.beq (T.a T.idc c) c then bif Nat.beq (T.b T.idc c) T.idc then bif Nat.beq (T.a T.half c) T.half then bif Nat.beq (T.b T.half c) c then bif Nat.beq (T.a c T.idc) c then Nat.beq (T.b c T.idc) T.idc else false else false else false else false else false else false else false
def QTb.ckl (T:QTb) (i:Nat):Bool:=
 bif eqN (T.dec (T.pos.getD i 0)) (qfr i (List.range T.n))then bif eqN (T.dec (T.neg.getD i 0)) (qbk i (qcs T.n))then bif Nat.blt (T.pos.getD i 0) T.cnt then Nat.blt (T.neg.getD i 0) T.cnt else false else false else false
def QTb.ck0 (T:QTb):Bool:=
 bif eqN (T.dec T.idc) (List.range T.n)then bif eqN (T.dec T.half) (qcs T.n)then bif Nat.blt T.idc T.cnt then bif Nat.blt T.half T.cnt then
  bif Nat.beq (T.fl T.idc) T.idc then Nat.beq (T.fl T.half) T.half else false else false else false else false else false
def QTb.ckd (T:QTb) (s x:Nat):Bool:=bif eqN (T.dec s) (T.dec x)then Nat.beq s x else true
def QTb.ck (T:QTb):Bool:=
 bif T.ck0 then bif qal (T.n-1) T.ckl then bif qal T.cnt T.ck1 then bif qal T.cnt (fun s=>qal T.cnt (T.ck2 s))then qal T.cnt (fun s=>qal T.cnt (T.ckd s))else false else false else false else false
theorem zg {a b:Bool} (h:(bif a then b else false)=true):a=true/\b=true:=by
 cases a<;>simp_all
structure QTb.Ok (T:QTb):Prop where
 a_: ∀s x,s<T.cnt->x<T.cnt->T.a s x<T.cnt
 b_: ∀s x,s<T.cnt->x<T.cnt->T.b s x<T.cnt
 pr: ∀s x,s<T.cnt->x<T.cnt->qed T.n (T.n*T.n) (T.dec s) (T.dec x)=(T.dec (T.a s x),T.dec (T.b s x))
 nf: ∀s x,s<T.cnt->x<T.cnt->T.a s x=s->T.b s x=x->qe3 (T.dec s) (T.dec x) (T.n-1)=none
 fl: ∀c,c<T.cnt->qgc T.n (T.dec c)=T.dec (T.fl c)
 fl_: ∀c,c<T.cnt->T.fl c<T.cnt
 ida: ∀c,c<T.cnt->T.a T.idc c=c
 idb: ∀c,c<T.cnt->T.b T.idc c=T.idc
 haa: ∀c,c<T.cnt->T.a T.half c=T.half
 hab: ∀c,c<T.cnt->T.b T.half c=c
 ria: ∀c,c<T.cnt->T.a c T.idc=c
 rib: ∀c,c<T.cnt->T.b c T.idc=T.idc
 po: ∀i,i+1<T.n->T.dec (T.pos.getD i 0)=qfr i (List.range T.n)/\T.pos.getD i 0<T.cnt
 ne: ∀i,i+1<T.n->T.dec (T.neg.getD i 0)=qbk i (qcs T.n)/\T.neg.getD i 0<T.cnt
 id:T.dec T.idc=List.range T.n
 ha:T.dec T.half=qcs T.n
 id_:T.idc<T.cnt
 ha_:T.half<T.cnt
 fi:T.fl T.idc=T.idc
 fh:T.fl T.half=T.half
 inj: ∀s x,s<T.cnt->x<T.cnt->T.dec s=T.dec x->s=x
theorem qm5: ∀l:List Nat,eqN l l=true
 |[]=>rfl
 |a::l=>by rw[eqN,Nat.beq_refl,cond_true,qm5 l]
theorem qgn {a b:Nat} (h:Nat.blt a b=true):a<b:=by simpa[Nat.blt_eq]using h
theorem xW {a b:Nat} (h:Nat.beq a b=true):a=b:=Nat.eq_of_beq_eq_true h
theorem QTb.ok {T:QTb} (h:T.ck=true):T.Ok:=by
 obtain⟨h0,h⟩:=zg h;obtain⟨h1,h⟩:=zg h;obtain⟨h2,h⟩:=zg h;obtain⟨h3,h4⟩:=zg h;obtain⟨z1,z⟩:=zg h0;obtain⟨z2,z⟩:=zg z;obtain⟨z3,z⟩:=zg z;obtain⟨z4,z⟩:=zg z;obtain⟨z5,z6⟩:=zg z
 have c2:=fun(s x:Nat) (hs:s<T.cnt) (hx:x<T.cnt)=>xh (xh h3 s hs) x hx
 have c2': ∀s x,s<T.cnt->x<T.cnt->T.a s x<T.cnt/\T.b s x<T.cnt/\qed T.n (T.n*T.n) (T.dec s) (T.dec x)=(T.dec (T.a s x),T.dec (T.b s x))/\(T.a s x=s->T.b s x=x->qe3 (T.dec s) (T.dec x) (T.n-1)=none):=fun s x hs hx=>by
  have:=c2 s x hs hx;unfold QTb.ck2 at this;rcases e:qed T.n (T.n*T.n) (T.dec s) (T.dec x)with⟨p,q⟩
  rw[e]at this;obtain⟨y1,y⟩:=zg this;obtain⟨y2,y⟩:=zg y;obtain⟨y3,y⟩:=zg y;obtain⟨y4,y⟩:=zg y;refine⟨qgn y1,qgn y2,by rw[qfp y3,qfp y4],fun ea eb=>?_⟩;rw[ea,eb,Nat.beq_refl,Nat.beq_refl,cond_true,cond_true]at y;exact Option.isNone_iff_eq_none.1 y
 have c1: ∀c,c<T.cnt->qgc T.n (T.dec c)=T.dec (T.fl c)/\T.fl c<T.cnt/\T.a T.idc c=c/\T.b T.idc c=T.idc/\T.a T.half c=T.half/\T.b T.half c=c/\T.a c T.idc=c/\T.b c T.idc=T.idc:=fun c hc=>by
  obtain⟨y1,y⟩:=zg (xh h2 c hc);obtain⟨y2,y⟩:=zg y;obtain⟨y3,y⟩:=zg y;obtain⟨y4,y⟩:=zg y;obtain⟨y5,y⟩:=zg y;obtain⟨y6,y⟩:=zg y;obtain⟨y7,y8⟩:=zg y;exact⟨qfp y1,qgn y2,xW y3,xW y4,xW y5,xW y6,xW y7,xW y8⟩
 have cl: ∀i,i+1<T.n->(T.dec (T.pos.getD i 0)=qfr i (List.range T.n)/\T.pos.getD i 0<T.cnt)/\(T.dec (T.neg.getD i 0)=qbk i (qcs T.n)/\T.neg.getD i 0<T.cnt):=fun i hi=>by
  obtain⟨y1,y⟩:=zg (xh h1 i (by omega));obtain⟨y2,y⟩:=zg y;obtain⟨y3,y4⟩:=zg y;exact⟨⟨qfp y1,qgn y3⟩,qfp y2,qgn y4⟩
 refine⟨fun s x a b=>(c2' s x a b).1,fun s x a b=>(c2' s x a b).2.1,fun s x a b=>(c2' s x a b).2.2.1,fun s x a b=>(c2' s x a b).2.2.2,fun c h=>(c1 c h).1,fun c h=>(c1 c h).2.1,fun c h=>(c1 c h).2.2.1,fun c h=>(c1 c h).2.2.2.1,fun c h=>(c1 c h).2.2.2.2.1,fun c h=>(c1 c h).2.2.2.2.2.1,fun c h=>(c1 c h).2.2.2.2.2.2.1,fun c h=>(c1 c h).2.2.2.2.2.2.2,fun i h=>(cl i h).1,fun i h=>(cl i h).2,qfp z1,qfp z2,qgn z3,qgn z4,xW z5,xW z6,fun s x hs hx e=>?_⟩;have:=xh (xh h4 s hs) x hx;unfold QTb.ckd at this;rw[e,qm5,cond_true]at this;exact xW this
def Cod (T:QTb) (R:List Nat):Prop:= ∀c∈R,c<T.cnt
theorem Cod.nil (T:QTb):Cod T []:=fun c h=>by cases h
theorem Cod.cons {T:QTb} {x:Nat} {R:List Nat} (h:x<T.cnt) (k:Cod T R):Cod T (x::R):=fun c hc=>by
 rcases List.mem_cons.1 hc with rfl|hc
 ·exact h
 exact k c hc
theorem Cod.hd {T:QTb} {x:Nat} {R:List Nat} (h:Cod T (x::R)):x<T.cnt:=h x List.mem_cons_self
theorem Cod.tl {T:QTb} {x:Nat} {R:List Nat} (h:Cod T (x::R)):Cod T R:=fun c hc=>h c (List.mem_cons_of_mem _ hc)
theorem qcS {T:QTb} (hT:T.Ok): ∀{R:List Nat} {x:Nat},x<T.cnt->Cod T R->Cod T (qpN T x R)
 |[],x,hx,h=>Cod.cons hx (Cod.nil T)
 |s::r,x,hx,h=>by
  rw[qa5];exact Cod.cons (hT.b_ _ _ h.hd hx) (qcS hT (hT.a_ _ _ h.hd hx) h.tl)
theorem qkR {T:QTb} (hT:T.Ok): ∀{R:List Nat} {x:Nat},x<T.cnt->Cod T R->qhZ T.n (T.dec x) (R.map T.dec)=(qpN T x R).map T.dec
 |[],x,hx,h=>rfl
 |s::r,x,hx,h=>by
  rw[qa5,List.map_cons,List.map_cons,qhZ,hT.pr s x h.hd hx];dsimp only;rw[qkR hT (hT.a_ _ _ h.hd hx) h.tl]
theorem qfG {T:QTb} (hT:T.Ok) {R:List Nat} (h:Cod T R):Cod T (R.map T.fl):=fun c hc=>by
 obtain⟨d,hd,rfl⟩:=List.mem_map.1 hc;exact hT.fl_ d (h d hd)
theorem qoV {T:QTb} (hT:T.Ok): ∀{R:List Nat},Cod T R->(R.map T.dec).map (qgc T.n)=(R.map T.fl).map T.dec
 |[],h=>rfl
 |s::r,h=>by
  rw[List.map_cons,List.map_cons,List.map_cons,List.map_cons,hT.fl s h.hd,qoV hT h.tl]
def nfN (T:QTb):List Nat->Bool
 |[]=>true
 |x::r=>match r with
  |[]=>true
  |s::_=>bif Nat.beq (T.a s x) s then bif Nat.beq (T.b s x) x then nfN T r else false else false
theorem qsN {T:QTb} (hT:T.Ok): ∀{R:List Nat},Cod T R->nfN T R=true->qnf T.n (R.map T.dec)=true
 |[],h,k=>rfl
 |[x],h,k=>rfl
 |x::s::r,h,k=>by
  unfold nfN at k;obtain⟨k1,k⟩:=zg k;obtain⟨k2,k⟩:=zg k;have hr:=qsN hT h.tl k;rw[List.map_cons,List.map_cons,qnf];rw[List.map_cons]at hr;rw[hr,hT.nf s x h.tl.hd h.hd (xW k1) (xW k2)];rfl
theorem qdX {T:QTb} {x s:Nat} {r:List Nat} (h1:T.a s x=s) (h2:T.b s x=x) (h:nfN T (s::r)=true):nfN T (x::s::r)=true:=by
 rw[nfN];rw[h1,h2,Nat.beq_refl,Nat.beq_refl,cond_true,cond_true,h]
theorem qun {T:QTb} {x:Nat} (h:x<T.cnt) (k:Nat):Cod T (List.replicate k x):=fun c hc=>by
 rw[(List.mem_replicate.1 hc).2];exact h
theorem Cod.app {T:QTb} {R S:List Nat} (h:Cod T R) (k:Cod T S):Cod T (R++S):=fun c hc=>(List.mem_append.1 hc).elim (h c) (k c)
theorem Cod.left {T:QTb} {R S:List Nat} (h:Cod T (R++S)):Cod T R:=fun c hc=>h c (List.mem_append_left _ hc)
theorem Cod.right {T:QTb} {R S:List Nat} (h:Cod T (R++S)):Cod T S:=fun c hc=>h c (List.mem_append_right _ hc)
theorem qsF {T:QTb} (hT:T.Ok) {M:List Nat} (hM:Cod T M) (hn:nfN T M=true) (d h:Nat):nfN T (List.replicate d T.idc++(M++List.replicate h T.half))=true:=by
 have tail: ∀{R:List Nat},Cod T R->nfN T R=true->nfN T (R++List.replicate h T.half)=true:=by
  intro R
  induction R with
  |nil=>
   intro _ _;rw[List.nil_append]
   induction h with
   |zero=>rfl
   |succ k ih=>
    cases k with
    |zero=>rfl
    |succ k=>
     rw[List.replicate_succ,List.replicate_succ];rw[List.replicate_succ]at ih;exact qdX (hT.haa _ hT.ha_) (hT.hab _ hT.ha_) ih
  |cons x r ih=>
   intro hc hr
   cases r with
   |nil=>
    cases h with
    |zero=>rfl
    |succ k=>
     have:=ih (Cod.nil T) rfl;rw[List.nil_append,List.replicate_succ]at this;rw[List.replicate_succ];exact qdX (hT.haa _ hc.hd) (hT.hab _ hc.hd) this
   |cons s r=>
    unfold nfN at hr;obtain⟨k1,k⟩:=zg hr;obtain⟨k2,k⟩:=zg k;exact qdX (xW k1) (xW k2) (ih hc.tl k)
 have h1:=tail hM hn;have c1:Cod T (M++List.replicate h T.half):=hM.app (qun hT.ha_ h);generalize M++List.replicate h T.half=R at*
 induction d with
 |zero=>exact h1
 |succ d ih=>
  cases d with
  |zero=>
   cases R with
   |nil=>rfl
   |cons s r=>
    exact qdX (hT.ria _ c1.hd) (hT.rib _ c1.hd) h1
  |succ d=>
   rw[List.replicate_succ,List.replicate_succ,List.cons_append,List.cons_append];rw[List.replicate_succ,List.cons_append]at ih;exact qdX (hT.ida _ hT.id_) (hT.idb _ hT.id_) ih
def shd (z:Nat):List Nat->List Nat
 |[]=>[]
 |x::r=>bif Nat.beq x z then shd z r else x::r
def stl (z:Nat):List Nat->Nat×List Nat
 |[]=>(0,[])
 |x::r=>match stl z r with
  |(h,[])=>bif Nat.beq x z then(h+1,[])else(h,[x])
  |(h,y::l)=>(h,x::y::l)
theorem qqQ (z:Nat): ∀M:List Nat,∃d,M=List.replicate d z++shd z M
 |[]=>⟨0,rfl⟩
 |x::r=>by
  unfold shd
  cases c:Nat.beq x z with
  |false=>exact⟨0,rfl⟩
  |true=>
   obtain⟨d,hd⟩:=qqQ z r;refine⟨d+1,?_⟩;rw[cond_true,List.replicate_succ,List.cons_append,<-hd,xW c]
theorem qol (z:Nat): ∀M:List Nat,M=(stl z M).2++List.replicate (stl z M).1 z
 |[]=>rfl
 |x::r=>by
  have ih:=qol z r;unfold stl;rcases e:stl z r with⟨h,l⟩
  rw[e]at ih
  cases l with
  |nil=>
   dsimp only
   cases c:Nat.beq x z with
   |false=>rw[cond_false];rw[ih];rfl
   |true=>rw[cond_true];rw[ih,xW c];rfl
  |cons y l=>dsimp only;rw[ih];rfl
abbrev FmN:=Nat×List Nat
def fmS (T:QTb) (H:Nat) (M:List Nat):FmN:=match stl T.half (shd T.idc M)with|(h,l)=>(Nat.add H h,l)
def fmN (T:QTb) (i:Nat) (p:Bool) (s:FmN):FmN:=
 bif p then fmS T s.1 (qpN T (T.pos.getD i 0) s.2)else fmS T (Nat.sub s.1 1) (qpN T (T.neg.getD i 0) (s.2.map T.fl))
theorem qs4 (T:QTb) (H:Nat) (M:List Nat): ∃d h,M=List.replicate d T.idc++((fmS T H M).2++List.replicate h T.half)/\(fmS T H M).1=H+h:=by
 obtain⟨d,hd⟩:=qqQ T.idc M;have h2:=qol T.half (shd T.idc M);refine⟨d,(stl T.half (shd T.idc M)).1,?_,rfl⟩;rw[show(fmS T H M).2=(stl T.half (shd T.idc M)).2 from rfl,<-h2,<-hd]
structure RS (T:QTb) (k:Nat) (R:List Nat) (s:FmN):Prop where
 cod:Cod T R
 sh: ∃d h,R=List.replicate d T.idc++(s.2++List.replicate h T.half)/\s.1+k=16+h
theorem RS.nil (T:QTb):RS T 0 [] (16,[]):=⟨Cod.nil T,0,0,rfl,rfl⟩
theorem qo4 {T:QTb} (hT:T.Ok) {x:Nat} (hx:x<T.cnt) (R:List Nat): ∀d,qpN T x (List.replicate d T.idc++R)=List.replicate d T.idc++qpN T x R
 |0=>rfl
 |d+1=>by
  rw[List.replicate_succ,List.cons_append,List.cons_append,qa5,hT.idb x hx,hT.ida x hx,qo4 hT hx R d]
theorem qjk {T:QTb} (hT:T.Ok) {x:Nat} (hx:x<T.cnt): ∀h,qpN T x (List.replicate h T.half)=x::List.replicate h T.half
 |0=>rfl
 |h+1=>by
  rw[List.replicate_succ,qa5,hT.hab x hx,hT.haa x hx,qjk hT hT.ha_ h]
theorem qpm {T:QTb} (hT:T.Ok) (h:Nat): ∀{M:List Nat} {x:Nat},x<T.cnt->Cod T M->qpN T x (M++List.replicate h T.half)=qpN T x M++List.replicate h T.half
 |[],x,hx,hM=>by rw[List.nil_append,qjk hT hx];rfl
 |s::M,x,hx,hM=>by
  rw[List.cons_append,qa5,qa5,qpm hT h (hT.a_ _ _ hM.hd hx) hM.tl];rfl
theorem qtS {α:Type} (a b:Nat) (x:α) (l:List α):List.replicate a x++(List.replicate b x++l)=List.replicate (a+b) x++l:=by
 rw[<-Yz,List.replicate_append_replicate]
theorem RS.pass {T:QTb} (hT:T.Ok) {k:Nat} {R:List Nat} {H:Nat} {M:List Nat} (h:RS T k R (H,M)) {x:Nat} (hx:x<T.cnt):RS T k (qpN T x R) (fmS T H (qpN T x M)):=by
 obtain⟨c,d,h0,e,e2⟩:=h;dsimp only at e e2;subst e;have hM:Cod T M:=c.right.left;obtain⟨d',h',f1,f2⟩:=qs4 T H (qpN T x M);refine⟨qcS hT hx c,d+d',h'+h0,?_,by omega⟩;rw[qo4 hT hx,qpm hT h0 hx hM]
 conv=>lhs;rw[f1]
 rw[Yz,Yz,List.replicate_append_replicate,qtS]
theorem RS.flip {T:QTb} (hT:T.Ok) {k:Nat} {R:List Nat} {H:Nat} {M:List Nat} (h:RS T k R (H,M)) (hH:1<=H):RS T (k+1) (R.map T.fl) (H-1,M.map T.fl):=by
 obtain⟨c,d,h0,e,e2⟩:=h;dsimp only at e e2;subst e;refine⟨qfG hT c,d,h0,?_,by dsimp only;omega⟩;rw[List.map_append,List.map_append,List.map_replicate,List.map_replicate,hT.fi,hT.fh]
def rwN (T:QTb) (R:List Nat) (c:Int):List Nat:=if 0<c then qpN T (T.pos.getD (c.natAbs-1) 0) R else qpN T (T.neg.getD (c.natAbs-1) 0) (R.map T.fl)
def fmL (T:QTb) (s:FmN) (c:Int):FmN:=fmN T (c.natAbs-1) (decide (0<c)) s
def ngN (k:Nat) (c:Int):Nat:=if 0<c then k else k+1
theorem RS.step {T:QTb} (hT:T.Ok) {k:Nat} {R:List Nat} {s:FmN} (h:RS T k R s) {c:Int} (hc:c≠0/\ -(T.n:Int)<c/\c<T.n) (hH:1<=s.1):RS T (ngN k c) (rwN T R c) (fmL T s c):=by
 obtain⟨i,hi⟩: ∃i,c.natAbs=i+1:=⟨c.natAbs-1,by omega⟩
 have hin:i+1<T.n:=by omega
 unfold rwN fmL fmN ngN;rw[hi,Nat.add_sub_cancel];obtain⟨H,M⟩:=s;by_cases hp:0<c
 ·rw[if_pos hp,if_pos hp,decide_eq_true hp,cond_true];exact h.pass hT (hT.po i hin).2
 rw[if_neg hp,if_neg hp,decide_eq_false hp,cond_false];exact(h.flip hT hH).pass hT (hT.ne i hin).2
theorem quc {T:QTb} (hT:T.Ok) {R:List Nat} (h:Cod T R) {c:Int} (hc:c≠0/\ -(T.n:Int)<c/\c<T.n):qkd T.n (R.map T.dec) c=(rwN T R c).map T.dec:=by
 obtain⟨i,hi⟩: ∃i,c.natAbs=i+1:=⟨c.natAbs-1,by omega⟩
 have hin:i+1<T.n:=by omega
 unfold qkd rwN;rw[hi,Nat.add_sub_cancel];by_cases hp:0<c
 ·rw[if_pos hp,if_pos hp,<-(hT.po i hin).1,qkR hT (hT.po i hin).2 h]
 rw[if_neg hp,if_neg hp,<-(hT.ne i hin).1,qoV hT h,qkR hT (hT.ne i hin).2 (qfG hT h)]
def qbn (s:List Int) (x:Int):List Int:=match s with
 |[]=>[x]
 |y::t=>if y= -x then t else x::y::t
theorem qhy (x:Int):qbn [] x=[x]:=rfl
theorem qbT {x y:Int} (t:List Int) (h:y= -x):qbn (y::t) x=t:=if_pos h
theorem qb1 {x y:Int} (t:List Int) (h: ¬y= -x):qbn (y::t) x=x::y::t:=if_neg h
def fact (s w:List Int):List Int:=w.foldl qbn s
def fred (w:List Int):List Int:=(fact [] w).reverse
def jr (w:List Int):List Int:=(w.map fun x=> -x).reverse
def qcg:List Int->Prop
 |[]=>True
 |x::t=>x≠0/\(∀y∈t.head?,y≠ -x)/\qcg t
def Nz (w:List Int):Prop:= ∀x∈w,x≠0
theorem Nz.app {u v:List Int} (h:Nz u) (k:Nz v):Nz (u++v):=fun x hx=>(List.mem_append.1 hx).elim (h x) (k x)
theorem Nz.inv {u:List Int} (h:Nz u):Nz (jr u):=fun x hx=>by
 simp only[jr,List.mem_reverse,List.mem_map]at hx;obtain⟨y,hy,rfl⟩:=hx;have:=h y hy;omega
theorem qrW (u v:List Int):jr (u++v)=jr v++jr u:=by simp[jr]
theorem qfE (x:Int) (u:List Int):jr (x::u)=jr u++[-x]:=by simp[jr]
theorem qj9 (u:List Int):jr (jr u)=u:=by simp[jr,List.map_reverse,Function.comp_def]
theorem qgJ (u:List Int):(jr u).length=u.length:=by simp[jr]
theorem qav (s u v:List Int):fact s (u++v)=fact (fact s u) v:=by simp[fact]
theorem qde (s:List Int) (x:Int):fact s [x]=qbn s x:=rfl
theorem qhR (s:List Int) (x:Int) (w:List Int):fact s (x::w)=fact (qbn s x) w:=rfl
theorem qqi {s:List Int} {x:Int} (h:qcg s) (hx:x≠0):qcg (qbn s x):=by
 cases s with
 |nil=>exact⟨hx,by simp,trivial⟩
 |cons y t=>
  unfold qbn;dsimp only;split
  ·exact h.2.2
  rename_i n;exact⟨hx,by intro z hz;simp at hz;subst hz;exact n,h⟩
theorem qgZ {s w:List Int} (h:qcg s) (hw:Nz w):qcg (fact s w):=by
 induction w generalizing s with
 |nil=>exact h
 |cons x w ih=>exact ih (qqi h (hw x (List.mem_cons_self ..))) (fun y hy=>hw y (List.mem_cons_of_mem _ hy))
theorem qiT {s:List Int} {x:Int} (h:qcg s) (hx:x≠0):qbn (qbn s x) (-x)=s:=by
 cases s with
 |nil=>rw[qhy,qbT _ (by omega)]
 |cons y t=>
  by_cases n:y= -x
  ·rw[qbT t n]
   cases t with
   |nil=>rw[qhy,n]
   |cons z t=>
    have:=h.2.1 z (by simp);rw[qb1 _ (by omega),n]
  rw[qb1 t n,qbT _ (by omega)]
theorem qrV {s w:List Int} {x:Int} (h:x∈fact s w):x∈s\/x∈w:=by
 induction w generalizing s with
 |nil=>exact .inl h
 |cons y w ih=>
  rcases ih h with h|h
  ·cases s with
   |nil=>simp[qbn]at h;exact .inr (by simp[h])
   |cons z t=>
    unfold qbn at h;dsimp only at h;split at h
    ·exact .inl (List.mem_cons_of_mem _ h)
    rcases List.mem_cons.1 h with h|h
    ·exact .inr (by simp[h])
    exact .inl h
  exact .inr (List.mem_cons_of_mem _ h)
theorem qnc {w:List Int} {x:Int} (h:x∈fred w):x∈w:=by
 rcases qrV (List.mem_reverse.1 h)with h|h
 ·cases h
 exact h
theorem qlH {w:List Int} (h:Nz w):Nz (fred w):=fun x hx=>h x (qnc hx)
theorem ql2 (s w:List Int):(fact s w).length<=s.length+w.length:=by
 induction w generalizing s with
 |nil=>simp[fact]
 |cons x w ih=>
  have:=ih (qbn s x)
  have h:(qbn s x).length<=s.length+1:=by
   cases s with
   |nil=>simp[qbn]
   |cons y t=>
    unfold qbn;dsimp only;split
    ·simp;omega
    simp
  rw[qhR];simp only[Yr];omega
theorem qmG (w:List Int):(fred w).length<=w.length:=by
 have:=ql2 [] w;simpa[fred]using this
theorem qpZ {w:List Int} (hw:Nz w): ∀{s:List Int},qcg s->fact s (fred w)=fact s w:=by
 suffices∀(r:List Int),Nz r-> ∀{s:List Int},qcg s->fact s (fred r.reverse)=fact s r.reverse by
  intro s hs;have:=this w.reverse (fun x hx=>hw x (List.mem_reverse.1 hx)) hs;simpa using this
 intro r
 induction r with
 |nil=>intro _ s _;rfl
 |cons x r ih=>
  intro hr s hs;have hx:x≠0:=hr x (List.mem_cons_self ..)
  have hr':Nz r:=fun y hy=>hr y (List.mem_cons_of_mem _ hy)
  have hrr:Nz r.reverse:=fun y hy=>hr' y (List.mem_reverse.1 hy)
  have e:=ih hr' hs;have hR:qcg (fact [] r.reverse):=qgZ trivial hrr;rw[List.reverse_cons,qav,<-e,qde]
  have g:fred (r.reverse++[x])=(qbn (fact [] r.reverse) x).reverse:=by
   unfold fred;rw[qav,qde]
  rw[g];have f:fred r.reverse=(fact [] r.reverse).reverse:=rfl;rw[f]
  cases c:fact [] r.reverse with
  |nil=>rfl
  |cons y t=>
   rw[c]at hR;by_cases n:y= -x
   ·rw[qbT t n,List.reverse_cons,qav,qde]
    have hS:qcg (fact s t.reverse):=by
     refine qgZ hs (fun z hz=>?_);refine qlH hrr z ?_;rw[f,c,List.reverse_cons];exact List.mem_append_left _ hz
    have:=qiT hS (x:= -x) (by omega);rw[Int.neg_neg]at this;rw[n,this]
   rw[qb1 t n,List.reverse_cons,qav,qde]
def Feq (u v:List Int):Prop:= ∀s,qcg s->fact s u=fact s v
theorem Feq.rfl_ {u:List Int}:Feq u u:=fun s _=>rfl
theorem Feq.symm {u v:List Int} (h:Feq u v):Feq v u:=fun s hs=>(h s hs).symm
theorem Feq.trans {u v w:List Int} (h:Feq u v) (k:Feq v w):Feq u w:=fun s hs=>(h s hs).trans (k s hs)
theorem Feq.app {u v x y:List Int} (hu:Nz u) (h:Feq u v) (k:Feq x y):Feq (u++x) (v++y):=fun s hs=>by
 rw[qav,qav,<-h s hs,k _ (qgZ hs hu)]
theorem Feq.red {u:List Int} (h:Nz u):Feq (fred u) u:=fun s hs=>qpZ h hs
theorem Feq.fred {u v:List Int} (h:Feq u v):fred u=fred v:=by
 unfold Go.Av.fred;rw[h [] trivial]
theorem qqr {s:List Int} (h:qcg s):fact [] s.reverse=s:=by
 induction s with
 |nil=>rfl
 |cons x t ih=>
  rw[List.reverse_cons,qav,ih h.2.2,qde]
  cases t with
  |nil=>rfl
  |cons y t=>exact qb1 _ (h.2.1 y (by simp))
def FR (w:List Int):Prop:=qcg w.reverse
theorem FR.fix {w:List Int} (h:FR w):fred w=w:=by
 have:=qqr h;rw[List.reverse_reverse]at this;unfold fred;rw[this,List.reverse_reverse]
theorem qo7 {w:List Int} (h:Nz w):FR (fred w):=by
 unfold FR fred;rw[List.reverse_reverse];exact qgZ trivial h
theorem qr9 (x:Int) (hx:x≠0):Feq [x,-x] []:=fun s hs=>qiT hs hx
theorem qpz {u:List Int} (h:Nz u):Feq (u++jr u) []:=by
 induction u with
 |nil=>exact .rfl_
 |cons x u ih=>
  have hx:=h x (List.mem_cons_self ..)
  have hu:Nz u:=fun y hy=>h y (List.mem_cons_of_mem _ hy)
  rw[qfE,show x::u++(jr u++[-x])=[x]++((u++jr u)++[-x])by simp];refine Feq.trans (Feq.app (fun y hy=>?_) .rfl_ (Feq.app (hu.app hu.inv) (ih hu) .rfl_)) (qr9 x hx);simp at hy;omega
theorem qmz {u:List Int} (h:Nz u):Feq (jr u++u) []:=by
 have:=qpz h.inv
 rwa [qj9]at this
def qk3 (x:List (List Int)) (g:Int):List Int:=if 0<g then x.getD (g-1).toNat []else jr (x.getD (-g-1).toNat [])
def qcw (x:List (List Int)) (w:List Int):List Int:=w.flatMap (qk3 x)
theorem qct (x:List (List Int)) (u v:List Int):qcw x (u++v)=qcw x u++qcw x v:=List.flatMap_append
theorem qg4 (x:List (List Int)) (g:Int):qcw x [g]=qk3 x g:=by simp[qcw]
theorem qqj (x:List (List Int)) (g:Int) (w:List Int):qcw x (g::w)=qk3 x g++qcw x w:=by simp[qcw]
theorem qmc (x:List (List Int)) {g:Int} (h:g≠0):qk3 x (-g)=jr (qk3 x g):=by
 unfold qk3;by_cases p:0<g
 ·rw[if_neg (by omega),if_pos p,Int.neg_neg]
 rw[if_pos (by omega),if_neg p,qj9]
theorem qq0 (x:List (List Int)) {w:List Int} (h:Nz w):qcw x (jr w)=jr (qcw x w):=by
 induction w with
 |nil=>rfl
 |cons g w ih=>
  rw[qfE,qct,ih (fun y hy=>h y (List.mem_cons_of_mem _ hy)),qg4,qmc x (h g (List.mem_cons_self ..)),qqj,qrW]
def Nzs (x:List (List Int)):Prop:= ∀w∈x,Nz w
theorem Nzs.getD {x:List (List Int)} (h:Nzs x) (k:Nat):Nz (x.getD k []):=by
 rw[Yy]
 cases c:x[k]? with
 |none=>intro y hy;simp at hy
 |some w=>exact h w (Yn c)
theorem qpf {x:List (List Int)} (h:Nzs x) (g:Int):Nz (qk3 x g):=by
 unfold qk3;split
 ·exact h.getD _
 exact(h.getD _).inv
theorem qcQ {x:List (List Int)} (h:Nzs x) (w:List Int):Nz (qcw x w):=fun y hy=>by
 simp only[qcw,List.mem_flatMap]at hy;obtain⟨g,_,hg⟩:=hy;exact qpf h g y hg
theorem qkI {x:List (List Int)} (hx:Nzs x) {w:List Int} (hw:Nz w):Feq (qcw x (fred w)) (qcw x w):=by
 suffices∀(r:List Int),Nz r->Feq (qcw x (fred r.reverse)) (qcw x r.reverse)by
  have:=this w.reverse (fun y hy=>hw y (List.mem_reverse.1 hy));simpa using this
 intro r
 induction r with
 |nil=>intro _;exact .rfl_
 |cons g r ih=>
  intro hr;have hg:g≠0:=hr g (List.mem_cons_self ..)
  have hr':Nz r:=fun y hy=>hr y (List.mem_cons_of_mem _ hy)
  have hrr:Nz r.reverse:=fun y hy=>hr' y (List.mem_reverse.1 hy)
  have e:=ih hr'
  have k:fred (r.reverse++[g])=(qbn (fact [] r.reverse) g).reverse:=by
   unfold fred;rw[qav,qde]
  have f:fred r.reverse=(fact [] r.reverse).reverse:=rfl;rw[List.reverse_cons,k,qct];refine Feq.trans ?_ (Feq.app (qcQ hx _) e .rfl_);rw[f]
  cases c:fact [] r.reverse with
  |nil=>exact .rfl_
  |cons y t=>
   by_cases n:y= -g
   ·rw[qbT t n,List.reverse_cons,qct,qg4,n,qmc x hg,qg4,Yz];refine Feq.symm ?_;have:=Feq.app (qcQ hx t.reverse) .rfl_ (qmz (qpf hx g))
    rwa [YQ]at this
   rw[qb1 t n,List.reverse_cons,qct];exact .rfl_
theorem qcg.app {s t:List Int}:qcg (s++t)↔qcg s/\qcg t/\ ∀x∈s.getLast?,∀y∈t.head?,y≠ -x:=by
 induction s with
 |nil=>simp[qcg]
 |cons a s ih=>
  cases s with
  |nil=>
   simp only[List.singleton_append,qcg,List.head?_nil,List.getLast?_singleton];constructor
   ·rintro⟨h1,h2,h3⟩;exact⟨⟨h1,by simp,trivial⟩,h3,fun x hx y hy=>by simp at hx;subst hx;exact h2 y hy⟩
   rintro⟨⟨h1,_,_⟩,h3,h4⟩;exact⟨h1,fun y hy=>h4 a (by simp) y hy,h3⟩
  |cons b s=>
   have e:(a::b::s).getLast? =(b::s).getLast? :=by simp[List.getLast?_cons_cons]
   rw[List.cons_append,e];simp only[qcg]at ih⊢;rw[ih];simp only[List.cons_append,List.head?_cons];constructor
   ·rintro⟨h1,h2,h3,h4,h5⟩;exact⟨⟨h1,h2,h3⟩,h4,h5⟩
   rintro⟨⟨h1,h2,h3⟩,h4,h5⟩;exact⟨h1,h2,h3,h4,h5⟩
structure FConj (w:List Int) (u:List Int) (g:Int):Prop where
 eq_:w=u++[g]++jr u
 pos:0<g
 red:FR w
theorem qcg.rev {w:List Int} (h:qcg w):qcg w.reverse:=by
 induction w with
 |nil=>trivial
 |cons x t ih=>
  rw[List.reverse_cons,qcg.app];refine⟨ih h.2.2,⟨h.1,by simp,trivial⟩,fun a ha y hy=>?_⟩;simp only[List.getLast?_reverse]at ha;simp at hy;have:=h.2.1 a ha;omega
theorem FR.of {w:List Int} (h:qcg w):FR w:=h.rev
def yF (im:List (List Int)) (c:Int):List (List Int):=
 let i:=c.natAbs-1;let a:=im.getD i [];let b:=im.getD (i+1) []
 if 0<c then(im.set i (fred (a++b++jr a))).set (i+1) a else(im.set i b).set (i+1) (fred (jr b++a++b))
theorem qbh (im:List (List Int)) (c:Int):(yF im c).length=im.length:=by
 unfold yF;dsimp only;split<;>simp
theorem qv7 {im:List (List Int)} {i:Nat} (h:i+1<im.length): ∃p a b q,im=p++a::b::q/\p.length=i:=by
 refine⟨im.take i,im[i],im[i+1],im.drop (i+2),?_,by simp;omega⟩;rw[<-YG h,<-YG (by omega),List.take_append_drop]
theorem set2 (p:List (List Int)) (a b A B:List Int) (q:List (List Int)):((p++a::b::q).set p.length A).set (p.length+1) B=p++A::B::q:=by
 induction p with
 |nil=>rfl
 |cons x p ih=>
  simp only[List.cons_append,Yr,List.set_cons_succ];rw[ih]
theorem qs0 (p:List (List Int)) (a b:List Int) (q:List (List Int)):(p++a::b::q).getD p.length []=a:=by
 simp[List.getD_eq_getElem?_getD]
theorem qsf (p:List (List Int)) (a b:List Int) (q:List (List Int)):(p++a::b::q).getD (p.length+1) []=b:=by
 rw[Yy,Yo (by omega)];simp
theorem qrd {p:List (List Int)} {a b:List Int} {q:List (List Int)} {c:Int} (h:c.natAbs-1=p.length):
 yF (p++a::b::q) c=if 0<c then p++fred (a++b++jr a)::a::q else p++b::fred (jr b++a++b)::q:=by
 unfold yF;dsimp only;rw[h,qs0,qsf,set2,set2]
def iota1 (n:Nat):List Int:=(List.range n).map fun k:Nat=>((k:Nat):Int)+1
def fid (n:Nat):List (List Int):=(List.range n).map fun k:Nat=>[((k:Nat):Int)+1]
theorem qaX (n:Nat):(fid n).length=n:=by simp[fid]
theorem qub {n k:Nat} (h:k<n):(fid n).getD k []=[(k:Int)+1]:=by
 rw[Yy];simp[fid,List.getElem?_map,List.getElem?_range h]
structure FOK (n:Nat) (im:List (List Int)) (row:List Int):Prop where
 len:im.length=n
 at_: ∀k,k<n-> ∃(u:List Int) (v:Nat),v<n/\row[k]? =some (v:Int)/\FConj (im.getD k []) u ((v:Int)+1)
 let_: ∀w∈im,∀y∈w,y≠0/\ -(n:Int)<=y/\y<=n
 prod:Feq im.flatten (iota1 n)
theorem getDo {p:List (List Int)} {a b A B:List Int} {q:List (List Int)} {k:Nat} (h0:k≠p.length) (h1:k≠p.length+1):(p++A::B::q).getD k []=(p++a::b::q).getD k []:=by
 rw[Yy,Yy];rcases Nat.lt_or_ge k p.length with hlt|hge
 ·rw[Yf hlt,Yf hlt]
 obtain⟨j,rfl⟩: ∃j,k=p.length+(j+2):=⟨k-p.length-2,by omega⟩;rw[Yo (by omega),Yo (by omega),Nat.add_sub_cancel_left];rfl
theorem qc0 {im:List (List Int)} {c:Int} {i:Nat} (hi:c.natAbs=i+1) (hl:i+1<im.length) (k:Nat):
 (yF im c).getD k []=if k=i then(if 0<c then fred (im.getD i []++im.getD (i+1) []++jr (im.getD i []))else im.getD (i+1) [])
  else if k=i+1 then(if 0<c then im.getD i []else fred (jr (im.getD (i+1) [])++im.getD i []++im.getD (i+1) []))else im.getD k []:=by
 obtain⟨p,a,b,q,e,hp⟩:=qv7 (im:=im) (i:=i) hl;subst e hp;rw[qrd (by omega),qs0,qsf];by_cases k0:k=p.length
 ·rw[if_pos k0,k0];split<;>rw[qs0]
 rw[if_neg k0];by_cases k1:k=p.length+1
 ·rw[if_pos k1,k1];split<;>rw[qsf]
 rw[if_neg k1];split<;>exact getDo k0 k1
theorem qeY {im:List (List Int)} (h:Nzs im) {c:Int} {i:Nat} (hi:c.natAbs=i+1) (hl:i+1<im.length):Nzs (yF im c):=by
 intro w hw;obtain⟨k,hk,rfl⟩:=List.getElem_of_mem hw
 have e:(yF im c)[k]=(yF im c).getD k []:=by rw[Yy,Ya hk];rfl
 rw[e,qc0 hi hl];have ha:=h.getD i;have hb:=h.getD (i+1);split
 ·split
  ·exact qlH ((ha.app hb).app ha.inv)
  exact hb
 split
 ·split
  ·exact ha
  exact qlH ((hb.inv.app ha).app hb)
 exact h.getD k
structure qla (n:Nat) (x Y Z:List (List Int)):Prop where
 yl:Y.length=n
 zl:Z.length=n
 yn:Nzs Y
 zn:Nzs Z
 eq_: ∀k,k<n->Feq (qcw x (Y.getD k [])) (Z.getD k [])
theorem qla.step {n:Nat} {x Y Z:List (List Int)} (hx:Nzs x) (h:qla n x Y Z) {c:Int} (hc:c≠0/\ -(n:Int)<c/\c<n):qla n x (yF Y c) (yF Z c):=by
 obtain⟨i,hi⟩: ∃i,c.natAbs=i+1:=⟨c.natAbs-1,by omega⟩
 have hin:i+1<n:=by omega
 have yl:=h.yl;have zl:=h.zl;refine⟨by rw[qbh,yl],by rw[qbh,zl],qeY h.yn hi (by omega),qeY h.zn hi (by omega),fun k hk=>?_⟩;rw[qc0 hi (by omega),qc0 hi (by omega)];have ya:=h.yn.getD i;have yb:=h.yn.getD (i+1);have za:=h.zn.getD i;have zb:=h.zn.getD (i+1);have ea:=h.eq_ i (by omega);have eb:=h.eq_ (i+1) hin
 have inv: ∀{y z:List Int},Nz y->Nz z->Feq (qcw x y) z->Feq (qcw x (jr y)) (jr z):=fun {y z} hy hz e=>by
  rw[qq0 x hy];have hs:=qcQ hx y
  have t1:Feq (jr (qcw x y)) (jr (qcw x y)++(z++jr z)):=by
   have:=(Feq.app hs.inv .rfl_ (qpz hz)).symm;simpa using this
  have t2:Feq (jr (qcw x y)++(z++jr z)) (jr (qcw x y)++(qcw x y++jr z)):=Feq.app hs.inv .rfl_ (Feq.app hz e.symm .rfl_)
  have t3:Feq (jr (qcw x y)++(qcw x y++jr z)) (jr z):=by
   have:=Feq.app (hs.inv.app hs) (qmz hs) (.rfl_ (u:=jr z));simpa using this
  exact(t1.trans t2).trans t3
 by_cases k0:k=i
 ·rw[if_pos k0,if_pos k0];by_cases hp:0<c
  ·rw[if_pos hp,if_pos hp];have hN:=(ya.app yb).app ya.inv;have hM:=(za.app zb).app za.inv;refine(qkI hx hN).trans (Feq.trans ?_ (Feq.red hM).symm);rw[qct,qct];exact Feq.app ((qcQ hx _).app (qcQ hx _)) (Feq.app (qcQ hx _) ea eb) (inv ya za ea)
  rw[if_neg hp,if_neg hp];exact eb
 rw[if_neg k0,if_neg k0];by_cases k1:k=i+1
 ·rw[if_pos k1,if_pos k1];by_cases hp:0<c
  ·rw[if_pos hp,if_pos hp];exact ea
  rw[if_neg hp,if_neg hp];have hN:=(yb.inv.app ya).app yb;have hM:=(zb.inv.app za).app zb;refine(qkI hx hN).trans (Feq.trans ?_ (Feq.red hM).symm);rw[qct,qct];exact Feq.app ((qcQ hx _).app (qcQ hx _)) (Feq.app (qcQ hx _) (inv yb zb eb) ea) eb
 rw[if_neg k1,if_neg k1];exact h.eq_ k hk
def vO (n:Nat) (w:List Int):List (List Int):=w.foldl yF (fid n)
theorem qfy (n:Nat) (a b:List Int):vO n (a++b)=b.foldl yF (vO n a):=by simp[vO]
theorem qiO (n:Nat):Nzs (fid n):=fun w hw y hy=>by
 simp only[fid,List.mem_map,List.mem_range]at hw;obtain⟨k,hk,rfl⟩:=hw;simp at hy;omega
def jY (n:Nat) (w:List Int):Prop:= ∀c∈w,c≠0/\ -(n:Int)<c/\c<n
theorem qla.fold {n:Nat} {x:List (List Int)} (hx:Nzs x): ∀{w:List Int} {Y Z:List (List Int)},jY n w->qla n x Y Z->qla n x (w.foldl yF Y) (w.foldl yF Z)
 |[],Y,Z,hw,h=>h
 |c::w,Y,Z,hw,h=>by
  rw[List.foldl_cons,List.foldl_cons];exact qla.fold hx (w:=w) (fun d hd=>hw d (List.mem_cons_of_mem _ hd)) (h.step hx (hw c (List.mem_cons_self ..)))
theorem qfD (n:Nat): ∀(w:List Int) (im:List (List Int)),(w.foldl yF im).length=im.length
 |[],im=>rfl
 |c::w,im=>by rw[List.foldl_cons,qfD n w,qbh]
theorem qpv {n:Nat}: ∀{w:List Int} {im:List (List Int)},jY n w->im.length=n->Nzs im->Nzs (w.foldl yF im)
 |[],im,hw,hl,h=>h
 |c::w,im,hw,hl,h=>by
  have hc:=hw c (List.mem_cons_self ..);obtain⟨i,hi⟩: ∃i,c.natAbs=i+1:=⟨c.natAbs-1,by omega⟩;rw[List.foldl_cons];exact qpv (w:=w) (fun d hd=>hw d (List.mem_cons_of_mem _ hd)) (by rw[qbh,hl]) (qeY h hi (by omega))
theorem qkG {n:Nat} {a b:List Int} (ha:jY n a) (hb:jY n b):qla n (vO n a) (vO n b) (vO n (a++b)):=by
 rw[qfy];have hn:=qpv ha (qaX n) (qiO n)
 have hl:(vO n a).length=n:=by unfold vO;rw[qfD n,qaX]
 refine qla.fold hn hb ⟨qaX n,hl,qiO n,hn,fun k hk=>?_⟩;rw[qub hk,qg4];unfold qk3;rw[if_pos (by omega),show(((k:Int)+1)-1).toNat=k by omega];exact .rfl_
theorem qnn {im:List (List Int)} {M:Nat} (h: ∀w∈im,w.length<=M) {c:Int} {i:Nat} (hi:c.natAbs=i+1) (hl:i+1<im.length): ∀w∈yF im c,w.length<=3*M:=by
 have g: ∀k,(im.getD k []).length<=M:=fun k=>by
  rw[Yy]
  cases e:im[k]? with
  |none=>simp
  |some w=>exact h w (Yn e)
 intro w hw;obtain⟨k,hk,rfl⟩:=List.getElem_of_mem hw
 have e:(yF im c)[k]=(yF im c).getD k []:=by rw[Yy,Ya hk];rfl
 rw[e,qc0 hi hl];have g0:=g i;have g1:=g (i+1);have gk:=g k;split
 ·split
  ·refine Nat.le_trans (qmG _) ?_;rw[Yq,Yq,qgJ];omega
  omega
 split
 ·split
  ·omega
  refine Nat.le_trans (qmG _) ?_;rw[Yq,Yq,qgJ];omega
 omega
theorem qhS {n:Nat}: ∀{w:List Int} {im:List (List Int)} {M:Nat},jY n w->im.length=n->(∀v∈im,v.length<=M)-> ∀v∈w.foldl yF im,v.length<=3^w.length*M
 |[],im,M,hw,hl,h=>by simpa using h
 |c::w,im,M,hw,hl,h=>by
  have hc:=hw c (List.mem_cons_self ..);obtain⟨i,hi⟩: ∃i,c.natAbs=i+1:=⟨c.natAbs-1,by omega⟩;have:=qhS (w:=w) (fun d hd=>hw d (List.mem_cons_of_mem _ hd)) (by rw[qbh,hl]) (qnn h hi (by omega));intro v hv;have:=this v hv;rw[Yr,Nat.pow_succ,Nat.mul_assoc];exact this
inductive QT (α:Type) where
 |e
 |lf (k:Nat) (s:α)
 |nd (l r:QT α)
section
variable {α:Type}
theorem beqN {a b:Nat}:Nat.beq a b=true↔a=b:=⟨Nat.eq_of_beq_eq_true,fun h=>by subst h;exact Nat.beq_refl a⟩
theorem beqF {a b:Nat} (h:Nat.beq a b=false):a≠b:=fun e=>by rw[beqN.2 e]at h;cases h
end
def eqI:Int->Int->Bool
 | .ofNat a,.ofNat b=>Nat.beq a b
 | .negSucc a,.negSucc b=>Nat.beq a b
 |_,_=>false
def eqL {α:Type} (f:α->α->Bool):List α->List α->Bool
 |[],[]=>true
 |a::l,b::k=>bif f a b then eqL f l k else false
 |_,_=>false
theorem qlc: ∀(a b:Int),eqI a b=true->a=b
 | .ofNat a,.ofNat b,h=>by rw[beqN.1 h]
 | .negSucc a,.negSucc b,h=>by rw[beqN.1 h]
 | .ofNat a,.negSucc b,h=>by cases h
 | .negSucc a,.ofNat b,h=>by cases h
theorem qjt {α:Type} {f:α->α->Bool} (hf: ∀a b,f a b=true->a=b): ∀(l k:List α),eqL f l k=true->l=k
 |[],[],h=>rfl
 |a::l,b::k,h=>by
  unfold eqL at h
  cases c:f a b with
  |false=>rw[c,cond_false]at h;cases h
  |true=>rw[c,cond_true]at h;rw[hf _ _ c,qjt hf l k h]
 |[],b::k,h=>by cases h
 |a::l,[],h=>by cases h
def qoz (s:List Int) (x:Int):List Int:=match s with
 |[]=>[x]
 |y::t=>bif eqI y (-x)then t else x::y::t
def qjW:List Int->List Int->List Int
 |s,[]=>s
 |s,x::w=>qjW (qoz s x) w
def qrP {α:Type}:List α->List α->List α
 |[],r=>r
 |a::l,r=>qrP l (a::r)
def qrQ:List Int->List Int->List Int
 |[],r=>r
 |a::l,r=>qrQ l (-a::r)
def qqW (a b:List Int):List Int:=qrP (qjW (qjW (qjW [] a) b) (qrQ a [])) []
def qr7 (a b:List Int):List Int:=qrP (qjW (qjW (qjW [] (qrQ b [])) a) b) []
def qh5:Nat->Bool->List (List Int)->List (List Int)
 |0,true,a::b::l=>qqW a b::a::l
 |0,false,a::b::l=>b::qr7 a b::l
 |i+1,p,a::l=>a::qh5 i p l
 |_,_,l=>l
theorem qoM (a b:Int):eqI a b=true↔a=b:=⟨qlc a b,fun h=>by subst h;cases a<;>exact Nat.beq_refl _⟩
theorem qr4 (s:List Int) (x:Int):qoz s x=qbn s x:=by
 cases s with
 |nil=>rfl
 |cons y t=>
  unfold qoz;dsimp only;by_cases h:y= -x
  ·rw[(qoM _ _).2 h,cond_true,qbT t h]
  have:eqI y (-x)=false:=by
   cases c:eqI y (-x)with
   |false=>rfl
   |true=>exact absurd ((qoM _ _).1 c) h
  rw[this,cond_false,qb1 t h]
theorem qen: ∀(w s:List Int),qjW s w=fact s w
 |[],s=>by cases s<;>rfl
 |x::w,s=>by
  have:qjW s (x::w)=qjW (qoz s x) w:=by cases s<;>rfl
  rw[this,qen w,qr4,qhR]
theorem qkZ {α:Type}: ∀(l r:List α),qrP l r=l.reverse++r
 |[],r=>rfl
 |a::l,r=>by rw[qrP,qkZ l];simp
theorem qkU: ∀(l r:List Int),qrQ l r=jr l++r
 |[],r=>rfl
 |a::l,r=>by rw[qrQ,qkU l,qfE];simp
theorem qry (a b:List Int):qqW a b=fred (a++b++jr a):=by
 unfold qqW fred;rw[qen,qen,qen,qkU,qkZ,YQ,YQ,qav,qav]
theorem qsz (a b:List Int):qr7 a b=fred (jr b++a++b):=by
 unfold qr7 fred;rw[qen,qen,qen,qkU,qkZ,YQ,YQ,qav,qav]
theorem qmU: ∀(i:Nat) (p:Bool) (im:List (List Int)),i+1<im.length->qh5 i p im=bif p then(im.set i (fred (im.getD i []++im.getD (i+1) []++jr (im.getD i [])))).set (i+1) (im.getD i [])else(im.set i (im.getD (i+1) [])).set (i+1) (fred (jr (im.getD (i+1) [])++im.getD i []++im.getD (i+1) []))
 |0,true,a::b::l,h=>by simp[qh5,qry]
 |0,false,a::b::l,h=>by simp[qh5,qsz]
 |i+1,p,a::l,h=>by
  rw[qh5,qmU i p l (by simp at h;omega)];cases p<;>simp
 |0,p,[],h=>by simp at h
 |0,p,[a],h=>by simp at h
 |i+1,p,[],h=>by simp at h
theorem qm7 {i:Nat} {c:Int} (hc:c.natAbs=i+1) {im:List (List Int)} (h:i+1<im.length):qh5 i (decide (0<c)) im=yF im c:=by
 rw[qmU i _ im h];unfold yF;dsimp only;rw[hc,Nat.add_sub_cancel];by_cases p:0<c
 ·rw[decide_eq_true p,if_pos p];rfl
 rw[decide_eq_false p,if_neg p];rfl
def qfst (p:List Nat):Nat->Nat->Option Nat
 |0,_=>none
 |k+1,i=>bif qhW i p then some i else qfst p k (i+1)
def wdq (n:Nat):Nat->List Nat->List Int
 |0,_=>[]
 |K+1,p=>match qfst p (n-1) 0 with
  |none=>[]
  |some i=>((i+1:Nat):Int)::wdq n K (qfr i p)
def QTb.wd (T:QTb) (c:Nat):List Int:=wdq T.n (T.n*T.n) (T.dec c)
def kimg (n:Nat) (w:List Int):List (List Int):=w.foldl (fun im c=>qh5 (c.natAbs-1) (decide (0<c)) im) (fid n)
theorem qkF {n:Nat}: ∀(w:List Int) (im:List (List Int)),jY n w->im.length=n->w.foldl (fun im c=>qh5 (c.natAbs-1) (decide (0<c)) im) im=w.foldl yF im
 |[],im,h,hl=>rfl
 |c::w,im,h,hl=>by
  have hc:=h c (List.mem_cons_self ..);rw[List.foldl_cons,List.foldl_cons,qm7 (i:=c.natAbs-1) (c:=c) (by omega) (by omega)];exact qkF w _ (fun d hd=>h d (List.mem_cons_of_mem _ hd)) (by rw[qbh,hl])
theorem qo9 {n:Nat} {w:List Int} (h:jY n w):kimg n w=vO n w:=qkF w _ h (qaX n)
def imE (n:Nat) (u v:List Int):Bool:=eqL (eqL eqI) (kimg n u) (kimg n v)
def BE (n:Nat) (u v:List Int):Prop:=vO n u=vO n v
theorem qjg {n:Nat} {u v:List Int} (hu:jY n u) (hv:jY n v) (h:imE n u v=true):BE n u v:=by
 unfold BE;rw[<-qo9 hu,<-qo9 hv];exact qjt (qjt qlc) _ _ h
theorem jY.app {n:Nat} {u v:List Int} (h:jY n u) (k:jY n v):jY n (u++v):=fun c hc=>(List.mem_append.1 hc).elim (h c) (k c)
theorem jY.inv {n:Nat} {u:List Int} (h:jY n u):jY n (jr u):=fun y hy=>by
 simp only[jr,List.mem_reverse,List.mem_map]at hy;obtain⟨z,hz,rfl⟩:=hy;have:=h z hz;omega
theorem BE.right {n:Nat} {u u':List Int} (h:BE n u u') (y:List Int):BE n (u++y) (u'++y):=by
 unfold BE at*;rw[qfy,qfy,h]
theorem qqI {im:List (List Int)} (hz:Nzs im) (h: ∀k,FR (im.getD k [])) {c:Int} {i:Nat} (hi:c.natAbs=i+1) (hl:i+1<im.length): ∀k,FR ((yF im c).getD k []):=fun k=>by
 rw[qc0 hi hl];have ha:=hz.getD i;have hb:=hz.getD (i+1);split
 ·split
  ·exact qo7 ((ha.app hb).app ha.inv)
  exact h _
 split
 ·split
  ·exact h _
  exact qo7 ((hb.inv.app ha).app hb)
 exact h k
theorem qk2 {n:Nat}: ∀{w:List Int} {im:List (List Int)},jY n w->im.length=n->Nzs im->(∀k,FR (im.getD k []))-> ∀k,FR ((w.foldl yF im).getD k [])
 |[],im,hw,hl,hz,h=>h
 |c::w,im,hw,hl,hz,h=>by
  have hc:=hw c (List.mem_cons_self ..);obtain⟨i,hi⟩: ∃i,c.natAbs=i+1:=⟨c.natAbs-1,by omega⟩;rw[List.foldl_cons];exact qk2 (w:=w) (fun d hd=>hw d (List.mem_cons_of_mem _ hd)) (by rw[qbh,hl]) (qeY hz hi (by omega)) (qqI hz h hi (by omega))
theorem qqG (n:Nat): ∀k,FR ((fid n).getD k []):=fun k=>by
 rw[Yy];unfold fid;rw[YA]
 cases e:(List.range n)[k]? with
 |none=>exact trivial
 |some j=>
  refine FR.of ?_;show qcg [((j:Nat):Int)+1];simp[qcg];omega
theorem BE.left {n:Nat} {v v':List Int} (x:List Int) (hx:jY n x) (hv:jY n v) (hv':jY n v') (h:BE n v v'):BE n (x++v) (x++v'):=by
 unfold BE at*;have r1:=qkG hx hv;have r2:=qkG hx hv';rw[<-h]at r2;have f1:=qk2 (hx.app hv) (qaX n) (qiO n) (qqG n);have f2:=qk2 (hx.app hv') (qaX n) (qiO n) (qqG n);apply List.ext_getElem?;intro k;by_cases hk:k<n
 ·have e1:=r1.eq_ k hk;have e2:=r2.eq_ k hk;have e3:Feq ((vO n (x++v)).getD k []) ((vO n (x++v')).getD k []):=e1.symm.trans e2;have e4:=e3.fred;have g1:fred ((vO n (x++v)).getD k [])=(vO n (x++v)).getD k []:=(f1 k).fix;have g2:fred ((vO n (x++v')).getD k [])=(vO n (x++v')).getD k []:=(f2 k).fix;rw[g1,g2,Yy,Yy,Ya (by rw[r1.zl];exact hk),Ya (by rw[r2.zl];exact hk)]at e4;rw[Ya (by rw[r1.zl];exact hk),Ya (by rw[r2.zl];exact hk)];exact congrArg some e4
 rw[Yg (by rw[r1.zl];omega),Yg (by rw[r2.zl];omega)]
theorem BE.symm {n:Nat} {u v:List Int} (h:BE n u v):BE n v u:=Eq.symm h
theorem BE.trans {n:Nat} {u v w:List Int} (h:BE n u v) (k:BE n v w):BE n u w:=Eq.trans h k
theorem BE.rfl_ {n:Nat} {u:List Int}:BE n u u:=rfl
def QTb.dn (T:QTb):List Int:=jr (T.wd T.half)
def letE (n:Nat):List Int->Bool
 |[]=>true
 |c::w=>bif decide (0<c)then bif decide (c<n)then letE n w else false else false
theorem qoI {n:Nat}: ∀{w:List Int},letE n w=true-> ∀c∈w,0<c/\c<n
 |[],h,c,hc=>by cases hc
 |d::w,h,c,hc=>by
  obtain⟨h1,h⟩:=zg h;obtain⟨h2,h3⟩:=zg h;rcases List.mem_cons.1 hc with rfl|hc
  ·exact⟨of_decide_eq_true h1,of_decide_eq_true h2⟩
  exact qoI h3 c hc
def QTb.cw2 (T:QTb) (s x:Nat):Bool:=bif Nat.beq (T.a s x) s then bif Nat.beq (T.b s x) x then true else imE T.n (T.wd s++T.wd x) (T.wd (T.a s x)++T.wd (T.b s x))else imE T.n (T.wd s++T.wd x) (T.wd (T.a s x)++T.wd (T.b s x))
def QTb.cw1 (T:QTb) (c:Nat):Bool:=bif letE T.n (T.wd c)then bif Nat.ble (T.wd c).length 6 then imE T.n (T.dn++T.wd (T.fl c)) (T.wd c++T.dn)else false else false
def QTb.cwl (T:QTb) (i:Nat):Bool:=bif eqL eqI (T.wd (T.pos.getD i 0)) [((i+1:Nat):Int)]then imE T.n (T.dn++T.wd (T.neg.getD i 0)) [-((i+1:Nat):Int)]else false
def QTb.cw0 (T:QTb):Bool:=bif eqL eqI (T.wd T.idc) []then bif imE T.n (T.wd T.half++T.dn) []then imE T.n (T.dn++T.wd T.half) []else false else false
def QTb.cw (T:QTb):Bool:=bif T.cw0 then bif qal (T.n-1) T.cwl then bif qal T.cnt T.cw1 then qal T.cnt (fun s=>qal T.cnt (T.cw2 s))else false else false else false
structure QTb.Wd (T:QTb):Prop where
 let_: ∀c,c<T.cnt->jY T.n (T.wd c)
 len: ∀c,c<T.cnt->(T.wd c).length<=6
 pr: ∀s x,s<T.cnt->x<T.cnt->BE T.n (T.wd s++T.wd x) (T.wd (T.a s x)++T.wd (T.b s x))
 fl: ∀c,c<T.cnt->BE T.n (T.dn++T.wd (T.fl c)) (T.wd c++T.dn)
 po: ∀i,i+1<T.n->T.wd (T.pos.getD i 0)=[((i+1:Nat):Int)]
 ne: ∀i,i+1<T.n->BE T.n (T.dn++T.wd (T.neg.getD i 0)) [-((i+1:Nat):Int)]
 id:T.wd T.idc=[]
 hd:BE T.n (T.wd T.half++T.dn) []
 dh:BE T.n (T.dn++T.wd T.half) []
theorem jY.nil (n:Nat):jY n []:=fun c h=>by cases h
theorem QTb.wd_ok {T:QTb} (hT:T.Ok) (h:T.cw=true):T.Wd:=by
 obtain⟨h0,h⟩:=zg h;obtain⟨h1,h⟩:=zg h;obtain⟨h2,h3⟩:=zg h;obtain⟨z1,z⟩:=zg h0;obtain⟨z2,z3⟩:=zg z
 have hl: ∀c,c<T.cnt->jY T.n (T.wd c):=fun c hc x hx=>by
  obtain⟨y1,y⟩:=zg (xh h2 c hc);have:=qoI y1 x hx;omega
 have hd:jY T.n T.dn:=(hl _ hT.ha_).inv;refine⟨hl,fun c hc=>?_,fun s x hs hx=>?_,fun c hc=>?_,fun i hi=>?_,fun i hi=>?_,?_,?_,?_⟩
 ·obtain⟨y1,y⟩:=zg (xh h2 c hc);exact Ys (zg y).1
 ·have:=xh (xh h3 s hs) x hx;have e:=qjg ((hl s hs).app (hl x hx)) ((hl _ (hT.a_ s x hs hx)).app (hl _ (hT.b_ s x hs hx)));unfold QTb.cw2 at this
  cases c:Nat.beq (T.a s x) s with
  |false=>rw[c,cond_false]at this;exact e this
  |true=>
   rw[c,cond_true]at this
   cases d:Nat.beq (T.b s x) x with
   |false=>rw[d,cond_false]at this;exact e this
   |true=>rw[xW c,xW d];exact BE.rfl_
 ·obtain⟨y1,y⟩:=zg (xh h2 c hc);exact qjg (hd.app (hl _ (hT.fl_ c hc))) ((hl c hc).app hd) (zg y).2
 ·obtain⟨y1,y2⟩:=zg (xh h1 i (by omega));exact qjt qlc _ _ y1
 ·obtain⟨y1,y2⟩:=zg (xh h1 i (by omega));refine qjg (hd.app (hl _ (hT.ne i hi).2)) (fun c hc=>?_) y2;rw[List.mem_singleton.1 hc];omega
 ·exact qjt qlc _ _ z1
 ·exact qjg ((hl _ hT.ha_).app hd) (jY.nil _) z2
 exact qjg (hd.app (hl _ hT.ha_)) (jY.nil _) z3
def wsN (T:QTb):List Nat->List Int
 |[]=>[]
 |x::r=>wsN T r++T.wd x
theorem qbQ {T:QTb} (hW:T.Wd): ∀{R:List Nat},Cod T R->jY T.n (wsN T R)
 |[],h=>jY.nil _
 |x::r,h=>(qbQ hW h.tl).app (hW.let_ x h.hd)
theorem qk5 (T:QTb) (S:List Nat): ∀R:List Nat,wsN T (R++S)=wsN T S++wsN T R
 |[]=>by simp[wsN]
 |x::r=>by rw[List.cons_append,wsN,wsN,qk5 T S r,Yz]
theorem qiP {T:QTb} (hT:T.Ok) (hW:T.Wd): ∀{R:List Nat} {x:Nat},x<T.cnt->Cod T R->BE T.n (wsN T (qpN T x R)) (wsN T R++T.wd x)
 |[],x,hx,h=>by rw[qpI];exact BE.rfl_
 |s::r,x,hx,h=>by
  rw[qa5,wsN,wsN,Yz];have ha:=hT.a_ s x h.hd hx;have hb:=hT.b_ s x h.hd hx;have h1:=(qiP hT hW ha h.tl).right (T.wd (T.b s x));rw[Yz]at h1;exact h1.trans (BE.left _ (qbQ hW h.tl) ((hW.let_ _ ha).app (hW.let_ _ hb)) ((hW.let_ s h.hd).app (hW.let_ x hx)) (hW.pr s x h.hd hx).symm)
theorem qk8 {T:QTb} (hT:T.Ok) (hW:T.Wd):jY T.n T.dn:=(hW.let_ _ hT.ha_).inv
theorem qlM {T:QTb} (hT:T.Ok) (hW:T.Wd): ∀{R:List Nat},Cod T R->BE T.n (T.dn++wsN T (R.map T.fl)) (wsN T R++T.dn)
 |[],h=>by simp[wsN];exact BE.rfl_
 |s::r,h=>by
  rw[List.map_cons,wsN,wsN,<-Yz];have h1:=(qlM hT hW h.tl).right (T.wd (T.fl s));rw[Yz (wsN T r) T.dn]at h1;rw[Yz (wsN T r) (T.wd s) T.dn];exact h1.trans (BE.left _ (qbQ hW h.tl) ((qk8 hT hW).app (hW.let_ _ (hT.fl_ s h.hd))) ((hW.let_ s h.hd).app (qk8 hT hW)) (hW.fl s h.hd))
def rpw (w:List Int):Nat->List Int
 |0=>[]
 |k+1=>rpw w k++w
theorem qcX {n:Nat} {w:List Int} (h:jY n w): ∀k,jY n (rpw w k)
 |0=>jY.nil _
 |k+1=>(qcX h k).app h
theorem qip (w:List Int) (a:Nat): ∀b,rpw w (a+b)=rpw w a++rpw w b
 |0=>by simp[rpw]
 |b+1=>by rw[Nat.add_succ,rpw,rpw,qip w a b,Yz]
theorem qlm (T:QTb) (x:Nat): ∀k,wsN T (List.replicate k x)=rpw (T.wd x) k
 |0=>rfl
 |k+1=>by rw[List.replicate_succ,wsN,qlm T x k,rpw]
theorem qpq: ∀k,rpw [] k=[]
 |0=>rfl
 |k+1=>by rw[rpw,qpq k];rfl
theorem qqp {T:QTb} (hT:T.Ok) (hW:T.Wd) {k:Nat} {R:List Nat} (h:Cod T R) {w:List Int} (hw:jY T.n w) (e:BE T.n w (rpw T.dn k++wsN T R)) {c:Int} (hc:c≠0/\ -(T.n:Int)<c/\c<T.n):
 BE T.n (w++[c]) (rpw T.dn (ngN k c)++wsN T (rwN T R c)):=by
 obtain⟨i,hi⟩: ∃i,c.natAbs=i+1:=⟨c.natAbs-1,by omega⟩
 have hin:i+1<T.n:=by omega
 have hd:=qk8 hT hW;refine(e.right [c]).trans ?_;unfold rwN ngN;rw[hi,Nat.add_sub_cancel,Yz];by_cases hp:0<c
 ·rw[if_pos hp,if_pos hp];have hx:=(hT.po i hin).2;have p:=qiP hT hW hx h;rw[hW.po i hin,show((i+1:Nat):Int)=c by omega]at p;exact(BE.left _ (qcX hd k) (qbQ hW (qcS hT hx h)) ((qbQ hW h).app fun d hd=>by rw[List.mem_singleton.1 hd];exact hc) p).symm
 rw[if_neg hp,if_neg hp,rpw,Yz];have hx:=(hT.ne i hin).2;have hf:=qfG hT h;have lf:=qbQ hW hf;have l1:=hW.let_ _ hx
 have lc:jY T.n [c]:=fun d hd=>by rw[List.mem_singleton.1 hd];exact hc
 refine BE.left _ (qcX hd k) ((qbQ hW h).app lc) (hd.app (qbQ hW (qcS hT hx hf))) ?_;have a1:=BE.left T.dn hd (qbQ hW (qcS hT hx hf)) (lf.app l1) (qiP hT hW hx hf);have a2:=(qlM hT hW h).right (T.wd (T.neg.getD i 0));rw[Yz,Yz]at a2;have a3:=BE.left (wsN T R) (qbQ hW h) (hd.app l1) (v':=[c]) lc (by have:=hW.ne i hin;rwa [show-((i+1:Nat):Int)=c by omega]at this);exact((a1.trans a2).trans a3).symm
def splN (T:QTb) (s:FmN):List Int:=(if 16<=s.1 then rpw (T.wd T.half) (s.1-16)else rpw T.dn (16-s.1))++wsN T s.2
theorem qge {n:Nat} {u v:List Int} (hu:jY n u) (hv:jY n v) (h:BE n (u++v) []): ∀k,BE n (rpw u k++rpw v k) []
 |0=>BE.rfl_
 |k+1=>by
  rw[show rpw v (k+1)=v++rpw v k by
   have:=qip v 1 k;rw[Nat.add_comm 1 k]at this
   rw[this];rfl,rpw,Yz,<-Yz u]
  have:=BE.left (rpw u k) (qcX hu k) ((hu.app hv).app (qcX hv k)) (qcX hv k) (h.right (rpw v k));exact this.trans (qge hu hv h k)
theorem qvF {T:QTb} (hT:T.Ok) (hW:T.Wd) {k:Nat} {R:List Nat} {s:FmN} (h:RS T k R s):BE T.n (rpw T.dn k++wsN T R) (splN T s):=by
 obtain⟨c,d,h0,rfl,e2⟩:=h;have hd:=qk8 hT hW;have hh:=hW.let_ _ hT.ha_;have hM:=qbQ hW c.right.left;rw[qk5,qk5,qlm,qlm,hW.id,qpq,YQ,<-Yz];unfold splN;refine BE.right ?_ _;by_cases g:k<=h0
 ·rw[if_pos (by omega),show s.1-16=h0-k by omega,show h0=k+(h0-k)by omega,qip,<-Yz,show k+(h0-k)-k=h0-k by omega];have:=(qge hd hh hW.dh k).right (rpw (T.wd T.half) (h0-k))
  rwa [List.nil_append]at this
 rw[show k=(k-h0)+h0 by omega,qip,Yz];have:=BE.left (rpw T.dn (k-h0)) (qcX hd _) ((qcX hd h0).app (qcX hh h0)) (jY.nil _) (qge hd hh hW.dh h0);rw[YQ]at this;by_cases g2:16<=s.1
 ·omega
 rw[if_neg g2,show 16-s.1=k-h0 by omega];exact this
def npB (T:QTb) (s x:Nat):Bool:=bif Nat.beq (T.a s x) s then Nat.beq (T.b s x) x else false
def dmN (T:QTb):Bool:=
 bif qal T.cnt (fun t=>qal T.cnt fun s=>bif npB T t s then qal T.cnt fun x=>npB T (T.b t (T.a s x)) (T.b s x)else true)then
 qal T.cnt (fun s=>bif Nat.beq (T.a s T.half) T.half then qal T.cnt fun x=>bif npB T (T.a s x) (T.b s x)then(bif npB T s x then npB T (T.fl s) (T.fl x)else true)else false else false)else false
structure qmX (T:QTb):Prop where
 dom: ∀t s x,t<T.cnt->s<T.cnt->x<T.cnt->npB T t s=true->npB T (T.b t (T.a s x)) (T.b s x)=true
 pr: ∀s x,s<T.cnt->x<T.cnt->npB T (T.a s x) (T.b s x)=true
 fl: ∀s x,s<T.cnt->x<T.cnt->npB T s x=true->npB T (T.fl s) (T.fl x)=true
 ha: ∀s,s<T.cnt->T.a s T.half=T.half
theorem qvU {T:QTb} (h:dmN T=true):qmX T:=by
 obtain⟨h1,h2⟩:=zg h;refine⟨fun t s x ht hs hx e=>?_,fun s x hs hx=>?_,fun s x hs hx e=>?_,fun s hs=>?_⟩
 ·have:=xh (xh h1 t ht) s hs;rw[e,cond_true]at this;exact xh this x hx
 ·obtain⟨_,g⟩:=zg (xh h2 s hs);exact(zg (xh g x hx)).1
 ·obtain⟨_,g⟩:=zg (xh h2 s hs);have:=(zg (xh g x hx)).2
  rwa [e,cond_true]at this
 exact xW (zg (xh h2 s hs)).1
theorem qlv {T:QTb} {s x:Nat} (h:npB T s x=true):T.a s x=s/\T.b s x=x:=by
 obtain⟨h1,h2⟩:=zg h;exact⟨xW h1,xW h2⟩
theorem qfL {T:QTb} {x s:Nat} {r:List Nat} (h:nfN T (x::s::r)=true):npB T s x=true/\nfN T (s::r)=true:=by
 unfold nfN at h;obtain⟨h1,h⟩:=zg h;obtain⟨h2,h3⟩:=zg h;refine⟨?_,h3⟩;unfold npB;rw[h1,h2];rfl
theorem qiE {T:QTb} {x s:Nat} {r:List Nat} (h:npB T s x=true) (k:nfN T (s::r)=true):nfN T (x::s::r)=true:=qdX (qlv h).1 (qlv h).2 k
theorem qwf {T:QTb} {x:Nat}: ∀{r:List Nat},nfN T (x::r)=true->nfN T r=true
 |[],h=>rfl
 |s::r,h=>(qfL h).2
theorem qjb {T:QTb} (hT:T.Ok) (D:qmX T): ∀{M:List Nat} {x:Nat},x<T.cnt->Cod T M->nfN T M=true->nfN T (qpN T x M)=true
 |[],x,hx,c,h=>rfl
 |[s],x,hx,c,h=>by
  rw[qa5,qpI];exact qiE (D.pr s x c.hd hx) rfl
 |s::t::r,x,hx,c,h=>by
  obtain⟨h1,h2⟩:=qfL h;have ih:=qjb hT D (hT.a_ s x c.hd hx) c.tl h2;rw[qa5,qa5]at*;exact qiE (D.dom t s x c.tl.hd c.hd hx h1) ih
theorem qne {T:QTb} (D:qmX T): ∀{M:List Nat},Cod T M->nfN T M=true->nfN T (M.map T.fl)=true
 |[],c,h=>rfl
 |[x],c,h=>rfl
 |x::s::r,c,h=>by
  obtain⟨h1,h2⟩:=qfL h;exact qiE (D.fl s x c.tl.hd c.hd h1) (qne D c.tl h2)
theorem qnk {T:QTb}: ∀{A B:List Nat},nfN T (A++B)=true->nfN T A=true
 |[],B,h=>rfl
 |[x],B,h=>rfl
 |x::s::r,B,h=>by
  obtain⟨h1,h2⟩:=qfL h;exact qiE h1 (qnk (A:=s::r) h2)
theorem qsv {T:QTb} (z:Nat): ∀{M:List Nat},nfN T M=true->nfN T (shd z M)=true
 |[],h=>rfl
 |x::r,h=>by
  unfold shd
  cases Nat.beq x z with
  |false=>exact h
  |true=>exact qsv z (qwf h)
theorem qoE {T:QTb} (z:Nat): ∀{M:List Nat},Cod T M->Cod T (shd z M)
 |[],h=>h
 |x::r,h=>by
  unfold shd
  cases Nat.beq x z with
  |false=>exact h
  |true=>exact qoE z h.tl
theorem qsq {z:Nat}: ∀{M:List Nat} {x:Nat} {r:List Nat},shd z M=x::r->x≠z
 |[],x,r,h=>by cases h
 |y::M,x,r,h=>by
  unfold shd at h
  cases c:Nat.beq y z with
  |false=>
   rw[c,cond_false]at h;injection h with h1 h2;subst h1;intro e;rw[e,Nat.beq_refl]at c;cases c
  |true=>rw[c,cond_true]at h;exact qsq h
theorem quW {T:QTb} (hT:T.Ok): ∀{M:List Nat},Cod T M->nfN T M=true->(∀x r,M=x::r->x≠T.idc)-> ∀c∈M,c≠T.idc
 |[],c,h,k,y,hy=>by cases hy
 |[x],c,h,k,y,hy=>by rw[List.mem_singleton.1 hy];exact k x [] rfl
 |x::s::r,c,h,k,y,hy=>by
  obtain⟨h1,h2⟩:=qfL h;have hx:=k x _ rfl;rcases List.mem_cons.1 hy with rfl|hy
  ·exact hx
  refine quW hT c.tl h2 (fun x' r' e=>?_) y hy;injection e with e1 e2;subst e1;intro e;have:=(qlv h1).1;rw[e,hT.ida _ c.hd]at this;exact hx this
theorem qpD {T:QTb} (D:qmX T): ∀{M:List Nat},Cod T M->nfN T M=true->(∀c,M.getLast? =some c->c≠T.half)-> ∀c∈M,c≠T.half
 |[],c,h,k,y,hy=>by cases hy
 |[x],c,h,k,y,hy=>by rw[List.mem_singleton.1 hy];exact k x rfl
 |x::s::r,c,h,k,y,hy=>by
  obtain⟨h1,h2⟩:=qfL h;have ih:=qpD D c.tl h2 (fun z hz=>k z (by rw[List.getLast?_cons_cons];exact hz));rcases List.mem_cons.1 hy with rfl|hy
  ·intro e;have:=(qlv h1).1;rw[e,D.ha s c.tl.hd]at this;exact ih s (List.mem_cons_self ..) this.symm
  exact ih y hy
theorem qmd (z:Nat): ∀(M:List Nat) (c:Nat),(stl z M).2.getLast? =some c->c≠z
 |[],c,h=>by cases h
 |x::r,c,h=>by
  have ih:=qmd z r;unfold stl at h;rcases e:stl z r with⟨k,l⟩
  rw[e]at h ih
  cases l with
  |nil=>
   dsimp only at h
   cases b:Nat.beq x z with
   |true=>rw[b,cond_true]at h;cases h
   |false=>
    rw[b,cond_false]at h;have:c=x:=(Ye h).symm;subst this;intro e;rw[e,Nat.beq_refl]at b;cases b
  |cons y l=>
   dsimp only at h;rw[List.getLast?_cons_cons]at h;exact ih c h
def noN (T:QTb):List Nat->Bool
 |[]=>true
 |x::r=>bif Nat.beq x T.idc then false else bif Nat.beq x T.half then false else noN T r
theorem qs2 {T:QTb}: ∀{M:List Nat},(∀c∈M,c≠T.idc)->(∀c∈M,c≠T.half)->noN T M=true
 |[],h,k=>rfl
 |x::r,h,k=>by
  have f: ∀{a b:Nat},a≠b->Nat.beq a b=false:=fun {a b} e=>by
   cases c:Nat.beq a b with
   |false=>rfl
   |true=>exact absurd (xW c) e
  unfold noN;rw[f (h x (List.mem_cons_self ..)),f (k x (List.mem_cons_self ..)),cond_false,cond_false];exact qs2 (fun c hc=>h c (List.mem_cons_of_mem _ hc)) (fun c hc=>k c (List.mem_cons_of_mem _ hc))
structure NF (T:QTb) (s:FmN):Prop where
 cod:Cod T s.2
 nf:nfN T s.2=true
 no:noN T s.2=true
theorem qrg {T:QTb} (hT:T.Ok) (D:qmX T) (H:Nat) {M:List Nat} (c:Cod T M) (h:nfN T M=true):NF T (fmS T H M):=by
 have e:=qol T.half (shd T.idc M);have c1:=qoE T.idc c;have n1:=qsv T.idc h;have q:(fmS T H M).2=(stl T.half (shd T.idc M)).2:=rfl
 have c2:Cod T (stl T.half (shd T.idc M)).2:=by rw[e]at c1;exact c1.left
 have n2:nfN T (stl T.half (shd T.idc M)).2=true:=by rw[e]at n1;exact qnk n1
 refine⟨by rw[q];exact c2,by rw[q];exact n2,?_⟩;rw[q];refine qs2 (fun x hx=>?_) (qpD D c2 n2 (qmd T.half _));exact quW hT c1 n1 (fun x r e=>qsq e) x (by rw[e];exact List.mem_append_left _ hx)
theorem qvS {T:QTb} (hT:T.Ok) (D:qmX T) {s:FmN} (h:NF T s) {c:Int} (hc:c≠0/\ -(T.n:Int)<c/\c<T.n):NF T (fmL T s c):=by
 have hi:c.natAbs-1+1<T.n:=by omega
 unfold fmL fmN
 cases decide (0<c)with
 |true=>exact qrg hT D _ (qcS hT (hT.po _ hi).2 h.cod) (qjb hT D (hT.po _ hi).2 h.cod h.nf)
 |false=>exact qrg hT D _ (qcS hT (hT.ne _ hi).2 (qfG hT h.cod)) (qjb hT D (hT.ne _ hi).2 (qfG hT h.cod) (qne D h.cod h.nf))
def fmW (T:QTb) (w:List Int):FmN:=w.foldl (fmL T) (16,[])
theorem quI {T:QTb} (hT:T.Ok) (D:qmX T): ∀{w:List Int} {s:FmN},(∀c∈w,c≠0/\ -(T.n:Int)<c/\c<T.n)->NF T s->NF T (w.foldl (fmL T) s)
 |[],s,hw,h=>h
 |c::w,s,hw,h=>by
  rw[List.foldl_cons];exact quI hT D (fun d hd=>hw d (List.mem_cons_of_mem _ hd)) (qvS hT D h (hw c (List.mem_cons_self ..)))
section
variable {n:Nat} (hn:n<=12) {N:Nat} (hN:2000<N)
include hn hN
theorem qiN {w:List Int} (W:vK n w) (n2:2<=n): ∀(K i k:Nat) (l:List SB),l.length=i->(∀s∈l,s.Ok n)->k<=i->i<=w.length->w.length<K+i->
 jL N (n:Int) w K (-(k:Int)) (ym n l) (i:Int)=some (-(((w.drop i).foldl ngN k:Nat):Int),ym n ((w.drop i).foldl (qbE n) l))
 |0,i,k,l,hl,ho,h1,hi,hK=>by omega
 |K+1,i,k,l,hl,ho,h1,hiw,hK=>by
  have wl:=W.len;unfold jL;by_cases hi:i<w.length
  ·have hx:w[i]? =some w[i]:=Ya hi;have hc:=W.let_ _ (List.getElem_mem hi);rw[YG hi,List.foldl_cons,List.foldl_cons];generalize w[i]=c at*;obtain⟨m,hm⟩: ∃m:Nat,c.natAbs=m+1:=⟨c.natAbs-1,by omega⟩
   have hm2:m+1<n:=by omega
   have q1:w64 (((m+1:Nat):Int)-1)=(m:Int):=by rw[qz (by omega) (by omega)];omega
   rw[if_pos (by omega),qw,hx];simp only[ZB,zW (show-1000<c/\c<1000 by omega),hm,q1];unfold ngN qbE;rw[hm,Nat.add_sub_cancel];by_cases pos:c>0
   ·rw[if_pos pos,qft hN (by omega),ZB,<-SB.id_li,qeu (by omega) SB.id hm2];simp only[ZB];rw[qa0 (by rw[yT];simp;omega) (by rw[yT];simp;omega)];simp only[ZB];rw[qR (by omega),show ym n l++[(SB.id.fr m).li n]=ym n (l++[SB.id.fr m])by simp[ym],if_pos (show 0<c from pos),if_pos (show 0<c from pos)]
    exact qiN W n2 K (i+1) k _ (by simp[hl]) (fun s hs=>by
     rcases List.mem_append.1 hs with hs|hs
     ·exact ho s hs
     rw[List.mem_singleton.1 hs];exact(Ut n).fr hm2) (by omega) (by omega) (by omega)
   rw[if_neg pos,qhY hn hN (by omega) ho,ZB,qkT hN (by omega),ZB,qhz (by omega) hN (Uo n) hm2];simp only[ZB];rw[qa0 (by rw[yT];simp;omega) (by rw[yT];simp;omega)];simp only[ZB];rw[qR (by omega),qz (n:= -(k:Int)-1) (by omega) (by omega),if_neg (show¬0<c from pos),if_neg (show¬0<c from pos),show-(k:Int)-1= -((k+1:Nat):Int)by omega,show ym n (l.map (SB.flip n))++[((Uf n).bk m).li n]=ym n (l.map (SB.flip n)++[(Uf n).bk m])by simp[ym]]
   exact qiN W n2 K (i+1) (k+1) _ (by simp[hl]) (fun s hs=>by
    rcases List.mem_append.1 hs with hs|hs
    ·obtain⟨u,hu,rfl⟩:=List.mem_map.1 hs;exact(ho u hu).flip
    rw[List.mem_singleton.1 hs];exact(Uo n).bk hm2) (by omega) (by omega) (by omega)
  rw[if_neg (by omega),List.drop_eq_nil_of_le (by omega)];rfl
end
theorem ql7 {T:QTb} (hT:T.Ok): ∀(w:List Int) (l:List SB) (R:List Nat) (k:Nat) (s:FmN),jY T.n w->QOK T.n l (R.map T.dec)->RS T k R s->k+w.length<=15->
 QOK T.n (w.foldl (qbE T.n) l) ((w.foldl (rwN T) R).map T.dec)/\RS T (w.foldl ngN k) (w.foldl (rwN T) R) (w.foldl (fmL T) s)/\(w.foldl (qbE T.n) l).length=l.length+w.length
 |[],l,R,k,s,hw,q,r,hk=>⟨q,r,rfl⟩
 |c::w,l,R,k,s,hw,q,r,hk=>by
  have hc:=hw c (List.mem_cons_self ..);simp only[Yr]at hk;have e:=r.sh
  have h1:1<=s.1:=by
   obtain⟨d,h,_,e⟩:=r.sh;omega
  have q2:=q.step hc;rw[quc hT r.cod hc]at q2;have r2:=r.step hT hc h1;have:=ql7 hT w _ _ _ _ (fun d hd=>hw d (List.mem_cons_of_mem _ hd)) q2.1 r2 (by unfold ngN;split<;>omega);rw[q2.2]at this;rw[List.foldl_cons,List.foldl_cons,List.foldl_cons,List.foldl_cons,Yr];exact⟨this.1,this.2.1,by rw[this.2.2];omega⟩
theorem qpw {T:QTb} (hT:T.Ok) (hW:T.Wd): ∀(w u:List Int) (k:Nat) (R:List Nat),jY T.n u->jY T.n w->Cod T R->BE T.n u (rpw T.dn k++wsN T R)->BE T.n (u++w) (rpw T.dn (w.foldl ngN k)++wsN T (w.foldl (rwN T) R))
 |[],u,k,R,hu,hw,hR,h=>by rw[YQ];exact h
 |c::w,u,k,R,hu,hw,hR,h=>by
  have hc:=hw c (List.mem_cons_self ..);have h2:=qqp hT hW hR hu h hc
  have lu:jY T.n (u++[c]):=hu.app fun d hd=>by rw[List.mem_singleton.1 hd];exact hc
  have hR2:Cod T (rwN T R c):=by
   unfold rwN
   have hi:c.natAbs-1+1<T.n:=by omega
   split
   ·exact qcS hT (hT.po _ hi).2 hR
   exact qcS hT (hT.ne _ hi).2 (qfG hT hR)
  have:=qpw hT hW w (u++[c]) _ _ lu (fun d hd=>hw d (List.mem_cons_of_mem _ hd)) hR2 h2;rw[Yz]at this;exact this
theorem qtM (n:Nat):QOK n [] []:=⟨fun s h=>(by cases h),⟨xB [],Pst.refl,fun q hq=>absurd hq (Nat.not_lt_zero q),rfl⟩⟩
theorem qmv {T:QTb} (hT:T.Ok) {w:List Int} (hw:jY T.n w) (hl:w.length<=15):
 QOK T.n (w.foldl (qbE T.n) []) ((w.foldl (rwN T) []).map T.dec)/\RS T (w.foldl ngN 0) (w.foldl (rwN T) []) (fmW T w)/\(w.foldl (qbE T.n) []).length=w.length:=by
 have:=ql7 hT w [] [] 0 (16,[]) hw (qtM T.n) (RS.nil T) (by omega);exact⟨this.1,this.2.1,by rw[this.2.2];simp⟩
theorem qim {T:QTb} (hT:T.Ok) (hW:T.Wd) {w:List Int} (hw:jY T.n w) (hl:w.length<=15):BE T.n w (splN T (fmW T w)):=by
 have h:=qpw hT hW w [] 0 [] (jY.nil _) hw (Cod.nil T) BE.rfl_;rw[List.nil_append]at h;exact h.trans (qvF hT hW (qmv hT hw hl).2.1)
def QTb.cI (T:QTb) (c:Nat):List Int:=(T.dec c).map fun v:Nat=>(v:Int)
def fmI (T:QTb) (s:FmN):qbZ:=⟨(s.1:Int)-16,s.2.reverse.map T.cI⟩
theorem qtl (n:Nat) (s:SB):s.li n=(s.row n).map fun v:Nat=>(v:Int):=by
 unfold SB.li SB.row;rw[List.map_map];rfl
theorem qhw (n:Nat) (L:Nat->SB): ∀k,(qap n L k).reverse=(List.range k).map fun q=>(L q).row n
 |0=>rfl
 |k+1=>by rw[qap,List.reverse_cons,qhw n L k,List.range_succ,List.map_append];rfl
theorem qpV (n m:Nat) (L:Nat->SB):j6 n m L=(qap n L m).reverse.map fun p=>p.map fun v:Nat=>(v:Int):=by
 rw[qhw,List.map_map];unfold j6;congr 1;funext q;exact qtl n (L q)
theorem qmp: ∀(a b:List Nat),a.map (fun v:Nat=>(v:Int))=b.map (fun v:Nat=>(v:Int))->a=b
 |[],[],h=>rfl
 |x::a,y::b,h=>by
  rw[List.map_cons,List.map_cons]at h;injection h with h1 h2;rw[qmp a b h2,Int.ofNat.inj h1]
 |[],y::b,h=>by cases h
 |x::a,[],h=>by cases h
theorem qon {T:QTb} (hT:T.Ok) {c d:Nat} (hc:c<T.cnt) (hd:d<T.cnt) (h:T.cI c=T.cI d):c=d:=hT.inj c d hc hd (qmp _ _ h)
theorem qq3 {T:QTb} (hT:T.Ok):T.cI T.idc=qbO T.n:=by
 unfold QTb.cI;rw[hT.id];rfl
theorem qlr {T:QTb} (hT:T.Ok):T.cI T.half=(Uf T.n).li T.n:=by
 unfold QTb.cI;rw[hT.ha,qtl,qd2]
theorem qi7 {T:QTb} (hT:T.Ok): ∀{a b:List Nat},Cod T a->Cod T b->a.map T.cI=b.map T.cI->a=b
 |[],[],ha,hb,h=>rfl
 |x::a,y::b,ha,hb,h=>by
  rw[List.map_cons,List.map_cons]at h;injection h with h1 h2;rw[qi7 hT ha.tl hb.tl h2,qon hT ha.hd hb.hd h1]
 |[],y::b,ha,hb,h=>by cases h
 |x::a,[],ha,hb,h=>by cases h
theorem Cod.rev {T:QTb} {R:List Nat} (h:Cod T R):Cod T R.reverse:=fun c hc=>h c (List.mem_reverse.1 hc)
theorem qt5 {T:QTb} (hT:T.Ok) {s t:FmN} (hs:Cod T s.2) (ht:Cod T t.2) (h:fmI T s=fmI T t):s=t:=by
 unfold fmI at h;injection h with h1 h2;have e:=qi7 hT hs.rev ht.rev h2;obtain⟨s1,s2⟩:=s;obtain⟨t1,t2⟩:=t
 have:s2=t2:=by simpa using e
 rw[this,show s1=t1 by dsimp only at h1;omega]
structure FcOK (T:QTb) (s:FmN) (L:Nat->SB):Prop where
 ok:OkM T.n s.2.length L
 nf:Nf T.n s.2.length L
 row: ∀j (hj:j<s.2.length),(L j).row T.n=T.dec (s.2.reverse[j]'(by simpa using hj))
theorem qrv {T:QTb}: ∀{M:List Nat},noN T M=true-> ∀c∈M,c≠T.idc/\c≠T.half
 |[],h,c,hc=>by cases hc
 |x::r,h,c,hc=>by
  unfold noN at h
  cases e:Nat.beq x T.idc with
  |true=>rw[e]at h;cases h
  |false=>
   rw[e,cond_false]at h
   cases e2:Nat.beq x T.half with
   |true=>rw[e2]at h;cases h
   |false=>
    rw[e2,cond_false]at h;rcases List.mem_cons.1 hc with rfl|hc
    ·exact⟨beqF e,beqF e2⟩
    exact qrv h c hc
theorem qp2 {T:QTb} (hT:T.Ok) (n2:2<=T.n) (n4:T.n<=12) {N:Nat} (hN:100000<N) {w:List Int} (W:vK T.n w) (hl:w.length<=14) (hf:nfN T (fmW T w).2=true) (hno:noN T (fmW T w).2=true):
 yK N (T.n:Int) w=some (fmI T (fmW T w))/\ ∃L,FcOK T (fmW T w) L:=by
 have wl:=W.len
 have hw:jY T.n w:=fun c hc=>by have:=W.let_ c hc;omega
 obtain⟨q,r,ll⟩:=qmv hT hw (by omega);obtain⟨B,b1,b2,b3⟩:=q.ex;have lok:=qer q.ok;rw[ll]at b1 b2 b3 lok;generalize hm:w.length=m at*
 have hmu: ∀L:Nat->SB,mu5 T.n L m<=28224:=fun L=>by
  refine Nat.le_trans (qoe m) ?_;have h1:T.n*T.n<=12*12:=Nat.mul_le_mul n4 n4;have h2:m*(T.n*T.n)<=14*144:=Nat.mul_le_mul hl h1;exact Nat.mul_le_mul hl h2
 obtain⟨A,a1,a2,a3,a4⟩:=qio (n:=T.n) (m:=m) n4 (by omega) (by omega) (N:=N) (by omega) (fun L=>by have:=hmu L;omega) N 0 (xB (w.foldl (qbE T.n) [])) lok (Nat.zero_le _) (by have:=hmu (xB (w.foldl (qbE T.n) []));omega) (fun j hj=>by omega);obtain⟨cR,d,h0,eR,e2⟩:=r
 have cM:Cod T (fmW T w).2:=by rw[eR]at cR;exact cR.right.left
 have nfB:Nf T.n m B:=fun k i c=>by
  have hk:=c.k_;refine qs7 b2 (Nat.le_refl m) ?_ k i hk c;rw[<-b3];exact qsN hT cR (by rw[eR];exact qsF hT cM hf d h0)
 obtain rfl:=qfI _ (Nat.le_refl _) a2 b1 a3 nfB
 have eM:j6 T.n m A=((w.foldl (rwN T) []).reverse).map T.cI:=by
  rw[qpV,<-b3,<-List.map_reverse,List.map_map];rfl
 have eRr:(w.foldl (rwN T) []).reverse=List.replicate h0 T.half++((fmW T w).2.reverse++List.replicate d T.idc):=by
  rw[eR];simp
 have hln:h0+(fmW T w).2.length+d=m:=by
  have:=congrArg List.length eM;rw[zN,eRr]at this;simp at this;omega
 refine⟨?_,fun j=>A (h0+j),fun j hj=>a4 _ (by omega),fun k i c=>a3 (h0+k) i ⟨by have:=c.k_;omega,c.i_,c.b_,c.e_⟩,fun j hj=>?_⟩
 ·unfold yK;have b0:=qiN (n:=T.n) n4 (N:=N) (by omega) W n2 N 0 0 [] rfl (fun s hs=>by cases hs) (Nat.le_refl _) (Nat.zero_le _) (by omega);rw[show ym T.n ([]:List SB)=[]from rfl,show(-((0:Nat):Int))=0 from rfl,show((0:Nat):Int)=0 from rfl,YR]at b0
  have rF:ym T.n (w.foldl (qbE T.n) [])=j6 T.n m (xB (w.foldl (qbE T.n) [])):=qjK (by rw[yT,ll]) fun q hq=>by
   rw[qhr (by rw[ll];exact hq)];unfold xB;rw[Yy,Ya (by rw[ll];exact hq)];rfl
  rw[if_neg (by omega),b0,ZB,rF]
  have p0:xV N (j6 T.n m (xB (w.foldl (qbE T.n) [])))=some (j6 T.n m A):=by
   unfold xV;rw[show((0:Nat):Int)=0 from rfl]at a1;rw[a1,ZB]
  dsimp only;rw[p0,ZB,zN,zN,if_pos rfl,ZB]
  have hng: ∀(u:List Int) (k:Nat),u.foldl ngN k<=k+u.length:=by
   intro u
   induction u with
   |nil=>intro k;exact Nat.le_refl _
   |cons c u ih=>
    intro k;rw[List.foldl_cons,Yr];refine Nat.le_trans (ih _) ?_;unfold ngN;split<;>omega
  have hk:=hng w 0;have f0:=qhh (n:=T.n) n4 n2 (N:=N) (by omega) (by omega) a4 N 0 (-((w.foldl ngN 0:Nat):Int)) [] (Nat.zero_le _) (by omega) (by omega) (by omega) (Nat.zero_le _);rw[show((0:Nat):Int)=0 from rfl,YR,List.nil_append]at f0;rw[f0,ZB]
  have nI: ∀c∈(fmW T w).2.reverse,T.cI c≠qbO T.n/\T.cI c≠(Uf T.n).li T.n:=fun c hc=>by
   have hc2:=List.mem_reverse.1 hc;have:=qrv hno c hc2;exact⟨fun e=>this.1 (qon hT (cM c hc2) hT.id_ (by rw[e,qq3 hT])),fun e=>this.2 (qon hT (cM c hc2) hT.ha_ (by rw[e,qlr hT]))⟩
  have hne:(Uf T.n).li T.n≠qbO T.n:=qk4 n4 n2
  have cnt:(j6 T.n m A).countP (fun x=>decide (x=(Uf T.n).li T.n))=h0:=by
   rw[eM,eRr,List.map_append,List.map_append,List.countP_append,List.countP_append,List.map_replicate,List.map_replicate,qlr hT,qq3 hT,List.countP_replicate,List.countP_replicate]
   have z:((fmW T w).2.reverse.map T.cI).countP (fun x=>decide (x=(Uf T.n).li T.n))=0:=by
    rw[List.countP_eq_zero];intro x hx;obtain⟨c,hc,rfl⟩:=List.mem_map.1 hx;simpa using(nI c hc).2
   rw[z];simp[Ne.symm hne]
  have fil:(j6 T.n m A).filter (fun x=>!decide (x=qbO T.n)&&!decide (x=(Uf T.n).li T.n))=(fmW T w).2.reverse.map T.cI:=by
   rw[eM,eRr,List.map_append,List.map_append,List.filter_append,List.filter_append,List.map_replicate,List.map_replicate,qlr hT,qq3 hT]
   have z:((fmW T w).2.reverse.map T.cI).filter (fun x=>!decide (x=qbO T.n)&&!decide (x=(Uf T.n).li T.n))=(fmW T w).2.reverse.map T.cI:=by
    rw[List.filter_eq_self];intro x hx;obtain⟨c,hc,rfl⟩:=List.mem_map.1 hx;simp[(nI c hc).1,(nI c hc).2]
   rw[z];simp
  rw[cnt,fil];dsimp only;unfold fmI;congr 2;omega
 have hq:h0+j<m:=by omega
 have e1:=congrArg (fun z:List (List Nat)=>z.reverse[h0+j]?) b3;rw[qhw,<-List.map_reverse,eRr,YA,YA,Yo (by simp),List.length_replicate,Nat.add_sub_cancel_left,Yf (by simpa using hj),List.getElem?_range hq,Ya (by simpa using hj)]at e1;exact(Ye e1).symm
def qT2:QTb:=⟨2,2,[[0,1],[1,0]],72181409904875314414374968516587674608769193923998367054820377053136271193305186106925957803847713792,32,[1],[0],0,1⟩
def qT3:QTb:=⟨3,6,[[0,1,2],[0,2,1],[1,0,2],[1,2,0],[2,0,1],[2,1,0]],8266444832593256110278504056324975968503043804566250863407260539807837122730277548901335238120097395179051920032784121885944365959314536480922739183161704479908532888759525628914427475701484775992797476535919946361258797552121693278065530760138100112689290939756654604389242850736458767737950760870612468550431008366489984023528034147806255775601685454698281011192935300900373995265410456645285650811097701860214837219642145815646556704835918396369342363658459293544675424415982589867407839793775616,171050048,[2,1],[4,3],0,5⟩
def qT4:QTb:=⟨4,24,[[0,1,2,3],[0,1,3,2],[0,2,1,3],[0,2,3,1],[0,3,1,2],[0,3,2,1],[1,0,2,3],[1,0,3,2],[1,2,0,3],[1,2,3,0],[1,3,0,2],[1,3,2,0],[2,0,1,3],[2,0,3,1],[2,1,0,3],[2,1,3,0],[2,3,0,1],[2,3,1,0],[3,0,1,2],[3,0,2,1],[3,1,0,2],[3,1,2,0],[3,2,0,1],[3,2,1,0]],49924679964118950158504773047712293008357572476700065051888262983812057941490288147443351685426771215159984320836562853297116792287243261337793508672679251465644859717201945477412550594078187220419246253422400668501238822705186209631823664795546556725802353443597366994676083434298407497895951006041340697925103439831429288656551147713465281614174897695110438160528146578989233620903067625154729735852172944938768903786003427752492075541580189905618886734922591285116646371245110358685073318595789079558477297991090241916855011136828568208244471641454901805830279422430958743345433364647924354266092999170769933150084419990857426812155074405611150780835374419587994421388349476497668576829772488824900890943580440564475224948382613975569030959140137112946356581733181767804982837299001275241404024428423969945375118018346251689811035666654288789377498673465654056046472367046584590543393353605191609945521833629814704248581809745682262940627633852625899232412773399747183302053873722142720448400276228892069755475979637633022120133509269817175026926090945579051002275436700445082501496335987190279038950560271464274442251761989218996321827353813610005240986238361113907433293778101564204070566329073411198764754719454991281569784587907213314050180094441658837772201767737978404315443030869776484701693495790906741003166215916682350154151789114301259079812398741228901552670752772395833617508221840505129725629199784506605943043680284619804642750999491474547619553548489473624190326497049323827710585797376128535162121336392147624711654859716099592102869074139412083732499915758752748885407482110554388566101216417935215251003517456352892825683218863073492610190489573499633703322144945645623511650086536431133964455733231818730410381913488209559937579397955745483507689917102846472843567664143105810769946017619388434306508209431226370530891092075784336003387970392890486318636301860961540143886450558313887045598385752921294146328527693950926360982960926679499102240763953829825506070855435692925060097073536747148584138050668920091924574974555317321554774419427977255641596038254215103565789710315231253691377676323688829991038820329597762396240623059261092946519163386353067005187428775114373499030304537824708080794941093469489225553214118469148918400762649165981331577145360589521920,978316295202967168895658715385301184,[6,2,1],[22,21,17],0,23⟩
section
open Go
theorem qvP:qT2.ck=true:=by kernel_rfl
theorem qvZ:qT3.ck=true:=by kernel_rfl
theorem qvR:qT4.ck=true:=by kernel_rfl
theorem qwc:dmN qT2=true:=by kernel_rfl
theorem qvw:dmN qT3=true:=by kernel_rfl
theorem qvl:dmN qT4=true:=by kernel_rfl
theorem qvd:qT2.cw=true:=by kernel_rfl
theorem qvf:qT3.cw=true:=by kernel_rfl
theorem qvz:qT4.cw=true:=by kernel_rfl
end
def bet:Nat->Nat
 |0=>1
 |1=>30
 |2=>500
 |3=>7000
 |_=>0
theorem qrB (k:Nat):bet k<10007:=by
 unfold bet;split<;>omega
def evl (x:Int) (z:Nat):Nat:=if 0<x then(2*z+bet (x.natAbs-1))%10007 else(5004*(z+(10007-bet (x.natAbs-1))))%10007
def ev:List Int->Nat->Nat
 |[],z=>z
 |x::u,z=>evl x (ev u z)
theorem qq6 (x:Int) (z:Nat):evl x z<10007:=by
 unfold evl;split<;>exact Nat.mod_lt _ (by omega)
theorem qjh: ∀(u:List Int) (z:Nat),z<10007->ev u z<10007
 |[],z,h=>h
 |x::u,z,h=>qq6 _ _
theorem qm1 {x:Int} (hx:x≠0) {z:Nat} (hz:z<10007):evl x (evl (-x) z)=z:=by
 unfold evl;rw[Int.natAbs_neg];have:=qrB (x.natAbs-1);generalize bet (x.natAbs-1)=b at*;by_cases h:0<x
 ·rw[if_pos h,if_neg (by omega)];omega
 rw[if_neg h,if_pos (by omega)];omega
theorem qfo: ∀(u v:List Int) (z:Nat),ev (u++v) z=ev u (ev v z)
 |[],v,z=>rfl
 |x::u,v,z=>by rw[List.cons_append,ev,ev,qfo u v z]
theorem qnz: ∀(u:List Int),Nz u-> ∀z,z<10007->ev u (ev (jr u) z)=z
 |[],h,z,hz=>rfl
 |x::u,h,z,hz=>by
  rw[qfE,qfo,ev];have e:ev [-x] z=evl (-x) z:=rfl;rw[e,qnz u (fun y hy=>h y (List.mem_cons_of_mem _ hy)) _ (qq6 _ _),qm1 (h x List.mem_cons_self) hz]
theorem qtJ {s:List Int} {x:Int} (hx:x≠0) (hs:Nz s) {z:Nat} (hz:z<10007):ev (qbn s x).reverse z=ev s.reverse (evl x z):=by
 cases s with
 |nil=>rfl
 |cons y t=>
  by_cases e:y= -x
  ·rw[qbT t e,List.reverse_cons,qfo]
   have:ev [y] (evl x z)=z:=by
    show evl y (evl x z)=z;have:=qm1 (x:=y) (hs y List.mem_cons_self) hz;rw[e,Int.neg_neg]at this;rw[e];exact this
   rw[this]
  rw[qb1 t e,show(x::y::t).reverse=(y::t).reverse++[x]from List.reverse_cons,qfo];rfl
theorem qrM {s:List Int} {x:Int} (hx:x≠0) (hs:Nz s):Nz (qbn s x):=fun y hy=>by
 cases s with
 |nil=>rw[qhy]at hy;rw[List.mem_singleton.1 hy];exact hx
 |cons a t=>
  by_cases e:a= -x
  ·rw[qbT t e]at hy;exact hs y (List.mem_cons_of_mem _ hy)
  rw[qb1 t e]at hy;rcases List.mem_cons.1 hy with rfl|hy
  ·exact hx
  exact hs y hy
theorem qr3: ∀(w s:List Int),Nz w->Nz s-> ∀z,z<10007->ev (fact s w).reverse z=ev s.reverse (ev w z)
 |[],s,hw,hs,z,hz=>rfl
 |x::w,s,hw,hs,z,hz=>by
  have hx:=hw x List.mem_cons_self
  have hw':Nz w:=fun y hy=>hw y (List.mem_cons_of_mem _ hy)
  rw[qhR,qr3 w _ hw' (qrM hx hs) z hz,qtJ hx hs (qjh w z hz)];rfl
theorem qpC {w:List Int} (hw:Nz w) {z:Nat} (hz:z<10007):ev (fred w) z=ev w z:=qr3 w [] hw (fun y hy=>by cases hy) z hz
def Lin (u:List Int) (c:Nat):Prop:=c<10007/\ ∀z,z<10007->ev u z=(2*z+c)%10007
theorem Lin.at0 {u:List Int} {c:Nat} (h:Lin u c):c=ev u 0:=by
 have:=h.2 0 (by omega);have:=h.1;omega
theorem Lin.conj {a b:List Int} {p q:Nat} (ha:Nz a) (hb:Nz b) (h:Lin a p) (k:Lin b q):Lin (fred (a++b++jr a)) ((2*q+(10007-p))%10007):=by
 refine⟨Nat.mod_lt _ (by omega),fun z hz=>?_⟩;rw[qpC ((ha.app hb).app ha.inv) hz,qfo,qfo];have e:=qnz a ha z hz;have hy:=qjh (jr a) z hz;generalize ev (jr a) z=y at*;rw[h.2 y hy]at e;rw[k.2 y hy,h.2 _ (Nat.mod_lt _ (by omega))];have:=h.1;have:=k.1;omega
theorem Lin.conji {a b:List Int} {p q:Nat} (ha:Nz a) (hb:Nz b) (h:Lin a p) (k:Lin b q):Lin (fred (jr b++a++b)) ((5004*(p+q))%10007):=by
 refine⟨Nat.mod_lt _ (by omega),fun z hz=>?_⟩;rw[qpC ((hb.inv.app ha).app hb) hz,qfo,qfo];have e:=qnz b hb (ev a (ev b z)) (qjh _ _ (qjh _ _ hz));have hy:=qjh (jr b) (ev a (ev b z)) (qjh _ _ (qjh _ _ hz));generalize ev (jr b) (ev a (ev b z))=y at*;rw[k.2 y hy,k.2 z hz,h.2 _ (Nat.mod_lt _ (by omega))]at e;have:=h.1;have:=k.1;omega
def qhK:List (List Int)->List Nat->Prop
 |[],[]=>True
 |u::l,c::t=>Lin u c/\qhK l t
 |_,_=>False
theorem qhK.uniq: ∀{l:List (List Int)} {s t:List Nat},qhK l s->qhK l t->s=t
 |[],[],[],h,k=>rfl
 |[],c::s,_,h,k=>by cases h
 |[],[],c::t,h,k=>by cases k
 |u::l,[],_,h,k=>by cases h
 |u::l,c::s,[],h,k=>by cases k
 |u::l,c::s,d::t,h,k=>by rw[h.1.at0,k.1.at0,h.2.uniq k.2]
def qh7:Nat->Bool->List Nat->List Nat
 |0,true,a::b::l=>(2*b+(10007-a))%10007::a::l
 |0,false,a::b::l=>b::(5004*(a+b))%10007::l
 |i+1,p,a::l=>a::qh7 i p l
 |_,_,l=>l
theorem qhK.step: ∀(i:Nat) (p:Bool) {im:List (List Int)} {t:List Nat},Nzs im->i+1<im.length->qhK im t->qhK (bif p then(im.set i (fred (im.getD i []++im.getD (i+1) []++jr (im.getD i [])))).set (i+1) (im.getD i [])else(im.set i (im.getD (i+1) [])).set (i+1) (fred (jr (im.getD (i+1) [])++im.getD i []++im.getD (i+1) []))) (qh7 i p t)
 |0,true,a::b::l,c::d::t,hz,hi,h=>by
  have ha:Nz a:=hz a List.mem_cons_self;have hb:Nz b:=hz b (List.mem_cons_of_mem _ List.mem_cons_self);exact⟨h.1.conj ha hb h.2.1,h.1,h.2.2⟩
 |0,false,a::b::l,c::d::t,hz,hi,h=>by
  have ha:Nz a:=hz a List.mem_cons_self;have hb:Nz b:=hz b (List.mem_cons_of_mem _ List.mem_cons_self);exact⟨h.2.1,h.1.conji ha hb h.2.1,h.2.2⟩
 |i+1,p,a::l,c::t,hz,hi,h=>by
  have:=qhK.step i p (im:=l) (t:=t) (fun w hw=>hz w (List.mem_cons_of_mem _ hw)) (by simp at hi;omega) h.2;cases p
  ·exact⟨h.1,this⟩
  exact⟨h.1,this⟩
 |0,p,[],t,hz,hi,h=>by simp at hi
 |0,p,[a],t,hz,hi,h=>by simp at hi
 |0,p,a::b::l,[],hz,hi,h=>by cases h
 |0,p,a::b::l,[c],hz,hi,h=>by cases h.2
 |i+1,p,[],t,hz,hi,h=>by simp at hi
 |i+1,p,a::l,[],hz,hi,h=>by cases h
abbrev qpU:Str:=[105,110,115,101,114,116]
abbrev mCan:Str:=[99,97,110,99,101,108]
abbrev qqM:Str:=[115,119,97,112]
abbrev mTrn:Str:=[116,117,114,110]
section
variable {N:Nat} (hN:2000<N) {n:Nat} (h1:1<=n) (h2:n<=12)
include hN h1 h2
theorem bf4: ∀a b c d:Int,qO N [a,b,c,d]=some (qeN [a,b,c,d]):=fun a b c d=>qan (by simp) (by simp;omega)
theorem qhN {u v:List Int} (hw:(u++v).length<=20000) {L:Int} (hl:L≠0/\ -(n:Int)<L/\L<n):qJ N (n:Int) (u++v) (⟨qpU,(u.length:Int),L⟩:qx)=some (u++[L,-L]++v,0):=by
 have lw:(u++v).length=u.length+v.length:=Yq;unfold qJ jV;dsimp only;simp only[ZB,jG,bf4 hN h1 h2];rw[if_pos (by decide),qeh (by omega) (by omega),yS.2 hl];simp only[ZB];have b:decide ((u.length:Int)>w64 (((u++v).length:Int)-0))=false:=decide_eq_false (by rw[qz (by omega) (by omega)];omega)
 have z:w64 ((u.length:Int)+0)=(u.length:Int):=by rw[qz (by omega) (by omega)];omega
 have wL:w64 (0-L)= -L:=by rw[qz (by omega) (by omega)];omega
 have r2:qcN (u++v) (u.length:Int) (u.length:Int) L (-L)=some (u++[L,-L]++v):=by
  unfold qcN;rw[if_pos (.inl rfl),qbC (Nat.le_refl _) (by omega) (by omega),List.take_left,List.drop_left]
 rw[if_neg (by omega),b,ZB];dsimp only;rw[if_neg (by decide),z,qjI (Nat.le_refl _) (by omega),ZB];unfold qaq;rw[ZB,if_neg (by decide),vD (by omega),ZB];unfold yz;rw[ZB,wL,r2,ZB]
omit h1 h2 hN in
theorem qck {u v:List Int} (l:List Int) (j:Nat) (hj:j<l.length):(u++l++v)[u.length+j]? =l[j]? :=by
 rw[Yz,Yo (by omega),Nat.add_sub_cancel_left,Yf hj]
omit h1 h2 hN in
theorem qnW {u l v:List Int}:(u++l++v).take u.length=u/\(u++l++v).drop (u.length+l.length)=v:=by
 constructor
 ·rw[Yz,List.take_left]
 rw[show u.length+l.length=(u++l).length by rw[Yq],List.drop_left]
theorem qkb {u v:List Int} {x:Int} (hw:(u++[x,-x]++v).length<=20000) (hx: -100<x/\x<100):qJ N (n:Int) (u++[x,-x]++v) (⟨mCan,(u.length:Int),0⟩:qx)=some (u++v,0):=by
 have lw:(u++[x,-x]++v).length=u.length+2+v.length:=by simp;omega
 have g0:(u++[x,-x]++v)[u.length]? =some x:=qck [x,-x] 0 (by simp);have g1:(u++[x,-x]++v)[u.length+1]? =some (-x):=qck [x,-x] 1 (by simp);have td:(u++[x,-x]++v).take u.length=u/\(u++[x,-x]++v).drop (u.length+2)=v:=qnW;generalize u++[x,-x]++v=w at*;unfold qJ jV;dsimp only;simp only[ZB,jG,bf4 hN h1 h2];have b:decide ((u.length:Int)>w64 ((w.length:Int)-2))=false:=decide_eq_false (by rw[qz (by omega) (by omega)];omega)
 have z:w64 ((u.length:Int)+2)=((u.length+2:Nat):Int):=by rw[qz (by omega) (by omega)];rfl
 have wy:w64 (0- -x)=x:=by rw[qz (by omega) (by omega)];omega
 have k3:xZ [x,-x]=some (decide (x=w64 (0- -x))):=rfl
 have r0:qha w (u.length:Int) ((u.length+2:Nat):Int)=some (w.take u.length++[]++w.drop (u.length+2)):=by
  unfold qha;rw[if_pos (by omega),qbC (by omega) (by omega) (by omega)]
 rw[if_neg (by decide),if_pos (by decide),if_neg (by omega),b,ZB];dsimp only;rw[if_neg (by decide),z,qfM g0 g1,ZB,k3,ZB,wy,decide_eq_true rfl,if_neg (by decide),vD (by omega),ZB];unfold yw;rw[ZB,r0,ZB,td.1,td.2,YQ]
theorem qkk {u v:List Int} {x y:Int} (hw:(u++[x,y]++v).length<=20000) (hx: -100<x/\x<100) (hy: -100<y/\y<100) (e:((((x.natAbs:Int)-(y.natAbs:Int)).natAbs:Nat):Int)>=2):qJ N (n:Int) (u++[x,y]++v) (⟨qqM,(u.length:Int),0⟩:qx)=some (u++[y,x]++v,0):=by
 have lw:(u++[x,y]++v).length=u.length+2+v.length:=by simp;omega
 have g0:(u++[x,y]++v)[u.length]? =some x:=qck [x,y] 0 (by simp);have g1:(u++[x,y]++v)[u.length+1]? =some y:=qck [x,y] 1 (by simp);have td:(u++[x,y]++v).take u.length=u/\(u++[x,y]++v).drop (u.length+2)=v:=qnW;generalize u++[x,y]++v=w at*;unfold qJ jV;dsimp only;simp only[ZB,jG,bf4 hN h1 h2];have b:decide ((u.length:Int)>w64 ((w.length:Int)-2))=false:=decide_eq_false (by rw[qz (by omega) (by omega)];omega)
 have z:w64 ((u.length:Int)+2)=((u.length+2:Nat):Int):=by rw[qz (by omega) (by omega)];rfl
 have k0:idx [x,y] 0=some x:=rfl;have k1:idx [x,y] 1=some y:=rfl;have e0:w64 (((x.natAbs:Nat):Int)-((y.natAbs:Nat):Int))=(x.natAbs:Int)-(y.natAbs:Int):=qz (by omega) (by omega)
 have k5:vC [x,y]=some (decide (((((x.natAbs:Int)-(y.natAbs:Int)).natAbs:Nat):Int)>=2)):=by
  unfold vC;simp only[k0,k1,ZB,zW (show-1000<x/\x<1000 by omega),zW (show-1000<y/\y<1000 by omega),e0,zW (show-1000<(x.natAbs:Int)-(y.natAbs:Int)/\(x.natAbs:Int)-(y.natAbs:Int)<1000 by omega)]
 have k6:yA [x,y] qqM (u.length:Int) 0=some (y,x):=rfl
 have r2:qcN w (u.length:Int) ((u.length+2:Nat):Int) y x=some (w.take u.length++[y,x]++w.drop (u.length+2)):=by
  unfold qcN;rw[if_pos (.inr (by omega)),qbC (by omega) (by omega) (by omega)]
 rw[if_neg (by decide),if_neg (by decide),if_pos (by decide),if_neg (by omega),b,ZB];dsimp only;rw[if_neg (by decide),z,qfM g0 g1,ZB,k5,ZB,decide_eq_true e,if_neg (by decide),vD (by omega),ZB,k6,ZB];dsimp only;rw[r2,ZB,td.1,td.2]
theorem qj6 {u v:List Int} {x y q:Int} {l:List Int} (hw:(u++[x,y,q]++v).length<=20000) (bx:x≠0/\ -(n:Int)<x/\x<n) (by_:y≠0/\ -(n:Int)<y/\y<n) (bz:q≠0/\ -(n:Int)<q/\q<n) (e:qcG x y q=some l) (sg:sg5 x=sg5 y\/sg5 y=sg5 q):qJ N (n:Int) (u++[x,y,q]++v) (⟨mTrn,(u.length:Int),0⟩:qx)=some (u++l++v,0):=by
 have lw:(u++[x,y,q]++v).length=u.length+3+v.length:=by simp;omega
 have g0:(u++[x,y,q]++v)[u.length]? =some x:=qck [x,y,q] 0 (by simp);have g1:(u++[x,y,q]++v)[u.length+1]? =some y:=qck [x,y,q] 1 (by simp);have g2:(u++[x,y,q]++v)[u.length+2]? =some q:=qck [x,y,q] 2 (by simp);have td:(u++[x,y,q]++v).take u.length=u/\(u++[x,y,q]++v).drop (u.length+3)=v:=qnW;generalize u++[x,y,q]++v=w at*;unfold qJ jV;dsimp only;simp only[ZB,jG,bf4 hN h1 h2];have b:decide ((u.length:Int)>w64 ((w.length:Int)-3))=false:=decide_eq_false (by rw[qz (by omega) (by omega)];omega)
 have z:w64 ((u.length:Int)+3)=((u.length+3:Nat):Int):=by rw[qz (by omega) (by omega)];rfl
 rw[if_neg (by decide),if_neg (by decide),if_neg (by decide),if_pos (by decide),if_neg (by omega),b,ZB];dsimp only;rw[if_neg (by decide),z,qlE g0 g1 g2,ZB];rcases qmQ bx by_ bz (by omega) (u.length:Int)with e'|⟨l',t1,t2,t3,t4⟩
 ·exfalso;have rX:=zW (show-1000<x/\x<1000 by omega);have rY:=zW (show-1000<y/\y<1000 by omega);have rZ:=zW (show-1000<q/\q<1000 by omega);have e0:w64 (((x.natAbs:Nat):Int)-((y.natAbs:Nat):Int))=(x.natAbs:Int)-(y.natAbs:Int):=qz (by omega) (by omega);have ad:=zW (show-1000<(x.natAbs:Int)-(y.natAbs:Int)/\(x.natAbs:Int)-(y.natAbs:Int)<1000 by omega);unfold qcG at e;by_cases c:x.natAbs=q.natAbs/\(x.natAbs=y.natAbs+1\/y.natAbs=x.natAbs+1)
  ·have k0:idx [x,y,q] 0=some x:=rfl;have k1:idx [x,y,q] 1=some y:=rfl;have k2:idx [x,y,q] 2=some q:=rfl;unfold xO at e';simp only[k0,k1,k2,ZB,rX,rY,rZ,e0,ad,qho bx.1,qho by_.1,qho bz.1]at e';rw[if_pos (show((x.natAbs:Nat):Int)=((q.natAbs:Nat):Int)by omega),if_pos (show((((x.natAbs:Int)-(y.natAbs:Int)).natAbs:Nat):Int)=1 by omega)]at e';rcases sg with s|s
   ·rw[if_pos s]at e';exact absurd e' (by decide)
   by_cases s':sg5 x=sg5 y
   ·rw[if_pos s']at e';exact absurd e' (by decide)
   rw[if_neg s',decide_eq_true s]at e';exact absurd e' (by decide)
  rw[if_neg c]at e;cases e
 rw[e]at t1;obtain rfl:=Ye t1
 have r2:qgw w (u.length:Int) ((u.length+3:Nat):Int) l=some (w.take u.length++l++w.drop (u.length+3)):=by
  unfold qgw;rw[if_pos ⟨by omega,by rw[t2];omega⟩,qbC (by omega) (by omega) (by omega)]
 rw[t3,ZB,if_neg (by decide),vD (by omega),ZB,t4,ZB,r2,ZB,td.1,td.2]
end
theorem apb2 {α:Type} (l:List α) (x y:α) (r:List α):l++[x]++[y]++r=l++x::y::r:=by simp
theorem apb1 {α:Type} (l:List α) (x:α) (r:List α):l++[x]++r=l++x::r:=by simp
def Chn (N n:Nat):List Int->List qx->List Int->Prop
 |w,[],v=>w=v
 |w,m::ms,v=> ∃u,qJ N (n:Int) w m=some (u,0)/\Mv n w u/\Chn N n u ms v
theorem Chn.app {N n:Nat}: ∀{ms:List qx} {w v u:List Int} {ns:List qx},Chn N n w ms v->Chn N n v ns u->Chn N n w (ms++ns) u
 |[],w,v,u,ns,h,k=>by obtain rfl:w=v:=h;exact k
 |m::ms,w,v,u,ns,⟨x,h1,hm,h2⟩,k=>⟨x,h1,hm,h2.app k⟩
theorem Chn.one {N n:Nat} {w v:List Int} {m:qx} (h:qJ N (n:Int) w m=some (v,0)) (hm:Mv n w v):Chn N n w [m] v:=⟨v,h,hm,rfl⟩
theorem qoF {N n:Nat} {v:List Int} {l:List qx} (hl:l.length<=100000): ∀(K i:Nat) (w:List Int),i<=l.length->l.length<K+i->Chn N n w (l.drop i) v->xc N (n:Int) l K w (i:Int)=some (.inl v)
 |0,i,w,hi,hK,h=>by omega
 |K+1,i,w,hi,hK,h=>by
  unfold xc;by_cases c:i<l.length
  ·rw[YG c]at h;obtain⟨u,h1,_,h2⟩:=h;rw[if_pos (by omega),qw,Ya c,ZB,h1,ZB,if_neg (show¬(!decide ((0:Int)=0))=true by decide),qR (by omega)];exact qoF hl K (i+1) u (by omega) (by omega) h2
  rw[List.drop_eq_nil_of_le (by omega)]at h;obtain rfl:w=v:=h;rw[if_neg (by omega)]
section
variable {N:Nat} (hN:110000<N) {n:Nat} (h1:1<=n) (h2:n<=12)
include hN h1 h2
theorem qga {a b:List Int} (A:vK n a) (B:vK n b) {l:List qx} (hl:l.length<=100000) (h:Chn N n a l b):yR N (n:Int) a b l=some 0:=by
 have la:=A.len;have lb:=B.len;have m:=qoF hl N 0 a (Nat.zero_le _) (by omega) h;rw[show((0:Nat):Int)=0 from rfl]at m;unfold yR qdJ;rw[qci (by omega) A B,ZB,if_neg (by decide),if_neg (by omega),vD (by omega),ZB,m];simp only[ZB];rw[qec (by omega) (by omega),ZB,decide_eq_true rfl,jG,ZB,qan (by simp) (by simp;omega)];rfl
omit h1 h2 hN in
theorem qlJ {w v:List Int} {o:Option (List qx)} {k:Str} {A L:Int} (h:qJ N (n:Int) w (⟨k,A,L⟩:qx)=some (v,0)) (ho:(hof o).length<=1000000):jk N (n:Int) w o k A L=some (v,hof o++[(⟨k,A,L⟩:qx)]):=by
 unfold jk;rw[h]
 cases o with
 |none=>rfl
 |some l=>
  have hl:l.length<=1000000:=ho;simp only[ZB];rw[qa0 (by simp;omega) (by simp;omega)];rfl
omit h1 h2 hN in
theorem qvA {w v:List Int} {l:List qx} {k:Str} {A L:Int} (h:qJ N (n:Int) w (⟨k,A,L⟩:qx)=some (v,0)) (hl:l.length<=1000000):yV N (n:Int) w l k A L=some (v,l++[(⟨k,A,L⟩:qx)]):=by
 unfold yV;rw[h];simp only[ZB];rw[qa0 (by simp;omega) (by simp;omega)];rfl
def InH (n:Nat) (x:Int) (m:List Int):Prop:= ∀z∈m,(z≠0/\ -(n:Int)<z/\z<n)/\z.natAbs≠x.natAbs/\z.natAbs+1≠x.natAbs
omit h1 h2 hN in
theorem trn_I {x z:Int} (hx:x≠0) (hz:z≠0) (h:z.natAbs=x.natAbs+1):qcG x z (-x)=some (qbD x z)/\(sg5 x=sg5 z\/sg5 z=sg5 (-x)):=by
 have hn:(-x).natAbs=x.natAbs:=Int.natAbs_neg x;unfold qcG qbD;rw[if_pos (show x.natAbs=(-x).natAbs/\(x.natAbs=z.natAbs+1\/z.natAbs=x.natAbs+1)from⟨hn.symm,.inr h⟩),if_pos h];unfold sg5;by_cases px:x<0
 ·have e1:(if x<0 then(-1:Int)else 1)= -1:=if_pos px;have e2:(if-x<0 then(-1:Int)else 1)=1:=if_neg (by omega);by_cases pz:z<0
  ·have e3:(if z<0 then(-1:Int)else 1)= -1:=if_pos pz;have:0<x*z:=Int.mul_pos_of_neg_of_neg px pz;rw[e1,e2,e3,if_pos rfl,if_pos this];refine⟨?_,.inl rfl⟩;rw[show(1:Int)*(z.natAbs:Int)= -z by omega]
  have e3:(if z<0 then(-1:Int)else 1)=1:=if_neg pz
  have: ¬0<x*z:=by
   have:=Int.mul_neg_of_neg_of_pos px (show 0<z by omega);omega
  rw[e1,e2,e3,if_neg (by decide),if_pos rfl,if_neg this];refine⟨?_,.inr rfl⟩;rw[show(-1:Int)*(z.natAbs:Int)= -z by omega]
 have e1:(if x<0 then(-1:Int)else 1)=1:=if_neg px;have e2:(if-x<0 then(-1:Int)else 1)= -1:=if_pos (by omega);by_cases pz:z<0
 ·have e3:(if z<0 then(-1:Int)else 1)= -1:=if_pos pz
  have: ¬0<x*z:=by
   have:=Int.mul_neg_of_pos_of_neg (show 0<x by omega) pz;omega
  rw[e1,e2,e3,if_neg (by decide),if_pos rfl,if_neg this];refine⟨?_,.inr rfl⟩;rw[show(1:Int)*(z.natAbs:Int)= -z by omega]
 have e3:(if z<0 then(-1:Int)else 1)=1:=if_neg pz;have:0<x*z:=Int.mul_pos (by omega) (by omega);rw[e1,e2,e3,if_pos rfl,if_pos this];refine⟨?_,.inl rfl⟩;rw[show(-1:Int)*(z.natAbs:Int)= -z by omega]
omit h1 h2 hN in
theorem qrf {x z:Int} (h:z.natAbs=x.natAbs+1):(qbD x z).length=3:=by
 unfold qbD;rw[if_pos h];split<;>rfl
omit h1 h2 hN in
theorem qq8 {x z:Int} (h:z.natAbs≠x.natAbs+1):qbD x z=[z]:=if_neg h
theorem qkV {x:Int} (hx:x≠0/\ -(n:Int)<x/\x<n) {w0:List Int} (t:List Int): ∀(m:List Int) (K:Nat) (u:List Int) (o:Option (List qx)),InH n x m->m.length<K->u.length+3*m.length+t.length<=3900->w0.length<=4000->(hof o).length+2*m.length<=999000->
 ∃ms,qZ N (n:Int) w0 x K (u++x::m++ -x::t) o (u.length:Int)=some (u++m.flatMap (qbD x)++t,hof o++ms,((u++m.flatMap (qbD x)++t).length:Int)-(w0.length:Int))/\Chn N n (u++x::m++ -x::t) ms (u++m.flatMap (qbD x)++t)/\ms.length<=2*m.length+1
 |[],0,u,o,hm,hK,hl,hw,ho=>by omega
 |z::m,0,u,o,hm,hK,hl,hw,ho=>by omega
 |[],K+1,u,o,hm,hK,hl,hw,ho=>by
  simp only[List.length_nil]at hl ho
  have ww:u++x::[]++ -x::t=u++[x,-x]++t:=by simp
  have ap:=qkb (N:=N) (by omega) h1 h2 (u:=u) (v:=t) (x:=x) (by simp;omega) (by omega);have g1:(u++[x,-x]++t)[u.length+1]? =some (-x):=qck [x,-x] 1 (by simp);refine⟨[⟨mCan,(u.length:Int),0⟩],?_,?_,by simp⟩
  ·rw[ww];unfold qZ;rw[qR (by omega),qw,g1,ZB,if_pos (by rw[qz (by omega) (by omega)];omega),qlJ ap (by omega)];simp only[ZB,List.flatMap_nil,YQ];rw[qz (by omega) (by simp;omega)]
  rw[ww];simp only[List.flatMap_nil,YQ];exact Chn.one ap Mv.can
 |z::m,K+1,u,o,hm,hK,hl,hw,ho=>by
  obtain⟨bz,c1,c2⟩:=hm z (List.mem_cons_self ..)
  have hm':InH n x m:=fun y hy=>hm y (List.mem_cons_of_mem _ hy)
  simp only[Yr]at hK hl ho;have ax:=zW (show-1000<x/\x<1000 by omega);have az:=zW (show-1000<z/\z<1000 by omega);have e0:w64 (((x.natAbs:Nat):Int)-((z.natAbs:Nat):Int))=(x.natAbs:Int)-(z.natAbs:Int):=qz (by omega) (by omega);have ad:=zW (show-1000<(x.natAbs:Int)-(z.natAbs:Int)/\(x.natAbs:Int)-(z.natAbs:Int)<1000 by omega)
  have ww:u++x::z::m++ -x::t=u++[x,z]++(m++ -x::t):=by simp
  have g1:(u++[x,z]++(m++ -x::t))[u.length+1]? =some z:=qck [x,z] 1 (by simp)
  have nx: ¬z=w64 (0-x):=by rw[qz (by omega) (by omega)];omega
  by_cases far:z.natAbs=x.natAbs+1
  ·
   obtain⟨tr,sg⟩:=trn_I hx.1 bz.1 far;have l3:=qrf far;have ap1:=qhN (N:=N) (by omega) h1 h2 (u:=u++[x,z]) (v:=m++ -x::t) (by simp;omega) (L:= -x) (by omega);rw[Int.neg_neg]at ap1
   have w2:u++[x,z]++[-x,x]++(m++ -x::t)=u++[x,z,-x]++(x::m++ -x::t):=by simp
   have ap2:=qj6 (N:=N) (by omega) h1 h2 (u:=u) (v:=x::m++ -x::t) (x:=x) (y:=z) (q:= -x) (l:=qbD x z) (by simp;omega) hx bz (by omega) tr sg;rw[<-w2]at ap2
   have w3:u++qbD x z++(x::m++ -x::t)=(u++qbD x z)++x::m++ -x::t:=by simp
   rw[w3]at ap2
   have lu:(u++qbD x z).length=u.length+3:=by rw[Yq,l3]
   have la:(u++[x,z]).length=u.length+2:=by simp
   rw[la]at ap1
   obtain⟨ms,q1,q2,q3⟩:=qkV hx t m K (u++qbD x z) (some (hof o++[⟨qpU,((u.length+2:Nat):Int),-x⟩]++[⟨mTrn,(u.length:Int),0⟩])) hm' (by omega) (by rw[lu];omega) hw (by
    show(hof o++[_]++[_]).length+_<=_
    simp;omega)
   have fl:(z::m).flatMap (qbD x)=qbD x z++m.flatMap (qbD x):=List.flatMap_cons
   have wf:u++(z::m).flatMap (qbD x)++t=(u++qbD x z)++m.flatMap (qbD x)++t:=by rw[fl];simp
   rw[wf];refine⟨⟨qpU,((u.length+2:Nat):Int),-x⟩::⟨mTrn,(u.length:Int),0⟩::ms,?_,?_,by simp only[Yr];omega⟩
   ·rw[ww];unfold qZ;rw[qR (by omega),qw,g1,ZB,if_neg nx];simp only[ax,az,e0,ad,ZB]
    have a2:w64 ((u.length:Int)+2)=((u.length+2:Nat):Int):=by rw[qz (by omega) (by omega)];rfl
    have a3:w64 ((u.length:Int)+3)=((u.length+3:Nat):Int):=by rw[qz (by omega) (by omega)];rfl
    have nx':w64 (0-x)= -x:=by rw[qz (by omega) (by omega)];omega
    rw[if_neg (by omega),a2,nx',qlJ ap1 (by omega)];simp only[ZB];rw[qvA ap2 (by simp;omega)];simp only[ZB];rw[a3,<-lu,q1];show some (_,(hof o++[_]++[_])++ms,_)=_;rw[apb2]
   rw[ww];have m1:=Mv.ins (n:=n) (u:=u++[x,z]) (v:=m++ -x::t) (x:= -x) (by omega);rw[Int.neg_neg]at m1;have m2:=Mv.trn (n:=n) (u:=u) (v:=x::m++ -x::t) tr;rw[<-w2,w3]at m2;exact⟨_,ap1,m1,_,ap2,m2,q2⟩
  
  have ap:=qkk (N:=N) (by omega) h1 h2 (u:=u) (v:=m++ -x::t) (x:=x) (y:=z) (by simp;omega) (by omega) (by omega) (by omega)
  have w3:u++[z,x]++(m++ -x::t)=(u++[z])++x::m++ -x::t:=by simp
  rw[w3]at ap
  have lu:(u++[z]).length=u.length+1:=by simp
  obtain⟨ms,q1,q2,q3⟩:=qkV hx t m K (u++[z]) (some (hof o++[⟨qqM,(u.length:Int),0⟩])) hm' (by omega) (by rw[lu];omega) hw (by
   show(hof o++[_]).length+_<=_
   simp;omega)
  have fl:(z::m).flatMap (qbD x)=[z]++m.flatMap (qbD x):=by rw[List.flatMap_cons,qq8 far]
  have wf:u++(z::m).flatMap (qbD x)++t=(u++[z])++m.flatMap (qbD x)++t:=by rw[fl];simp
  rw[wf];refine⟨⟨qqM,(u.length:Int),0⟩::ms,?_,?_,by simp only[Yr];omega⟩
  ·rw[ww];unfold qZ;rw[qR (by omega),qw,g1,ZB,if_neg nx];simp only[ax,az,e0,ad,ZB];rw[if_pos (by omega),qlJ ap (by omega)];simp only[ZB];rw[<-lu,q1];show some (_,(hof o++[_])++ms,_)=_;rw[apb1 (hof o)]
  rw[ww];have m1:=Mv.swp (n:=n) (u:=u) (v:=m++ -x::t) (x:=x) (y:=z) (by unfold qlK;rw[Bool.or_eq_true,Nat.ble_eq,Nat.ble_eq];omega);rw[w3]at m1;exact⟨_,ap,m1,q2⟩
end
def adv:List Int->List Int->Option (List Int×List Int×Int×List Int)
 |s,[]=>none
 |s,y::r=>match scI y s []with
  |none=>adv (y::s) r
  |some (s',m)=>some (s',m,y,r)
theorem qiL {y:Int}: ∀{s m s' m':List Int},scI y s m=some (s',m')->s.reverse++m=s'.reverse++ -y::m'/\(∀z∈m',z∈m\/(z.natAbs≠y.natAbs/\z.natAbs+1≠y.natAbs))/\s'.length<=s.length
 |[],m,s',m',h=>by cases h
 |z::s,m,s',m',h=>by
  unfold scI at h;split at h
  ·rename_i c;obtain⟨rfl,rfl⟩:=Prod.mk.inj (Ye h);exact⟨by simp[c],fun z hz=> .inl hz,Nat.le_succ _⟩
  split at h
  ·cases h
  rename_i c d;obtain⟨h1,h2,h3⟩:=qiL h;refine⟨by rw[<-h1];simp,fun x hx=>?_,Nat.le_succ_of_le h3⟩;rcases h2 x hx with h|h
  ·rcases List.mem_cons.1 h with rfl|h
   ·exact .inr ⟨fun e=>d (.inl e),fun e=>d (.inr e)⟩
   exact .inl h
  exact .inr h
theorem qkO: ∀(p s r:List Int),adv s p=none->adv s (p++r)=adv (p.reverse++s) r
 |[],s,r,h=>rfl
 |y::p,s,r,h=>by
  unfold adv at h;rw[List.cons_append,adv]
  cases c:scI y s []with
  |some q=>rw[c]at h;cases h
  |none=>
   rw[c]at h;dsimp only at h⊢;rw[qkO p _ r h];simp
theorem qpy: ∀(p s r:List Int),adv s (p++r)=none->adv s p=none
 |[],s,r,h=>rfl
 |y::p,s,r,h=>by
  rw[List.cons_append]at h;unfold adv at h⊢
  cases c:scI y s []with
  |some q=>rw[c]at h;cases h
  |none=>rw[c]at h;exact qpy p _ r h
theorem qfO: ∀{J:Nat} {s r v:List Int},hrI J s r=some v->r.length<J
 |0,s,r,v,h=>by cases h
 |J+1,s,[],v,h=>Nat.succ_pos _
 |J+1,s,y::r,v,h=>by
  unfold hrI at h
  cases c:scI y s []with
  |none=>rw[c]at h;have:=qfO h;simp;omega
  |some q=>
   rw[c]at h;have:=qfO h;simp only[qdA,Yq]at this;simp;omega
def hres (p:List Int):Int×Int×Bool:=match adv [] p with
 |none=>(0,0,false)
 |some (s',m,y,r)=>((s'.length:Int),((s'.length+1+m.length:Nat):Int),true)
theorem quP {w:List Int} {y:Int} {j:Nat} (hy:w[j]? =some y) (hw: ∀z∈w,-1000<z/\z<1000): ∀(s m p:List Int) (K:Nat),w=s.reverse++p->s.length<K->s.length<=100000->
 qM w (j:Int) K ((s.length:Int)-1)=(match scI y s m with
  |none=>some (.inl ())
  |some (s',_)=>some (.inr ((s'.length:Int),(j:Int),true)))
 |s,m,p,0,e,hK,hl=>by omega
 |[],m,p,K+1,e,hK,hl=>by
  unfold qM;rw[if_neg (by simp)];rfl
 |z::t,m,p,K+1,e,hK,hl=>by
  simp only[Yr]at hK hl
  have e2:w=t.reverse++z::p:=by rw[e];simp
  have gz:w[t.length]? =some z:=by
   rw[e2,Yo (by simp)];simp
  have bz:=hw z (Yn gz);have bY:=hw y (Yn hy)
  have l1:((z::t).length:Int)-1=(t.length:Int):=by simp
  unfold qM;rw[l1,if_pos (by omega),qw,gz,ZB,qw,hy,ZB,show w64 (0-y)= -y from(qz (by omega) (by omega)).trans (by omega)];unfold scI;by_cases c:z= -y
  ·rw[if_pos c,if_pos c]
  rw[if_neg c,if_neg c,zW bz,zW bY];simp only[ZB];by_cases d:z.natAbs=y.natAbs
  ·rw[if_pos (show((z.natAbs:Nat):Int)=((y.natAbs:Nat):Int)by omega),ZB,if_pos rfl,if_pos (.inl d)]
  rw[if_neg (show¬((z.natAbs:Nat):Int)=((y.natAbs:Nat):Int)by omega),ZB,qz (by omega) (by omega)];by_cases f:z.natAbs+1=y.natAbs
  ·rw[decide_eq_true (show((z.natAbs:Nat):Int)=((y.natAbs:Nat):Int)-1 by omega),if_pos rfl,if_pos (.inr f)]
  rw[decide_eq_false (show¬((z.natAbs:Nat):Int)=((y.natAbs:Nat):Int)-1 by omega),if_neg (by decide),if_neg (by omega),qz (by omega) (by omega)];exact quP hy hw t (z::m) (z::p) K e2 (by omega) (by omega)
theorem quE {N:Nat} {w t:List Int} (hw: ∀z∈w,-1000<z/\z<1000) (hN:w.length<N) (hl:w.length<=100000): ∀(r s:List Int) (K L:Nat),w=s.reverse++r++t->r.length<K->L=s.length+r.length->
 qL N w (L:Int) K (s.length:Int)=(match adv s r with
  |none=>some (.inl ())
  |some (s',m,y,r)=>some (.inr ((s'.length:Int),((s'.length+1+m.length:Nat):Int),true)))
 |r,s,0,L,e,hK,hL=>by omega
 |[],s,K+1,L,e,hK,hL=>by
  unfold qL;rw[if_neg (by simp at hL;omega)];rfl
 |y::r,s,K+1,L,e,hK,hL=>by
  simp only[Yr]at hK hL
  have lw:w.length=s.length+(r.length+1)+t.length:=by rw[e];simp;omega
  have gy:w[s.length]? =some y:=by
   rw[e,Yz,Yo (by simp)];simp
  have h1:=quP gy hw s [] (y::r++t) N (by rw[e];simp) (by omega) (by omega);unfold qL;rw[if_pos (by omega),qz (n:=(s.length:Int)-1) (by omega) (by omega),h1];unfold adv
  cases c:scI y s []with
  |none=>
   simp only[ZB];rw[qR (by omega)];exact quE (t:=t) hw hN hl r (y::s) K L (by rw[e];simp) (by omega) (by simp;omega)
  |some q=>
   obtain⟨s',m⟩:=q;have sp:=(qiL c).1;have:=congrArg List.length sp;simp at this;simp only[ZB];rw[show s.length=s'.length+1+m.length by omega]
theorem qkj {N:Nat} {p t:List Int} (hw: ∀z∈p++t,-1000<z/\z<1000) (hN:(p++t).length<N) (hl:(p++t).length<=100000) (n:Int) (o:Option (List qx)):jm N n (p++t) o (p.length:Int)=some (hres p):=by
 have:=quE (t:=t) hw hN hl p [] N p.length (by simp) (by simp at hN;omega) (by simp);unfold jm hres;rw[show((0:Int))=(([]:List Int).length:Int)from rfl,this]
 cases adv [] p with
 |none=>rfl
 |some q=>obtain⟨s',m,y,r⟩:=q;rfl
theorem h2_L1:@zx=@qM:=by
 funext w j K
 induction K with
 |zero=>rfl
 |succ K ih=>
  funext n8;unfold zx qM;rw[ih]
theorem h2_L0:@zu=@qL:=by
 funext N w L K
 induction K with
 |zero=>rfl
 |succ K ih=>
  funext n4;unfold zu qL;rw[ih,h2_L1]
theorem qn1 {N:Nat} {p t:List Int} (hw: ∀z∈p++t,-1000<z/\z<1000) (hN:(p++t).length<N) (hl:(p++t).length<=100000) (n:Int) (o:List qx):vg N n (p++t) o (p.length:Int)=some (hres p):=by
 have:=qkj hw hN hl n none;unfold jm at this;unfold vg;rw[h2_L0];exact this
theorem flat_len (y:Int): ∀m:List Int,m.length<=(m.flatMap (qbD y)).length
 |[]=>Nat.le_refl _
 |z::m=>by
  rw[List.flatMap_cons,Yq,Yr];have:=flat_len y m
  have:1<=(qbD y z).length:=by unfold qbD;split<;>(try split)<;>simp
  omega
section
variable {N:Nat} (hN:110000<N) {n:Nat} (h1:1<=n) (h2:n<=12)
include hN h1 h2
theorem qoO {t:List Int} (ht:t.length<=20) (lt:yQ n t): ∀(J:Nat) (s r v:List Int),hrI J s r=some v->adv [] s.reverse=none->yQ n (s.reverse++r)->s.length+J<=1140-> ∀(K:Nat) (o:Option (List qx)),J<K->(hof o).length+2*(J-r.length)+J<=900000->
 ∃o' ms,vz N (n:Int) K (s.reverse++r++t) o ((s.reverse++r).length:Int) (hres (s.reverse++r)).1 (hres (s.reverse++r)).2.1 (hres (s.reverse++r)).2.2=some (v.reverse++t,o')/\hof o'=hof o++ms/\Chn N n (s.reverse++r++t) ms (v.reverse++t)/\ms.length<=2*(J-r.length)+J
 |0,s,r,v,h,hf,hp,hl,K,o,hK,ho=>by cases h
 |J+1,s,r,v,h,hf,hp,hl,0,o,hK,ho=>by omega
 |J+1,s,[],v,h,hf,hp,hl,K+1,o,hK,ho=>by
  obtain rfl:=Ye h
  have e:hres (s.reverse++[])=(0,0,false):=by unfold hres;rw[YQ,hf]
  refine⟨o,[],?_,by simp,?_,by simp⟩
  ·rw[e];unfold vz;rw[if_neg (by decide),YQ]
  rw[YQ];rfl
 |J+1,s,y::r,v,h,hf,hp,hl,K+1,o,hK,ho=>by
  have lr:=qfO h;unfold hrI at h
  have hpa:adv [] (s.reverse++y::r)=adv s (y::r):=by
   rw[qkO s.reverse [] (y::r) hf];simp
  cases c:scI y s []with
  |none=>
   rw[c]at h;have lr2:=qfO h
   have e:s.reverse++y::r=(y::s).reverse++r:=by simp
   have hf2:adv [] (y::s).reverse=none:=by
    rw[List.reverse_cons,qkO s.reverse [] [y] hf];simp only[List.reverse_reverse,YQ];unfold adv;rw[c];rfl
   rw[e]at hp⊢;obtain⟨o',ms,q1,q2,q3,q4⟩:=qoO ht lt J (y::s) r v h hf2 hp (by simp only[Yr];omega) (K+1) o (by omega) (by simp only[Yr]at ho;omega);exact⟨o',ms,q1,q2,q3,by simp only[Yr];omega⟩
  |some q=>
   obtain⟨s',m⟩:=q;rw[c]at h;dsimp only at h;have lr2:=qfO h;obtain⟨sp,sm,sl⟩:=qiL c;rw[YQ]at sp;have spl:=congrArg List.length sp;simp only[Yq,List.length_reverse,Yr]at spl;simp only[Yr]at lr ho
   have gl:(qdA y m r).length=(m.flatMap (qbD (-y))).length+r.length:=by unfold qdA;rw[Yq]
   have fl:=flat_len (-y) m;have by_:=hp y (by simp)
   have er:hres (s.reverse++y::r)=((s'.length:Int),((s'.length+1+m.length:Nat):Int),true):=by
    unfold hres;rw[hpa];unfold adv;rw[c]
   have ew:s.reverse++y::r++t=s'.reverse++ -y::m++ - -y::(r++t):=by rw[sp,Int.neg_neg];simp
   have lm: ∀z∈m,z≠0/\ -(n:Int)<z/\z<n:=fun z hz=>hp z (List.mem_append_left _ (by rw[sp];exact List.mem_append_right _ (List.mem_cons_of_mem _ hz)))
   have ih:InH n (-y) m:=fun z hz=>by
    refine⟨lm z hz,?_⟩;rw[Int.natAbs_neg];rcases sm z hz with h|h
    ·cases h
    exact h
   have lw:(s.reverse++y::r++t).length=s.length+1+r.length+t.length:=by simp;omega
   obtain⟨ms1,a1,a2,a3⟩:=qkV hN h1 h2 (x:= -y) (by omega) (w0:=s.reverse++y::r++t) (r++t) m N s'.reverse o ih (by omega) (by simp only[List.length_reverse,Yq];omega) (by omega) (by omega);rw[<-ew]at a1 a2
   have e3:s'.reverse++m.flatMap (qbD (-y))++(r++t)=s'.reverse++qdA y m r++t:=by unfold qdA;simp
   rw[e3]at a1 a2;have hf2:adv [] s'.reverse=none:=qpy s'.reverse [] (-y::m) (by rw[<-sp];exact hf)
   have lp:yQ n (s'.reverse++qdA y m r):=fun z hz=>by
    rcases List.mem_append.1 hz with hz|hz
    ·exact hp z (List.mem_append_left _ (by rw[sp];exact List.mem_append_left _ hz))
    unfold qdA at hz;rcases List.mem_append.1 hz with hz|hz
    ·obtain⟨q,hq,hz⟩:=List.mem_flatMap.1 hz;have bq:=lm q hq;unfold qbD at hz;split at hz
     ·split at hz
      ·simp at hz;rcases hz with rfl|rfl|rfl<;>omega
      simp at hz;rcases hz with rfl|rfl|rfl<;>omega
     simp at hz;subst hz;exact bq
    exact hp z (List.mem_append_right _ (List.mem_cons_of_mem _ hz))
   have l1000: ∀z∈s'.reverse++qdA y m r++t,-1000<z/\z<1000:=fun z hz=>by
    rcases List.mem_append.1 hz with hz|hz
    ·have:=lp z hz;omega
    have:=lt z hz;omega
   have lw2:(s'.reverse++qdA y m r++t).length=s'.length+(qdA y m r).length+t.length:=by simp;omega
   have ms1l:(hof (some (hof o++ms1))).length+2*(J-(qdA y m r).length)+J<=900000:=by
    show(hof o++ms1).length+2*(J-(qdA y m r).length)+J<=900000;rw[Yq];omega
   obtain⟨o',ms,q1,q2,q3,q4⟩:=qoO ht lt J s' (qdA y m r) v h hf2 lp (by omega) K (some (hof o++ms1)) (by omega) ms1l;have q2:hof o'=(hof o++ms1)++ms:=q2;refine⟨o',ms1++ms,?_,by rw[q2,Yz],a2.app q3,by rw[Yq,Yr];omega⟩;rw[er];unfold vz
   have gx:idx (s.reverse++y::r++t) (s'.length:Int)=some (-y):=by
    rw[ew,qw,Yz,Yo (by simp)];simp
   unfold xA;dsimp only;rw[if_pos rfl,gx];simp only[ZB];rw[show(s'.length:Int)=(s'.reverse.length:Int)by simp,a1];simp only[ZB]
   have len:w64 (((s.reverse++y::r).length:Int)+(((s'.reverse++qdA y m r++t).length:Int)-((s.reverse++y::r++t).length:Int)))=((s'.reverse++qdA y m r).length:Int):=by
    have x1:(s.reverse++y::r++t).length=(s.reverse++y::r).length+t.length:=Yq;have x2:(s'.reverse++qdA y m r++t).length=(s'.reverse++qdA y m r).length+t.length:=Yq;rw[qz (by omega) (by omega)];omega
   rw[len,qn1 l1000 (by omega) (by omega)];simp only[ZB];exact q1
end
def qaF (b:List Int):List Int:=(b.map fun x=> -x).reverse
theorem qjm (b:List Int):(qaF b).length=b.length:=by simp[qaF]
theorem qpS (x:Int) (b:List Int):qaF (x::b)=qaF b++[-x]:=by simp[qaF]
section
variable {N:Nat} (hN:110000<N) {n:Nat} (h1:1<=n) (h2:n<=12) {a b:List Int} (A:vK n a) (B:vK n b)
include hN h1 h2 A B
theorem bk_L: ∀(j K:Nat) (o:Option (List qx)),j<=b.length->j<K->(hof o).length+j<=1000->
 ∃o' ms,qQ N a b (n:Int) b K (a++qaF (b.drop j)++b.drop j) o ((j:Int)-1)=some (a++qaF b++b,o')/\hof o'=hof o++ms/\Chn N n (a++qaF (b.drop j)++b.drop j) ms (a++qaF b++b)/\ms.length=j
 |j,0,o,hj,hK,ho=>by omega
 |0,K+1,o,hj,hK,ho=>by
  refine⟨o,[],?_,by simp,rfl,rfl⟩;unfold qQ;rw[if_neg (by simp),YR]
 |j+1,K+1,o,hj,hK,ho=>by
  have la:=A.len;have lb:=B.len;have hx:b[j]? =some b[j]:=Ya hj;have bx:=B.let_ _ (List.getElem_mem hj);have dj:b.drop j=b[j]::b.drop (j+1):=YG hj;have ld:(b.drop (j+1)).length=b.length-(j+1):=YJ ..
  have lu:(a++qaF (b.drop (j+1))).length=a.length+b.length-1-j:=by rw[Yq,qjm,ld];omega
  have ap:=qhN (N:=N) (by omega) h1 h2 (u:=a++qaF (b.drop (j+1))) (v:=b.drop (j+1)) (by rw[Yq,lu,ld];omega) (L:= -b[j]) (by omega);rw[Int.neg_neg,lu]at ap
  have w2:a++qaF (b.drop (j+1))++[-b[j],b[j]]++b.drop (j+1)=a++qaF (b.drop j)++b.drop j:=by rw[dj,qpS];simp
  rw[w2]at ap
  obtain⟨o',ms,q1,q2,q3,q4⟩:=bk_L j K (some (hof o++[⟨qpU,((a.length+b.length-1-j:Nat):Int),-b[j]⟩])) (by omega) (by omega) (by
   show(hof o++[_]).length+j<=1000
   rw[Yq];simp;omega)
  have q2:hof o'=(hof o++[_])++ms:=q2;have m1:=Mv.ins (n:=n) (u:=a++qaF (b.drop (j+1))) (v:=b.drop (j+1)) (x:= -b[j]) (by omega);rw[Int.neg_neg,w2]at m1;refine⟨o',_::ms,?_,by rw[q2,apb1],⟨_,ap,m1,q3⟩,by rw[Yr,q4]⟩;unfold qQ qbS
  have e1:((j+1:Nat):Int)-1=(j:Int):=by omega
  rw[e1,if_pos (by omega),qw,hx,ZB]
  have z1:w64 (w64 (w64 ((a.length:Int)+(b.length:Int))-1)-(j:Int))=((a.length+b.length-1-j:Nat):Int):=by
   rw[qz (n:=(a.length:Int)+(b.length:Int)) (by omega) (by omega),qz (n:=(a.length:Int)+(b.length:Int)-1) (by omega) (by omega),qz (by omega) (by omega)];omega
  have z2:w64 (0-b[j])= -b[j]:=by rw[qz (by omega) (by omega)];omega
  rw[z1,z2,qlJ ap (by omega)];simp only[ZB];rw[qz (by omega) (by omega)];exact q1
theorem qr8 (la:a.length<=7) (lb:b.length<=7) (E:zK N (n:Int) a b=some true) {J:Nat} (hJ:J<=1140) (R:hrI J [] (a++qaF b)=some []): ∃l,qa8 N (n:Int) a b=some (l,0)/\Chn N n a l b/\l.length<=100000:=by
 obtain⟨o,ms,b1,b2,b3,b4⟩:=bk_L hN h1 h2 A B b.length N none (Nat.le_refl _) (by omega) (by simp;omega);have dl:b.drop b.length=[]:=List.drop_length;rw[dl,show qaF []=[]from rfl,YQ,YQ]at b1 b3;have lr:=qfO R;have b2:hof o=[]++ms:=b2;rw[List.nil_append]at b2
 have lab:(a++qaF b).length=a.length+b.length:=by rw[Yq,qjm]
 have lt:yQ n (a++qaF b):=fun z hz=>by
  rcases List.mem_append.1 hz with hz|hz
  ·exact A.let_ z hz
  simp only[qaF,List.mem_reverse,List.mem_map]at hz;obtain⟨y,hy,rfl⟩:=hz;have:=B.let_ y hy;omega
 obtain⟨o',ms',q1,q2,q3,q4⟩:=qoO hN h1 h2 (t:=b) (by omega) B.let_ J [] (a++qaF b) [] R rfl lt (by simp;omega) N o (by omega) (by rw[b2,b4];omega);rw[b2]at q2;have q1:vz N (n:Int) N (a++qaF b++b) o ((a++qaF b).length:Int) (hres (a++qaF b)).1 (hres (a++qaF b)).2.1 (hres (a++qaF b)).2.2=some (b,o'):=q1;have q3:Chn N n (a++qaF b++b) ms' b:=q3;refine⟨ms++ms',?_,b3.app q3,by rw[Yq,b4];omega⟩;unfold qa8
 have l1:w64 ((a.length:Int)+(b.length:Int))=((a++qaF b).length:Int):=by rw[qz (by omega) (by omega),lab];rfl
 have bw:=qkj (N:=N) (p:=a++qaF b) (t:=b) (fun z hz=>by
  rcases List.mem_append.1 hz with hz|hz
  ·have:=lt z hz;omega
  have:=B.let_ z hz;omega) (by rw[Yq,lab];omega) (by rw[Yq,lab];omega) (n:Int) o
 rw[qci (by omega) A B,ZB,jG,ZB,l1,decide_eq_false (by rw[lab];omega),if_neg (by decide),qan (by simp) (by simp;omega),ZB,if_neg (by decide),E,ZB,if_neg (by decide),vD (by omega),ZB];unfold yJ vL;rw[ZB,qz (n:=(b.length:Int)-1) (by omega) (by omega),b1];simp only[ZB];rw[bw];simp only[ZB];rw[q1];simp only[ZB];rw[q2]
theorem qq1 (la:a.length<=7) (lb:b.length<=7) (E:zK N (n:Int) a b=some false):qa8 N (n:Int) a b=some ([],23):=by
 unfold qa8;rw[qci (by omega) A B,ZB,jG,ZB,qz (by omega) (by omega),decide_eq_false (by omega),if_neg (by decide),qan (by simp) (by simp;omega),ZB,if_neg (by decide),E,ZB,if_pos (by decide)]
end
theorem qv6 (u v:W6):kw (u++v)=v.foldl (fun k x=>kSt x k) (kw u):=by unfold kw;rw[List.foldl_append]
noncomputable def qjw (v:W6):W6:=(v.map ng6).reverse
theorem i6_ng (x:L6):i6 (ng6 x)= -(i6 x):=by cases x<;>rfl
theorem qp9 (x:L6) (v:W6):qjw (x::v)=qjw v++[ng6 x]:=by simp[qjw]
theorem qtb (v:W6):(qjw v).map i6=qaF (v.map i6):=by
 unfold qjw qaF;rw[List.map_reverse,List.map_map,List.map_map];congr 1;apply List.map_congr_left;intro x _;exact i6_ng x
theorem qri: ∀(v:W6) (k:Nat),K4 k->(qjw v).foldl (fun k x=>kSt x k) (v.foldl (fun k x=>kSt x k) k)=k
 |[],k,h=>rfl
 |x::v,k,h=>by
  rw[qp9,List.foldl_append];show kSt (ng6 x) ((qjw v).foldl (fun k x=>kSt x k) (v.foldl (fun k x=>kSt x k) (kSt x k)))=k;rw[qri v _ (h.step x)];exact h.back x
theorem k0_4:K4 (kw []):=kw_4 []
theorem qtQ {u v:W6} (h:kw u=kw v):kw (u++qjw v)=kw []:=by
 rw[qv6,h];exact qri v _ k0_4
noncomputable def qhG:Nat->W6
 |0=>[]
 |k+1=> .a:: .A::qhG k
theorem qee: ∀k,(qhG k).length=2*k
 |0=>rfl
 |k+1=>by simp only[qhG,Yr,qee k];omega
theorem qfJ (v:W6): ∀k,kw (qhG k++v)=kw v
 |0=>rfl
 |k+1=>by
  have:kw (qhG (k+1)++v)=(qhG k++v).foldl (fun k x=>kSt x k) (kSt (ng6 .a) (kSt .a (kw []))):=rfl;rw[this,k0_4.back];exact qfJ v k
theorem qmt (r:List Int) (v:List Int): ∀(k J:Nat),hrI J [] ((qhG k).map i6++r)=some v-> ∃J',J'<=J/\hrI J' [] r=some v
 |0,J,h=>⟨J,Nat.le_refl _,h⟩
 |k+1,0,h=>by cases h
 |k+1,1,h=>by cases h
 |k+1,J+2,h=>by
  have h:hrI J [] ((qhG k).map i6++r)=some v:=h;obtain⟨J',h1,h2⟩:=qmt r v k J h;exact⟨J',by omega,h2⟩
theorem qgY {a b:W6} (la:a.length<=7) (lb:b.length<=7) (h:kw a=kw b): ∃J,J<=1121/\hrI J [] (a.map i6++qaF (b.map i6))=some []:=by
 obtain⟨h1,h2⟩:=qrc quk;by_cases p:(a.length+b.length)%2=0
 ·have e:=qfJ (a++qjw b) ((14-(a.length+b.length))/2)
  have:=h1 (qhG ((14-(a.length+b.length))/2)++(a++qjw b)) (by
   simp only[Yq,qee,qjw,List.length_reverse,List.length_map];omega) (by rw[e];exact qtQ h)
  rw[List.map_append]at this;obtain⟨J,j1,j2⟩:=qmt _ _ _ _ this;rw[List.map_append,qtb]at j2;exact⟨J,j1,j2⟩
 exfalso;by_cases q:a.length%2=1
 ·refine h2 (qhG ((7-a.length)/2)++a) (qhG ((6-b.length)/2)++b) (by rw[Yq,qee];omega) (by rw[Yq,qee];omega) ?_;rw[qfJ,qfJ,h]
 refine h2 (qhG ((7-b.length)/2)++b) (qhG ((6-a.length)/2)++a) (by rw[Yq,qee];omega) (by rw[Yq,qee];omega) ?_;rw[qfJ,qfJ,h]
noncomputable def c6 (x:Int):L6:=if x=1 then .a else if x= -1 then .A else if x=2 then .b else if x= -2 then .B else if x=3 then .c else .C
theorem c6_ok {x:Int} (h0:x≠0) (h1: -4<x) (h2:x<4):i6 (c6 x)=x:=by
 rcases(show x=1\/x= -1\/x=2\/x= -2\/x=3\/x= -3 by omega)with rfl|rfl|rfl|rfl|rfl|rfl<;>rfl
theorem qgo: ∀{w:List Int},(∀x∈w,x≠0/\ -4<x/\x<4)->(w.map c6).map i6=w
 |[],h=>rfl
 |x::w,h=>by
  have hx:=h x (List.mem_cons_self ..);rw[List.map_cons,List.map_cons,c6_ok hx.1 hx.2.1 hx.2.2,qgo fun y hy=>h y (List.mem_cons_of_mem _ hy)]
theorem quK {N:Nat} (hN:100000<N) {a b:List (List Int)} (ha: ∀x∈a,x.length<=1000) (hl:a.length<=300) (hab:a.length=b.length): ∀(K i:Nat),i<=a.length->a.length<K+i->qF N a b K (i:Int)=some (if a.drop i=b.drop i then .inl ()else .inr false)
 |0,i,h,hK=>by omega
 |K+1,i,h,hK=>by
  unfold qF;by_cases hi:i<a.length
  ·have hb:i<b.length:=by omega
   have hx:=ha _ (List.getElem_mem hi);rw[if_pos (by omega),qw,Ya hi,qw,Ya hb,ZB,ZB,qec (by omega) (by omega),ZB,YG hi,YG hb];by_cases c:a[i]=b[i]
   ·rw[decide_eq_true c,if_neg (by decide),qR (by omega),quK hN ha hl hab K (i+1) (by omega) (by omega),c];simp only[List.cons.injEq,true_and]
   rw[decide_eq_false c,if_pos (by decide),if_neg (fun h=>c (List.cons.inj h).1)]
  rw[if_neg (by omega),List.drop_eq_nil_of_le (by omega),List.drop_eq_nil_of_le (by omega),if_pos rfl]
theorem qno {N:Nat} (hN:100000<N) {a b:List (List Int)} (ha: ∀x∈a,x.length<=1000) (hl:a.length<=300):qN N a b=some (decide (a=b)):=by
 unfold qN;by_cases c:(a.length:Int)=(b.length:Int)
 ·have:=quK hN ha hl (b:=b) (by omega) N 0 (by omega) (by omega);rw[show((0:Nat):Int)=0 from rfl,YR,YR]at this;rw[decide_eq_true c,if_neg (by decide),this];by_cases e:a=b
  ·rw[if_pos e,decide_eq_true e];rfl
  rw[if_neg e,decide_eq_false e];rfl
 rw[decide_eq_false c,if_pos (by decide),decide_eq_false (fun e=>c (by rw[e]))]
theorem qlk (T:QTb): ∀(M:List Nat) (x:Nat),(qpN T x M).length=M.length+1
 |[],x=>rfl
 |s::r,x=>by rw[qa5,Yr,qlk T r,Yr]
theorem qpj (T:QTb) (H:Nat) (M:List Nat):(fmS T H M).2.length<=M.length:=by
 obtain⟨d,h,e,_⟩:=qs4 T H M;have:=congrArg List.length e;simp only[Yq,List.length_replicate]at this;omega
theorem qtq (T:QTb) (s:FmN) (c:Int):(fmL T s c).2.length<=s.2.length+1:=by
 unfold fmL fmN
 cases decide (0<c)with
 |true=>exact Nat.le_trans (qpj T _ _) (by rw[qlk];exact Nat.le_refl _)
 |false=>exact Nat.le_trans (qpj T _ _) (by rw[qlk,List.length_map];exact Nat.le_refl _)
theorem qpp (T:QTb): ∀(w:List Int) (s:FmN),(w.foldl (fmL T) s).2.length<=s.2.length+w.length
 |[],s=>Nat.le_refl _
 |c::w,s=>by
  rw[List.foldl_cons,Yr];have:=qpp T w (fmL T s c);have:=qtq T s c;omega
structure TOK (T:QTb):Prop where
 ok:T.Ok
 wd:T.Wd
 dm:qmX T
 n2:2<=T.n
 n4:T.n<=4
 row: ∀c,c<T.cnt->(T.dec c).length<=4
def rowB (T:QTb):Bool:=qal T.cnt fun c=>Nat.ble (T.dec c).length 4
theorem qn7 {T:QTb} (h1:T.ck=true) (h2:dmN T=true) (h3:T.cw=true) (h4:2<=T.n) (h5:T.n<=4) (h6:rowB T=true):TOK T:=
 ⟨QTb.ok h1,QTb.wd_ok (QTb.ok h1) h3,qvU h2,h4,h5,fun c hc=>Ys (xh h6 c hc)⟩
theorem tok2:TOK qT2:=qn7 qvP qwc qvd (by decide) (by decide) (by rfl)
theorem tok3:TOK qT3:=qn7 qvZ qvw qvf (by decide) (by decide) (by rfl)
theorem tok4:TOK qT4:=qn7 qvR qvl qvz (by decide) (by decide) (by rfl)
theorem nf0 (T:QTb):NF T (16,[]):=⟨fun c h=>(by cases h),rfl,rfl⟩
section
variable {T:QTb} (t:TOK T) {N:Nat} (hN:110000<N) {a b:List Int} (A:vK T.n a) (B:vK T.n b) (la:a.length<=7) (lb:b.length<=7)
include t hN A B la lb
omit B lb in
theorem quJ:yK N (T.n:Int) a=some (fmI T (fmW T a))/\NF T (fmW T a)/\(∀x∈(fmI T (fmW T a)).Factors,x.length<=1000)/\(fmI T (fmW T a)).Factors.length<=300:=by
 have nf:=quI t.ok t.dm (w:=a) A.let_ (nf0 T);have n4:=t.n4;refine⟨(qp2 t.ok t.n2 (by omega) (N:=N) (by omega) A (by omega) nf.nf nf.no).1,nf,fun x hx=>?_,?_⟩
 ·obtain⟨c,hc,rfl⟩:=List.mem_map.1 hx;have:=t.row c (nf.cod c (List.mem_reverse.1 hc));unfold QTb.cI;rw[List.length_map];omega
 have:=qpp T a (16,[]);show((fmW T a).2.reverse.map T.cI).length<=300;rw[List.length_map,List.length_reverse];unfold fmW;simp only[List.length_nil]at this;omega
theorem qm0:zK N (T.n:Int) a b=some (decide (fmW T a=fmW T b)):=by
 obtain⟨a1,a2,a3,a4⟩:=quJ t hN A la;obtain⟨b1,b2,_,_⟩:=quJ t hN B lb;unfold zK xG;rw[a1,ZB,b1,ZB];by_cases c:fmW T a=fmW T b
 ·rw[c,if_pos rfl,<-c,qno (by omega) a3 a4];simp only[ZB,decide_true]
 rw[decide_eq_false c];by_cases d:(fmI T (fmW T a)).Half=(fmI T (fmW T b)).Half
 ·have f: ¬(fmI T (fmW T a)).Factors=(fmI T (fmW T b)).Factors:=fun e=>c (qt5 t.ok a2.cod b2.cod (by
   unfold fmI at d e⊢;dsimp only at d e
   rw[d,e]))
  rw[if_pos d,qno (by omega) a3 a4,decide_eq_false f];rfl
 rw[if_neg d];rfl
end
theorem qqk (im:List (List Int)) (c:Int):yF im c=bif decide (0<c)then(im.set (c.natAbs-1) (fred (im.getD (c.natAbs-1) []++im.getD (c.natAbs-1+1) []++jr (im.getD (c.natAbs-1) [])))).set (c.natAbs-1+1) (im.getD (c.natAbs-1) [])else(im.set (c.natAbs-1) (im.getD (c.natAbs-1+1) [])).set (c.natAbs-1+1) (fred (jr (im.getD (c.natAbs-1+1) [])++im.getD (c.natAbs-1) []++im.getD (c.natAbs-1+1) [])):=by
 unfold yF;dsimp only;by_cases h:0<c
 ·rw[if_pos h,decide_eq_true h,cond_true]
 rw[if_neg h,decide_eq_false h,cond_false]
def tnl (w:List Int) (t:List Nat):List Nat:=w.foldl (fun t c=>qh7 (c.natAbs-1) (decide (0<c)) t) t
theorem qkf {n:Nat}: ∀(w:List Int) (im:List (List Int)) (t:List Nat),jY n w->im.length=n->Nzs im->qhK im t->qhK (w.foldl yF im) (tnl w t)
 |[],im,s,hw,hl,hz,h=>h
 |c::w,im,s,hw,hl,hz,h=>by
  have hc:=hw c (List.mem_cons_self ..);rw[List.foldl_cons];have st:=qhK.step (c.natAbs-1) (decide (0<c)) hz (by omega) h;rw[<-qqk]at st;exact qkf w _ _ (fun d hd=>hw d (List.mem_cons_of_mem _ hd)) (by rw[qbh,hl]) (qeY (i:=c.natAbs-1) hz (by omega) (by omega)) st
theorem qmg {f:Nat->List Int} {g:Nat->Nat} (h: ∀k,Lin (f k) (g k)): ∀l:List Nat,qhK (l.map f) (l.map g)
 |[]=>trivial
 |k::l=>⟨h k,qmg h l⟩
theorem qkr {n:Nat} {w:List Int} (hw:jY n w):qhK (vO n w) (tnl w ((List.range n).map bet)):=by
 refine qkf w _ _ hw (qaX _) (qiO _) ?_;unfold fid;refine qmg (fun k=>⟨qrB k,fun z hz=>?_⟩) _;show evl (((k:Nat):Int)+1) z=_;unfold evl;rw[if_pos (by omega),show(((k:Nat):Int)+1).natAbs-1=k by omega]
theorem qvx {n:Nat} {a b:List Int} (ha:jY n a) (hb:jY n b) (h:BE n a b):tnl a ((List.range n).map bet)=tnl b ((List.range n).map bet):=by
 have h1:=qkr ha;have h:vO n a=vO n b:=h;rw[h]at h1;exact h1.uniq (qkr hb)
theorem qlS: ∀(i:Nat) (p:Bool) (l r:List Nat),i+1<l.length->qh7 i p (l++r)=qh7 i p l++r/\(qh7 i p l).length=l.length
 |0,true,a::b::l,r,h=>⟨rfl,rfl⟩
 |0,false,a::b::l,r,h=>⟨rfl,rfl⟩
 |i+1,p,a::l,r,h=>by
  have:=qlS i p l r (by simp at h;omega);refine⟨?_,?_⟩
  ·show a::qh7 i p (l++r)=a::qh7 i p l++r;rw[this.1];rfl
  show(a::qh7 i p l).length=_;rw[Yr,this.2];rfl
 |0,p,[],r,h=>by simp at h
 |0,p,[a],r,h=>by simp at h
 |i+1,p,[],r,h=>by simp at h
theorem qlB (r:List Nat): ∀(w:List Int) (l:List Nat),jY l.length w->tnl w (l++r)=tnl w l++r
 |[],l,h=>rfl
 |c::w,l,h=>by
  have hc:=h c (List.mem_cons_self ..);obtain⟨e1,e2⟩:=qlS (c.natAbs-1) (decide (0<c)) l r (by omega);show tnl w (qh7 (c.natAbs-1) (decide (0<c)) (l++r))=tnl w (qh7 (c.natAbs-1) (decide (0<c)) l)++r;rw[e1];exact qlB r w _ (fun d hd=>by rw[e2];exact h d (List.mem_cons_of_mem _ hd))
def P4 (k:Nat) (l:List Nat):Prop:= ∃a b c d,l=[a,b,c,d]/\(a<10007/\b<10007/\c<10007/\d<10007)/\k=kp a b c d
theorem P4.step {k:Nat} {l:List Nat} (h:P4 k l) (x:L6):P4 (kSt x k) (qh7 ((i6 x).natAbs-1) (decide (0<i6 x)) l):=by
 obtain⟨a,b,c,d,rfl,h,rfl⟩:=h;rw[qgB h,qgD];obtain⟨ha,hb,hc,hd⟩:=h;cases x
 ·exact⟨_,_,_,_,rfl,⟨qhf a b,ha,hc,hd⟩,rfl⟩
 ·exact⟨_,_,_,_,rfl,⟨hb,qgO a b,hc,hd⟩,rfl⟩
 ·exact⟨_,_,_,_,rfl,⟨ha,qhf b c,hb,hd⟩,rfl⟩
 ·exact⟨_,_,_,_,rfl,⟨ha,hc,qgO b c,hd⟩,rfl⟩
 ·exact⟨_,_,_,_,rfl,⟨ha,hb,qhf c d,hc⟩,rfl⟩
 exact⟨_,_,_,_,rfl,⟨ha,hb,hd,qgO c d⟩,rfl⟩
theorem P4.fold: ∀(u:W6) {k:Nat} {l:List Nat},P4 k l->P4 (u.foldl (fun k x=>kSt x k) k) (tnl (u.map i6) l)
 |[],k,l,h=>h
 |x::u,k,l,h=>P4.fold u (h.step x)
theorem P4.uniq {k j:Nat} {l:List Nat} (h:P4 k l) (g:P4 j l):k=j:=by
 obtain⟨a,b,c,d,rfl,_,rfl⟩:=h;obtain⟨a',b',c',d',e,_,rfl⟩:=g;injection e with e1 e;injection e with e2 e;injection e with e3 e;injection e with e4 e;rw[e1,e2,e3,e4]
theorem bets (n:Nat) (h2:2<=n) (h4:n<=4): ∃r,[1,30,500,7000]=(List.range n).map bet++r:=by
 rcases(show n=2\/n=3\/n=4 by omega)with rfl|rfl|rfl
 ·exact⟨[500,7000],rfl⟩
 ·exact⟨[7000],rfl⟩
 exact⟨[],rfl⟩
theorem quz {n:Nat} (h2:2<=n) (h4:n<=4) {a b:List Int} (ha:jY n a) (hb:jY n b) (h:BE n a b):kw (a.map c6)=kw (b.map c6):=by
 obtain⟨r,e⟩:=bets n h2 h4
 have lr:((List.range n).map bet).length=n:=by rw[List.length_map,List.length_range]
 have a4: ∀x∈a,x≠0/\ -4<x/\x<4:=fun x hx=>by have:=ha x hx;omega
 have b4: ∀x∈b,x≠0/\ -4<x/\x<4:=fun x hx=>by have:=hb x hx;omega
 have p0:P4 (kw []) [1,30,500,7000]:=⟨1,30,500,7000,rfl,by decide,rfl⟩;have pa:=P4.fold (a.map c6) p0;have pb:=P4.fold (b.map c6) p0;rw[qgo a4,e,qlB r a _ (by rw[lr];exact ha),qvx ha hb h]at pa;rw[qgo b4,e,qlB r b _ (by rw[lr];exact hb)]at pb;exact pa.uniq pb
theorem qj3 {T:QTb} (t:TOK T) {a b:List Int} (ha:jY T.n a) (hb:jY T.n b) (la:a.length<=7) (lb:b.length<=7) (h:fmW T a=fmW T b): ∃J,J<=1121/\hrI J [] (a++qaF b)=some []:=by
 have h1:=qim t.ok t.wd ha (by omega);have h2:=qim t.ok t.wd hb (by omega);rw[h]at h1;have n4:=t.n4;have k:=quz t.n2 t.n4 ha hb (h1.trans h2.symm);have:=qgY (a:=a.map c6) (b:=b.map c6) (by rw[List.length_map];exact la) (by rw[List.length_map];exact lb) k;rw[qgo (fun x hx=>by have:=ha x hx;omega),qgo (fun x hx=>by have:=hb x hx;omega)]at this;exact this
end Go.Av
end
