/-
  The reference's numerals.
-/
import Derived.Test.YtppehbboaidbgaaGreatDoorMqPa
import Derived.Test.YtppehbboaidbgaaGreatDoorAvPt
noncomputable section
set_option linter.unusedVariables false
set_option linter.unusedSimpArgs false
set_option maxRecDepth 100000
section
namespace Go.Av
theorem qbK {a b:Str} (h:a.length+b.length<=1000000000):cat a b=some (a++b):=by
 unfold cat;rw[if_pos (by omega)]
theorem dcut {d:Nat} (h:d<10):cut ([48,49,50,51,52,53,54,55,56,57]:Str) (d:Int) (w64 ((d:Int)+1))=some [dch d]:=by
 rw[qQ (by omega)];rcases(show d=0\/d=1\/d=2\/d=3\/d=4\/d=5\/d=6\/d=7\/d=8\/d=9 by omega)with e|e|e|e|e|e|e|e|e|e<;>subst e<;>decide
theorem tm10 (n:Nat):(n:Int).tmod 10=((n%10:Nat):Int):=by rw[Int.tmod_eq_emod_of_nonneg (by omega)];omega
theorem td10 (n:Nat):(n:Int).tdiv 10=((n/10:Nat):Int):=by rw[YF (by omega)];omega
theorem qgE {least:Int} {K n:Nat} {s:Str} (hn:n<9223372036854775808) (hs:s.length<=1000) (h:0<n\/(s.length:Int)<least):qY least (K+1) (n:Int) s=qY least K ((n/10:Nat):Int) (dch (n%10)::s):=by
 have cond:(if(n:Int)>0 then some true else some (decide ((s.length:Int)<least)):Option Bool)=some true:=by
  by_cases c:(n:Int)>0
  ·rw[if_pos c]
  rw[if_neg c,decide_eq_true (by omega)]
 rw[qY,cond,ZB,if_pos rfl,tm10,td10,dcut (by omega),ZB,qbK (by simp;omega),ZB,qj (by omega) (by omega)];rfl
theorem qgQ {least:Int} {K:Nat} {s:Str} (h: ¬(s.length:Int)<least):qY least (K+1) 0 s=some s:=by
 rw[qY,if_neg (by omega),decide_eq_false h,ZB,if_neg (by simp)]
theorem qkx: ∀(k K n:Nat) (s:Str),n<10^k->s.length+k=9->k<K->qY 9 K (n:Int) s=some (qeo k n++s)
 |k,0,n,s,_,_,h=>by omega
 |0,K+1,n,s,hn,hs,h=>by
  simp at hn;subst hn;exact qgQ (by omega)
 |k+1,K+1,n,s,hn,hs,h=>by
  have h9:(10:Nat)^(k+1)<=10^9:=Nat.pow_le_pow_right (by omega) (by omega);rw[Nat.pow_succ]at hn;rw[qgE (by rw[Nat.pow_succ]at h9;omega) (by omega) (.inr (by omega)),qkx k K (n/10) _ (by omega) (by simp;omega) (by omega),qeo,Yz];rfl
theorem qkF: ∀(k K n:Nat) (s:Str),0<n->n<10^k->n<9223372036854775808->s.length+k<=900->k<K->qY 1 K (n:Int) s=some (Lib.decDigits n++s)
 |k,0,n,s,_,_,_,_,h=>by omega
 |0,K+1,n,s,h0,hn,_,hs,h=>by simp at hn;omega
 |k+1,K+1,n,s,h0,hn,h63,hs,h=>by
  rw[Nat.pow_succ]at hn;rw[qgE h63 (by omega) (.inl h0)];by_cases c:n<10
  ·obtain⟨K2,rfl⟩: ∃K2,K=K2+1:=⟨K-1,by omega⟩;rw[show n/10=0 by omega,jc c,show n%10=n by omega];exact qgQ (by simp;omega)
  rw[qkF k K (n/10) _ (by omega) (by omega) (by omega) (by simp;omega) (by omega),qfL c,Yz];rfl
theorem qoD {N n:Nat} (hN:100<N) (h:n<1000000000):zN N (n:Int) 9=some (qeo 9 n):=by
 unfold zN;rw[qkx 9 N n [] h rfl (by omega),ZB,YQ]
theorem qij {N n:Nat} (hN:100<N) (h:n<9223372036854775808):zN N (n:Int) 1=some (Lib.decDigits n):=by
 unfold zN;rcases Nat.eq_zero_or_pos n with e|e
 ·subst e;obtain⟨K,rfl⟩: ∃K,N=K+1+1:=⟨N-2,by omega⟩;have h1:=qgE (least:=1) (K:=K+1) (n:=0) (s:=[]) (by omega) (by simp) (.inr (by simp));rw[h1,Nat.zero_div];have h2:=qgQ (least:=1) (K:=K) (s:=[dch (0%10)]) (by simp);have h2:qY 1 (K+1) ((0:Nat):Int) [dch (0%10)]=_:=h2;rw[h2,ZB,jc (by decide)]
 rw[qkF 19 N n [] e (by omega) h (by simp) (by omega),ZB,YQ]
theorem qiS: ∀k:Nat,E9^k=((10^(9*k):Nat):Int)
 |0=>rfl
 |k+1=>by
  rw[Int.pow_succ,qiS k,Nat.mul_succ,Nat.pow_add,Int.natCast_mul];rfl
def nv (w:List Int):Nat:=(dv E9 w).toNat
theorem qjZ {w:List Int} (h:Dg E9 w):(nv w:Int)=dv E9 w:=by
 have:=qH E0 h;unfold nv;omega
theorem nv_lt {w:List Int} (h:Dg E9 w):nv w<10^(9*w.length):=by
 have h1:=xh E0 h;rw[qiS,<-qjZ h]at h1;omega
theorem qjH {w:List Int} (h:Dg E9 w):(Lib.decDigits (nv w)).length<=9*w.length+1:=by
 refine(qas (by omega)).2 ?_;have:=nv_lt h;rw[Nat.pow_succ];omega
theorem qm1 {w:List Int} (h:Dg E9 w) {i:Nat} (hi:i<w.length):nv (w.drop i)=w[i].toNat+1000000000*nv (w.drop (i+1)):=by
 have h1:=qjZ (h.drop i);have h2:=qjZ (h.drop (i+1));have h3:=(h.at hi).1;rw[qiO w hi]at h1;have h4:E9*dv E9 (w.drop (i+1))=1000000000*dv E9 (w.drop (i+1)):=rfl;omega
theorem qlo {N:Nat} (hN:100<N) {a:qI} (ha:Dg E9 a.w) (hal:a.w.length<=100000): ∀(K i:Nat),i<=a.w.length->i<K->0<nv (a.w.drop i)->ym N a K (Lib.decDigits (nv (a.w.drop i))) ((i:Int)-1)=some (Lib.decDigits (nv a.w))
 |0,i,_,h,_=>by omega
 |K+1,0,_,_,_=>by
  rw[ym,if_neg (by omega),YR]
 |K+1,i+1,hi,h,hp=>by
  have hil:i<a.w.length:=by omega
  have ax:=ha.at hil;have ax2:a.w[i]<1000000000:=ax.2
  have ei:((i+1:Nat):Int)-1=(i:Int):=by omega
  have ed:a.w[i]=(a.w[i].toNat:Int):=by omega
  have el:=qm1 ha hil;have ll:=qjH (ha.drop (i+1));rw[YJ]at ll;rw[ym,ei,if_pos (by omega),qw,Ya hil,ZB]
  have e9:zN N a.w[i] 9=some (qeo 9 a.w[i].toNat):=by
   conv=>lhs;rw[ed]
   exact qoD hN (by omega)
  rw[e9,ZB,qbK (by rw[qiw];omega),ZB,qj (by omega) (by omega)]
  have e10:Lib.decDigits (nv (a.w.drop (i+1)))++qeo 9 a.w[i].toNat=Lib.decDigits (nv (a.w.drop i)):=by
   have h9:(10:Nat)^9=1000000000:=rfl
   have q:nv (a.w.drop i)/10^9=nv (a.w.drop (i+1)):=by rw[h9];omega
   have r:nv (a.w.drop i)%10^9=a.w[i].toNat:=by rw[h9];omega
   rw[qiy 9 (nv (a.w.drop i)) (by rw[q];exact hp),q,r]
  rw[e10];exact qlo hN ha hal K i (by omega) (by omega) (by omega)
theorem vT {z:Int} (h:z<0):Lib.itoa z=45::Lib.decDigits z.natAbs:=by unfold Lib.itoa;rw[if_pos h]
theorem zY {z:Int} (h: ¬z<0):Lib.itoa z=Lib.decDigits z.natAbs:=by
 unfold Lib.itoa;rw[if_neg h,show z.toNat=z.natAbs by omega]
theorem qmD {N:Nat} (hN:60000<N) {z:Int} (h:jC z 50000):qbU N (rI z)=some (Lib.itoa z):=by
 obtain⟨c,e⟩:=qgY z;have l:(rI z).w.length<=50000:=h.len
 have en:nv (rI z).w=z.natAbs:=by unfold nv;rw[e];omega
 have ng:(rI z).neg=decide (z<0):=rfl;unfold qbU;by_cases h0:(rI z).w.length=0
 ·have hz:z=0:=by
   rw[YL.1 h0,zi]at e;omega
  rw[if_pos (by omega),hz]
  have:Lib.itoa 0=[48]:=by rw[zY (by decide)];exact jc (by decide)
  rw[this]
 have hk:(rI z).w.length-1<(rI z).w.length:=by omega
 have ax:=c.1.at hk;have ax2:(rI z).w[(rI z).w.length-1]<1000000000:=ax.2;have an:(rI z).w[(rI z).w.length-1]≠0:=c.2 _ (by rw[List.getLast?_eq_getElem?];exact Ya hk)
 have ed:(rI z).w[(rI z).w.length-1]=((rI z).w[(rI z).w.length-1].toNat:Int):=by omega
 have e1:nv ((rI z).w.drop ((rI z).w.length-1))=(rI z).w[(rI z).w.length-1].toNat:=by
  rw[qm1 c.1 hk,List.drop_of_length_le (by omega)];rfl
 have e2:zN N (rI z).w[(rI z).w.length-1] 1=some (Lib.decDigits (nv ((rI z).w.drop ((rI z).w.length-1)))):=by
  conv=>lhs;rw[ed]
  rw[e1];exact qij (by omega) (by omega)
 have e3:=qlo (N:=N) (by omega) c.1 (by omega) N ((rI z).w.length-1) (by omega) (by omega) (by rw[e1];omega);have ll:=qjH c.1;rw[if_neg (by omega),qkq (by omega) (by omega),qw,Ya hk,ZB,e2,ZB,show w64 (((rI z).w.length:Int)-2)=(((rI z).w.length-1:Nat):Int)-1 by rw[qj (by omega) (by omega)];omega,e3,ZB,ng];by_cases hz:z<0
 ·rw[decide_eq_true hz,if_pos rfl,qbK (by simp;omega),ZB,vT hz,en];rfl
 rw[decide_eq_false hz,if_neg (by simp),zY hz,en]
theorem qkR {s:Str} (hd:s.all yn=true) (hl:s.length<=18): ∀(K i:Nat),i<=s.length->s.length<K+i->vC s K ((qW 0 (s.take i):Nat):Int) (i:Int)=some ((qW 0 s:Nat):Int)
 |0,i,h,hK=>by omega
 |K+1,i,h,hK=>by
  rw[vC];by_cases hi:i<s.length
  ·have ht:s.take (i+1)=s.take i++[s[i]]:=List.take_succ_eq_append_getElem hi;have hc:yn s[i]=true:=Yp.1 hd _ (List.getElem_mem hi);obtain⟨_,hc2⟩:=qmy hc
   have hc1:48<=s[i].toNat:=by
    unfold yn at hc;rw[Bool.and_eq_true,decide_eq_true_eq]at hc;exact hc.1
   have hv:=qe8 (s.take i) 0 (Yp.2 fun x hx=>Yp.1 hd x (List.mem_of_mem_take hx));have hp:(10:Nat)^(s.take i).length<=10^17:=Nat.pow_le_pow_right (by omega) (by rw[Ym];omega);have hp2:(10:Nat)^17=100000000000000000:=rfl;rw[if_pos (by omega),qw,Ya hi,ZB,qj (n:=10*((qW 0 (s.take i):Nat):Int)) (by omega) (by omega),qj (n:=(s[i].toNat:Int)) (by omega) (by omega),qj (n:=10*((qW 0 (s.take i):Nat):Int)+(s[i].toNat:Int)) (by omega) (by omega),qj (by omega) (by omega),qQ (by omega)]
   have e:10*((qW 0 (s.take i):Nat):Int)+(s[i].toNat:Int)-48=((qW 0 (s.take (i+1)):Nat):Int):=by rw[ht,qg2];omega
   rw[e];exact qkR hd hl K (i+1) (by omega) (by omega)
  rw[if_neg (by omega),List.take_of_length_le (by omega)]
theorem qgn {N:Nat} (hN:100<N) {s:Str} (hd:s.all yn=true) (hl:s.length<=18):xJ N s=some ((qW 0 s:Nat):Int):=by
 have e:=qkR hd hl N 0 (by omega) (by omega);have e:vC s N 0 0=_:=e;unfold xJ;rw[e,ZB]
theorem qiP {s:Str} (h:s.all yn=true) (k:Nat):(s.take k).all yn=true:=Yp.2 fun x hx=>Yp.1 h x (List.mem_of_mem_take hx)
theorem qiX {s:Str} (h:s.all yn=true) (k:Nat):(s.drop k).all yn=true:=Yp.2 fun x hx=>Yp.1 h x (List.mem_of_mem_drop hx)
theorem qlf {N:Nat} (hN:100<N): ∀(K:Nat) (l:List Int) (s:Str),s.all yn=true->l.length+s.length<=90000->s.length<K->Dg E9 l->
 ∃l' s',yD N K l s=some (l',s')/\s'.length<=9/\s'.all yn=true/\Dg E9 l'/\l'.length<=90000/\dv E9 l'+E9^l'.length*(qW 0 s':Nat)=dv E9 l+E9^l.length*(qW 0 s:Nat)
 |0,l,s,_,_,h,_=>by omega
 |K+1,l,s,hd,hl,h,hg=>by
  rw[yD];by_cases c:s.length>9
  ·have lu:(s.drop (s.length-9)).length=9:=by rw[YJ];omega
   have hv:=qgn (N:=N) hN (qiX hd (s.length-9)) (by omega);have hv2:=qe8 _ 0 (qiX hd (s.length-9));rw[lu]at hv2;rw[if_pos (by omega),show w64 ((s.length:Int)-9)=((s.length-9:Nat):Int)by rw[qj (by omega) (by omega)];omega,xY (by omega),ZB,hv,ZB,qcf (by simp;omega) (by simp;omega),ZB,vY (by omega),ZB];obtain⟨l',s',f1,f2,f3,f4,f5,f6⟩:=qlf hN K (l++[((qW 0 (s.drop (s.length-9)):Nat):Int)]) (s.take (s.length-9)) (qiP hd _) (by simp;omega) (by rw[Ym];omega) (hg.append (Dg.cons ⟨by omega,show((qW 0 (s.drop (s.length-9)):Nat):Int)<1000000000 by omega⟩ Dg.nil));refine⟨l',s',f1,f2,f3,f4,f5,?_⟩;rw[f6,qfi,Yq,List.length_singleton,Int.pow_succ,Int.mul_assoc]
   have e:qW 0 s=qW 0 (s.take (s.length-9))*1000000000+qW 0 (s.drop (s.length-9)):=by
    have:=qeJ (s.take (s.length-9)) (s.drop (s.length-9));rw[YS,lu]at this;exact this
   have e2:((qW 0 s:Nat):Int)=((qW 0 (s.drop (s.length-9)):Nat):Int)+E9*((qW 0 (s.take (s.length-9)):Nat):Int):=by
    have h4:E9*((qW 0 (s.take (s.length-9)):Nat):Int)=1000000000*((qW 0 (s.take (s.length-9)):Nat):Int):=rfl;omega
   rw[e2,Int.mul_add];omega
  rw[if_neg (by omega)];exact⟨l,s,rfl,by omega,hd,hg,by omega,rfl⟩
def sgn (s:Str):Bool:=decide (s[0]? =some 45)
def bdy (s:Str):Str:=if sgn s=true then s.drop 1 else s
theorem qgt (s:Str):(if(s.length:Int)>0 then(idx s 0).bind fun c=>some (decide ((c.toNat:Int)=45))else some false:Option Bool)=some (sgn s):=by
 unfold sgn
 cases s with
 |nil=>rfl
 |cons c t=>
  rw[if_pos (by simp),qbZ];have e:((c.toNat:Int)=45)↔(some c=some (45:UInt8)):=⟨fun h=>congrArg some (UInt8.toNat_inj.1 (show c.toNat=45 by omega)),fun h=>by rw[Ye h];rfl⟩;simp only[Yj,ZB];congr 1;exact decide_eq_decide.2 e
theorem qlL (s:Str):(if sgn s=true then(cut s 1 (s.length:Int)).bind fun x=>some x else some s:Option Str)=some (bdy s):=by
 unfold bdy
 cases h:sgn s with
 |false=>rw[if_neg (by simp),if_neg (by simp)]
 |true=>
  have hl:1<=s.length:=by
   cases s with
   |nil=>simp[sgn]at h
   |cons=>simp
  have:=xY hl;have e:cut s 1 (s.length:Int)=some (s.drop 1):=this;rw[if_pos rfl,if_pos rfl,e,ZB]
def qjT (s:Str):Int:=if sgn s=true then-((qW 0 (bdy s):Nat):Int)else((qW 0 (bdy s):Nat):Int)
theorem qip {N:Nat} (hN:100000<N) {s:Str} (hd:(bdy s).all yn=true) (hl:(bdy s).length<=80000):qaB N s=some (rI (qjT s)):=by
 unfold qaB;rw[qgt,ZB,qlL,ZB];obtain⟨l,t,f1,f2,f3,f4,f5,f6⟩:=qlf (N:=N) (by omega) N [] (bdy s) hd (by simp;omega) (by omega) Dg.nil;have hv:=qgn (N:=N) (by omega) f3 (by omega);have hv2:=qe8 _ 0 f3;have hp:(10:Nat)^t.length<=10^9:=Nat.pow_le_pow_right (by omega) f2;rw[f1,ZB];simp only;have hg:=f4.append (r:=[((qW 0 t:Nat):Int)]) (Dg.cons ⟨by omega,show((qW 0 t:Nat):Int)<1000000000 by omega⟩ Dg.nil);rw[hv,ZB,qcf (by simp;omega) (by simp;omega),ZB,qaN _ hg (by simp;omega) (by simp;omega),ZB,qfi,f6];simp only[zi,List.length_nil,Int.pow_zero,Int.one_mul,Int.zero_add];rfl
theorem qiI (z:Int):sgn (Lib.itoa z)=decide (z<0):=by
 unfold sgn;by_cases h:z<0
 ·rw[vT h,decide_eq_true h];rfl
 rw[zY h,decide_eq_false h]
 refine decide_eq_false fun e=>?_
 have hm:(45:UInt8)∈Lib.decDigits z.natAbs:=Yn e;have:=Yp.1 (qbC z.natAbs) _ hm;exact absurd this (by decide)
theorem qcu (z:Int):bdy (Lib.itoa z)=Lib.decDigits z.natAbs:=by
 unfold bdy;rw[qiI];by_cases h:z<0
 ·rw[decide_eq_true h,if_pos rfl,vT h];rfl
 rw[decide_eq_false h,if_neg (by simp),zY h]
theorem qdr (z:Int):qjT (Lib.itoa z)=z:=by
 unfold qjT;rw[qiI,qcu,qcB];by_cases h:z<0
 ·rw[decide_eq_true h,if_pos rfl];omega
 rw[decide_eq_false h,if_neg (by simp)];omega
def slA:Str->Nat
 |[]=>0
 |c::s=>if c=47 then 0 else slA s+1
theorem qgK: ∀s:Str,slA s<=s.length
 |[]=>Nat.le_refl _
 |c::s=>by
  rw[slA,Yr];have:=qgK s;split<;>omega
theorem qlv {s:Str} (hl:s.length<=1000000): ∀(K i:Nat),i<=s.length->s.length<K+i->vN s K (i:Int)=some (if i+slA (s.drop i)<s.length then .inr ((i+slA (s.drop i):Nat):Int)else .inl ())
 |0,i,h,hK=>by omega
 |K+1,i,h,hK=>by
  rw[vN];by_cases hi:i<s.length
  ·have hd:s.drop i=s[i]::s.drop (i+1):=YG hi;rw[if_pos (by omega),qw,Ya hi,ZB,hd,slA];by_cases c:s[i]=47
   ·rw[if_pos c,if_pos (by rw[c];rfl),Nat.add_zero,if_pos hi]
   rw[if_neg c,if_neg (fun e=>c (UInt8.toNat_inj.1 (show s[i].toNat=47 by omega))),qQ (by omega),qlv hl K (i+1) (by omega) (by omega),show i+1+slA (s.drop (i+1))=i+(slA (s.drop (i+1))+1)by omega]
  rw[if_neg (by omega),List.drop_of_length_le (by omega),if_neg (by omega)]
theorem qdm {N:Nat} {s:Str} (hl:s.length<=1000000) (hN:s.length<N):yO N s=some (slA s:Int):=by
 have e:=qlv hl N 0 (by omega) (by omega);have e:vN s N 0=_:=e;have h:=qgK s;unfold yO;rw[e,YR,Nat.zero_add];by_cases c:slA s<s.length
 ·rw[if_pos c];rfl
 rw[if_neg c]
 have:slA s=s.length:=by omega
 rw[this];rfl
theorem qj4: ∀(s t:Str),(∀c∈s,c≠47)->slA (s++47::t)=s.length/\slA s=s.length
 |[],t,_=>⟨by simp[slA],rfl⟩
 |c::s,t,h=>by
  have h1:=qj4 s t fun x hx=>h x (List.mem_cons_of_mem _ hx)
  rw[List.cons_append,slA,slA,if_neg (h c (List.mem_cons_self ..)),if_neg (h c (List.mem_cons_self ..)),h1.1,h1.2];exact⟨rfl,rfl⟩
end Go.Av
end
section
namespace Go.Av
theorem and1 {n:Nat} (h:n<4611686018427387904):qG .i64 (n:Int) 1=((n%2:Nat):Int):=by
 show IntKind.wrap .i64 _=_
 have e:(BitVec.ofInt IntKind.i64.bits (n:Int)&&&BitVec.ofInt IntKind.i64.bits 1).toNat=n%2:=by
  rw[BitVec.toNat_and];show(BitVec.ofInt 64 (n:Int)).toNat&&&(BitVec.ofInt 64 1).toNat=_;rw[qcp (by omega) (by omega),qcp (by omega) (by omega)];exact Nat.and_one_is_mod n
 rw[e];show w64 _=_;exact qj (by omega) (by omega)
theorem shr1 (n:Nat):qA .i64 (n:Int) 1=((n/2:Nat):Int):=by
 show(n:Int).fdiv 2=_;rw[Int.fdiv_eq_ediv_of_nonneg _ (by decide)];omega
theorem qn4 {N:Nat} (hN:11000<N): ∀(K n:Nat) (b acc:qp) (x y:Int) (mb ma:Nat),n<100000->n<K->IsZ b x->IsZ acc y->Fit x mb->Fit y ma->ma+mb*n<=3900->
 ∃r,vM N K b.s b.w acc.s acc.w (n:Int)=some (r.s,r.w)/\IsZ r (y*x^n)
 |0,n,_,_,_,_,_,_,_,h,_,_,_,_,_=>by omega
 |K+1,n,b,acc,x,y,mb,ma,hn,hK,hb,hacc,fx,fy,hm=>by
  rw[vM];by_cases h0:n=0
  ·subst h0;rw[if_neg (by omega)];exact⟨acc,rfl,by simpa using hacc⟩
  have hmb:mb<=mb*n:=Nat.le_mul_of_pos_right _ (by omega);obtain⟨m,r,hr,hmr⟩: ∃m r,r<2/\n=2*m+r:=⟨n/2,n%2,by omega,by omega⟩
  have emb:mb*n=mb*m+mb*m+mb*r:=by rw[hmr,Nat.mul_add,<-Nat.mul_assoc,Nat.mul_comm mb 2,Nat.two_mul,Nat.add_mul]
  have S1: ∃(a2:qp) (m2:Nat),(if(qG .i64 (n:Int) 1)=1 then(qJ N (⟨acc.s,acc.w⟩:qp) (⟨b.s,b.w⟩:qp)).bind fun r20=>some (r20.s,r20.w)else some (acc.s,acc.w):Option (Int×(List Int)))=some (a2.s,a2.w)/\IsZ a2 (y*x^r)/\Fit (y*x^r) m2/\m2=ma+mb*r:=by
   rw[and1 (by omega),show n%2=r by omega];rcases(show r=0\/r=1 by omega)with e|e<;>subst e
   ·rw[if_neg (by simp)];exact⟨acc,ma,rfl,by simpa using hacc,by simpa using fy,by simp⟩
   obtain⟨p,e1,h1⟩:=qdd hN hacc hb (fy.mono (by omega)) (fx.mono (by omega));have e1:qJ N (⟨acc.s,acc.w⟩:qp) (⟨b.s,b.w⟩:qp)=some p:=e1;rw[if_pos (by simp),e1,ZB];exact⟨p,ma+mb,rfl,by rw[Int.pow_one];exact h1,by rw[Int.pow_one];exact qcm fy fx,by simp⟩
  obtain⟨a2,m2,e1,h1,f1,em2⟩:=S1
  have S2: ∃(b2:qp) (x2:Int) (m3:Nat),(if(n:Int)>1 then(qJ N (⟨b.s,b.w⟩:qp) (⟨b.s,b.w⟩:qp)).bind fun r22=>some (r22.s,r22.w,a2.s,a2.w)else some (b.s,b.w,a2.s,a2.w):Option (Int×(List Int)×Int×(List Int)))=some (b2.s,b2.w,a2.s,a2.w)/\IsZ b2 x2/\Fit x2 m3/\m3*m=mb*m+mb*m/\x2^m=(x*x)^m:=by
   by_cases c:(n:Int)>1
   ·have hm1:1<=m:=by omega
    have h3:mb<=mb*m:=Nat.le_mul_of_pos_right _ hm1;obtain⟨p,e2,h2⟩:=qdd hN hb hb (fx.mono (by omega)) (fx.mono (by omega));have e2:qJ N (⟨b.s,b.w⟩:qp) (⟨b.s,b.w⟩:qp)=some p:=e2;rw[if_pos c,e2,ZB];exact⟨p,x*x,mb+mb,rfl,h2,qcm fx fx,Nat.add_mul _ _ _,rfl⟩
   have hm0:m=0:=by omega
   subst hm0;rw[if_neg c];exact⟨b,x,mb,rfl,hb,fx,by simp,by simp⟩
  obtain⟨b2,x2,m3,e2,h2,f2,em3,ex⟩:=S2
  have S:((if(qG .i64 (n:Int) 1)=1 then(qJ N (⟨acc.s,acc.w⟩:qp) (⟨b.s,b.w⟩:qp)).bind fun r20=>some (r20.s,r20.w)else some (acc.s,acc.w):Option (Int×(List Int)))).bind (fun(n16,l17)=>
   if(n:Int)>1 then(qJ N (⟨b.s,b.w⟩:qp) (⟨b.s,b.w⟩:qp)).bind fun r22=>some (r22.s,r22.w,n16,l17)else some (b.s,b.w,n16,l17))=some (b2.s,b2.w,a2.s,a2.w):=by
   rw[e1,ZB];exact e2
  obtain⟨r',e3,h3⟩:=qn4 hN K m b2 a2 x2 (y*x^r) m3 m2 (by omega) (by omega) h2 h1 f2 f1 (by omega);rw[if_pos (by omega),S,ZB];simp only;rw[shr1,show n/2=m by omega];refine⟨r',e3,?_⟩
  have hx2:x*x=x^2:=by rw[Int.pow_succ,Int.pow_succ,Int.pow_zero,Int.one_mul]
  rw[ex,Int.mul_assoc,hx2,<-Int.pow_mul,<-Int.pow_add,show r+2*m=n by omega]at h3;exact h3
theorem qrB {N:Nat} (hN:110000<N) {b:qp} {x:Int} {n mb:Nat} (hn:n<100000) (hb:IsZ b x) (fx:Fit x mb) (hm:1+mb*n<=3900): ∃r,qb9 N b (n:Int)=some r/\IsZ r (x^n):=by
 obtain⟨r,e,h⟩:=qn4 (N:=N) (by omega) N n b ⟨1,[]⟩ x 1 mb 1 hn (by omega) hb (Uf (by decide) (by decide)) fx (F1 (by omega)) hm;have e:vM N N b.s b.w 1 [] (n:Int)=some (r.s,r.w):=e;unfold qb9;rw[qiT,ZB];simp only;rw[e,ZB];exact⟨r,rfl,by rw[Int.one_mul]at h;exact h⟩
theorem qgg {z:Int} {p n:Nat} (h:(z.natAbs:Int)<((10^p:Nat):Int)) (hp:p<=19*n):Fit z n:=by
 have h1:(10:Nat)^p<=10^(19*n):=Nat.pow_le_pow_right (by omega) hp
 have h2:((10^(19*n):Nat):Int)<=W^n:=by
  rw[Nat.pow_mul];have:=(qeM (x:=10000000000000000000) (y:=W) (by decide) (by decide) n).2;rw[Int.natCast_pow];exact this
 unfold Fit;omega
theorem qcD (s:Str):strings_HasPrefix s [45]=some (sgn s):=by
 unfold strings_HasPrefix stringslite_HasPrefix sgn
 cases s with
 |nil=>rfl
 |cons c t=>
  rw[if_pos (by simp;omega)];have e:cut (c::t) 0 (([45]:Str).length:Int)=some [c]:=vY (l:=c::t) (k:=1) (by simp);rw[e];simp only[ZB,Yj];congr 1;rw[Bool.eq_iff_iff,beq_iff_eq,decide_eq_true_eq];constructor
  ·intro h;injection h with h;rw[h]
  intro h;rw[Ye h]
theorem qkl {s:Str} (h:sgn s=true):1<=s.length:=by
 cases s with
 |nil=>simp[sgn]at h
 |cons=>simp
theorem qfp (s:Str):strings_TrimPrefix s [45]=some (bdy s):=by
 unfold strings_TrimPrefix stringslite_TrimPrefix
 have e:stringslite_HasPrefix s [45]=some (sgn s):=by
  have:=qcD s;unfold strings_HasPrefix at this
  cases h:stringslite_HasPrefix s [45]with
  |none=>rw[h]at this;cases this
  |some b=>rw[h]at this;exact this
 rw[e,ZB];unfold bdy
 cases h:sgn s with
 |false=>rw[if_neg (by simp),if_neg (by simp),ZB]
 |true=>
  have e2:cut s (([45]:Str).length:Int) (s.length:Int)=some (s.drop 1):=xY (qkl h);rw[if_pos rfl,if_pos rfl,e2,ZB,ZB]
theorem qj7 (s:Str):strings_CutPrefix s [45]=some (bdy s,sgn s):=by
 unfold strings_CutPrefix stringslite_CutPrefix
 have e:stringslite_HasPrefix s [45]=some (sgn s):=by
  have:=qcD s;unfold strings_HasPrefix at this
  cases h:stringslite_HasPrefix s [45]with
  |none=>rw[h]at this;cases this
  |some b=>rw[h]at this;exact this
 rw[e,ZB];unfold bdy
 cases h:sgn s with
 |false=>rw[if_pos (by simp),if_neg (by simp),ZB]
 |true=>
  have e2:cut s (([45]:Str).length:Int) (s.length:Int)=some (s.drop 1):=xY (qkl h);rw[if_neg (by simp),if_pos rfl,e2,ZB,ZB]
theorem qnf {N:Nat} (hN:600000<N): ∀(K:Nat) (x:qp) (y:Int) (s:Str) (p:Nat),IsZ x y->0<=y->y<((10^p:Nat):Int)->p+s.length<=19000->s.all yn=true->s.length<K->
 ∃r,xI N K x.s x.w s=some (r.s,r.w)/\IsZ r (y*((10^s.length:Nat):Int)+(qW 0 s:Nat))
 |0,_,_,_,_,_,_,_,_,_,h=>by omega
 |K+1,x,y,s,p,hx,y0,y1,hp,hd,hK=>by
  rw[xI];by_cases h0:s.length=0
  ·rw[if_neg (by omega)];have:s=[]:=YL.1 h0;subst this;exact⟨x,rfl,by simpa[qcC]using hx⟩
  rw[if_pos (by omega)]
  obtain⟨g,hg,hg0,hgl,hg18⟩: ∃g:Nat,(if(s.length:Int)<18 then(s.length:Int)else 18)=(g:Int)/\0<g/\g<=s.length/\g<=18:=by
   by_cases c:(s.length:Int)<18
   ·exact⟨s.length,by rw[if_pos c],by omega,by omega,by omega⟩
   exact⟨18,by rw[if_neg c];rfl,by omega,by omega,by omega⟩
  have lt:(s.take g).length=g:=by rw[Ym];omega
  have ea:=qk9 (s:=s.take g) (by omega) (qiP hd g)
  have et:qkC (s.take g)=some (((qW 0 (s.take g):Nat):Int),()):=by
   unfold qkC;rw[if_pos (by omega),ea];rfl
  have hv:=qe8 (s.take g) 0 (qiP hd g);rw[lt]at hv;have hp18:(10:Nat)^g<=10^18:=Nat.pow_le_pow_right (by omega) hg18;have h18:(10:Nat)^18=1000000000000000000:=rfl;rw[hg,vY hgl,ZB,et,ZB,qiT,ZB];obtain⟨r1,e1,h1⟩:=qrB (N:=N) (by omega) (b:=⟨10,[]⟩) (x:=10) (n:=g) (mb:=1) (by omega) (Uf (by decide) (by decide)) (qgg (p:=2) (by decide) (by omega)) (by omega)
  have ep:(10:Int)^g=((10^g:Nat):Int):=by rw[Int.natCast_pow];rfl
  rw[ep]at h1
  have fg:Fit ((10^g:Nat):Int) 1000:=qgg (p:=19) (by
   rw[Int.natAbs_natCast];have h19:(10:Nat)^19=10000000000000000000:=rfl
   omega) (by omega)
  have fy:Fit y 1000:=qgg (p:=p) (by omega) (by omega);have hpos:0<10^g:=Nat.pow_pos (by decide);have yg0:0<=y*((10^g:Nat):Int):=Yv y0 (by omega)
  have yg1:(y+1)*((10^g:Nat):Int)<=((10^(p+g):Nat):Int):=by
   rw[Nat.pow_add,Int.natCast_mul];exact Int.mul_le_mul_of_nonneg_right (by omega) (by omega)
  rw[Int.add_mul,Int.one_mul]at yg1;obtain⟨r2,e2,h2⟩:=qdd (N:=N) (by omega) hx h1 (fy.mono (by omega)) (fg.mono (by omega));have e2:qJ N (⟨x.s,x.w⟩:qp) r1=some r2:=e2;have hd2:IsZ ⟨((qW 0 (s.take g):Nat):Int),[]⟩ ((qW 0 (s.take g):Nat):Int):=Uf (by omega) (by omega)
  obtain⟨r3,e3,h3⟩:=qin (N:=N) (by omega) h2 hd2 (qgg (p:=p+g) (by omega) (by omega)) (qgg (p:=19) (by
   rw[Int.natAbs_natCast];have h19:(10:Nat)^19=10000000000000000000:=rfl
   omega) (by omega))
  rw[e1,ZB,e2,ZB,qiT,ZB,e3,ZB,xY hgl,ZB]
  have ld:(s.drop g).length=s.length-g:=by rw[YJ]
  obtain⟨r,e4,h4⟩:=qnf hN K r3 _ (s.drop g) (p+g) h3 (by omega) (by omega) (by omega) (qiX hd g) (by omega);refine⟨r,e4,?_⟩;have e5:=qeJ (s.take g) (s.drop g);rw[YS]at e5
  have e6:(10:Nat)^s.length=10^g*10^(s.drop g).length:=by rw[<-Nat.pow_add,ld];congr 1;omega
  rw[e5,e6];rw[Int.add_mul]at h4;rw[Int.natCast_mul,Int.natCast_add,Int.natCast_mul,<-Int.mul_assoc,<-Int.add_assoc];exact h4
theorem qhL {N:Nat} (hN:600000<N) {s:Str} (hd:(bdy s).all yn=true) (hl:(bdy s).length<=19000): ∃r,qbv N s=some r/\IsZ r (qjT s):=by
 obtain⟨r,e,h⟩:=qnf hN N ⟨0,[]⟩ 0 (bdy s) 0 (Uf (by decide) (by decide)) (by omega) (by decide) (by omega) hd (by omega);have e:xI N N 0 [] (bdy s)=some (r.s,r.w):=e;rw[Int.zero_mul,Int.zero_add]at h;unfold qbv;rw[qcD,ZB,qfp,ZB,e,ZB];unfold qjT
 cases hs:sgn s with
 |false=>
  rw[if_neg (by simp)];exact⟨r,rfl,by simpa using h⟩
 |true=>
  obtain⟨r2,e2,h2⟩:=qgX h;have e2:zL (⟨r.s,r.w⟩:qp)=some r2:=e2;simp only[if_true];rw[e2];exact⟨r2,rfl,h2⟩
end Go.Av
end
section
namespace Go.Av
theorem qmx: ∀n:Nat,Lib.repeatL [48] n=List.replicate n 48
 |0=>rfl
 |n+1=>by rw[Lib.repeatL,qmx,List.replicate_succ];rfl
theorem qjv: ∀k:Nat,qeo k 0=List.replicate k 48
 |0=>rfl
 |k+1=>by
  rw[qeo,Nat.zero_div,qjv k,List.replicate_succ'];rfl
theorem qlC: ∀(k n:Nat),n<10^(k+1)->qeo (k+1) n=List.replicate (k+1-(Lib.decDigits n).length) 48++Lib.decDigits n
 |0,n,h=>by
  have h:n<10:=by simpa using h
  rw[jc h,qeo,qeo,Nat.mod_eq_of_lt h];rfl
 |k+1,n,h=>by
  rw[qeo];by_cases c:n<10
  ·rw[jc c,Nat.div_eq_of_lt c,qjv,Nat.mod_eq_of_lt c];rfl
  rw[Nat.pow_succ]at h;rw[qlC k (n/10) (by omega),qfL c,Yz,Yq,List.length_singleton,show k+1+1-((Lib.decDigits (n/10)).length+1)=k+1-(Lib.decDigits (n/10)).length by omega]
theorem qfd (n:Nat):Lib.itoa (n:Int)=Lib.decDigits n:=by rw[zY (by omega),Int.natAbs_natCast]
theorem qob {r:Nat} (h:r<1000000000000000000) (c: ¬r=0):dg W (r:Int)=[(r:Int)]:=by
 rw[qkp (by omega) (by unfold W;omega)]
theorem qoB {r:Nat} (h:r<1000000000000000000):qia (r:Int) 10=some (Lib.decDigits r):=by
 unfold qia;rw[if_pos ⟨by omega,by omega,rfl⟩,qfd]
theorem qn6:(if((dg W ((0:Nat):Int)).length:Int)>0 then(idx (dg W ((0:Nat):Int)) 0).bind fun x13=>(qia x13 10).bind fun r14=>some r14 else some [48]:Option Str)=some (Lib.decDigits 0):=by
 rw[show((0:Nat):Int)=0 from rfl,qdK,if_neg (by simp),jc (by decide)];rfl
theorem qqF {r:Nat} (h:r<1000000000000000000):(if((dg W (r:Int)).length:Int)>0 then(idx (dg W (r:Int)) 0).bind fun x13=>(qia x13 10).bind fun r14=>some r14 else some [48]:Option Str)=some (Lib.decDigits r):=by
 by_cases c:r=0
 ·rw[c];exact qn6
 rw[qob h c,if_pos (show((([(r:Int)]:List Int).length:Nat):Int)>0 from by rw[List.length_singleton];decide),qbZ,Yj,ZB,qoB h];rfl
theorem p18:(10:Nat)^18=1000000000000000000:=rfl
theorem qqR {q r:Nat} (h:r<1000000000000000000): ∃t:Str,(if((dg W (q:Int)).length:Int)>0 then(qfk [48] (w64 (18-((Lib.decDigits r).length:Int)))).bind fun r18=>(cat r18 (Lib.decDigits r)).bind fun s19=>some s19 else some (Lib.decDigits r):Option Str)=some t/\0<t.length/\Lib.decDigits (1000000000000000000*q+r)=(if q=0 then[]else Lib.decDigits q)++t:=by
 have hr:r<10^18:=by rw[p18];exact h
 have lD:(Lib.decDigits r).length<=18:=(qas (by decide)).2 hr;have lD0:=qiW r;by_cases c:q=0
 ·subst c;rw[show((0:Nat):Int)=0 from rfl,qdK,if_neg (by simp),if_pos rfl,Nat.mul_zero,Nat.zero_add];exact⟨_,rfl,lD0,rfl⟩
 have hne:dg W (q:Int)≠[]:=fun e=>by have:=(qil W1 (by omega)).1 e;omega
 have hlen:0<(dg W (q:Int)).length:=List.length_pos_iff.2 hne
 have et:qfk [48] (w64 (18-((Lib.decDigits r).length:Int)))=some (List.replicate (18-(Lib.decDigits r).length) 48):=by
  rw[qj (by omega) (by omega)];unfold qfk;rw[if_pos ⟨by omega,by omega,by simp;omega⟩,qmx];congr 2;omega
 have hp:=qlC 17 r hr;have hl:(qeo (17+1) r).length=18:=qiw _ _;have hs:=qiy 18 (1000000000000000000*q+r);rw[p18,Nat.mul_add_div (by omega),Nat.div_eq_of_lt h,Nat.add_zero,Nat.mul_add_mod,Nat.mod_eq_of_lt h]at hs;rw[if_pos (by omega),et,ZB,qbK (by simp;omega),ZB,<-hp,if_neg c];exact⟨_,rfl,by omega,hs (by omega)⟩
theorem qsf {N:Nat} (hN:600000<N) (B:Nat) (hB:B<=3900) (K:Nat): ∀(k m:Nat) (l:List Str),m<10^(18*k)->k<K->k+l.length<=100000->Fit (m:Int) B->(∀t∈l,0<t.length)->
 ∃l',jE N K l (dg W (m:Int))=some l'/\(∀t∈l',0<t.length)/\l'.length<=k+l.length/\l'.reverse.flatten=(if m=0 then[]else Lib.decDigits m)++l.reverse.flatten:=by
 induction K with
 |zero=>intro k m l _ h;omega
 |succ K ih=>
  intro k m l hm hK hl fm hp;rw[jE];by_cases h0:m=0
  ·subst h0;rw[show((0:Nat):Int)=0 from rfl,qdK,if_neg (by simp),if_pos rfl];exact⟨l,rfl,hp,by omega,rfl⟩
  obtain⟨j,hj⟩: ∃j,k=j+1:=⟨k-1,by
   rcases Nat.eq_zero_or_pos k with e|e
   ·subst e;simp at hm;omega
   omega⟩
  rw[hj]at hm hK hl
  have hm0:(0:Int)<=(m:Int):=by omega
  have hne:dg W (m:Int)≠[]:=fun e=>by have:=(qil W1 hm0).1 e;omega
  have hlen:0<(dg W (m:Int)).length:=List.length_pos_iff.2 hne;have ln:(dg W (m:Int)).length<=3900:=Nat.le_trans fm.len hB
  have cB:Can W [1000000000000000000]:=by
   have:=jl W1 (show(0:Int)<=1000000000000000000 by decide);rw[qkp (by decide) (by decide)]at this;exact this
  have vB:dv W [1000000000000000000]=1000000000000000000:=by rw[zA,zi,Int.mul_zero,Int.add_zero]
  have ed:=qjL (N:=N) (by omega) (jl W1 hm0) cB (by omega) (by rw[vB];decide);rw[vB,vI W1 hm0]at ed;obtain⟨q,r,hq,hr⟩: ∃q r,m=1000000000000000000*q+r/\r<1000000000000000000:=⟨m/1000000000000000000,m%1000000000000000000,by omega,by omega⟩
  have eq:(m:Int)/1000000000000000000=(q:Int):=by omega
  have er:(m:Int)%1000000000000000000=(r:Int):=by omega
  rw[eq,er]at ed;obtain⟨t,et,t0,eD⟩:=qqR (q:=q) hr;rw[<-hq]at eD;rw[if_pos (by omega),ed,ZB];simp only;rw[qqF hr,ZB,et,ZB,qcf (by simp;omega) (by simp;omega),ZB]
  have hk:q<10^(18*j):=by
   rw[Nat.mul_succ,Nat.pow_add,p18,Nat.mul_comm]at hm;refine Nat.lt_of_mul_lt_mul_left (a:=1000000000000000000) ?_;omega
  obtain⟨l',f1,f2,f3,f4⟩:=ih j q (l++[t]) hk (by omega) (by simp;omega) (qdh (by omega) fm) (fun u hu=>by
   rcases List.mem_append.1 hu with hu|hu
   ·exact hp u hu
   rw[List.mem_singleton.1 hu];exact t0)
  refine⟨l',f1,f2,by simp at f3;omega,?_⟩;rw[f4,if_neg h0,eD,List.reverse_append,List.flatten_append,Yz];simp
def byN (s:Str):List Int:=s.map fun x=>(x.toNat:Int)
theorem qhw (s:Str):(byN s).length=s.length:=by unfold byN;rw[List.length_map]
theorem qow {l:List Str} (hp: ∀t∈l,0<t.length) (hl:l.length<=100000): ∀(K i:Nat) (o:Option (List Int)),i<=l.length->i<K->(hof o).length+(l.take i).flatten.length<=1000000000->
 ∃o',zx l K o.isSome o ((i:Int)-1)=some (o'.isSome,o')/\hof o'=hof o++byN (l.take i).reverse.flatten
 |0,i,o,_,h,_=>by omega
 |K+1,0,o,hi,h,hb=>by
  rw[zx,if_neg (by omega)];exact⟨o,rfl,by simp[byN]⟩
 |K+1,i+1,o,hi,h,hb=>by
  have hil:i<l.length:=by omega
  have ei:((i+1:Nat):Int)-1=(i:Int):=by omega
  have ht:l.take (i+1)=l.take i++[l[i]]:=List.take_succ_eq_append_getElem hil;have h1:=hp l[i] (List.getElem_mem hil);rw[ht,List.flatten_append,Yq]at hb;simp only[List.flatten_cons,List.flatten_nil,YQ]at hb
  have ew:bWr o.isSome o l[i]=some (hof o++byN l[i]):=by
   unfold bWr;rw[if_pos ⟨rfl,by omega,h1⟩];rfl
  rw[zx,ei,if_pos (by omega),qw,Ya hil,ZB,ew,ZB,qj (by omega) (by omega)]
  obtain⟨o',f1,f2⟩:=qow hp hl K i (some (hof o++byN l[i])) (by omega) (by omega) (by
   show(hof o++byN l[i]).length+_<=_
   rw[Yq,qhw];omega)
  refine⟨o',f1,?_⟩;rw[f2,ht,List.reverse_append,List.flatten_append];show hof o++byN l[i]++_=_;rw[Yz];unfold byN;simp
theorem qoR (s:Str):(byN s).map (fun n=>UInt8.ofNat n.toNat)=s:=by
 unfold byN;rw[List.map_map]
 conv=>rhs;rw[<-List.map_id s]
 refine List.map_congr_left fun x _=>?_
 show UInt8.ofNat ((x.toNat:Int)).toNat=x;rw[Int.toNat_natCast,UInt8.ofNat_toNat]
theorem qqt (s:Str):(byN s).all (fun n=>decide (0<=n)&&decide (n<256))=true:=by
 unfold byN;rw[List.all_map,Yp];intro x _;have:x.toNat<256:=x.toNat_lt;simp;omega
theorem qke: ∀l:List Str,l.reverse.flatten.length=l.flatten.length:=fun l=>by
 rw[List.length_flatten,List.length_flatten,List.map_reverse,List.sum_reverse]
theorem qe9 {N:Nat} (hN:600000<N) {x:qp} {z:Int} (h:IsZ x z) (fz:Fit z 3900):vQ N x=some (Lib.itoa z):=by
 unfold vQ
 cases e:x.w.isEmpty with
 |true=>
  obtain⟨h1,h2,h3⟩:=h.emp e;rw[if_pos rfl,h1];unfold qmu;rw[if_pos ⟨h2,h3⟩,ZB]
 |false=>
  have hz:z.natAbs≠0:=by
   rcases h with⟨hw,_⟩|⟨_,_,h1,_⟩
   ·rw[hw]at e;cases e
   omega
  obtain⟨B8,hB8⟩: ∃B8:Nat,B8=8000:=⟨_,rfl⟩
  have pw:((10^(18*B8):Nat):Int)=(1000000000000000000:Int)^B8:=by
   rw[Nat.pow_mul,Int.natCast_pow];rfl
  have hm:z.natAbs<10^(18*B8):=by
   have h1:W^3900<=(1000000000000000000:Int)^B8:=by
    have a1:(1000000000000000000:Int)^B8=((1000000000000000000:Int)^2)^4000:=by rw[<-Int.pow_mul,hB8]
    have a2:W^4000<=((1000000000000000000:Int)^2)^4000:=(qeM (by decide) (by decide) 4000).2;have a3:W^3900<=W^4000:=yX (by decide) (by decide);rw[a1];exact Int.le_trans a3 a2
   rw[<-pw]at h1;unfold Fit at fz;omega
  obtain⟨l,f1,f2,f3,f4⟩:=qsf hN 3900 (Nat.le_refl _) N B8 z.natAbs [] hm (by omega) (by simp;omega) (by unfold Fit;rw[Int.natAbs_natCast];exact fz) (fun t ht=>by cases ht);rw[if_neg hz]at f4;simp only[List.reverse_nil,List.flatten_nil,YQ,List.length_nil,Nat.add_zero]at f3 f4;have lD:(Lib.decDigits z.natAbs).length<=18*B8:=(qas (by omega)).2 hm
  have lf:l.flatten.length<=18*B8:=by rw[<-qke,f4];exact lD
  have lpos:=qiW z.natAbs;rw[if_neg (by simp),parts_eq h,ZB];simp only;rw[f1,ZB];have el:w64 ((l.length:Int)-1)=(l.length:Int)-1:=qj (by omega) (by omega)
  have fin: ∀(o:Option (List Int)) (pre:Str),hof o=byN pre->pre.length<=10->((zx l N o.isSome o (w64 ((l.length:Int)-1))).bind fun(ok30,o31)=>(qnE ok30 o31).bind fun t38=>some t38)=some (pre++Lib.decDigits z.natAbs):=by
   intro o pre ho hpre;obtain⟨o',g1,g2⟩:=qow f2 (by omega) N l.length o (Nat.le_refl _) (by omega) (by rw[ho,qhw,List.take_of_length_le (Nat.le_refl _)];omega);rw[List.take_of_length_le (Nat.le_refl _),f4,ho]at g2
   have g3:hof o'=byN (pre++Lib.decDigits z.natAbs):=by
    rw[g2];unfold byN;rw[List.map_append]
   have hs:o'.isSome=true:=by
    cases o' with
    |none=>
     have:=congrArg List.length g3;rw[qhw,Yq]at this;simp at this;omega
    |some q=>rfl
   rw[el,g1,ZB];simp only;unfold qnE;rw[if_pos ⟨hs,by rw[g3,qhw,Yq];omega,by rw[g3];exact qqt _⟩,g3,qoR,ZB]
  by_cases c:z<0
  ·have eb:bWr false (none:Option (List Int)) [45]=some [45]:=rfl;rw[decide_eq_true c,if_pos rfl,eb,ZB,ZB];simp only;have:=fin (some [45]) [45] rfl (by simp);rw[vT c];exact this
  rw[decide_eq_false c,if_neg (by simp),ZB];simp only;have:=fin none [] rfl (by simp);rw[zY c];exact this
end Go.Av
end
section
namespace Go.Av
theorem qq1 {x:qp} {z:Int} (h:IsZ x z) (fz:Fit z 3900): ∃b:Nat,qbq x=some (b:Int)/\(z.natAbs:Int)<2^b:=by
 unfold qbq;rw[parts_eq h,ZB];simp only
 have hz:(0:Int)<=(z.natAbs:Int):=by omega
 have cc:=jl W1 hz;have vv:=vI W1 hz;have ll:=fz.len;generalize dg W (z.natAbs:Int)=w at*;by_cases h0:w.length=0
 ·rw[if_pos (by omega)];rw[YL.1 h0,zi]at vv;exact⟨0,rfl,by rw[<-vv];decide⟩
 have hk:w.length-1<w.length:=by omega
 have ax:=cc.1.at hk;obtain⟨l,e,hl⟩:=qkJ ax.1 ax.2
 have hl0:0<=l/\l<=64:=by
  rcases hl with⟨_,h⟩|⟨h1,h2,_⟩<;>omega
 have hl2:w[w.length-1]<2^l.toNat:=by
  rcases hl with⟨h1,h2⟩|⟨_,_,_,h⟩
  ·rw[h1,h2];decide
  exact h
 rw[if_neg (by omega),qkq (by omega) (by omega),qw,Ya hk,ZB,e,ZB,qj (n:=64*((w.length-1:Nat):Int)) (by omega) (by omega),qj (by omega) (by omega)];refine⟨64*(w.length-1)+l.toNat,by congr 1;omega,?_⟩;have e1:=qz W w (w.length-1) hk;rw[List.take_of_length_le (by omega),vv]at e1;have h1:=xh W0 (cc.1.take (w.length-1));rw[Ym,Nat.min_eq_left (by omega)]at h1
 have e2:(2:Int)^(64*(w.length-1)+l.toNat)=W^(w.length-1)*2^l.toNat:=by
  rw[Int.pow_add,Int.pow_mul];rfl
 have h2:W^(w.length-1)*(w[w.length-1]+1)<=W^(w.length-1)*2^l.toNat:=Yc (by omega) (Int.le_of_lt (pow_pos W0 _));rw[Int.mul_add,Int.mul_one]at h2;rw[e2];omega
theorem pow8: ∀n:Nat,(8:Int)^(n+1)<((10^(n+1):Nat):Int)
 |0=>by decide
 |n+1=>by
  have ih:=pow8 n;have a1:=pow_pos (show(0:Int)<8 by decide) (n+1);rw[Int.pow_succ,Nat.pow_succ,Int.natCast_mul];omega
theorem qsc (n:Nat):(2:Int)^(3*n)=(8:Int)^n:=by
 rw[Int.pow_mul];rfl
theorem qqS {n m:Nat} (hm:m=3*(n+1)):(2:Int)^m<((10^(n+1):Nat):Int):=by
 rw[hm,qsc];exact pow8 n
def lng (z:Int):Bool:=decide (600<(Lib.decDigits z.natAbs).length)
theorem qnj {N:Nat} (hN:600000<N) {x:qp} {z:Int} (h:IsZ x z) (fz:Fit z 3900):qdw N x=some (lng z):=by
 obtain⟨b,e,hb⟩:=qq1 h fz;unfold qdw;rw[e,ZB];by_cases c:(b:Int)>1800
 ·rw[if_pos c,qe9 hN h fz,ZB,qfp,qcu,ZB,ZB];congr 1;exact decide_eq_decide.2 (by omega)
 rw[if_neg c,ZB];congr 1;obtain⟨m,hm⟩: ∃m:Nat,m=3*(599+1):=⟨_,rfl⟩;have h1:(2:Int)^b<=2^m:=yX (by decide) (by omega);have h2:=qqS hm
 have h3:z.natAbs<10^(599+1):=by omega
 have:=(qas (n:=z.natAbs) (k:=599+1) (by decide)).2 h3;unfold lng;rw[decide_eq_false (by omega)]
def qdv (q:Rat):Bool:=lng q.num||lng q.den
theorem qql {N:Nat} (hN:600000<N) {f:qC} {q:Rat} (h:IsF f q) (fq:qdR q 3900):qaw N f=some (qdv q):=by
 unfold qaw qdv;rw[qnj hN h.1 fq.1,ZB]
 cases lng q.num with
 |true=>rw[if_pos rfl,ZB,Bool.true_or]
 |false=>rw[if_neg (by simp),qnj hN h.2 fq.2,ZB,ZB,Bool.false_or]
def T (q:Rat):Str:=Lib.itoa q.num++(if q.den=1 then[]else 47::Lib.decDigits q.den)
theorem Fit.itoaLen {z:Int} (h:Fit z 3900):(Lib.itoa z).length<=200001:=by
 have h1:(Lib.decDigits z.natAbs).length<=20*10000:=by
  refine(qas (by decide)).2 ?_;obtain⟨B,hB⟩: ∃B:Nat,B=10000:=⟨_,rfl⟩;rw[<-hB];have h2:W^3900<=W^B:=yX (by decide) (by omega);have h3:W^B<=(100000000000000000000:Int)^B:=(qeM (by decide) (by decide) B).2
  have h4:((10^(20*B):Nat):Int)=(100000000000000000000:Int)^B:=by
   rw[Nat.pow_mul,Int.natCast_pow];rfl
  unfold Fit at h;generalize W^3900=p at*;omega
 by_cases c:z<0
 ·rw[vT c,Yr];omega
 rw[zY c];omega
theorem qqp {N:Nat} (hN:600000<N) {f:qC} {q:Rat} (h:IsF f q) (fq:qdR q 3900):qaZ N f=some (T q):=by
 unfold qaZ T;rw[qfG h,ZB];by_cases c:q.den=1
 ·rw[decide_eq_true c,if_pos rfl,qe9 hN h.1 fq.1,ZB,if_pos c,YQ]
 have l1:=Fit.itoaLen fq.1;have l2:=Fit.itoaLen fq.2;rw[decide_eq_false c,if_neg (by simp),qe9 hN h.1 fq.1,ZB,qbK (by simp;omega),ZB,qe9 hN h.2 fq.2,ZB,qbK (by simp;omega),ZB,if_neg c,qfd,Yz];rfl
theorem qqE {α:Type} {b:Bool} {x y:α}:zT b x y=if b=true then x else y:=by cases b<;>rfl
theorem qkt: ∀(s:Str) (j:Nat),qjd 47 s j=if slA s<s.length then((j+slA s:Nat):Int)else-1
 |[],j=>rfl
 |c::s,j=>by
  show zT (Nat.beq c.toNat 47) (Int.ofNat j) (qjd 47 s (j+1))=_;rw[qqE,qkt s (j+1),slA,Yr];by_cases h:c=47
  ·subst h;rw[if_pos (by decide),if_pos rfl,if_pos (by omega)];rfl
  have h2:c.toNat≠47:=fun e=>h (UInt8.toNat_inj.1 (by rw[e];rfl))
  rw[if_neg (by rw[qcU h2];simp),if_neg h];by_cases c2:slA s<s.length
  ·rw[if_pos c2,if_pos (by omega)];congr 1;omega
  rw[if_neg c2,if_neg (by omega)]
theorem qpQ {s:Str}:stringslite_Index s [47]=some (qjd 47 s 0):=by
 unfold stringslite_Index stringslite_IndexByte qkc
 have h0: ¬(([47]:Str).length:Int)=0:=by simp
 have h1:(([47]:Str).length:Int)=1:=by simp
 rw[if_neg h0];simp only[ZB];by_cases hs:(([47]:Str)==s)=true
 ·have:s=[47]:=(beq_iff_eq.1 hs).symm;subst this;rfl
 rw[if_neg hs,if_pos h1,qbZ,show([47]:Str)[0]? =some 47 from rfl,ZB,if_pos (by decide)];rfl
theorem qpL {s:Str} (hl:s.length<=1000000):strings_Cut s [47]=some (if slA s<s.length then(s.take (slA s),s.drop (slA s+1),true)else(s,[],false)):=by
 have h:=qgK s;unfold strings_Cut stringslite_Cut;rw[qpQ,qkt,ZB];by_cases c:slA s<s.length
 ·rw[if_pos c,if_pos (by omega),if_pos c,Nat.zero_add,vY h,ZB,show w64 ((slA s:Int)+(([47]:Str).length:Int))=((slA s+1:Nat):Int)from qQ (by omega),xY (by omega),ZB,ZB]
 rw[if_neg c,if_neg (by omega),if_neg c,ZB]
theorem qgs {s:Str} (hl:s.length<=1000000):jU s=some (decide (Dec s)):=by
 have hT:qkE s [48,49,50,51,52,53,54,55,56,57]=some (Lib.trimS s [48,49,50,51,52,53,54,55,56,57]):=by
  unfold qkE;rw[if_pos ⟨hl,by decide,by decide⟩]
 unfold jU;rw[hT];simp only[ZB,qnR]
 cases s with
 |nil=>rfl
 |cons c t=>
  rw[if_pos (by rfl),qbZ];simp only[Yj,ZB]
  cases hd:(c::t).all yn with
  |false=>
   rw[if_neg (by simp),ZB,decide_eq_false fun h=>by rw[h.2.1]at hd;cases hd]
  |true=>
   rw[if_pos rfl];by_cases h:c=48
   ·subst h;rw[if_neg (by decide),ZB];congr 1;rw[Bool.eq_iff_iff,beq_iff_eq,decide_eq_true_eq];exact⟨fun e=>by rw[e];exact qmI (by decide),fun h=>h.2.2 rfl⟩
   rw[if_pos (by simp[ne48 h]),ZB,decide_eq_true (show Dec (c::t)from⟨by simp,hd,fun e=>absurd (Ye e) h⟩)]
theorem qi9 {s:Str} (hl:s.length<=1000000): ∀(K i:Nat),i<=s.length->s.length<K+i->jP s K (i:Int)=some (if(s.drop i).all yn=true then .inl ()else .inr false)
 |0,i,h,hK=>by omega
 |K+1,i,h,hK=>by
  rw[jP];by_cases hi:i<s.length
  ·have hd:s.drop i=s[i]::s.drop (i+1):=YG hi;rw[if_pos (by omega),qw,Ya hi,ZB,hd,List.all_cons];generalize s[i]=c
   have e:(if(c.toNat:Int)<48 then some true else some (decide ((c.toNat:Int)>57)):Option Bool)=some (!yn c):=by
    by_cases h1:(c.toNat:Int)<48
    ·rw[if_pos h1];congr 1;unfold yn;rw[decide_eq_false (by omega)];rfl
    rw[if_neg h1];congr 1;unfold yn;rw[decide_eq_true (p:=48<=c.toNat) (by omega),Bool.true_and,<-decide_not];exact decide_eq_decide.2 (by omega)
   rw[e,ZB]
   cases hc:yn c with
   |true=>rw[if_neg (by simp),qQ (by omega),qi9 hl K (i+1) (by omega) (by omega),Bool.true_and]
   |false=>rw[if_pos (by simp),Bool.false_and,if_neg (by simp)]
  rw[if_neg (by omega),List.drop_of_length_le (by omega)];rfl
theorem qi2 {N:Nat} {s:Str} (hl:s.length<=1000000) (hN:s.length<N):jG N s=some (decide (Dec s)):=by
 have e:=qi9 hl N 0 (by omega) (by omega);have e:jP s N 0=_:=e
 have ed:qbD N s=some (s.all yn):=by
  unfold qbD;rw[e,YR];cases s.all yn<;>rfl
 unfold jG
 cases s with
 |nil=>rfl
 |cons c t=>
  rw[if_neg (by simp;omega)];by_cases h1:((c::t).length:Int)>1
  ·rw[if_pos h1,qbZ];simp only[Yj,ZB];by_cases h:c=48
   ·subst h;rw[if_pos (by decide),decide_eq_false fun hD=>?_];have:=congrArg List.length (hD.2.2 rfl);rw[List.length_singleton]at this;omega
   rw[if_neg (by simp[ne48 h]),ed,ZB];congr 1;rw[Bool.eq_iff_iff,decide_eq_true_eq];exact⟨fun hd=>⟨by simp,hd,fun e=>absurd (Ye e) h⟩,fun hD=>hD.2.1⟩
  rw[if_neg h1,ZB,if_neg (by simp),ed,ZB];have ht:t=[]:=YL.1 (by simp at h1;omega);subst ht;congr 1;rw[Bool.eq_iff_iff,decide_eq_true_eq];exact⟨fun hd=>qmI (by simpa using hd),fun hD=>hD.2.1⟩
end Go.Av
end
section
namespace Go.Av
theorem qkg {z:Int} {p n:Nat} (h:(z.natAbs:Int)<((10^p:Nat):Int)) (hp:p<=9*n):jC z n:=by
 have h1:(10:Nat)^p<=10^(9*n):=Nat.pow_le_pow_right (by omega) hp;unfold jC;rw[qiS];omega
theorem qm8 {N:Nat} (hN:10<N) (a b:Int):yZ N [a,b]=some (if a=0 then b else a):=by
 obtain⟨K,rfl⟩: ∃K,N=K+1+1+1:=⟨N-3,by omega⟩;unfold yZ;by_cases ha:a=0
 ·by_cases hb:b=0
  ·subst ha;subst hb;rfl
  have h1:zM [a,b] (K+1+1+1) 0=some (.inr b):=by
   rw[zM,if_pos (by simp),qbZ];simp only[Yj,ZB];rw[if_neg (by simp[ha]),zM,show w64 ((0:Int)+1)=1 from rfl,if_pos (by simp),idx_1];simp only[List.getElem?_cons_succ,Yj,ZB];rw[if_pos (by simp[hb])]
  rw[h1,if_pos ha];rfl
 have h1:zM [a,b] (K+1+1+1) 0=some (.inr a):=by
  rw[zM,if_pos (by simp),qbZ];simp only[Yj,ZB];rw[if_pos (by simp[ha])]
 rw[h1,if_neg ha];rfl
def okF (s:Str):Bool:=decide (Dec ((bdy s).take (slA (bdy s)))/\ ¬(sgn s=true/\(bdy s).take (slA (bdy s))=[48]))
def qid (s:Str):Bool:=decide (slA (bdy s)<(bdy s).length/\ ¬(Dec ((bdy s).drop (slA (bdy s)+1))/\(bdy s).drop (slA (bdy s)+1)≠[48]/\(bdy s).drop (slA (bdy s)+1)≠[49]))
def chk (s:Str):Int:=
 if okF s=false\/qid s=true then 1
 else if 600<((bdy s).take (slA (bdy s))).length\/600<((bdy s).drop (slA (bdy s)+1)).length then 4
 else if slA (bdy s)<(bdy s).length/\Nat.gcd (qW 0 ((bdy s).take (slA (bdy s)))) (qW 0 ((bdy s).drop (slA (bdy s)+1)))≠1 then 1
 else 0
theorem qbW {s:Str} (h:s.all yn=true):sgn s=false/\bdy s=s:=by
 have e:sgn s=false:=decide_eq_false fun e=>by
  have hm:(45:UInt8)∈s:=Yn e;exact absurd (Yp.1 h _ hm) (by decide)
 exact⟨e,by unfold bdy;rw[e];rfl⟩
theorem qdl {s:Str} (h:s.all yn=true):qjT s=(qW 0 s:Nat):=by
 obtain⟨h1,h2⟩:=qbW h;unfold qjT;rw[h1,h2];rfl
theorem qgm (s:Str):(bdy s).length<=s.length:=by
 unfold bdy;split
 ·rw[YJ];omega
 exact Nat.le_refl _
theorem qfj {s:Str} {k:Nat} (h:Dec s) (hk:s.length<=k):((qW 0 s:Nat):Int).natAbs<10^k:=by
 have h1:=qe8 s 0 h.2.1;have h2:(10:Nat)^s.length<=10^k:=Nat.pow_le_pow_right (by omega) hk;omega
theorem qf6 {s:Str} (h:Dec s) (h0:s≠[48]):0<qW 0 s:=by
 rcases Nat.eq_zero_or_pos (qW 0 s)with e|e
 ·have:=h.eq;rw[e,jc (by decide)]at this;exact absurd this h0
 exact e
theorem qbN {N:Nat} (hN:600000<N) {s:Str} (hl:s.length<=10000):zP N s=some (chk s):=by
 have hb:=qgm s;have hk:=qgK (bdy s)
 have lt:((bdy s).take (slA (bdy s))).length=slA (bdy s):=by rw[Ym];omega
 have ld:((bdy s).drop (slA (bdy s)+1)).length=(bdy s).length-(slA (bdy s)+1):=by rw[YJ]
 unfold zP;rw[qj7,ZB];simp only
 have C:strings_Cut (bdy s) [47]=some ((bdy s).take (slA (bdy s)),(bdy s).drop (slA (bdy s)+1),decide (slA (bdy s)<(bdy s).length)):=by
  rw[qpL (by omega)];by_cases c:slA (bdy s)<(bdy s).length
  ·rw[if_pos c,decide_eq_true c]
  rw[if_neg c,decide_eq_false c,List.take_of_length_le (by omega),List.drop_of_length_le (by omega)]
 rw[C,ZB];unfold chk okF qid;generalize hn:(bdy s).take (slA (bdy s))=n at*;generalize hd:(bdy s).drop (slA (bdy s)+1)=d at*;generalize slA (bdy s)=k at*;generalize (bdy s).length=m at*;simp only;rw[qgs (by omega),ZB]
 have B6:(if decide (Dec n)=true then if(!sgn s)=true then some true else some (!(n==[48]))else some false:Option Bool)=some (decide (Dec n/\ ¬(sgn s=true/\n=[48]))):=by
  by_cases h1:Dec n
  ·cases h2:sgn s with
   |false=>simp[h1]
   |true=>
    by_cases h3:n=[48]<;>simp[h1,h3]
  simp[h1]
 rw[B6,ZB];generalize hf:decide (Dec n/\ ¬(sgn s=true/\n=[48]))=ok at*
 have B8:(if decide (k<m)=true then(if ok=true then(jU d).bind fun r12=>if r12=true then if(!(d==[48]))=true then some (!(d==[49]))else some false else some false else some false:Option Bool).bind fun b15=>some b15 else some ok:Option Bool)=some (ok&&!decide (k<m/\ ¬(Dec d/\d≠[48]/\d≠[49]))):=by
  by_cases h1:k<m
  ·cases ok with
   |false=>simp[h1]
   |true=>
    rw[qgs (by omega)];by_cases h2:Dec d
    ·by_cases h3:d=[48]
     ·simp[h1,h2,h3]
     by_cases h4:d=[49]<;>simp[h1,h2,h3,h4]
    simp[h1,h2]
  simp[h1]
 rw[B8,ZB];generalize hg:decide (k<m/\ ¬(Dec d/\d≠[48]/\d≠[49]))=bd at*
 have B:((zD (!(ok&&!bd)) 1).bind fun r17=>if(n.length:Int)>600 then(zD true 4).bind fun r19=>(yZ N ([r17,r19]:List Int)).bind fun r20=>some (r17,r19,r20)else(zD (decide ((d.length:Int)>600)) 4).bind fun r21=>(yZ N ([r17,r21]:List Int)).bind fun r22=>some (r17,r21,r22):Option (Int×Int×Int))=some (if ok=false\/bd=true then 1 else 0,if 600<n.length\/600<d.length then 4 else 0,if ok=false\/bd=true then 1 else if 600<n.length\/600<d.length then 4 else 0):=by
  have w1:zD (!(ok&&!bd)) 1=some (if ok=false\/bd=true then 1 else 0):=by
   unfold zD;cases ok<;>cases bd<;>rfl
  rw[w1,ZB];by_cases c:(n.length:Int)>600
  ·rw[if_pos c,show zD true 4=some 4 from rfl,ZB,qm8 (by omega),ZB,if_pos (show 600<n.length\/600<d.length from .inl (by omega))];by_cases c2:ok=false\/bd=true
   ·simp only[if_pos c2];rfl
   simp only[if_neg c2];rfl
  have w2:zD (decide ((d.length:Int)>600)) 4=some (if 600<n.length\/600<d.length then 4 else 0):=by
   unfold zD;by_cases c2:(d.length:Int)>600
   ·rw[decide_eq_true c2,if_pos rfl,if_pos (.inr (by omega))]
   rw[decide_eq_false c2,if_neg (by simp),if_neg (by omega)]
  rw[if_neg c,w2,ZB,qm8 (by omega),ZB];by_cases c2:ok=false\/bd=true
  ·simp only[if_pos c2];rfl
  simp only[if_neg c2];rfl
 rw[B,ZB];simp only;by_cases c1:ok=false\/bd=true
 ·simp only[if_pos c1];rfl
 simp only[if_neg c1];by_cases c2:600<n.length\/600<d.length
 ·simp only[if_pos c2];rfl
 simp only[if_neg c2];rw[if_neg (show¬((!decide True)=true)by decide)]
 have ho:ok=true:=by cases ok<;>simp at c1⊢
 have hbd:bd=false:=by cases bd<;>simp at c1⊢
 have hDn:=(of_decide_eq_true (hf.trans ho)).1;by_cases c3:k<m
 ·have hDd:Dec d/\d≠[48]/\d≠[49]:=Classical.byContradiction fun hc=>of_decide_eq_false (hg.trans hbd) ⟨c3,hc⟩
  obtain⟨r1,e1,h1⟩:=qhL hN (s:=n) (by rw[(qbW hDn.2.1).2];exact hDn.2.1) (by rw[(qbW hDn.2.1).2];omega);obtain⟨r2,e2,h2⟩:=qhL hN (s:=d) (by rw[(qbW hDd.1.2.1).2];exact hDd.1.2.1) (by rw[(qbW hDd.1.2.1).2];omega);rw[qdl hDn.2.1]at h1;rw[qdl hDd.1.2.1]at h2;have f1:Fit ((qW 0 n:Nat):Int) 40:=qgg (p:=600) (by have:=qfj hDn (k:=600) (by omega);omega) (by omega);have f2:Fit ((qW 0 d:Nat):Int) 40:=qgg (p:=600) (by have:=qfj hDd.1 (k:=600) (by omega);omega) (by omega);obtain⟨g,e3,h3⟩:=qol hN h1 h2 (f1.mono (by omega)) (f2.mono (by omega));have eg:Int.gcd ((qW 0 n:Nat):Int) ((qW 0 d:Nat):Int)=Nat.gcd (qW 0 n) (qW 0 d):=rfl;rw[eg]at h3;have hgp:0<Nat.gcd (qW 0 n) (qW 0 d):=Nat.gcd_pos_of_pos_right _ (qf6 hDd.1 hDd.2.1)
  have fg:Fit ((Nat.gcd (qW 0 n) (qW 0 d):Nat):Int) 40:=qdh (by
   have:=Nat.le_of_dvd (qf6 hDd.1 hDd.2.1) (Nat.gcd_dvd_right (qW 0 n) (qW 0 d))
   omega) f2
  have e4:=qo0 (N:=N) (by omega) h3 (Uf (z:=1) (by decide) (by decide)) (fg.mono (by omega)) (F1 (by omega));rw[decide_eq_true c3,if_pos rfl,e1,ZB,e2,ZB,e3,ZB,qiT,ZB,e4,ZB,ZB];unfold zD;by_cases c4:Nat.gcd (qW 0 n) (qW 0 d)=1
  ·rw[if_neg (show¬((Nat.gcd (qW 0 n) (qW 0 d):Nat):Int)<1 by omega),if_pos (show((Nat.gcd (qW 0 n) (qW 0 d):Nat):Int)=1 by omega),if_neg (show¬(k<m/\Nat.gcd (qW 0 n) (qW 0 d)≠1)from fun h=>h.2 c4)];rfl
  have: ¬((Nat.gcd (qW 0 n) (qW 0 d):Nat):Int)<1:=by omega
  rw[if_neg this,if_neg (show¬(((Nat.gcd (qW 0 n) (qW 0 d):Nat):Int)=1)by omega),if_pos (show k<m/\Nat.gcd (qW 0 n) (qW 0 d)≠1 from⟨c3,c4⟩)];rfl
 rw[decide_eq_false c3,if_neg (by simp),ZB,if_neg (by omega)];rfl
end Go.Av
end
section
namespace Go.Av
theorem qoi:dg E9 1=[1]:=qkp (by decide) (by decide)
theorem qrF {N:Nat} (hN:100<N):qaA N 1=some (rI 1):=by
 obtain⟨K,rfl⟩: ∃K,N=K+1+1:=⟨N-2,by omega⟩
 have h:vL (K+1+1) [] 1=some [1]:=by
  rw[vL,if_pos (by decide),if_neg (by decide),ZB,qcf (by simp) (by simp),ZB,show w64 ((1:Int).tdiv 1000000000)=0 from rfl,vL,if_neg (by decide)];rfl
 unfold qaA;rw[h,ZB,decide_eq_false (by decide),qaN false (w:=[1]) (Dg.cons ⟨by decide,by decide⟩ Dg.nil) (by simp) (by simp),ZB];rfl
theorem qjJ {N:Nat} (hN:600000<N) {s:Str} (hl:s.length<=10000) (hk:slA s<s.length) (h1:(bdy (s.take (slA s))).all yn=true) (h2:(bdy (s.drop (slA s+1))).all yn=true):yT N s=some (rI (qjT (s.take (slA s))),rI (qjT (s.drop (slA s+1)))):=by
 have b1:=qgm (s.take (slA s));have b2:=qgm (s.drop (slA s+1));rw[Ym]at b1;rw[YJ]at b2;unfold yT;rw[qdm (by omega) (by omega),ZB,if_neg (by omega),vY (by omega),ZB,qip (by omega) h1 (by omega),ZB,qQ (by omega),xY (by omega),ZB,qip (by omega) h2 (by omega),ZB]
theorem qbV {N:Nat} (hN:600000<N) {s:Str} (hl:s.length<=10000):yM N s=some (chk s):=by
 have hb:=qgm s;have hk:=qgK (bdy s)
 have lt:((bdy s).take (slA (bdy s))).length=slA (bdy s):=by rw[Ym];omega
 have ld:((bdy s).drop (slA (bdy s)+1)).length=(bdy s).length-(slA (bdy s)+1):=by rw[YJ]
 unfold yM;rw[qgt,ZB,qlL,ZB,qdm (by omega) (by omega),ZB,vY hk,ZB,qi2 (by omega) (by omega),ZB]
 have I:Dec ((bdy s).take (slA (bdy s)))->((idx s 0).bind fun c13=>if(c13.toNat:Int)=45 then(some ((bdy s).take (slA (bdy s)))).bind fun s15=>some (s15==[48])else some false:Option Bool)=some (sgn s&&((bdy s).take (slA (bdy s))==[48])):=by
  intro hD;have h1:=hD.1;have hs:=qgt s;rw[if_pos (by omega)]at hs;rw[qbZ]at hs⊢
  cases e:s[0]? with
  |none=>rw[e]at hs;cases hs
  |some c=>
   rw[e,ZB]at hs;rw[ZB,<-Ye hs];by_cases c2:(c.toNat:Int)=45
   ·rw[if_pos c2,decide_eq_true c2,ZB,Bool.true_and]
   rw[if_neg c2,decide_eq_false c2,Bool.false_and]
 have S16:(if(!decide (Dec ((bdy s).take (slA (bdy s)))))=true then some true else(idx s 0).bind fun c13=>if(c13.toNat:Int)=45 then(some ((bdy s).take (slA (bdy s)))).bind fun s15=>some (s15==[48])else some false:Option Bool)=some (!okF s):=by
  unfold okF;by_cases hD:Dec ((bdy s).take (slA (bdy s)))
  ·rw[if_neg (by simp[hD]),I hD];congr 1;rw[Bool.eq_iff_iff];simp[hD]
  rw[if_pos (by simp[hD])];simp[hD]
 rw[S16,ZB]
 have S26:(if(slA (bdy s):Int)<((bdy s).length:Int)then(cut (bdy s) (w64 ((slA (bdy s):Int)+1)) ((bdy s).length:Int)).bind fun s20=>(jG N s20).bind fun r21=>if(!r21)=true then some true else(cut (bdy s) (w64 ((slA (bdy s):Int)+1)) ((bdy s).length:Int)).bind fun s23=>if(s23==[48])=true then some true else(cut (bdy s) (w64 ((slA (bdy s):Int)+1)) ((bdy s).length:Int)).bind fun s25=>some (s25==[49])else some false:Option Bool)=some (qid s):=by
  unfold qid;by_cases c:slA (bdy s)<(bdy s).length
  ·rw[if_pos (by omega),qQ (by omega),xY (by omega),ZB,qi2 (by omega) (by omega),ZB];by_cases hD:Dec ((bdy s).drop (slA (bdy s)+1))
   ·rw[if_neg (by simp[hD]),ZB];by_cases h3:(bdy s).drop (slA (bdy s)+1)=[48]
    ·rw[if_pos (by simp[h3])];simp[c,h3]
    rw[if_neg (by simp[h3]),ZB];congr 1;rw[Bool.eq_iff_iff];simp[c,h3,hD]
   rw[if_pos (by simp[hD])];simp[c,hD]
  rw[if_neg (by omega)];simp[c]
 have S30:(if(slA (bdy s):Int)>600 then some true else some (decide ((w64 ((w64 (((bdy s).length:Int)-(slA (bdy s):Int)))-1))>600)):Option Bool)=some (decide (600<((bdy s).take (slA (bdy s))).length\/600<((bdy s).drop (slA (bdy s)+1)).length)):=by
  rw[lt,ld];by_cases c:(slA (bdy s):Int)>600
  ·rw[if_pos c,decide_eq_true (.inl (by omega))]
  rw[if_neg c,qj (n:=((bdy s).length:Int)-(slA (bdy s):Int)) (by omega) (by omega),qj (by omega) (by omega)];congr 1;exact decide_eq_decide.2 (by omega)
 unfold chk;by_cases h1:okF s=true
 ·rw[h1,if_neg (by simp),S26,ZB];by_cases h2:qid s=true
  ·rw[h2,if_pos rfl,if_pos (.inr rfl)]
  have h2':qid s=false:=by simpa using h2
  rw[h2',if_neg (by simp),S30,ZB,if_neg (show¬(true=false\/false=true)by simp)];by_cases h3:600<((bdy s).take (slA (bdy s))).length\/600<((bdy s).drop (slA (bdy s)+1)).length
  ·rw[decide_eq_true h3,if_pos rfl,if_pos h3]
  rw[decide_eq_false h3,if_neg (by simp),if_neg h3];by_cases c:slA (bdy s)<(bdy s).length
  ·have hDn:=(of_decide_eq_true h1).1
   have hDd:Dec ((bdy s).drop (slA (bdy s)+1))/\(bdy s).drop (slA (bdy s)+1)≠[48]/\(bdy s).drop (slA (bdy s)+1)≠[49]:=Classical.byContradiction fun hc=>of_decide_eq_false h2' ⟨c,hc⟩
   have ep:=qjJ hN (s:=bdy s) (by omega) c (by rw[(qbW hDn.2.1).2];exact hDn.2.1) (by rw[(qbW hDd.1.2.1).2];exact hDd.1.2.1);rw[qdl hDn.2.1,qdl hDd.1.2.1]at ep;rw[if_pos (by omega),ep,ZB];simp only;have v1:=qfj hDn (k:=600) (by omega);have v2:=qfj hDd.1 (k:=600) (by omega);have v3:=qf6 hDd.1 hDd.2.1;generalize qW 0 ((bdy s).take (slA (bdy s)))=n at*;generalize qW 0 ((bdy s).drop (slA (bdy s)+1))=d at*;have f1:jC ((n:Nat):Int) 8000:=(qkg (p:=600) (n:=70) (by omega) (by omega)).mono (by omega);have f2:jC ((d:Nat):Int) 8000:=(qkg (p:=600) (n:=70) (by omega) (by omega)).mono (by omega)
   have e1:(rI ((n:Nat):Int)).w=dg E9 ((n:Nat):Int):=by
    show dg E9 (((n:Nat):Int).natAbs:Int)=_;rw[Int.natAbs_natCast]
   have e2:(rI ((d:Nat):Int)).w=dg E9 ((d:Nat):Int):=by
    show dg E9 (((d:Nat):Int).natAbs:Int)=_;rw[Int.natAbs_natCast]
   have ec:=qjB (N:=N) hN (a:=((n:Nat):Int)) (b:=((d:Nat):Int)) (by omega) (by omega) f1 f2;have eg:Int.gcd ((n:Nat):Int) ((d:Nat):Int)=Nat.gcd n d:=rfl;rw[eg]at ec;rw[e1,e2,ec,ZB];have hg:0<Nat.gcd n d:=Nat.gcd_pos_of_pos_right _ v3;have cc:=jl E1 (show(0:Int)<=((Nat.gcd n d:Nat):Int)by omega);have vv:=vI E1 (show(0:Int)<=((Nat.gcd n d:Nat):Int)by omega);by_cases h4:Nat.gcd n d=1
   ·have:dg E9 ((Nat.gcd n d:Nat):Int)=[1]:=by rw[show((Nat.gcd n d:Nat):Int)=1 by omega];exact qoi
    rw[this,if_neg (by simp),qbZ,if_neg (fun h=>h.2 h4)];rfl
   rw[if_pos (show slA (bdy s)<(bdy s).length/\Nat.gcd n d≠1 from⟨c,h4⟩)];by_cases h5:(dg E9 ((Nat.gcd n d:Nat):Int)).length=1
   ·obtain⟨x,hx⟩:=List.length_eq_one_iff.1 h5;rw[hx,zA,zi,Int.mul_zero,Int.add_zero]at vv
    have hx1:x≠1:=by omega
    rw[hx,if_neg (by simp),qbZ];simp only[Yj,ZB,decide_eq_false hx1];rfl
   rw[if_pos (by simp;omega)];rfl
  rw[if_neg (by omega),if_neg (by omega)];rfl
 have h1':okF s=false:=by simpa using h1
 rw[h1',if_pos (by simp),if_pos (.inl rfl)]
end Go.Av
end
section
namespace Go.Av
def tl (q:Rat):Str:=if q.den=1 then[]else 47::Lib.decDigits q.den
theorem qno (q:Rat):T q=Lib.itoa q.num++tl q:=rfl
theorem no47 {s:Str} (h:s.all yn=true): ∀c∈s,c≠47:=fun c hc e=>by
 have:=Yp.1 h c hc;rw[e]at this;exact absurd this (by decide)
theorem qkw: ∀{s:Str},(∀c∈s,c≠47)->slA s=s.length:=fun {s} h=>(qj4 s [] h).2
theorem qh0 {s:Str} (h: ∀c∈s,c≠47) (q:Rat):slA (s++tl q)=s.length:=by
 unfold tl;by_cases c:q.den=1
 ·rw[if_pos c,YQ];exact qkw h
 rw[if_neg c];exact(qj4 s _ h).1
theorem qfb (z:Int): ∀c∈Lib.itoa z,c≠47:=by
 by_cases h:z<0
 ·rw[vT h];intro c hc;rcases List.mem_cons.1 hc with e|e
  ·rw[e];decide
  exact no47 (qbC _) c e
 rw[zY h];exact no47 (qbC _)
theorem qqU {s t:Str} (h:0<s.length):sgn (s++t)=sgn s:=by
 unfold sgn;rw[Yf h]
theorem qop (z:Int):0<(Lib.itoa z).length:=by
 by_cases h:z<0
 ·rw[vT h];simp
 rw[zY h];exact qiW _
theorem qkA (q:Rat):sgn (T q)=decide (q.num<0):=by rw[qno,qqU (qop _),qiI]
theorem qlx (q:Rat):bdy (T q)=Lib.decDigits q.num.natAbs++tl q:=by
 unfold bdy;rw[qkA,qno];by_cases h:q.num<0
 ·rw[decide_eq_true h,if_pos rfl,vT h];rfl
 rw[decide_eq_false h,if_neg (by simp),zY h]
theorem qg7 {p q:Rat} (h:T p=T q):p=q:=by
 have h1:=congrArg slA h;have e1:slA (T p)=(Lib.itoa p.num).length:=qh0 (qfb _) p;have e2:slA (T q)=(Lib.itoa q.num).length:=qh0 (qfb _) q;rw[e1,e2]at h1;rw[qno,qno]at h;obtain⟨h2,h3⟩:=List.append_inj h h1
 have n1:p.num=q.num:=by rw[<-qdr p.num,h2,qdr]
 have n2:p.den=q.den:=by
  unfold tl at h3;by_cases c:p.den=1
  ·by_cases d:q.den=1
   ·rw[c,d]
   rw[if_pos c,if_neg d]at h3;cases h3
  by_cases d:q.den=1
  ·rw[if_neg c,if_pos d]at h3;cases h3
  rw[if_neg c,if_neg d]at h3;injection h3 with _ h3;exact qlS h3
 exact Rat.ext n1 n2
theorem qnb: ∀{s:Str},slA s<s.length->s=s.take (slA s)++47::s.drop (slA s+1)
 |[],h=>by simp at h
 |c::s,h=>by
  rw[slA]at h⊢;by_cases e:c=47
  ·rw[if_pos e,e];rfl
  rw[if_neg e,Yr]at h;rw[if_neg e,List.take_succ_cons,List.drop_succ_cons,List.cons_append,<-qnb (show slA s<s.length by omega)]
theorem qq9 (s:Str):s=if sgn s=true then 45::bdy s else bdy s:=by
 unfold bdy
 cases h:sgn s with
 |false=>rw[if_neg (by simp),if_neg (by simp)]
 |true=>
  rw[if_pos rfl,if_pos rfl]
  cases s with
  |nil=>cases h
  |cons c t=>
   have e:=of_decide_eq_true h;simp only[Yj]at e;rw[Ye e];rfl
theorem qge {s:Str} (h:chk s=0): ∃q:Rat,s=T q/\(Lib.decDigits q.num.natAbs).length<=600/\(Lib.decDigits q.den).length<=600:=by
 have hk:=qgK (bdy s)
 have lt:((bdy s).take (slA (bdy s))).length=slA (bdy s):=by rw[Ym];omega
 have hs:=qq9 s;have hsp:=@qnb (bdy s);unfold chk at h;by_cases h1:okF s=false\/qid s=true
 ·rw[if_pos h1]at h;cases h
 rw[if_neg h1]at h;by_cases h2:600<((bdy s).take (slA (bdy s))).length\/600<((bdy s).drop (slA (bdy s)+1)).length
 ·rw[if_pos h2]at h;cases h
 rw[if_neg h2]at h;by_cases h3:slA (bdy s)<(bdy s).length/\Nat.gcd (qW 0 ((bdy s).take (slA (bdy s)))) (qW 0 ((bdy s).drop (slA (bdy s)+1)))≠1
 ·rw[if_pos h3]at h;cases h
 have ho:okF s=true:=by cases e:okF s with|true=>rfl|false=>exact absurd (.inl e) h1
 have hb:qid s=false:=by cases e:qid s with|false=>rfl|true=>exact absurd (.inr e) h1
 obtain⟨hDn,hng⟩:=of_decide_eq_true ho;have en:=hDn.eq
 obtain⟨z,hz1,hz2⟩: ∃z:Int,z.natAbs=qW 0 ((bdy s).take (slA (bdy s)))/\(z<0↔sgn s=true):=by
  cases e:sgn s with
  |false=>exact⟨((qW 0 ((bdy s).take (slA (bdy s))):Nat):Int),by omega,by simp⟩
  |true=>
   have:=qf6 hDn fun c=>hng ⟨e,c⟩
   exact⟨-((qW 0 ((bdy s).take (slA (bdy s))):Nat):Int),by omega,by simp;omega⟩
 have hT: ∀t:Str,bdy s=(bdy s).take (slA (bdy s))++t->s=Lib.itoa z++t:=by
  intro t ht;rw[hs];by_cases c:z<0
  ·rw[if_pos (hz2.1 c),vT c,hz1,<-en,List.cons_append,<-ht]
  rw[if_neg fun e=>c (hz2.2 e),zY c,hz1,<-en,<-ht]
 by_cases c:slA (bdy s)<(bdy s).length
 ·have hDd:Dec ((bdy s).drop (slA (bdy s)+1))/\(bdy s).drop (slA (bdy s)+1)≠[48]/\(bdy s).drop (slA (bdy s)+1)≠[49]:=Classical.byContradiction fun hc=>of_decide_eq_false hb ⟨c,hc⟩
  have ed:=hDd.1.eq;have hd0:=qf6 hDd.1 hDd.2.1
  have hd1:qW 0 ((bdy s).drop (slA (bdy s)+1))≠1:=fun e=>by
   rw[e,jc (by decide)]at ed;exact hDd.2.2 ed
  have hg:Nat.gcd z.natAbs (qW 0 ((bdy s).drop (slA (bdy s)+1)))=1:=by
   rw[hz1]
   exact Classical.byContradiction fun e=>h3 ⟨c,e⟩
  refine⟨⟨z,qW 0 ((bdy s).drop (slA (bdy s)+1)),by omega,hg⟩,?_,?_,?_⟩
  ·have:=hT _ (hsp c);unfold T;rw[if_neg hd1];show s=Lib.itoa z++47::Lib.decDigits (qW 0 ((bdy s).drop (slA (bdy s)+1)));rw[<-ed];exact this
  ·show(Lib.decDigits z.natAbs).length<=600;rw[hz1,<-en];omega
  show(Lib.decDigits (qW 0 ((bdy s).drop (slA (bdy s)+1)))).length<=600;rw[<-ed];omega
 refine⟨(z:Rat),?_,?_,?_⟩
 ·have:=hT [] (by rw[YQ,List.take_of_length_le (by omega)]);unfold T;rw[Rat.den_intCast,if_pos rfl,Rat.num_intCast];exact this
 ·rw[Rat.num_intCast,hz1,<-en];omega
 rw[Rat.den_intCast,jc (by decide)];simp
end Go.Av
end
section
namespace Go.Av
def Sml (q:Rat) (k:Nat):Prop:=(Lib.decDigits q.num.natAbs).length<=k/\(Lib.decDigits q.den).length<=k
theorem qhs (z:Int):(Lib.itoa z).length<=(Lib.decDigits z.natAbs).length+1:=by
 by_cases h:z<0
 ·rw[vT h];simp
 rw[zY h];omega
theorem qhr (q:Rat) (h:q.den≠1):slA (T q)<(T q).length/\(T q).take (slA (T q))=Lib.itoa q.num/\(T q).drop (slA (T q)+1)=Lib.decDigits q.den:=by
 have e:slA (T q)=(Lib.itoa q.num).length:=qh0 (qfb _) q
 have ht:T q=Lib.itoa q.num++47::Lib.decDigits q.den:=by unfold T;rw[if_neg h]
 rw[e,ht];refine⟨by rw[Yq,Yr];omega,?_,?_⟩
 ·rw[List.take_append_of_le_length (Nat.le_refl _),List.take_of_length_le (Nat.le_refl _)]
 rw[List.drop_append,List.drop_of_length_le (by omega),show(Lib.itoa q.num).length+1-(Lib.itoa q.num).length=1 by omega];rfl
theorem qgk (q:Rat) (h:q.den=1):T q=Lib.itoa q.num/\slA (T q)=(T q).length:=by
 have ht:T q=Lib.itoa q.num:=by unfold T;rw[if_pos h,YQ]
 refine⟨ht,?_⟩;rw[ht];exact qkw (qfb _)
theorem qfy {q:Rat} {k:Nat} (h:Sml q k):(T q).length<=2*k+2:=by
 have h1:=qhs q.num;have h2:=h.1;have h3:=h.2;unfold T;rw[Yq];split
 ·simp;omega
 rw[Yr];omega
theorem xQ {N:Nat} (hN:600000<N) {q:Rat} (h:Sml q 9000): ∃f,je N (T q)=some f/\IsF f q:=by
 have hl:=qfy h;have h1:=h.1;have h2:=h.2;unfold je;rw[qpL (by omega),ZB];obtain⟨r1,e1,i1⟩:=qhL hN (s:=Lib.itoa q.num) (by rw[qcu];exact qbC _) (by rw[qcu];omega);rw[qdr]at i1;by_cases c:q.den=1
 ·obtain⟨t1,t2⟩:=qgk q c;rw[if_neg (show¬slA (T q)<(T q).length by omega)];obtain⟨f,e2,i2⟩:=qiK i1;rw[if_pos (by rfl),t1,e1,ZB,e2,ZB];refine⟨f,rfl,?_⟩;have:(q.num:Rat)=q:=Rat.ext (by simp) (by simp[c]);rw[this]at i2;exact i2
 obtain⟨t1,t2,t3⟩:=qhr q c;rw[if_pos t1];have hd:=qbC q.den;obtain⟨r2,e2,i2⟩:=qhL hN (s:=Lib.decDigits q.den) (by rw[(qbW hd).2];exact hd) (by rw[(qbW hd).2];omega);rw[qdl hd,qcB]at i2;rw[if_neg (by simp),t2,t3,e1,ZB,e2,ZB];exact⟨⟨r1,r2⟩,rfl,i1,i2⟩
theorem qjz {N:Nat} (hN:600000<N) {q:Rat} (h:Sml q 4000):yT N (T q)=some (rI q.num,rI (q.den:Int)):=by
 have hl:=qfy h;have h1:=h.1;have h2:=h.2;by_cases c:q.den=1
 ·obtain⟨t1,t2⟩:=qgk q c;unfold yT;rw[qdm (by omega) (by omega),ZB,t2,if_pos rfl,t1,qip (by omega) (by rw[qcu];exact qbC _) (by rw[qcu];omega),ZB,qrF (by omega),ZB,qdr,c];rfl
 obtain⟨t1,t2,t3⟩:=qhr q c;have hd:=qbC q.den;rw[qjJ hN (by omega) t1 (by rw[t2,qcu];exact qbC _) (by rw[t3,(qbW hd).2];exact hd),t2,t3,qdr,qdl hd,qcB]
end Go.Av
end
section
namespace Go.Av
theorem qnt {n:Nat} (h:0<n):(if((dg E9 (n:Int)).length:Int)=1 then(idx (dg E9 (n:Int)) 0).bind fun x15=>some (decide (x15=1))else some false:Option Bool)=some (decide (n=1)):=by
 have vv:=vI E1 (show(0:Int)<=(n:Int)by omega);by_cases h4:n=1
 ·rw[show(n:Int)=1 by omega,qoi,if_pos (by simp),qbZ,h4];rfl
 rw[decide_eq_false h4];by_cases h5:(dg E9 (n:Int)).length=1
 ·obtain⟨x,hx⟩:=List.length_eq_one_iff.1 h5;rw[hx,zA,zi,Int.mul_zero,Int.add_zero]at vv
  have hx1:x≠1:=by omega
  rw[hx,if_pos (by simp),qbZ];simp only[Yj,ZB,decide_eq_false hx1]
 rw[if_neg (by omega)]
theorem jC.abs {z:Int} {n:Nat} (h:jC z n):jC (z.natAbs:Int) n:=by
 unfold jC at h⊢;rw[Int.natAbs_natCast];exact h
theorem jC.le {a b:Int} {n:Nat} (h:(a.natAbs:Int)<=(b.natAbs:Int)) (k:jC b n):jC a n:=Int.lt_of_le_of_lt h k
theorem jC.itoaLen {z:Int} {n:Nat} (h:jC z n) (hn:0<n):(Lib.itoa z).length<=9*n+1:=by
 have h2:z.natAbs<10^(9*n):=by
  have h:(z.natAbs:Int)<E9^n:=h;rw[qiS]at h;exact Int.ofNat_lt.1 h
 have h3:=(qas (show 0<9*n by omega)).2 h2;have h4:=qhs z;omega
theorem qm5 {N:Nat} (hN:60000<N) {x y:Int} (hx:0<=x) (hy:0<y) {B:Nat} (hB:B<=8000) (fx:jC x B):jQ N (dg E9 x) (dg E9 y)=some (dg E9 (x/y),dg E9 (x%y)):=by
 have l:=fx.len;rw[show(x.natAbs:Int)=x by omega]at l;rw[qdZ hN (jl E1 hx) (jl E1 (by omega)) (by omega) (by rw[vI E1 (by omega)];exact hy),vI E1 hx,vI E1 (by omega)]
theorem den_pos (q:Rat):0<q.den:=Nat.pos_of_ne_zero q.den_nz
theorem qh7 {a b:Int} (hb:b≠0):(b.sign*a).natAbs=a.natAbs:=by rw[Int.natAbs_mul,Int.natAbs_sign_of_ne_zero hb,Nat.one_mul]
theorem qmM (a b:Int):Int.gcd (a.natAbs:Int) (b.natAbs:Int)=Int.gcd b a:=by
 rw[Int.gcd_comm];rfl
theorem qjU {N:Nat} (hN:600000<N) {B:Nat} (hB0:0<B) (hB:B<=8000) {a b:Int} (fa:jC a B) (fb:jC b B) (hb:b≠0):xA N (rI a) (rI b)=some (T (Rat.divInt a b)):=by
 have hg:0<Int.gcd b a:=Int.gcd_pos_of_ne_zero_left _ hb;have ea:=qh7 (a:=a) hb
 have S:(if(rI b).neg=true then(xG N (rI a)).bind fun r7=>(xG N (rI b)).bind fun r8=>some (r7.neg,r7.w,r8.neg,r8.w)else some ((rI a).neg,(rI a).w,(rI b).neg,(rI b).w):Option (Bool×(List Int)×Bool×(List Int)))=some (decide (b.sign*a<0),dg E9 (a.natAbs:Int),false,dg E9 (b.natAbs:Int)):=by
  by_cases h:b<0
  ·rw[if_pos (show(rI b).neg=true from decide_eq_true h),qk8 (by omega) (fa.mono (by omega)),ZB,qk8 (by omega) (fb.mono (by omega)),ZB,Int.sign_eq_neg_one_of_neg h,Int.neg_mul,Int.one_mul];show some (decide (-a<0),dg E9 (((-a).natAbs:Nat):Int),decide (-b<0),dg E9 (((-b).natAbs:Nat):Int))=_;rw[decide_eq_false (show¬ -b<0 by omega),Int.natAbs_neg,Int.natAbs_neg]
  rw[if_neg (show¬(rI b).neg=true from fun c=>h (of_decide_eq_true c)),Int.sign_eq_one_of_pos (by omega),Int.one_mul];show some (decide (a<0),dg E9 ((a.natAbs:Nat):Int),decide (b<0),dg E9 ((b.natAbs:Nat):Int))=_;rw[decide_eq_false h]
 have en:(Rat.divInt a b).num=b.sign*a/(Int.gcd b a:Int):=Rat.num_divInt ..
 have ed:(b.natAbs:Int)/(Int.gcd b a:Int)=((Rat.divInt a b).den:Int):=by rw[Rat.den_divInt,if_neg hb,Int.natCast_ediv]
 have hd:=den_pos (Rat.divInt a b);have dvd:(Int.gcd b a:Int)∣b.sign*a:=Int.dvd_mul_of_dvd_right (Int.gcd_dvd_right ..)
 have fn:jC (Rat.divInt a b).num B:=by
  rw[en];exact jC.le (Int.le_trans (qap _ (by omega)) (by rw[ea];exact Int.le_refl _)) fa
 have fd:jC ((Rat.divInt a b).den:Int) B:=by
  rw[<-ed];exact jC.le (Int.le_trans (qap _ (by omega)) (Int.le_refl _)) fb.abs
 have vn:(if decide (b.sign*a<0)=true then-dv E9 (dg E9 ((a.natAbs:Int)/(Int.gcd b a:Int)))else dv E9 (dg E9 ((a.natAbs:Int)/(Int.gcd b a:Int))))=(Rat.divInt a b).num:=by
  have p0:0<=(a.natAbs:Int)/(Int.gcd b a:Int):=Int.ediv_nonneg (by omega) (by omega);rw[vI E1 p0,en];by_cases c:b.sign*a<0
  ·rw[if_pos (decide_eq_true c),show(a.natAbs:Int)= -(b.sign*a)by omega,Int.neg_ediv_of_dvd dvd,Int.neg_neg]
  rw[if_neg (fun h=>c (of_decide_eq_true h)),show(a.natAbs:Int)=b.sign*a by omega]
 unfold xA;rw[S,ZB];simp only;rw[qjB hN (by omega) (by omega) (fa.abs.mono hB) (fb.abs.mono hB),ZB,qmM,qm5 (by omega) (by omega) (by omega) hB fa.abs,ZB,qm5 (by omega) (by omega) (by omega) hB fb.abs,ZB];simp only;have p0:0<=(a.natAbs:Int)/(Int.gcd b a:Int):=Int.ediv_nonneg (by omega) (by omega)
 have ln:(dg E9 ((a.natAbs:Int)/(Int.gcd b a:Int))).length<=B:=by
  have:=(jC.le (Int.le_trans (qap _ (by omega)) (Int.le_refl _)) fa.abs:jC ((a.natAbs:Int)/(Int.gcd b a:Int)) B).len;rw[show(((a.natAbs:Int)/(Int.gcd b a:Int)).natAbs:Int)=(a.natAbs:Int)/(Int.gcd b a:Int)by omega]at this;exact this
 have ld:(dg E9 ((Rat.divInt a b).den:Int)).length<=B:=by
  have:=fd.len;rw[Int.natAbs_natCast]at this;exact this
 rw[qaN _ (jl E1 p0).1 (by omega) (by omega),ZB,vn,qmD (by omega) (fn.mono (by omega)),ZB,ed,qnt hd,ZB];have l1:=fn.itoaLen hB0;have l2:=fd.itoaLen hB0;unfold T;by_cases c:(Rat.divInt a b).den=1
 ·rw[if_pos (decide_eq_true c),if_pos c,YQ]
 rw[if_neg (fun h=>c (of_decide_eq_true h)),if_neg c,qbK (by simp;omega),ZB,qaN _ (jl E1 (by omega)).1 (by omega) (by omega),ZB,if_neg (by simp),vI E1 (by omega),qmD (by omega) (fd.mono (by omega)),ZB,qbK (by simp;omega),ZB,qfd,Yz];rfl
theorem qrk {a b:Int} (ha:0<=a) (hb:0<b):qes .i64 a b=some (a%b):=by
 unfold qes;rw[if_neg (by omega),Int.tmod_eq_emod_of_nonneg ha]
theorem qrm {a b:Int} (hb:0<b) (h1: -4000000000000000000<=a) (h2:a<=4000000000000000000) (hd:b∣a):qcH .i64 a b=some (a/b):=by
 have:=qap a hb;unfold qcH;rw[if_neg (by omega),Int.tdiv_eq_ediv_of_dvd hd];show some (w64 _)=_;rw[qj (by omega) (by omega)]
theorem qmU: ∀(k K:Nat) (a b:Int),0<=a->0<=b->b<2^k->2*k+2<=K->ve K a b=some (Int.gcd a b:Int)
 |k,0,a,b,_,_,_,hK=>by omega
 |k,K+1,a,b,ha,hb,hk,hK=>by
  have na:(a.natAbs:Int)=a:=by omega
  have nb:(b.natAbs:Int)=b:=by omega
  rcases(show b=0\/0<b by omega)with h0|h0
  ·rw[h0,ve,if_neg (by omega),Int.gcd_zero,na]
  match k,hk,hK with
  |0,hk,hK=>simp at hk;omega
  |k+1,hk,hK=>
   have m0:=Int.emod_nonneg a (show b≠0 by omega);have m1:=Int.emod_lt_of_pos a h0;rw[ve,if_pos (by omega),qrk ha h0,ZB,qdA ha hb]
   match K,hK with
   |0,hK=>omega
   |K+1,hK=>
    rcases(show a%b=0\/0<a%b by omega)with g0|g0
    ·rw[g0,ve,if_neg (by omega),Int.gcd_zero,nb]
    have n0:=Int.emod_nonneg b (show a%b≠0 by omega);have n1:=Int.emod_lt_of_pos b g0
    have hhalf:b%(a%b)<2^k:=by
     have d1:=Int.mul_ediv_add_emod b (a%b)
     have d2:1<=b/(a%b):=by
      rw[Int.le_ediv_iff_mul_le g0];omega
     have d3:a%b*1<=a%b*(b/(a%b)):=Yc d2 (by omega);rw[Int.pow_succ]at hk;omega
    rw[ve,if_pos (by omega),qrk hb g0,ZB,qdA hb m0];exact qmU k K (a%b) (b%(a%b)) m0 n0 hhalf (by omega)
theorem qqx {N:Nat} (hN:200<N) {a b:Int} (ha:0<=a) (hb:0<=b) (h:b<9223372036854775808):qdz N a b=some (Int.gcd a b:Int):=by
 unfold qdz;rw[qmU 63 N a b ha hb h (by omega),ZB]
theorem rabs {z:Int} (h1: -9223372036854775807<=z) (h2:z<=9223372036854775807):(if w64 (0-z)>z then w64 (0-z)else z)=(z.natAbs:Int):=by
 rw[qj (by omega) (by omega)];split<;>omega
theorem qrw {n:Nat} (h:n<=4000000000000000000):(Lib.decDigits n).length<=19:=(qas (by decide)).2 (by omega)
theorem qrE {N:Nat} (hN:1000<N) {a b:Int} (a1: -4000000000000000000<=a) (a2:a<=4000000000000000000) (b1: -4000000000000000000<=b) (b2:b<=4000000000000000000) (hb:b≠0):qe2 N a b=some (T (Rat.divInt a b)):=by
 have hg:0<Int.gcd b a:=Int.gcd_pos_of_ne_zero_left _ hb;have ea:=qh7 (a:=a) hb
 have S:(if b<0 then some (w64 (0-a),w64 (0-b))else some (a,b):Option (Int×Int))=some (b.sign*a,(b.natAbs:Int)):=by
  by_cases h:b<0
  ·rw[if_pos h,qj (by omega) (by omega),qj (by omega) (by omega),Int.sign_eq_neg_one_of_neg h,show(-1:Int)*a=0-a by omega,show(b.natAbs:Int)=0-b by omega]
  rw[if_neg h,Int.sign_eq_one_of_pos (by omega),Int.one_mul,show(b.natAbs:Int)=b by omega]
 have en:(Rat.divInt a b).num=b.sign*a/(Int.gcd b a:Int):=Rat.num_divInt ..
 have ed:(b.natAbs:Int)/(Int.gcd b a:Int)=((Rat.divInt a b).den:Int):=by rw[Rat.den_divInt,if_neg hb,Int.natCast_ediv]
 have hd:=den_pos (Rat.divInt a b);have dvd:(Int.gcd b a:Int)∣b.sign*a:=Int.dvd_mul_of_dvd_right (Int.gcd_dvd_right ..)
 have dvb:(Int.gcd b a:Int)∣(b.natAbs:Int):=by
  rw[Int.dvd_natAbs];exact Int.gcd_dvd_left ..
 have n1:=qap (b.sign*a) (show(0:Int)<(Int.gcd b a:Int)by omega);have n2:=qap (b.natAbs:Int) (show(0:Int)<(Int.gcd b a:Int)by omega);rw[<-en,ea]at n1;rw[ed,Int.natAbs_natCast,Int.natAbs_natCast]at n2;unfold qe2;rw[if_neg (show¬a< -4000000000000000000 by omega),if_neg (show¬a>4000000000000000000 by omega),if_neg (show¬b< -4000000000000000000 by omega),decide_eq_false (show¬b>4000000000000000000 by omega),ZB,if_neg (by simp),S,ZB];simp only;rw[rabs (by omega) (by omega),ea,qqx (by omega) (by omega) (by omega) (by omega),ZB,qmM,qrm (by omega) (by omega) (by omega) dvd,ZB,qrm (by omega) (by omega) (by omega) dvb,ZB,<-en,ed,rabs (by omega) (by omega),qij (by omega) (by omega),qij (by omega) (by omega)];generalize Rat.divInt a b=q at*;have l1:=qrw (n:=q.num.natAbs) (by omega);have l2:=qrw (n:=q.den) (by omega)
 have S2:((if q.num<0 then some [45]else some []:Option Str).bind fun s17=>(some (Lib.decDigits q.num.natAbs)).bind fun r20=>(cat s17 r20).bind fun s21=>(if(q.den:Int)>1 then(cat s21 [47]).bind fun s25=>(some (Lib.decDigits q.den)).bind fun r26=>(cat s25 r26).bind fun s27=>some s27 else some s21:Option Str).bind fun s22=>some s22)=some (T q):=by
  have li:(Lib.itoa q.num).length<=20:=by have:=qhs q.num;omega
  have I:((if q.num<0 then some [45]else some []:Option Str).bind fun s17=>(some (Lib.decDigits q.num.natAbs)).bind fun r20=>(cat s17 r20).bind fun s21=>(if(q.den:Int)>1 then(cat s21 [47]).bind fun s25=>(some (Lib.decDigits q.den)).bind fun r26=>(cat s25 r26).bind fun s27=>some s27 else some s21:Option Str).bind fun s22=>some s22)=((if(q.den:Int)>1 then(cat (Lib.itoa q.num) [47]).bind fun s25=>(some (Lib.decDigits q.den)).bind fun r26=>(cat s25 r26).bind fun s27=>some s27 else some (Lib.itoa q.num):Option Str).bind fun s22=>some s22):=by
   by_cases c:q.num<0
   ·rw[if_pos c,ZB,ZB,qbK (by simp;omega),ZB,vT c];rfl
   rw[if_neg c,ZB,ZB,qbK (by simp;omega),ZB,zY c];rfl
  rw[I];unfold T;by_cases c:q.den=1
  ·rw[if_neg (by omega),if_pos c,ZB,YQ]
  rw[if_pos (by omega),if_neg c,qbK (by simp;omega),ZB,ZB,qbK (by simp;omega),ZB,ZB,Yz];rfl
 exact S2
end Go.Av
end
section
namespace Go.Av
theorem Sml.mono {q:Rat} {m n:Nat} (h:Sml q m) (hn:m<=n):Sml q n:=⟨Nat.le_trans h.1 hn,Nat.le_trans h.2 hn⟩
theorem qcV {q:Rat} {k n:Nat} (h:Sml q k) (hk:0<k) (hn:k<=9*n):jC q.num n:=qkg (p:=k) (Int.ofNat_lt.2 ((qas hk).1 h.1)) hn
theorem qcY {q:Rat} {k n:Nat} (h:Sml q k) (hk:0<k) (hn:k<=9*n):jC (q.den:Int) n:=qkg (p:=k) (by rw[Int.natAbs_natCast];exact Int.ofNat_lt.2 ((qas hk).1 h.2)) hn
theorem zR {q:Rat} {k n:Nat} (h:Sml q k) (hk:0<k) (hn:k<=19*n):qdR q n:=⟨qgg (p:=k) (Int.ofNat_lt.2 ((qas hk).1 h.1)) hn,qgg (p:=k) (by rw[Int.natAbs_natCast];exact Int.ofNat_lt.2 ((qas hk).1 h.2)) hn⟩
theorem qni {z:Int} {n:Nat} (h:jC z n) (hn:0<n):(Lib.decDigits z.natAbs).length<=9*n:=by
 refine(qas (by omega)).2 ?_;have h:(z.natAbs:Int)<E9^n:=h;rw[qiS]at h;exact Int.ofNat_lt.1 h
theorem qf5 {q:Rat} {n:Nat} (h1:jC q.num n) (h2:jC (q.den:Int) n) (hn:0<n):Sml q (9*n):=by
 have h3:=qni h2 hn;rw[Int.natAbs_natCast]at h3;exact⟨qni h1 hn,h3⟩
theorem qeD {a b:Int} {n:Nat} (hb:b≠0) (fa:jC a n) (fb:jC b n):jC (Rat.divInt a b).num n/\jC ((Rat.divInt a b).den:Int) n:=by
 have hg:0<Int.gcd b a:=Int.gcd_pos_of_ne_zero_left _ hb;constructor
 ·rw[Rat.num_divInt];exact jC.le (Int.le_trans (qap _ (by omega)) (by rw[qh7 hb];exact Int.le_refl _)) fa
 rw[Rat.den_divInt,if_neg hb,Int.natCast_ediv];exact jC.le (Int.le_trans (qap _ (by omega)) (Int.le_refl _)) fb.abs
theorem xx {a b:Int} {m n:Nat} (ha:jC a m) (hb:jC b n):jC (a*b) (m+n):=by
 unfold jC at*;rw[Int.natAbs_mul,Int.natCast_mul,Int.pow_add];have h1:(a.natAbs:Int)*(b.natAbs:Int)<=(a.natAbs:Int)*E9^n:=Yc (Int.le_of_lt hb) (by omega);have h2:(a.natAbs:Int)*E9^n<E9^m*E9^n:=YH ha (pow_pos E0 n);omega
theorem qhN {a b:Int} {n:Nat} (ha:jC a n) (hb:jC b n):jC (a+b) (n+1):=by
 unfold jC at*;rw[Int.pow_succ];have hp:=pow_pos E0 n
 have:((a+b).natAbs:Int)<=(a.natAbs:Int)+(b.natAbs:Int):=by omega
 unfold E9 at*;omega
theorem qgf {q:Rat} (h:Sml q 600):qdv q=false:=by
 have h1:=h.1;have h2:=h.2;unfold qdv lng;rw[Int.natAbs_natCast,decide_eq_false (by omega),decide_eq_false (by omega)];rfl
theorem qoa (s:Str):vV s=some (if s=[48]then 0 else if sgn s=true then-1 else 1):=by
 unfold vV;by_cases c:s=[48]
 ·rw[if_pos (by simp[c]),if_pos c]
 rw[if_neg (by simp[c]),qgt,ZB,if_neg c];cases sgn s<;>rfl
theorem itoa0:Lib.itoa 0=[48]:=by
 rw[zY (by decide),show(0:Int).natAbs=0 from rfl,jc (by decide)];rfl
theorem T0:T 0=[48]:=by
 rw[(qgk 0 rfl).1];exact itoa0
theorem qp0 {q:Rat}:T q=[48]↔q=0:=by
 constructor
 ·intro h;exact qg7 (h.trans T0.symm)
 intro h;rw[h];exact T0
theorem qeU (q:Rat):vV (T q)=some (if q.num<0 then-1 else if q.num=0 then 0 else 1):=by
 rw[qoa,qkA];by_cases c:q=0
 ·rw[if_pos (qp0.2 c),c];rfl
 rw[if_neg (fun h=>c (qp0.1 h)),if_neg (show¬q.num=0 from fun h=>c (Rat.num_eq_zero.1 h))];by_cases d:q.num<0
 ·rw[decide_eq_true d,if_pos rfl,if_pos d]
 rw[decide_eq_false d,if_neg (by simp),if_neg d]
theorem qrS (q:Rat):tl (-q)=tl q:=by
 unfold tl;rw[Rat.neg_den]
theorem Neg_T {N:Nat} {q:Rat} (h:(T q).length<=100000):qdH (T q)=some (T (-q)):=by
 unfold qdH;rw[qeU,ZB]
 have e:T (-q)=Lib.itoa (-q.num)++tl q:=by rw[qno,qrS,Rat.neg_num]
 by_cases c:q.num<0
 ·have hs:sgn (T q)=true:=by rw[qkA];exact decide_eq_true c
  have hb:(T q).drop 1=bdy (T q):=by unfold bdy;rw[if_pos hs]
  have h1:=qkl hs;rw[if_pos c,if_pos (by decide),show(1:Int)=((1:Nat):Int)from rfl,xY h1,ZB,hb,qlx,e,zY (by omega),Int.natAbs_neg]
 rw[if_neg c,if_neg (by split<;>decide),ZB];by_cases d:q.num=0
 ·rw[if_pos d,if_pos rfl,Rat.num_eq_zero.1 d];rfl
 rw[if_neg d,if_neg (by decide),qbK (by simp;omega),ZB,e,vT (by omega),Int.natAbs_neg,qno,zY c];rfl
theorem qiV {N:Nat} (hN:100000<N) {q:Rat} {k:Nat} (h:Sml q k) (hk:k<=9000):yN N (T q)=some (0,0,false)\/(yN N (T q)=some (q.num,(q.den:Int),true)/\q.num.natAbs<1000000000/\q.den<1000000000):=by
 have hl:=qfy h;have hb:=qgm (T q);have eb:=qlx q;have es:slA (Lib.decDigits q.num.natAbs++tl q)=(Lib.decDigits q.num.natAbs).length:=qh0 (no47 (qbC _)) q;have lt:(Lib.decDigits q.num.natAbs++tl q).length=(Lib.decDigits q.num.natAbs).length+(tl q).length:=Yq;rw[eb]at hb;unfold yN;by_cases c:((T q).length:Int)>20
 ·left;rw[if_pos c]
 rw[if_neg c,qgt,ZB,qlL,ZB,eb,qdm (by omega) (by omega),ZB,es,qkA];by_cases c1:(Lib.decDigits q.num.natAbs).length>9
 ·left;rw[if_pos (by omega),ZB,if_pos rfl]
 rw[if_neg (by omega),qj (by omega) (by omega)];by_cases c2:(tl q).length>10
 ·left;rw[decide_eq_true (by omega),ZB,if_pos rfl]
 right;rw[decide_eq_false (by omega),ZB,if_neg (by simp),vY (by omega),ZB,List.take_left',qgn (by omega) (qbC _) (by omega),ZB,qcB]
 ·have hn:q.num.natAbs<1000000000:=(qas (show 0<9 by decide)).1 (by omega)
  have sg:(if decide (q.num<0)=true then some (w64 (0-(q.num.natAbs:Int)))else some (q.num.natAbs:Int):Option Int)=some q.num:=by
   by_cases d:q.num<0
   ·rw[if_pos (decide_eq_true d),qj (by omega) (by omega)];congr 1;omega
   rw[if_neg (fun h=>d (of_decide_eq_true h))];congr 1;omega
  by_cases d:q.den=1
  ·have ht:tl q=[]:=by unfold tl;rw[if_pos d]
   rw[ht]at lt;rw[List.length_nil]at lt;rw[ht,if_neg (by omega),ZB,sg,ZB,d];exact⟨rfl,hn,by decide⟩
  have ht:tl q=47::Lib.decDigits q.den:=by unfold tl;rw[if_neg d]
  rw[ht,Yr]at lt c2;have hd:q.den<1000000000:=(qas (show 0<9 by decide)).1 (by omega);rw[ht,if_pos (by omega),qQ (by omega),xY (by omega),ZB,List.drop_append,List.drop_of_length_le (by omega),show(Lib.decDigits q.num.natAbs).length+1-(Lib.decDigits q.num.natAbs).length=1 by omega,List.nil_append,List.drop_succ_cons,YR,qgn (by omega) (qbC _) (by omega),ZB,ZB,sg,ZB,qcB];exact⟨rfl,hn,hd⟩
 rfl
theorem qqC {N:Nat} (hN:100000<N) {p q:Rat} {k:Nat} (hk:k<=9000) (hp:Sml p k) (hq:Sml q k) {Fq:(Int×Int×Bool)->(Int×Int×Bool)->Option Str} {slow:Option Str} {t:Str}
 (h1:p.num.natAbs<1000000000->p.den<1000000000->q.num.natAbs<1000000000->q.den<1000000000->Fq (p.num,(p.den:Int),true) (q.num,(q.den:Int),true)=some t) (h2:slow=some t):
 ((yN N (T p)).bind fun r1=>(yN N (T q)).bind fun r2=>(if r1.2.2=true then some r2.2.2 else some false:Option Bool).bind fun b4=>if b4=true then(Fq r1 r2).bind fun r7=>some r7 else slow)=some t:=by
 rcases qiV hN hp hk with e1|⟨e1,a1,a2⟩
 ·rcases qiV hN hq hk with e2|⟨e2,b1,b2⟩
  ·rw[e1,ZB,e2,ZB];exact h2
  rw[e1,ZB,e2,ZB];exact h2
 rcases qiV hN hq hk with e2|⟨e2,b1,b2⟩
 ·rw[e1,ZB,e2,ZB];exact h2
 rw[e1,ZB,e2,ZB];show((Fq (p.num,(p.den:Int),true) (q.num,(q.den:Int),true)).bind fun r7=>some r7)=some t;rw[h1 a1 a2 b1 b2,ZB]
theorem mul9 {a b:Int} (ha:a.natAbs<1000000000) (hb:b.natAbs<1000000000): -1000000000000000000<=a*b/\a*b<=1000000000000000000:=by
 have h:(a*b).natAbs<=1000000000*1000000000:=by
  rw[Int.natAbs_mul];exact Nat.mul_le_mul (by omega) (by omega)
 omega
theorem qkr {N:Nat} (hN:600000<N) {p q:Rat} {k:Nat} (hk0:0<k) (hk:k<=4000) (hp:Sml p k) (hq:Sml q k):qbR N (T p) (T q)=some (T (p+q)):=by
 unfold qbR;obtain⟨n,hn⟩: ∃n:Nat,n=500:=⟨_,rfl⟩;have p1:=qcV (n:=n) hp hk0 (by omega);have p2:=qcY (n:=n) hp hk0 (by omega);have q1:=qcV (n:=n) hq hk0 (by omega);have q2:=qcY (n:=n) hq hk0 (by omega);refine qqC (N:=N) (by omega) (show k<=9000 by omega) hp hq (fun a1 a2 b1 b2=>?_) ?_
 ·have m1:=mul9 a1 (show((q.den:Int)).natAbs<1000000000 by omega);have m2:=mul9 b1 (show((p.den:Int)).natAbs<1000000000 by omega);have m3:=mul9 (show((p.den:Int)).natAbs<1000000000 by omega) (show((q.den:Int)).natAbs<1000000000 by omega);have:=qex p q;simp only;rw[qj (n:=p.num*(q.den:Int)) (by omega) (by omega),qj (n:=q.num*(p.den:Int)) (by omega) (by omega),qj (n:=(p.den:Int)*(q.den:Int)) (by omega) (by omega),qj (by omega) (by omega),qrE (by omega) (by omega) (by omega) (by omega) (by omega) (qex p q),<-qcx]
 rw[qjz hN (hp.mono (by omega)),ZB,qjz hN (hq.mono (by omega)),ZB];simp only;rw[qik (by omega) (p1.mono (by omega)) (q2.mono (by omega)),ZB,qik (by omega) (q1.mono (by omega)) (p2.mono (by omega)),ZB,qqH (by omega) ((xx p1 q2).mono (by omega)) ((xx q1 p2).mono (by omega)),ZB,qik (by omega) (p2.mono (by omega)) (q2.mono (by omega)),ZB,qjU hN (B:=n+n+1) (by omega) (by omega) (qhN (xx p1 q2) (xx q1 p2)) ((xx p2 q2).mono (by omega)) (qex p q),ZB,<-qcx]
theorem qqK {p q:Rat} {n:Nat} (hn:0<n) (hp:Sml p (9*n)) (hq:Sml q (9*n)):Sml (p+q) (9*(n+n+1)):=by
 have p1:=qcV (n:=n) hp (by omega) (by omega);have p2:=qcY (n:=n) hp (by omega) (by omega);have q1:=qcV (n:=n) hq (by omega) (by omega);have q2:=qcY (n:=n) hq (by omega) (by omega);rw[qcx];obtain⟨f1,f2⟩:=qeD (qex p q) (qhN (xx p1 q2) (xx q1 p2)) ((xx p2 q2).mono (show n+n<=n+n+1 by omega));exact qf5 f1 f2 (by omega)
theorem qqP {p q:Rat} {n:Nat} (hn:0<n) (hp:Sml p (9*n)) (hq:Sml q (9*n)):Sml (p*q) (9*(n+n)):=by
 have p1:=qcV (n:=n) hp (by omega) (by omega);have p2:=qcY (n:=n) hp (by omega) (by omega);have q1:=qcV (n:=n) hq (by omega) (by omega);have q2:=qcY (n:=n) hq (by omega) (by omega);rw[qjb];obtain⟨f1,f2⟩:=qeD (qex p q) (xx p1 q1) (xx p2 q2);exact qf5 f1 f2 (by omega)
theorem qj1 {p:Rat} {k:Nat} (h:Sml p k):Sml (-p) k:=by
 unfold Sml;rw[Rat.neg_num,Rat.neg_den,Int.natAbs_neg];exact h
theorem qqw {p:Rat} {k:Nat} (h:Sml p k) (h0:p≠0):Sml p⁻¹ k:=by
 have hn:p.num≠0:=fun c=>h0 (Rat.num_eq_zero.1 c)
 unfold Sml;rw[Rat.num_inv,Rat.den_inv,if_neg hn,Int.natAbs_mul,Int.natAbs_sign_of_ne_zero hn,Nat.one_mul,Int.natAbs_natCast];exact⟨h.2,h.1⟩
theorem qmY {N:Nat} (hN:600000<N) {p q:Rat} {k:Nat} (hk0:0<k) (hk:k<=4000) (hp:Sml p k) (hq:Sml q k):qcr N (T p) (T q)=some (T (p-q)):=by
 have hl:=qfy hq;unfold qcr;rw[Neg_T (N:=N) (by omega),ZB,qkr hN hk0 hk hp (qj1 hq),ZB,Rat.sub_eq_add_neg]
theorem qfe {N:Nat} (hN:600000<N) {p q:Rat} {k:Nat} (hk0:0<k) (hk:k<=4000) (hp:Sml p k) (hq:Sml q k):qad N (T p) (T q)=some (if p<q then-1 else if p=q then 0 else 1):=by
 unfold qad;rw[qmY hN hk0 hk hp hq,ZB,qeU,ZB]
 have a1:((p-q).num<0)=(p<q):=by
  apply propext;rw[<-Rat.not_le,Rat.le_iff_sub_nonneg q p,<-Rat.num_nonneg];omega
 have a2:((p-q).num=0)=(p=q):=by
  apply propext;rw[Rat.num_eq_zero];constructor
  ·intro h;have:p-q+q=p:=Rat.sub_add_cancel;rw[h,Rat.zero_add]at this;exact this.symm
  intro h;rw[h,Rat.sub_self]
 simp only[a1,a2]
end Go.Av
end
section
namespace Go.Av
def res (q:Rat):Str×Int:=if qdv q=true then([],4)else(T q,0)
section ops
variable {N:Nat} (hN:600000<N)
include hN
variable {p q:Rat} (hp:Sml p 600) (hq:Sml q 600) (cp:chk (T p)=0) (cq:chk (T q)=0)
include hp hq cp cq
end ops
end Go.Av
end
section
namespace Go.Av
theorem qla {s:Str} {k:Nat} {c:UInt8} (h:s[k]? =some c):((⟨s.toArray⟩:ByteArray).get! k)=c:=by
 have hk:=(Yb.1 h).1;show s.toArray[k]! =c;rw[getElem!_def];simp[h]
theorem ql4 {s:Str} {k:Nat} {c:UInt8} (h:s[k]? =some c) (hc:c.toNat<128):yG s k=c.toNat/\runeLen s k=1:=by
 have e:=qla h;unfold yG runeLen Utf8.decode;simp only[Nat.add_zero,e,if_pos hc,and_self]
theorem qnk {s:Str} {k:Nat} {c:UInt8} (h:s[k]? =some c) (hc:128<=c.toNat):128<=yG s k:=by
 have e:=qla h;unfold yG Utf8.decode;simp only[Nat.add_zero,e,if_neg (Nat.not_lt.2 hc)]
 have hr:(128:Nat)<=Utf8.runeError:=by decide
 repeat' split
 all_goals first|(simp only[Bool.and_eq_true,decide_eq_true_eq]at*;omega)|(simp;omega)|omega
def qjX (c:Int):Bool:=(decide (97<=c)&&decide (c<=122))||(decide (65<=c)&&decide (c<=90))
theorem qhd (c:Int):yK c=some (qjX c):=by
 unfold yK qjX;by_cases h1:c>=97<;>by_cases h2:c<=122<;>by_cases h3:c>=65<;>by_cases h4:c<=90<;>simp[h1,h2,h3,h4]<;>omega
def qmf (k:Nat) (c:Int):Bool:=!qjX c&&(decide (k=0)||(!decide (c=95)&&(decide (c<48)||decide (c>57))))
def qfz (s:Str):Bool:=decide (1<=s.length)&&decide (s.length<=24)&&!((List.range s.length).any fun k=>qmf k (s.getD k 0).toNat)
theorem qoJ {k:Nat} {c:Int} (h:128<=c):qmf k c=true:=by
 unfold qmf qjX;simp;omega
def qbE (s:Str) (k:Nat):Bool:=(List.range (s.length-k)).any fun j=>qmf (k+j) (s.getD (k+j) 0).toNat
theorem qgr {s:Str} {k:Nat} {c:UInt8} (h:s[k]? =some c):qbE s k=(qmf k c.toNat||qbE s (k+1)):=by
 have hk:=(Yb.1 h).1;unfold qbE;rw[show s.length-k=(s.length-(k+1))+1 by omega,List.range_succ_eq_map,List.any_cons,List.any_map];congr 1
 ·simp[List.getD,h]
 congr 1;funext j;simp only[Function.comp,Nat.succ_eq_add_one];rw[show k+(j+1)=k+1+j by omega]
theorem qha {s:Str} {k:Nat} (h:s.length<=k):qbE s k=false:=by
 unfold qbE;rw[show s.length-k=0 by omega];rfl
theorem qjl (s:Str): ∀(K k:Nat),k<=s.length->s.length<K+k->jV s K k=some (if qbE s k then .inr false else .inl ())
 |0,k,h,hK=>by omega
 |K+1,k,h,hK=>by
  unfold jV;by_cases hk:k<s.length
  ·have hc:s[k]? =some s[k]:=Ya hk;rw[if_pos hk,qhd,qgr hc];by_cases ha:(s[k]).toNat<128
   ·obtain⟨e1,e2⟩:=ql4 hc ha;rw[e1,e2,qjl s K (k+1) (by omega) (by omega)]
    have ek:((k:Int)=0)↔k=0:=by omega
    unfold qmf;generalize ((s[k]).toNat:Int)=c;cases hl:qjX c<;>by_cases h0:k=0<;>by_cases h1:c=95<;>by_cases h2:c<48<;>by_cases h3:57<c<;>
     simp[hl,h0,h1,h2,h3]
   have hw:=qnk hc (by omega);rw[qoJ (show(128:Int)<=((s[k]).toNat:Int)by omega)]
   have hl:qjX (yG s k)=false:=by unfold qjX;simp;omega
   have h1: ¬yG s k=95:=by omega
   have h2: ¬yG s k<48:=by omega
   have h3:yG s k>57:=by omega
   have ek:((k:Int)=0)↔k=0:=by omega
   simp only[hl,ZB,Bool.not_false,if_true,h1,h2,h3,decide_true,decide_false,if_false,Bool.true_or,ek];by_cases h0:k=0
   ·simp only[h0,if_true,ZB]
   simp only[h0,if_false,ZB,if_true]
  rw[if_neg hk,qha (by omega)];rfl
theorem qk6 (s:Str):qfz s=(decide (1<=s.length)&&decide (s.length<=24)&&!qbE s 0):=by
 unfold qfz qbE;simp
theorem qgH {N:Nat} {s:Str} (h:s.length<N):qag N s=some (qfz s):=by
 unfold qag;rw[qjl s N 0 (Nat.zero_le _) (by omega),qk6];cases hb:qbE s 0
 ·cases s with
  |nil=>simp
  |cons x xs=>
   have e:((x::xs)==([]:Str))=false:=rfl;simp only[ZB,ZF,if_false,e,Bool.not_false,if_true,Bool.and_true,ZI]
   have:(1<=(x::xs).length):=by simp
   rw[Bool.eq_iff_iff];simp only[decide_eq_true_eq,Bool.and_eq_true,this,true_and];omega
 simp
theorem qiC (s:Str) (hs:s.length<4611686018427387904): ∀(K k:Nat),k<=s.length->s.length<K+k->vW s K (k:Int)=some (if qbE s k then .inr false else .inl ())
 |0,k,h,hK=>by omega
 |K+1,k,h,hK=>by
  unfold vW;by_cases hk:k<s.length
  ·have hc:s[k]? =some s[k]:=Ya hk;rw[if_pos (by omega),qw,hc,qgr hc,qQ (by omega),qiC s hs K (k+1) (by omega) (by omega)];simp only[ZB]
   have ek:((k:Int)=0)↔k=0:=by omega
   unfold qmf;generalize ((s[k]).toNat:Int)=c
   rw[show(if c>=97 then if c<=122 then some true else if c>=65 then some (decide (c<=90))else some false else if c>=65 then some (decide (c<=90))else some false:Option Bool)=some (qjX c)from by
    have:=qhd c;unfold yK at this;rw[<-this]
    cases(if c>=97 then if c<=122 then some true else if c>=65 then some (decide (c<=90))else some false else if c>=65 then some (decide (c<=90))else some false:Option Bool)<;>rfl]
   simp only[ZB,ek];cases qjX c
   ·by_cases h5:k=0
    ·simp[h5]
    by_cases h6:c>=48
    ·by_cases h7:c<=57
     ·have a1: ¬c<48:=by omega
      have a2: ¬c>57:=by omega
      simp[h5,h6,h7,a1,a2]
     have a1: ¬c<48:=by omega
     have a2:c>57:=by omega
     by_cases h8:c=95<;>simp[h5,h6,h7,h8,a1,a2]
    have a1:c<48:=by omega
    by_cases h8:c=95<;>simp[h5,h6,h8,a1]
   simp
  rw[if_neg (by omega),qha (by omega)];rfl
theorem qfK {N:Nat} {s:Str} (h:s.length<N) (hs:s.length<4611686018427387904):xO N s=some (qfz s):=by
 unfold xO;rw[show(0:Int)=((0:Nat):Int)from rfl,qiC s hs N 0 (Nat.zero_le _) (by omega),qk6];by_cases h1:s.length<1
 ·rw[if_pos (by omega)];simp[show¬1<=s.length by omega]
 by_cases h2:s.length>24
 ·rw[if_neg (by omega)];simp only[ZB,show((s.length:Int)>24)by omega,decide_true,if_true,show¬s.length<=24 by omega,decide_false,Bool.and_false,Bool.false_and]
 rw[if_neg (by omega)];simp only[ZB,show¬((s.length:Int)>24)by omega,decide_false,ZF,if_false,show 1<=s.length by omega,show s.length<=24 by omega,decide_true,Bool.true_and];cases hb:qbE s 0<;>rfl
end Go.Av
end
section
namespace Go.Av
end Go.Av
end
section
namespace Go.Av
open Classical
theorem qd6 {q:Rat} {k:Nat} (hk:0<k) (h:(T q).length<=k):Sml q k:=by
 have h1:(Lib.decDigits q.num.natAbs).length<=(Lib.itoa q.num).length:=by
  by_cases c:q.num<0
  ·rw[vT c,Yr];omega
  rw[zY c];exact Nat.le_refl _
 unfold T at h;rw[Yq]at h;refine⟨by omega,?_⟩;by_cases c:q.den=1
 ·rw[c];exact(qas hk).2 (Nat.one_lt_pow (by omega) (by decide))
 rw[if_neg c,Yr]at h;omega
theorem qhz {s:Str} {k:Nat} (hk:0<k) (hl:s.length<=k) (h:chk s=0): ∃q:Rat,s=T q/\Sml q k/\chk (T q)=0:=by
 obtain⟨q,rfl,_,_⟩:=qge h;exact⟨q,rfl,qd6 hk hl,h⟩
theorem ncmp {N:Nat} (hN:600000<N) {p q:Rat} (hp:Sml p 600) (hq:Sml q 600): ∃f g,je N (T p)=some f/\je N (T q)=some g/\yc N f g=some (if p<q then-1 else if p=q then 0 else 1):=by
 have f1:=zR (n:=32) hp (by omega) (by omega);have f2:=zR (n:=32) hq (by omega) (by omega);obtain⟨f,e1,i1⟩:=xQ hN (hp.mono (show 600<=9000 by omega));obtain⟨g,e2,i2⟩:=xQ hN (hq.mono (show 600<=9000 by omega));exact⟨f,g,e1,e2,qjS hN i1 i2 (n:=32) (by omega) f1 f2⟩
theorem qgW {p q:Rat}:((if p<q then-1 else if p=q then 0 else 1:Int)>0)↔q<p:=by
 by_cases h:p<q
 ·rw[if_pos h];exact⟨fun c=>absurd c (by decide),fun c=>absurd c (Rat.not_lt.2 (Rat.le_of_lt h))⟩
 rw[if_neg h];by_cases e:p=q
 ·rw[if_pos e];exact⟨fun c=>absurd c (by decide),fun c=>absurd (e▸c) Rat.lt_irrefl⟩
 rw[if_neg e];refine⟨fun _=>?_,fun _=>by decide⟩;exact Rat.lt_of_le_of_ne (Rat.not_lt.1 h) (Ne.symm e)
end Go.Av
end
section
namespace Go.Av
theorem qqh {q:Rat}:0<q.num↔0<q:=by
 have h1:=Rat.num_nonneg (q:=q);have h2:=Rat.num_eq_zero (q:=q);constructor
 ·intro h;exact Rat.lt_of_le_of_ne (h1.1 (by omega)) (fun e=>by have:=h2.2 e.symm;omega)
 intro h;have h3:=h1.2 (Rat.le_of_lt h)
 have h4:q.num≠0:=fun e=>Rat.ne_of_gt h (h2.1 e)
 omega
theorem qmk {k:Nat} (hk:0<k):Sml 0 k:=⟨(qas hk).2 (by exact Nat.pos_of_ne_zero (by have:=Nat.pow_pos (n:=k) (show 0<10 by decide);omega)),(qas hk).2 (Nat.one_lt_pow (by omega) (by decide))⟩
theorem qev {f:qC} {q:Rat} (h:IsF f q):qac f=some (if q.num<0 then-1 else if q.num=0 then 0 else 1):=by
 unfold qac;rw[qd7 h.1,ZB]
theorem qhv {q:Rat}:((if q.num<0 then-1 else if q.num=0 then 0 else 1:Int)<=0)↔q<=0:=by
 rw[<-Rat.not_lt,<-qqh];constructor
 ·intro h c;rw[if_neg (by omega),if_neg (by omega)]at h;omega
 intro h;split
 ·omega
 rw[if_pos (by omega)];omega
theorem qnW {a b:Rat} (hA:Sml a 60) (hB:Sml b 60):Sml (a+b) 600:=(qqK (n:=7) (by omega) (hA.mono (by omega)) (hB.mono (by omega))).mono (by omega)
section ops
variable {N:Nat} (hN:600000<N)
include hN
variable {p p' q q':Rat} (hp:Sml p 60) (hp':Sml p' 60) (hq:Sml q 60) (hq':Sml q' 60) (cp:chk (T p)=0) (cp':chk (T p')=0) (cq:chk (T q)=0) (cq':chk (T q')=0) (hpp:p<=p') (hqq:q<=q')
include hp hp' hq hq' cp cp' cq cq' hpp hqq
end ops
end Go.Av
end
section
namespace Go.Av
theorem qro (n:Int):T (n:Rat)=Lib.itoa n:=by
 unfold T;rw[Rat.num_intCast,Rat.den_intCast,if_pos rfl,YQ]
theorem qrs {n:Int} (h1: -9223372036854775808<=n) (h2:n<=9223372036854775807):jC n 3:=by
 show(n.natAbs:Int)<(1000000000:Int)^3;omega
theorem qq2 {n:Int} (h1: -9223372036854775808<=n) (h2:n<=9223372036854775807):Sml (n:Rat) 27:=by
 refine qf5 (n:=3) ?_ ?_ (by omega)
 ·rw[Rat.num_intCast];exact qrs h1 h2
 rw[Rat.den_intCast];exact qrs (by decide) (by decide)
end Go.Av
end
section
namespace Go.Av
theorem qqm {n:Nat}:Lib.decDigits n=[48]↔n=0:=by
 constructor
 ·intro h;exact qlS (h.trans (by rw[jc (by decide)];rfl))
 rintro rfl;rw[jc (by decide)];rfl
theorem qrJ {n:Nat}:Lib.decDigits n=[49]↔n=1:=by
 constructor
 ·intro h;exact qlS (h.trans (by rw[jc (by decide)];rfl))
 rintro rfl;rw[jc (by decide)];rfl
theorem qhY {q:Rat} (h:Sml q 600):chk (T q)=0:=by
 have n47:=no47 (qbC q.num.natAbs);have es:=qh0 n47 q
 have et:(bdy (T q)).take (slA (bdy (T q)))=Lib.decDigits q.num.natAbs:=by
  rw[qlx,es,List.take_append_of_le_length (Nat.le_refl _),List.take_length]
 have hd:=den_pos q
 have ed:slA (bdy (T q))<(bdy (T q)).length↔q.den≠1:=by
  rw[qlx,es,Yq];unfold tl;by_cases c:q.den=1
  ·rw[if_pos c];simp[c]
  rw[if_neg c];simp[c]
 have er:(bdy (T q)).drop (slA (bdy (T q))+1)=if q.den=1 then[]else Lib.decDigits q.den:=by
  rw[qlx,es];unfold tl;by_cases c:q.den=1
  ·rw[if_pos c,if_pos c,YQ,List.drop_of_length_le (by omega)]
  rw[if_neg c,if_neg c,List.drop_append,List.drop_of_length_le (by omega),List.nil_append,show(Lib.decDigits q.num.natAbs).length+1-(Lib.decDigits q.num.natAbs).length=1 by omega];rfl
 have hok:okF (T q)=true:=by
  unfold okF;rw[et,qkA];refine decide_eq_true ⟨qog _,?_⟩;rintro⟨h1,h2⟩;have h1:=of_decide_eq_true h1;have:=qqm.1 h2;omega
 have hbad:qid (T q)=false:=by
  unfold qid;refine decide_eq_false ?_;rintro⟨h1,h2⟩;have c:=ed.1 h1;rw[er,if_neg c]at h2;exact h2 ⟨qog _,fun e=>by have:=qqm.1 e;omega,fun e=>c (qrJ.1 e)⟩
 unfold chk;rw[if_neg (by rw[hok,hbad];simp),et,er,if_neg,if_neg]
 ·rintro⟨h1,h2⟩;have c:=ed.1 h1;rw[if_neg c,qcB,qcB]at h2;exact h2 q.reduced
 have h1:=h.1;have h2:=h.2;split<;>simp<;>omega
theorem Num_T {N:Nat} (hN:100000<N) {q:Rat} (hl:(T q).length<=50000):qdp N (T q)=some (Lib.itoa q.num):=by
 have hs:=qdm (N:=N) (s:=T q) (by omega) (by omega);unfold qdp;rw[hs,ZB];by_cases c:q.den=1
 ·obtain⟨t1,t2⟩:=qgk q c;rw[vY (by omega),ZB,t2,List.take_length,t1]
 obtain⟨t1,t2,t3⟩:=qhr q c;rw[vY (by omega),ZB,t2]
theorem Den_T {N:Nat} (hN:100000<N) {q:Rat} (hl:(T q).length<=50000):qdq N (T q)=some (Lib.decDigits q.den):=by
 have hs:=qdm (N:=N) (s:=T q) (by omega) (by omega);unfold qdq;rw[hs,ZB];by_cases c:q.den=1
 ·obtain⟨t1,t2⟩:=qgk q c;rw[if_pos (by omega),c,jc (by decide)];rfl
 obtain⟨t1,t2,t3⟩:=qhr q c;rw[if_neg (by omega),qQ (by omega),xY (by omega),ZB,t3]
theorem qnP {z:Int} (hl:(Lib.itoa z).length<=50000):qdx (Lib.itoa z)=some (Lib.decDigits z.natAbs):=by
 have hs:=qeU (z:Rat);rw[qro,Rat.num_intCast]at hs;unfold qdx;rw[hs,ZB];by_cases c:z<0
 ·have h1:=xY (l:=(45:UInt8)::Lib.decDigits z.natAbs) (k:=1) (by simp);rw[if_pos c,if_pos (by decide),vT c,show(1:Int)=((1:Nat):Int)from rfl,h1];rfl
 rw[if_neg c,if_neg (by split<;>decide),zY (by omega)]
theorem dec_T (n:Nat):Lib.decDigits n=T ((n:Int):Rat):=by rw[qro,qfd]
theorem qrN {N:Nat} (hN:600000<N) {s:Str} {d:Nat} (hd:0<d) (hd2:d<=1000): ∃b,xy N s (d:Int)=some b/\(b=true-> ∃q:Rat,s=T q/\Sml q d/\chk (T q)=0):=by
 unfold xy;rw[qj (n:=2*(d:Int)) (by omega) (by omega),qj (n:=2*(d:Int)+2) (by omega) (by omega)];by_cases c:(s.length:Int)<=2*(d:Int)+2
 ·rw[if_pos c,qbV hN (by omega),ZB];by_cases hc:chk s=0
  ·obtain⟨q,rfl,q1,q2⟩:=qge hc;have li:=qhs q.num;rw[if_pos hc,Num_T (by omega) (by omega),ZB,qnP (by omega),ZB,Den_T (by omega) (by omega),ZB];by_cases e:(Lib.decDigits q.num.natAbs).length<=d
   ·rw[if_pos (by omega),ZB];exact⟨_,rfl,fun h=>⟨q,rfl,⟨e,by have:=of_decide_eq_true h;omega⟩,hc⟩⟩
   rw[if_neg (by omega),ZB];exact⟨_,rfl,fun h=>by cases h⟩
  rw[if_neg hc,ZB];exact⟨_,rfl,fun h=>by cases h⟩
 rw[if_neg c,ZB];exact⟨_,rfl,fun h=>by cases h⟩
end Go.Av
end
section
namespace Go.Av
theorem F_eq {n:Int} (h1: -9223372036854775808<=n) (h2:n<=9223372036854775807): ∃f,qhb n=some f/\IsF f (n:Rat):=by
 obtain⟨f,e,i⟩:=qiK (Uf h1 h2);refine⟨f,?_,i⟩;unfold qhb;rw[qiT,ZB,e,ZB]
structure Cvg (x:Rat) (m:Nat) (a b c d:Int) (r:Rat):Prop where
 b0:0<=b
 d0:0<=d
 bm:b<=m
 dm:d<=m
 st:(b=1/\d=0)\/(1<=d/\1<r)
 fr:qdR r 4
 za:Fit a 5
 zc:Fit c 5
 eq:x*((d:Rat)*r+(b:Rat))=(c:Rat)*r+(a:Rat)
 det:c*b-d*a=1\/c*b-d*a= -1
end Go.Av
end
section
namespace Go.Av
theorem qhJ {N:Nat} (hN:10<N) (a b:Int):ji N [a,b]=some (if a=0 then b else a):=by
 obtain⟨K,rfl⟩: ∃K,N=K+1+1+1:=⟨N-3,by omega⟩;have w1:w64 1=1:=rfl;have w2:w64 2=2:=rfl
 have i0: ∀a b:Int,idx [a,b] 0=some a:=fun _ _=>rfl
 have i1: ∀a b:Int,idx [a,b] 1=some b:=fun _ _=>rfl
 unfold ji;by_cases ha:a=0
 ·by_cases hb:b=0
  ·simp[qy,i0,i1,ha,hb,w1,w2]
  simp[qy,i0,i1,ha,hb,w1,w2]
 simp[qy,i0,ha]
theorem qlt {N:Nat} (hN:600000<N) {s:Str} (hl:s.length<=600): ∃e,ja N s=some e/\jJ N s=some e/\(e=0-> ∃q:Rat,s=T q/\Sml q 600/\0<q):=by
 unfold ja qaK jJ ky;rw[qbN hN (by omega),qbV hN (by omega),ZB,ZB];by_cases hc:chk s=0
 ·obtain⟨q,rfl,sq,_⟩:=qhz (by omega) hl hc;obtain⟨f,e1,i1⟩:=xQ hN (sq.mono (show 600<=9000 by omega));rw[hc,if_neg (by decide),if_pos rfl,e1,ZB,qev i1,ZB,qeU,ZB];by_cases h:q<=0
  ·have h1:=(qhv (q:=q)).2 h;refine⟨3,?_,?_,fun c=>absurd c (by decide)⟩
   ·rw[if_pos (decide_eq_true (Int.lt_of_le_of_lt h1 (by decide)))];rfl
   rw[decide_eq_true h1];rfl
  have h1: ¬_<=(0:Int):=fun c=>h ((qhv (q:=q)).1 c)
  refine⟨0,?_,?_,fun _=>⟨q,rfl,sq,Rat.not_le.1 h⟩⟩
  ·rw[if_neg (by rw[decide_eq_true_eq];omega)];rfl
  rw[decide_eq_false h1];rfl
 refine⟨chk s,?_,?_,fun c=>absurd c hc⟩
 ·rw[if_pos (by simp[hc])];rfl
 rw[if_neg hc];rfl
def qqb (q:Rat):Str×Int:=if qdv q=true then([],4)else(T q,0)
theorem qd4 {N:Nat} (hN:600000<N) {f:qC} {q:Rat} (h:IsF f q) (fq:qdR q 3900):xH N f=some (qqb q):=by
 unfold xH qqb;rw[qql hN h fq,ZB];by_cases c:qdv q=true
 ·rw[if_pos c,if_pos c]
 rw[if_neg c,if_neg c,qqp hN h fq,ZB]
theorem qj9 {p q:Rat} {n:Nat} (hn:0<n) (hp:Sml p (9*n)) (hq:Sml q (9*n)) (h0:q≠0):Sml (p/q) (9*(n+n)):=by
 rw[Rat.div_def];exact qqP hn hp (qqw hq h0)
end Go.Av
end
section
namespace Go.Av
end Go.Av
end
section
namespace Go.Av
end Go.Av
end
section
namespace Go.Av
end Go.Av
end
section
namespace Go.Av
theorem qkM {q:Rat} (h:Sml q 600):qqb q=(T q,0):=by
 unfold qqb;rw[if_neg (by rw[qgf h];decide)]
theorem qqq {N:Nat} (hN:600000<N) {q:Rat} (h:Sml q 600):(0<q->ja N (T q)=some 0)/\(0<=q->yR N (T q)=some 0):=by
 have hl:=qfy h;obtain⟨f,e1,i1⟩:=xQ hN (h.mono (show 600<=9000 by omega));constructor
 ·intro h0
  have h1: ¬_<=(0:Int):=fun c=>absurd ((qhv (q:=q)).1 c) (Rat.not_le.2 h0)
  unfold ja qaK ky;rw[qbN hN (by omega),ZB,qhY h,if_neg (by decide),e1,ZB,qev i1,ZB];rw[if_neg (by rw[decide_eq_true_eq];omega)];rfl
 intro h0;have h1:0<=q.num:=Rat.num_nonneg.2 h0;unfold yR qaK ky;rw[qbN hN (by omega),ZB,qhY h,if_neg (by decide),e1,ZB,qev i1,ZB];rw[if_neg (by rw[decide_eq_true_eq];split;omega;split<;>omega)];rfl
theorem qr2 {N:Nat} (hN:600000<N) {q:Rat} (h:Sml q 600) (h0:0<q):jJ N (T q)=some 0:=by
 have hl:=qfy h;unfold jJ
 have h1: ¬_<=(0:Int):=fun c=>absurd ((qhv (q:=q)).1 c) (Rat.not_le.2 h0)
 rw[qbV hN (by omega),ZB,qhY h,if_pos rfl,qeU,ZB,decide_eq_false h1];rfl
theorem qoF {N:Nat} (hN:600000<N) {q:Rat} (h:Sml q 600) (h0:0<=q):jd N (T q)=some 0:=by
 have hl:=qfy h;unfold jd;have h1:0<=q.num:=Rat.num_nonneg.2 h0;rw[qbV hN (by omega),ZB,qhY h,if_pos rfl,qeU,ZB,decide_eq_false (by split;omega;split<;>omega)];rfl
theorem T1n:T (1:Rat)=[49]:=by
 rw[show(1:Rat)=(((1:Nat):Int):Rat)from rfl,<-dec_T,jc (by decide)];rfl
theorem qgO {n:Int} (h1: -9223372036854775808<=n) (h2:n<=9223372036854775807) {k:Nat} (hk:27<=k):Sml (n:Rat) k:=(qq2 h1 h2).mono hk
end Go.Av
end
section
namespace Go.Av
theorem qhM {p q:Rat}:((if p<q then-1 else if p=q then 0 else 1:Int)=0)↔p=q:=by
 by_cases h:p<q
 ·rw[if_pos h];exact⟨fun c=>absurd c (by decide),fun c=>absurd (c▸h) Rat.lt_irrefl⟩
 rw[if_neg h];by_cases e:p=q
 ·rw[if_pos e];exact⟨fun _=>e,fun _=>rfl⟩
 rw[if_neg e];exact⟨fun c=>absurd c (by decide),fun c=>absurd c e⟩
end Go.Av
end
section
namespace Go.Av
theorem pick {x L M:Rat} {d f:Int} (nL:(L.den:Int)=d) (nM:(M.den:Int)=f) {c:Int}
 (hc:c=if(if(x-L).abs<(x-M).abs then-1 else if(x-L).abs=(x-M).abs then 0 else 1:Int)=0 then(if(if(d:Rat)<(f:Rat)then-1 else if(d:Rat)=(f:Rat)then 0 else 1:Int)=0 then(if L<M then-1 else if L=M then 0 else 1)else(if(d:Rat)<(f:Rat)then-1 else if(d:Rat)=(f:Rat)then 0 else 1))else(if(x-L).abs<(x-M).abs then-1 else if(x-L).abs=(x-M).abs then 0 else 1)):
 (¬c>0->le3 x L M)/\(c>0->le3 x M L):=by
 by_cases h1:(x-L).abs=(x-M).abs
 ·rw[if_pos (qhM.2 h1)]at hc;by_cases h2:(d:Rat)=(f:Rat)
  ·rw[if_pos (qhM.2 h2)]at hc;have h2:=Rat.intCast_inj.1 h2;constructor
   ·intro h;rw[hc]at h;exact .inr ⟨h1,.inr ⟨by omega,Rat.not_lt.1 fun k=>h (qgW.2 k)⟩⟩
   intro h;rw[hc]at h;exact .inr ⟨h1.symm,.inr ⟨by omega,Rat.le_of_lt (qgW.1 h)⟩⟩
  rw[if_neg (fun k=>h2 (qhM.1 k))]at hc;constructor
  ·intro h;rw[hc]at h;have h:=Rat.not_lt.1 (fun k=>h (qgW.2 k))
   have h3:d≠f:=fun k=>h2 (by rw[k])
   have:=Rat.intCast_le_intCast.1 h;exact .inr ⟨h1,.inl (by omega)⟩
  intro h;rw[hc]at h;have:=Rat.intCast_lt_intCast.1 (qgW.1 h);exact .inr ⟨h1.symm,.inl (by omega)⟩
 rw[if_neg (fun k=>h1 (qhM.1 k))]at hc;constructor
 ·intro h;rw[hc]at h;have h:=Rat.not_lt.1 (fun k=>h (qgW.2 k));exact .inl (Rat.lt_of_le_of_ne h h1)
 intro h;rw[hc]at h;exact .inl (qgW.1 h)
end Go.Av
end
section
namespace Go.Av
end Go.Av
end
section
namespace Go.Av
theorem qpF {N:Nat} (hN:600000<N) {a b:Str} (ha:chk a=0) (hb:chk b=0): ∃f g c,je N a=some f/\je N b=some g/\yc N f g=some c/\qad N a b=some c:=by
 obtain⟨p,rfl,p1,p2⟩:=qge ha;obtain⟨q,rfl,q1,q2⟩:=qge hb;obtain⟨f,g,e1,e2,e3⟩:=ncmp hN (p:=p) (q:=q) ⟨p1,p2⟩ ⟨q1,q2⟩;exact⟨f,g,_,e1,e2,e3,qfe hN (k:=600) (by omega) (by omega) ⟨p1,p2⟩ ⟨q1,q2⟩⟩
end Go.Av
end
section
namespace Go.Av
theorem qlc {N:Nat} (hN:600000<N) {s:Str} {k:Nat} (hk:0<k) (hk2:k<=600) (hl:s.length<=k): ∃e,yR N s=some e/\jd N s=some e/\(e=0-> ∃q:Rat,s=T q/\Sml q k/\0<=q):=by
 unfold yR qaK jd ky;rw[qbN hN (by omega),qbV hN (by omega),ZB,ZB];by_cases hc:chk s=0
 ·obtain⟨q,rfl,sq,_⟩:=qhz hk hl hc;obtain⟨f,e1,i1⟩:=xQ hN (sq.mono (show k<=9000 by omega));rw[hc,if_neg (by decide),if_pos rfl,e1,ZB,qev i1,ZB,qeU,ZB];by_cases h:0<=q
  ·have h1:0<=q.num:=Rat.num_nonneg.2 h
   have h2: ¬(if q.num<0 then-1 else if q.num=0 then 0 else 1:Int)<0:=by split;omega;split<;>omega
   refine⟨0,?_,?_,fun _=>⟨q,rfl,sq,h⟩⟩
   ·rw[if_neg (by rw[decide_eq_true_eq];exact h2)];rfl
   rw[decide_eq_false h2];rfl
  have h1:q.num<0:=Int.not_le.1 fun c=>h (Rat.num_nonneg.1 c)
  have h2:(if q.num<0 then-1 else if q.num=0 then 0 else 1:Int)<0:=by rw[if_pos h1];decide
  refine⟨3,?_,?_,fun c=>absurd c (by decide)⟩
  ·rw[if_pos (decide_eq_true h2)];rfl
  rw[decide_eq_true h2];rfl
 refine⟨chk s,?_,?_,fun c=>absurd c hc⟩
 ·rw[if_pos (by simp[hc])];rfl
 rw[if_neg hc];rfl
def qgN (l:List qL) (i:Nat):Prop:= ∀j,i<=j-> ∀p,l[j]? =some p->p.X.length<=60/\p.Y.length<=60
theorem qlu (y:qh): ∀(K i:Nat),i<=y.Strength.length->y.Strength.length<K+i->y.Strength.length<=1000->(zf y K (i:Int)=some (.inl ())/\qgN y.Strength i)\/zf y K (i:Int)=some (.inr false)
 |0,i,h,hK,hl=>by omega
 |K+1,i,h,hK,hl=>by
  unfold zf;by_cases hi:i<y.Strength.length
  ·have hp:y.Strength[i]? =some y.Strength[i]:=Ya hi;rw[if_pos (by omega),qw,hp,ZB];by_cases h1:((y.Strength[i]).X.length:Int)>60
   ·rw[if_pos h1,ZB,if_pos rfl];exact .inr rfl
   by_cases h2:((y.Strength[i]).Y.length:Int)>60
   ·rw[if_neg h1,decide_eq_true h2,ZB,if_pos rfl];exact .inr rfl
   rw[if_neg h1,decide_eq_false h2,ZB,if_neg (by decide),qQ (by omega)];rcases qlu y K (i+1) (by omega) (by omega) hl with⟨e,f⟩|e
   ·refine .inl ⟨e,fun j hj p hp'=>?_⟩;by_cases hij:i=j
    ·subst hij;rw[hp]at hp';obtain rfl:=Ye hp';omega
    exact f j (by omega) p hp'
   exact .inr e
  rw[if_neg (by omega)];refine .inl ⟨rfl,fun j hj p hp=>?_⟩;rw[Yg (by omega)]at hp;cases hp
theorem qpC {N:Nat} (hN:600000<N) (y:qh): ∃b,xX N y=some b/\(b=true->y.Name.length<=60/\y.Density.length<=60/\y.Twist.length<=60/\y.Dye.length<=60/\(y.Strength.length<=8\/257<=y.Strength.length)/\y.Strength.length<=259/\qgN y.Strength 0):=by
 unfold xX;by_cases h1:(y.Name.length:Int)>60
 ·exact⟨false,by rw[if_pos h1];rfl,fun c=>by cases c⟩
 by_cases h2:(y.Density.length:Int)>60
 ·exact⟨false,by rw[if_neg h1,if_pos h2];rfl,fun c=>by cases c⟩
 by_cases h3:(y.Twist.length:Int)>60
 ·exact⟨false,by rw[if_neg h1,if_neg h2,if_pos h3];rfl,fun c=>by cases c⟩
 by_cases h4:(y.Dye.length:Int)>60
 ·exact⟨false,by rw[if_neg h1,if_neg h2,if_neg h3,if_pos h4];rfl,fun c=>by cases c⟩
 rw[if_neg h1,if_neg h2,if_neg h3,if_neg h4]
 have R: ∀x:Option Bool,(x=some true\/(x=some false/\(y.Strength.length<=8\/257<=y.Strength.length)/\y.Strength.length<=259))-> ∃b,(x.bind fun b7=>if b7=true then some false else(zf y N 0).bind (fun|(.inl ())=>some true|(.inr q19)=>some q19))=some b/\(b=true->y.Name.length<=60/\y.Density.length<=60/\y.Twist.length<=60/\y.Dye.length<=60/\(y.Strength.length<=8\/257<=y.Strength.length)/\y.Strength.length<=259/\qgN y.Strength 0):=by
  intro x hx;rcases hx with rfl|⟨rfl,h5,h6⟩
  ·exact⟨false,rfl,fun c=>by cases c⟩
  rcases qlu y N 0 (by omega) (by omega) (by omega)with⟨e,f⟩|e
  ·refine⟨true,?_,fun _=>⟨by omega,by omega,by omega,by omega,h5,h6,f⟩⟩;rw[ZB,if_neg (by decide),show(0:Int)=((0:Nat):Int)from rfl,e];rfl
  refine⟨false,?_,fun c=>by cases c⟩;rw[ZB,if_neg (by decide),show(0:Int)=((0:Nat):Int)from rfl,e];rfl
 apply R;by_cases h5:(y.Strength.length:Int)>8
 ·by_cases h6:(y.Strength.length:Int)<=256
  ·left;rw[if_pos h5,if_pos h6]
  by_cases h7:(y.Strength.length:Int)>259
  ·left;rw[if_pos h5,if_neg h6,decide_eq_true h7]
  right;exact⟨by rw[if_pos h5,if_neg h6,decide_eq_false h7],by omega,by omega⟩
 right;exact⟨by rw[if_neg h5,decide_eq_false (by omega)],by omega,by omega⟩
def PtOK (p:qL):Prop:= ∃a b:Rat,p=⟨T a,T b⟩/\Sml a 60/\Sml b 60/\0<=a/\0<=b
def qg5 (l:List qL) (i:Nat):Prop:=(∀j,j<i-> ∀p,l[j]? =some p->PtOK p)/\ ∀j,j+1<i-> ∀a b a' b',l[j]? =some ⟨T a,T b⟩->l[j+1]? =some ⟨T a',T b'⟩->a<a'
theorem qpz {N:Nat} (hN:600000<N) (y:qh) (hs:qgN y.Strength 0) (hl:y.Strength.length<=1000): ∀(K i:Nat),i<=y.Strength.length->y.Strength.length<K+i->qg5 y.Strength i->(qM N y.Strength K (i:Int)=some (.inl ())/\qO N y K (i:Int)=some (.inl ())/\qg5 y.Strength y.Strength.length)\/ ∃e,e≠0/\qM N y.Strength K (i:Int)=some (.inr e)/\qO N y K (i:Int)=some (.inr e)
 |0,i,h,hK,ok=>by omega
 |K+1,i,h,hK,ok=>by
  unfold qM qO;by_cases hi:i<y.Strength.length
  case neg=>
   rw[if_neg (by omega),if_neg (by omega)]
   have:i=y.Strength.length:=by omega
   subst this;exact .inl ⟨rfl,rfl,ok⟩
  have hp:y.Strength[i]? =some y.Strength[i]:=Ya hi;obtain⟨l1,l2⟩:=hs i (Nat.zero_le _) _ hp;rw[if_pos (by omega),if_pos (by omega),qw,hp,ZB,ZB,vY (by omega),ZB];generalize y.Strength[i]=p at*;obtain⟨e1,x1,y1,z1⟩:=qlc hN (by omega) (by omega) l1;obtain⟨e2,x2,y2,z2⟩:=qlc hN (by omega) (by omega) l2;unfold qa1;rw[x1,ZB,x2,ZB,qhJ (by omega),ZB,y1,ZB]
  have hE:(if e1=0 then(jd N p.Y).bind fun r20=>some r20 else some e1:Option Int)=some (if e1=0 then e2 else e1):=by
   by_cases c:e1=0
   ·rw[if_pos c,if_pos c,y2,ZB]
   rw[if_neg c,if_neg c]
  rw[hE,ZB];by_cases he:(if e1=0 then e2 else e1)=0
  case neg=>
   have hz:(!decide ((if e1=0 then e2 else e1)=0))=true:=by rw[decide_eq_false he];rfl
   simp only[if_pos hz,ZB,if_true];exact .inr ⟨_,he,rfl,rfl⟩
  have hE2:e1=0/\e2=0:=by
   split at he
   ·rename_i c;exact⟨c,he⟩
   rename_i c;exact absurd he c
  obtain⟨rfl,rfl⟩:=hE2;obtain⟨a,ea,sa,a0⟩:=z1 rfl;obtain⟨b,eb,sb,b0⟩:=z2 rfl
  have ep:p=⟨T a,T b⟩:=by cases p;simp_all
  subst ep;rw[if_pos rfl,if_neg (by decide)]
  have nxt:qg5 y.Strength (i+1)->((qM N y.Strength K ((i+1:Nat):Int)=some (.inl ())/\qO N y K ((i+1:Nat):Int)=some (.inl ())/\qg5 y.Strength y.Strength.length)\/ ∃e,e≠0/\qM N y.Strength K ((i+1:Nat):Int)=some (.inr e)/\qO N y K ((i+1:Nat):Int)=some (.inr e)):=fun ok'=>qpz hN y hs hl K (i+1) (by omega) (by omega) ok'
  have tl:(List.take i y.Strength).length=i:=by rw[Ym];omega
  rw[tl];by_cases i0:i=0
  ·subst i0;rw[decide_eq_true (show((0:Nat):Int)=0 from rfl),ZB,if_pos rfl,ZB,if_neg (by decide),if_neg (show¬((0:Nat):Int)>0 by omega),ZB,if_neg (by decide),qQ (by omega)];refine nxt ⟨fun j hj q hq=>?_,fun j hj=>by omega⟩
   obtain rfl:j=0:=by omega
   rw[hp]at hq;obtain rfl:=Ye hq;exact⟨a,b,rfl,sa,sb,a0,b0⟩
  obtain⟨k,rfl⟩: ∃k,i=k+1:=⟨i-1,by omega⟩;have hk:y.Strength[k]? =some y.Strength[k]:=Ya (by omega);obtain⟨a',b',ep',sa',sb',a0',b0'⟩:=ok.1 k (by omega) _ hk;rw[ep']at hk
  have w1:w64 (((k+1:Nat):Int)-1)=(k:Int):=by rw[qj (by omega) (by omega)];omega
  obtain⟨f,g,c,g1,g2,g3,g4⟩:=qpF hN (a:=T a) (b:=T a') (qhY (sa.mono (by omega))) (qhY (sa'.mono (by omega)));have g5:=qfe hN (k:=60) (by omega) (by omega) sa sa';rw[g4]at g5;rw[decide_eq_false (show¬(((k+1:Nat):Int)=0)by omega),ZB,if_neg (by decide),w1,qw,List.getElem?_take_of_lt (by omega),hk,ZB,if_neg (by decide),if_pos (show(((k+1:Nat):Int)>0)by omega),qw,hk,ZB];simp only;rw[g1,ZB,g2,ZB,g3,ZB,g4,ZB];unfold ky;by_cases hc:c<=0
  ·rw[decide_eq_true hc,if_pos rfl,ZB,ZB,if_pos (by decide),ZB,if_pos rfl];exact .inr ⟨11,by decide,rfl,rfl⟩
  rw[decide_eq_false hc,if_neg (by decide),ZB,ZB,if_neg (by decide),ZB,if_neg (by decide),qQ (by omega)]
  have lt:a'<a:=by
   have g6:=Ye g5;by_cases h1:a<a'
   ·rw[if_pos h1]at g6;omega
   by_cases h2:a=a'
   ·rw[if_neg h1,if_pos h2]at g6;omega
   grind
  refine nxt ⟨fun j hj q hq=>?_,fun j hj u v u' v' hu hv=>?_⟩
  ·by_cases hjk:j=k+1
   ·subst hjk;rw[hp]at hq;obtain rfl:=Ye hq;exact⟨a,b,rfl,sa,sb,a0,b0⟩
   exact ok.1 j (by omega) q hq
  by_cases hjk:j=k
  ·subst hjk;rw[hp]at hv;rw[hk]at hu;have h1:=Ye hu;have h2:=Ye hv;injection h1 with h3 _;injection h2 with h4 _;rw[<-qg7 h3,<-qg7 h4];exact lt
  exact ok.2 j (by omega) u v u' v' hu hv
structure qlI (y:qh) where
 d:Rat
 t:Rat
 ed:y.Density=T d
 sd:Sml d 60
 d0:0<d
 et:y.Twist=T t
 st:Sml t 60
 ne:0<y.Strength.length
 few:y.Strength.length<=256
 pts:qg5 y.Strength y.Strength.length
theorem qf1 {N:Nat} (hN:10<N) (a b c d e f:Int):ji N [a,b,c,d,e,f]=some (if a=0 then if b=0 then if c=0 then if d=0 then if e=0 then f else e else d else c else b else a):=by
 obtain⟨K,rfl⟩: ∃K,N=K+1+1+1+1+1+1+1:=⟨N-7,by omega⟩;have w0:w64 (0+1)=1:=rfl;have w1:w64 (1+1)=2:=rfl;have w2:w64 (2+1)=3:=rfl;have w3:w64 (3+1)=4:=rfl;have w4:w64 (4+1)=5:=rfl;have w5:w64 (5+1)=6:=rfl;have len:(([a,b,c,d,e,f]:List Int).length:Int)=6:=rfl;have i0:idx [a,b,c,d,e,f] 0=some a:=rfl;have i1:idx [a,b,c,d,e,f] 1=some b:=rfl;have i2:idx [a,b,c,d,e,f] 2=some c:=rfl;have i3:idx [a,b,c,d,e,f] 3=some d:=rfl;have i4:idx [a,b,c,d,e,f] 4=some e:=rfl;have i5:idx [a,b,c,d,e,f] 5=some f:=rfl
 have nz: ∀{x:Int},x≠0->(!decide (x=0))=true:=fun h=>by simp[h]
 unfold ji;by_cases ha:a=0
 case neg=>rw[if_neg ha,qy,len,if_pos (by decide),i0,ZB,if_pos (nz ha)];rfl
 by_cases hb:b=0
 case neg=>rw[if_pos ha,if_neg hb,qy,len,if_pos (by decide),i0,ZB,if_neg (by simp[ha]),w0,qy,len,if_pos (by decide),i1,ZB,if_pos (nz hb)];rfl
 by_cases hc:c=0
 case neg=>rw[if_pos ha,if_pos hb,if_neg hc,qy,len,if_pos (by decide),i0,ZB,if_neg (by simp[ha]),w0,qy,len,if_pos (by decide),i1,ZB,if_neg (by simp[hb]),w1,qy,len,if_pos (by decide),i2,ZB,if_pos (nz hc)];rfl
 by_cases hd:d=0
 case neg=>rw[if_pos ha,if_pos hb,if_pos hc,if_neg hd,qy,len,if_pos (by decide),i0,ZB,if_neg (by simp[ha]),w0,qy,len,if_pos (by decide),i1,ZB,if_neg (by simp[hb]),w1,qy,len,if_pos (by decide),i2,ZB,if_neg (by simp[hc]),w2,qy,len,if_pos (by decide),i3,ZB,if_pos (nz hd)];rfl
 by_cases he:e=0
 case neg=>rw[if_pos ha,if_pos hb,if_pos hc,if_pos hd,if_neg he,qy,len,if_pos (by decide),i0,ZB,if_neg (by simp[ha]),w0,qy,len,if_pos (by decide),i1,ZB,if_neg (by simp[hb]),w1,qy,len,if_pos (by decide),i2,ZB,if_neg (by simp[hc]),w2,qy,len,if_pos (by decide),i3,ZB,if_neg (by simp[hd]),w3,qy,len,if_pos (by decide),i4,ZB,if_pos (nz he)];rfl
 rw[if_pos ha,if_pos hb,if_pos hc,if_pos hd,if_pos he,qy,len,if_pos (by decide),i0,ZB,if_neg (by simp[ha]),w0,qy,len,if_pos (by decide),i1,ZB,if_neg (by simp[hb]),w1,qy,len,if_pos (by decide),i2,ZB,if_neg (by simp[hc]),w2,qy,len,if_pos (by decide),i3,ZB,if_neg (by simp[hd]),w3,qy,len,if_pos (by decide),i4,ZB,if_neg (by simp[he]),w4,qy,len,if_pos (by decide),i5,ZB];by_cases hf:f=0
 ·rw[if_neg (by simp[hf]),w5,qy,len,if_neg (by decide),hf];rfl
 rw[if_pos (nz hf)];rfl
theorem qnX {N:Nat} (hN:600000<N) {y:qh} (h1:y.Name.length<=60) (h2:y.Density.length<=60) (h3:y.Twist.length<=60) (h4:y.Dye.length<=60) (h6:y.Strength.length<=259) (hs:qgN y.Strength 0): ∃e,zl N y=some e/\yH N y=some e/\(e=0->Nonempty (qlI y)):=by
 have P0:qg5 y.Strength 0:=⟨fun j hj=>by omega,fun j hj=>by omega⟩;obtain⟨e,x1,y1,z1⟩:=qlt hN (s:=y.Density) (by omega);have c1:=qbN hN (s:=y.Twist) (by omega);have c2:=qbV hN (s:=y.Twist) (by omega);have n1:=qgH (N:=N) (s:=y.Name) (by omega);have n2:=qfK (N:=N) (s:=y.Name) (by omega) (by omega);have d1:=qgH (N:=N) (s:=y.Dye) (by omega);have d2:=qfK (N:=N) (s:=y.Dye) (by omega) (by omega)
 have D: ∃b:Bool,qaa N y.Dye=some (if b=true then 0 else 8)/\qcd N y.Dye=some b:=by
  unfold qaa qcd ky
  cases hb:(y.Dye==[])with
  |true=>exact⟨true,rfl,rfl⟩
  |false=>
   rw[d1,d2]
   cases qfz y.Dye with
   |true=>exact⟨true,rfl,rfl⟩
   |false=>exact⟨false,rfl,rfl⟩
 obtain⟨db,D1,D2⟩:=D
 have E: ∃r:Int,jY N y.Strength 256=some r/\(256<y.Strength.length->r=5)/\(y.Strength.length<=256->(r=0/\qO N y N 0=some (.inl ())/\qg5 y.Strength y.Strength.length)\/(r≠0/\qO N y N 0=some (.inr r))):=by
  unfold jY;by_cases hl:256<y.Strength.length
  ·exact⟨5,by rw[if_pos (by omega)],fun _=>rfl,fun c=>by omega⟩
  rcases qpz hN y hs (by omega) N 0 (by omega) (by omega) P0 with⟨g1,g2,g3⟩|⟨r,g0,g1,g2⟩
  ·exact⟨0,by rw[if_neg (by omega),show(0:Int)=((0:Nat):Int)from rfl,g1];rfl,fun c=>by omega,fun _=> .inl ⟨rfl,g2,g3⟩⟩
  exact⟨r,by rw[if_neg (by omega),show(0:Int)=((0:Nat):Int)from rfl,g1];rfl,fun c=>by omega,fun _=> .inr ⟨g0,g2⟩⟩
 obtain⟨r,E1,E2,E3⟩:=E
 have nz: ∀{x:Int},x≠0->(!decide (x=0))=true:=fun h=>by simp[h]
 unfold zl yH xe ky;rw[n1,ZB,x1,c1,E1,D1,n2,ZB,y1,c2,D2]
 cases hn:qfz y.Name with
 |false=>
  refine⟨8,?_,rfl,fun c=>absurd c (by decide)⟩;simp only[Bool.not_false,if_true,ZB];by_cases hz:(y.Strength.length:Int)=0
  ·simp only[decide_eq_true hz,if_true,ZB,qf1 (show 10<N by omega)];rfl
  simp only[decide_eq_false hz,ZF,if_false,ZB,qf1 (show 10<N by omega)];rfl
 |true=>
  simp only[Bool.not_true,ZF,if_false,ZB]
  have Z: ∀v:Int,(if decide ((y.Strength.length:Int)=0)=true then some 12 else some 0:Option Int)=some v-> ∃e',(Option.bind (if decide ((y.Strength.length:Int)=0)=true then some 12 else some 0:Option Int) fun r4=>(ji N [0,e,chk y.Twist,r4,r,if db=true then 0 else 8]).bind fun r7=>some r7)=some e'/\e'=(if e=0 then if chk y.Twist=0 then if v=0 then if r=0 then(if db=true then 0 else 8)else r else v else chk y.Twist else e):=by
   intro v hv;rw[hv,ZB,qf1 (by omega),ZB,if_pos rfl];exact⟨_,rfl,rfl⟩
  by_cases hz:y.Strength.length=0
  ·obtain⟨e',q1,q2⟩:=Z 12 (by rw[if_pos (by simp[hz])]);refine⟨e',q1,?_,fun c=>?_⟩
   ·rw[q2];by_cases he:e=0
    ·rw[if_pos he,if_pos he,ZB];by_cases hc:chk y.Twist=0
     ·rw[if_pos hc,hc,if_neg (by decide),if_pos (by omega),if_neg (by decide)]
     rw[if_neg hc,if_pos (nz hc)]
    rw[if_neg he,if_neg he,ZB,if_pos (nz he)]
   exfalso;rw[q2]at c;split at c
   ·split at c
    ·rw[if_neg (by decide)]at c;omega
    contradiction
   contradiction
  obtain⟨e',q1,q2⟩:=Z 0 (by rw[if_neg (by simp[hz])]);rw[if_pos rfl]at q2;refine⟨e',q1,?_,fun c=>?_⟩
  ·rw[q2];by_cases he:e=0
   ·rw[if_pos he,if_pos he,ZB];by_cases hc:chk y.Twist=0
    ·rw[if_pos hc,hc,if_neg (by decide),if_neg (by omega)];by_cases hl:256<y.Strength.length
     ·rw[if_pos (by omega),E2 hl,if_neg (by decide)]
     rw[if_neg (by omega)];rcases E3 (by omega)with⟨r0,g,_⟩|⟨r0,g⟩
     ·rw[g,r0,if_pos rfl];cases db<;>rfl
     rw[g,if_neg r0];rfl
    rw[if_neg hc,if_pos (nz hc)]
   rw[if_neg he,if_neg he,ZB,if_pos (nz he)]
  rw[q2]at c;by_cases he:e=0
  ·rw[if_pos he]at c;by_cases hc:chk y.Twist=0
   ·rw[if_pos hc]at c;by_cases hr:r=0
    ·have hl:y.Strength.length<=256:=by
      rcases Nat.lt_or_ge 256 y.Strength.length with h|h
      ·have:=E2 h;omega
      exact h
     rcases E3 hl with⟨_,_,g3⟩|⟨r0,_⟩
     ·obtain⟨d,ed,sd,d0⟩:=z1 he;obtain⟨t,et,st,_⟩:=qhz (by omega) h3 hc;have sd':Sml d 60:=qd6 (by omega) (by rw[<-ed];exact h2);exact⟨⟨d,t,ed,sd',d0,et,st,by omega,hl,g3⟩⟩
     exact absurd hr r0
    rw[if_neg hr]at c;exact absurd c hr
   rw[if_neg hc]at c;exact absurd c hc
  rw[if_neg he]at c;exact absurd c he
end Go.Av
end
section
namespace Go.Av
end Go.Av
end
section
namespace Go.Av
theorem qmO {y:qh} (hl:y.Strength.length<=1000): ∀(K i:Nat),i<=y.Strength.length->y.Strength.length<K+i->jF y y K (i:Int)=some (.inl ())
 |0,i,h,hK=>by omega
 |K+1,i,h,hK=>by
  unfold jF;by_cases hi:i<y.Strength.length
  ·have hp:y.Strength[i]? =some y.Strength[i]:=Ya hi;rw[if_pos (by omega),qw,hp,ZB,ZB,if_neg (by simp),qQ (by omega)];exact qmO hl K (i+1) (by omega) (by omega)
  rw[if_neg (by omega)]
theorem qnQ {N:Nat} (hN:600000<N) {y:qh} (hl:y.Strength.length<=1000):qar N y y=some true:=by
 unfold qar;simp only[beq_self_eq_true,Bool.not_true,ZF,if_false,decide_true,ZB];rw[show(0:Int)=((0:Nat):Int)from rfl,qmO hl N 0 (by omega) (by omega)];rfl
theorem qnV {l:List qL} (h:0<l.length) (hl:l.length<=1000):qba l=some l:=by
 cases l with
 |nil=>simp at h
 |cons p l=>
  show vR p l=some (p::l);unfold vR;simp only[Yr]at hl;rw[qcf (by simp only[Yr,List.length_nil];omega) (by simp only[Yr,List.length_nil];omega),ZB];rfl
end Go.Av
end
section
namespace Go.Av
open Classical in
noncomputable def ql5 (s:Str):Rat:=if h: ∃q:Rat,s=T q then Classical.choose h else 0
theorem qdc (q:Rat):ql5 (T q)=q:=by
 unfold ql5;rw[dif_pos ⟨q,rfl⟩];exact(qg7 (Classical.choose_spec (⟨q,rfl⟩: ∃p:Rat,T q=T p))).symm
noncomputable def stq (a:Rat):List qL->Option Rat->Option Rat
 |[],o=>o
 |p::l,o=>if a<ql5 p.X then o else stq a l (some (ql5 p.Y))
def PtOC (p:qL):Prop:= ∃a b:Rat,p=⟨T a,T b⟩/\Sml a 100/\Sml b 100/\0<=a/\0<=b
def qi3 (l:List qL):Prop:=(∀j,j<l.length-> ∀p,l[j]? =some p->PtOC p)/\ ∀j,j+1<l.length-> ∀a b a' b',l[j]? =some ⟨T a,T b⟩->l[j+1]? =some ⟨T a',T b'⟩->a<a'
theorem qru {l:List qL} (h:qg5 l l.length):qi3 l:=⟨fun j hj p hp=>by
 obtain⟨a,b,e,sa,sb,a0,b0⟩:=h.1 j hj p hp
 exact⟨a,b,e,sa.mono (by omega),sb.mono (by omega),a0,b0⟩,h.2⟩
theorem qrj {N:Nat} (hN:600000<N) {y:qh} (ok:qi3 y.Strength) (hl:y.Strength.length<=1000) {a:Rat} (sa:Sml a 540) (m:Int): ∀(K i:Nat),i<=y.Strength.length->y.Strength.length<K+i->(∀j,i<=j-> ∀x b,y.Strength[j]? =some ⟨T x,T b⟩->a<x)->zz N y (T a) K m (i:Int)=some m
 |0,i,h,hK,hx=>by omega
 |K+1,i,h,hK,hx=>by
  unfold zz;by_cases hi:i<y.Strength.length
  ·have hp:y.Strength[i]? =some y.Strength[i]:=Ya hi;obtain⟨x,b,ep,sx,sb,_,_⟩:=ok.1 i hi _ hp;rw[ep]at hp;have hlt:=hx i (Nat.le_refl _) x b hp;rw[if_pos (by omega),qw,hp,ZB];simp only;rw[qfe hN (k:=540) (by omega) (by omega) (sx.mono (by omega)) sa,ZB,if_neg (show¬x<a by grind),if_neg (show¬x=a by grind),if_neg (by decide),ZB,qQ (by omega)];exact qrj hN ok hl sa m K (i+1) (by omega) (by omega) (fun j hj=>hx j (by omega))
  rw[if_neg (by omega)]
theorem qry {l:List qL} (ok:qi3 l) {i:Nat} {x b:Rat} (hi:l[i]? =some ⟨T x,T b⟩): ∀(d:Nat) (x' b':Rat),l[i+d]? =some ⟨T x',T b'⟩->x<=x'
 |0,x',b',h=>by
  rw[Nat.add_zero,hi]at h;have:=Ye h;injection this with h1 h2;rw[qg7 h1];exact Rat.le_refl
 |d+1,x',b',h=>by
  have hlt:i+(d+1)<l.length:=(Yb.1 h).1;have hp:l[i+d]? =some (l[i+d]'(by omega)):=Ya (by omega);obtain⟨u,v,ep,_,_,_,_⟩:=ok.1 (i+d) (by omega) _ hp;rw[ep]at hp;have h1:=qry ok hi d u v hp;have h2:=ok.2 (i+d) (by omega) u v x' b' hp h;exact Rat.le_trans h1 (Rat.le_of_lt h2)
def StC (y:qh) (o:Option Rat) (g:qC) (e m:Int):Prop:=(o=none/\e=7/\m= -1)\/(∃(k:Nat) (x b:Rat),o=some b/\e=0/\m=(k:Int)/\y.Strength[k]? =some ⟨T x,T b⟩/\IsF g b/\Sml b 100/\0<=b)
theorem strC {N:Nat} (hN:600000<N) {y:qh} (ok:qi3 y.Strength) (hl:y.Strength.length<=1000) {a:Rat} {f:qC} (sa:Sml a 540) (ia:IsF f a): ∀(K i:Nat) (o:Option Rat) (g:qC) (e m:Int),i<=y.Strength.length->y.Strength.length<K+i->(i=0->e=7)->(0<i->e=0)->StC y o g e m->
 ∃(g':qC) (e' m':Int),qN N y f.Num.s f.Num.w f.Den.s f.Den.w K g.Num.s g.Num.w g.Den.s g.Den.w (i:Int) e=some (g'.Num.s,g'.Num.w,g'.Den.s,g'.Den.w,e')/\zz N y (T a) K m (i:Int)=some m'/\StC y (stq a (y.Strength.drop i) o) g' e' m'
 |0,i,o,g,e,m,h,hK,z1,z2,st=>by omega
 |K+1,i,o,g,e,m,h,hK,z1,z2,st=>by
  by_cases hi:i<y.Strength.length
  ·have hp:y.Strength[i]? =some y.Strength[i]:=Ya hi;obtain⟨x,b,ep,sx,sb,x0,b0⟩:=ok.1 i hi _ hp
   have hd:y.Strength.drop i=⟨T x,T b⟩::y.Strength.drop (i+1):=by rw[YG hi,ep]
   rw[ep]at hp;obtain⟨fx,e1,i1⟩:=xQ hN (sx.mono (show 100<=9000 by omega));obtain⟨fb,e2,i2⟩:=xQ hN (sb.mono (show 100<=9000 by omega));have hc:=qjS hN i1 ia (n:=200) (by omega) (zR (sx.mono (show 100<=540 by omega)) (by omega) (by omega)) (zR sa (by omega) (by omega));rw[hd,stq];dsimp only;rw[qdc,qdc];by_cases hx:a<x
   ·rw[if_pos hx];refine⟨g,e,m,?_,qrj hN ok hl sa m (K+1) i h hK (fun j hj x' b' hj'=>?_),st⟩
    ·unfold qN;rw[if_pos (by omega),qw,hp,ZB];simp only;rw[e1,ZB,hc,ZB,if_neg (show¬x<a by grind),if_neg (show¬x=a by grind),if_pos (by decide)]
    have:=qry ok hp (j-i) x' b' (by rw[show i+(j-i)=j by omega];exact hj');grind
   rw[if_neg hx];obtain⟨g',e',m',r1,r2,r3⟩:=strC hN ok hl sa ia K (i+1) (some b) fb 0 (i:Int) (by omega) (by omega) (fun h=>by omega) (fun _=>rfl) (.inr ⟨i,x,b,rfl,rfl,rfl,hp,i2,sb,b0⟩);refine⟨g',e',m',?_,?_,r3⟩
   ·unfold qN;rw[if_pos (by omega),qw,hp,ZB];simp only;rw[e1,ZB,hc,ZB,if_neg (by split;decide;split;decide;grind),e2,ZB,qQ (by omega)];exact r1
   unfold zz;rw[if_pos (by omega),qw,hp,ZB];simp only;rw[qfe hN (k:=540) (by omega) (by omega) (sx.mono (by omega)) sa,ZB,if_pos (by split;decide;split;decide;grind),ZB,qQ (by omega)];exact r2
  refine⟨g,e,m,?_,?_,?_⟩
  ·unfold qN;rw[if_neg (by omega)]
  ·unfold zz;rw[if_neg (by omega)]
  rw[List.drop_eq_nil_of_le (by omega)];exact st
def absQ (v:Rat):Rat:=if v.num<0 then-v else v
noncomputable def stA (y:qh) (v:Rat):Option Rat:=stq (absQ v) y.Strength none
def StF (o:Option Rat) (g:qC) (e:Int):Prop:=(o=none/\e=7)\/(∃b:Rat,o=some b/\e=0/\IsF g b/\Sml b 100/\0<=b)
def stR (o:Option Rat):Str×Int:=match o with
 |none=>([],7)
 |some b=>(T b,0)
theorem qhU {N:Nat} (hN:600000<N) {y:qh} (ok:qi3 y.Strength) (hl:y.Strength.length<=1000) {v:Rat} {f:qC} (sv:Sml v 540) (iv:IsF f v):
 (∃g e,jm N y f=some (g,e)/\StF (stA y v) g e)/\ ∀n d t,qe5 N ⟨n,d,T v,y.Strength,t⟩=some (stR (stA y v)):=by
 obtain⟨z,e4,i4⟩:=F_eq (n:=0) (by omega) (by omega);obtain⟨n,e5,i5⟩:=qqz iv
 have core: ∀(y2:qh) (a:Rat) (h:qC),y2.Strength=y.Strength->Sml a 540->IsF h a-> ∃(g':qC) (e' m':Int),qN N y2 h.Num.s h.Num.w h.Den.s h.Den.w N z.Num.s z.Num.w z.Den.s z.Den.w 0 7=some (g'.Num.s,g'.Num.w,g'.Den.s,g'.Den.w,e')/\zz N y2 (T a) N (-1) 0=some m'/\StC y2 (stq a y.Strength none) g' e' m':=by
  intro y2 a h hs sa ih;have:=strC hN (y:=y2) (by rw[hs];exact ok) (by rw[hs];exact hl) sa ih N 0 none z 7 (-1) (by omega) (by rw[hs];omega) (fun _=>rfl) (fun c=>by omega) (.inl ⟨rfl,rfl,rfl⟩);rw[show((0:Nat):Int)=0 from rfl,YR,hs]at this;exact this
 constructor
 ·unfold jm stA absQ;rw[qev iv,ZB,e5,e4];by_cases hneg:v.num<0
  ·obtain⟨g',e',m',r1,_,r3⟩:=core y (-v) n rfl (qj1 sv) i5;rw[if_pos hneg,if_pos (by decide),if_pos hneg];simp only[ZB];rw[r1];refine⟨g',e',rfl,?_⟩;rcases r3 with⟨a1,a2,_⟩|⟨k,x,b,a1,a2,_,_,a3,a4,a5⟩
   ·exact .inl ⟨a1,a2⟩
   exact .inr ⟨b,a1,a2,a3,a4,a5⟩
  obtain⟨g',e',m',r1,_,r3⟩:=core y v f rfl sv iv;rw[if_neg hneg,if_neg (by split<;>decide),if_neg hneg];simp only[ZB];rw[r1];refine⟨g',e',rfl,?_⟩;rcases r3 with⟨a1,a2,_⟩|⟨k,x,b,a1,a2,_,_,a3,a4,a5⟩
  ·exact .inl ⟨a1,a2⟩
  exact .inr ⟨b,a1,a2,a3,a4,a5⟩
 intro n1 d1 t1
 have fin: ∀(a:Rat) (h:qC),Sml a 540->IsF h a->((zz N ⟨n1,d1,T v,y.Strength,t1⟩ (T a) N (-1) 0).bind fun n8=>if n8<0 then some (([]:Str),(7:Int))else(idx y.Strength n8).bind fun x17=>some (x17.Y,0))=some (stR (stq a y.Strength none)):=by
  intro a h sa ih;obtain⟨g',e',m',_,r2,r3⟩:=core ⟨n1,d1,T v,y.Strength,t1⟩ a h rfl sa ih;rw[r2,ZB];rcases r3 with⟨a1,a2,rfl⟩|⟨k,x,b,a1,a2,rfl,hk,a3,a4,a5⟩
  ·rw[if_pos (by decide),a1];rfl
  rw[if_neg (by omega),qw,hk,ZB,a1];rfl
 unfold qe5 stA absQ;dsimp only;rw[qeU,ZB];by_cases hneg:v.num<0
 ·have hs:=qmY hN (k:=540) (by omega) (by omega) (qgO (n:=0) (by omega) (by omega) (by omega)) sv;rw[show T ((0:Int):Rat)=[48]from T0,show((0:Int):Rat)-v= -v by grind]at hs;rw[if_pos hneg,if_pos (by decide),if_pos hneg,hs,ZB,ZB];exact fin (-v) n (qj1 sv) i5
 rw[if_neg hneg,if_neg (by split<;>decide),if_neg hneg,ZB];exact fin v f sv iv
theorem qb3 {p q:Rat} {a b:Nat} (ha:0<a) (hb:0<b) (hp:Sml p (9*a)) (hq:Sml q (9*b)):Sml (p+q) (9*(a+b+1)):=by
 have p1:=qcV (n:=a) hp (by omega) (by omega);have p2:=qcY (n:=a) hp (by omega) (by omega);have q1:=qcV (n:=b) hq (by omega) (by omega);have q2:=qcY (n:=b) hq (by omega) (by omega);rw[qcx];obtain⟨f1,f2⟩:=qeD (qex p q) (qhN (xx p1 q2) ((xx q1 p2).mono (show b+a<=a+b by omega))) ((xx p2 q2).mono (show a+b<=a+b+1 by omega));exact qf5 f1 f2 (by omega)
structure YC (y:qh) where
 d:Rat
 t:Rat
 ed:y.Density=T d
 sd:Sml d 100
 d0:0<d
 et:y.Twist=T t
 st:Sml t 100
 few:y.Strength.length<=256
 pts:qi3 y.Strength
theorem YC.of {y:qh} (Y:qlI y):Nonempty (YC y):=⟨⟨Y.d,Y.t,Y.ed,Y.sd.mono (by omega),Y.d0,Y.et,Y.st.mono (by omega),Y.few,qru Y.pts⟩⟩
noncomputable def vw:List qh->Rat
 |[]=>0
 |y::l=>ql5 y.Density+vw l
noncomputable def stY (u:Rat) (y:qh):Option Rat:=stA y (ql5 y.Twist+u)
noncomputable def qaj (u:Rat):List qh->Rat
 |[]=>0
 |y::l=>(stY u y).getD 0+qaj u l
noncomputable def qdC (u:Rat) (l:List qh):Bool:=l.any fun y=>(stY u y).isNone
def dyL (d0:Str):List qh->Str->Str
 |[],s=>s
 |y::l,s=>dyL d0 l (if y.Dye=d0 then s else[])
def qnn (l:List qh):Prop:= ∀y∈l,Nonempty (YC y)
theorem YC.sum {u:Rat} (su:Sml u 100) {y:qh} (Y:YC y):Sml (Y.t+u) 540:=(qb3 (a:=12) (b:=12) (by omega) (by omega) (Y.st.mono (by omega)) (su.mono (by omega))).mono (by omega)
section
variable {N:Nat} (hN:600000<N) {l:List qh} (hl:l.length<=12) (ok:qnn l)
include hN hl ok
theorem qoM: ∀(K i:Nat) (g:qC) (acc:Rat),i<=l.length->l.length<K+i->IsF g acc->Sml acc (9*(1+13*i))->
 ∃g':qC,zu N l K g.Num.s g.Num.w g.Den.s g.Den.w (i:Int)=some (g'.Num.s,g'.Num.w,g'.Den.s,g'.Den.w)/\IsF g' (acc+vw (l.drop i))/\Sml (acc+vw (l.drop i)) 1413
 |0,i,g,acc,h,hK,ig,sg=>by omega
 |K+1,i,g,acc,h,hK,ig,sg=>by
  unfold zu;by_cases hi:i<l.length
  ·obtain⟨Y⟩:=ok _ (List.getElem_mem hi);have hx:l[i]? =some l[i]:=Ya hi;obtain⟨f,e1,i1⟩:=xQ hN (Y.sd.mono (show 100<=9000 by omega));obtain⟨r,e2,i2⟩:=qf2 hN ig i1 (n:=200) (by omega) (zR (sg.mono (show 9*(1+13*i)<=3800 by omega)) (by omega) (by omega)) (zR (Y.sd.mono (show 100<=3800 by omega)) (by omega) (by omega));have s2:=(qb3 (a:=1+13*i) (b:=12) (by omega) (by omega) sg (Y.sd.mono (by omega))).mono (show 9*(1+13*i+12+1)<=9*(1+13*(i+1))by omega);rw[if_pos (by omega),qw,hx,ZB,qc8,Y.ed,e1,ZB,ZB,qbi];rw[show(⟨⟨g.Num.s,g.Num.w⟩,⟨g.Den.s,g.Den.w⟩⟩:qC)=g from rfl,show(⟨⟨f.Num.s,f.Num.w⟩,⟨f.Den.s,f.Den.w⟩⟩:qC)=f from rfl,e2,ZB,ZB,qQ (by omega),YG hi,vw,Y.ed,qdc,<-Rat.add_assoc];exact qoM K (i+1) r _ (by omega) (by omega) i2 s2
  rw[if_neg (by omega),List.drop_eq_nil_of_le (by omega),vw,Rat.add_zero];exact⟨g,rfl,ig,sg.mono (by omega)⟩
theorem qqQ: ∃g:qC,qbY N l=some (g.Num.s,g.Num.w,g.Den.s,g.Den.w)/\IsF g (vw l)/\Sml (vw l) 1413:=by
 obtain⟨z,e0,i0⟩:=F_eq (n:=0) (by omega) (by omega);obtain⟨g,e1,i1,s1⟩:=qoM hN hl ok N 0 z 0 (by omega) (by omega) i0 (qmk (by omega));rw[YR,Rat.zero_add]at i1 s1;unfold qbY xR;rw[show((0:Nat):Int)=0 from rfl]at e1;rw[e0,ZB,e1];exact⟨g,rfl,i1,s1⟩
theorem qn9 {u:Rat} {r9:qC} (su:Sml u 100) (iu:IsF r9 u) (hn:qdC u l=false): ∀(K i:Nat) (g:qC) (acc:Rat),i<=l.length->l.length<K+i->IsF g acc->Sml acc (9*(1+13*i))->
 ∃g':qC,zw N l r9.Num.s r9.Num.w r9.Den.s r9.Den.w K g.Num.s g.Num.w g.Den.s g.Den.w (i:Int)=some (g'.Num.s,g'.Num.w,g'.Den.s,g'.Den.w)/\IsF g' (acc+qaj u (l.drop i))/\Sml (acc+qaj u (l.drop i)) 1413
 |0,i,g,acc,h,hK,ig,sg=>by omega
 |K+1,i,g,acc,h,hK,ig,sg=>by
  unfold zw;by_cases hi:i<l.length
  ·obtain⟨Y⟩:=ok _ (List.getElem_mem hi);have hx:l[i]? =some l[i]:=Ya hi;obtain⟨f,e1,i1⟩:=xQ hN (Y.st.mono (show 100<=9000 by omega));obtain⟨v,e2,i2⟩:=qf2 hN i1 iu (n:=200) (by omega) (zR (Y.st.mono (show 100<=3800 by omega)) (by omega) (by omega)) (zR (su.mono (show 100<=3800 by omega)) (by omega) (by omega));obtain⟨⟨b,eb,h1,h2⟩,_⟩:=qhU hN Y.pts (by have:=Y.few;omega) (Y.sum su) i2
   have hs:stY u l[i]=stA l[i] (Y.t+u):=by unfold stY;rw[Y.et,qdc]
   have nn:(stY u l[i]).isNone=false:=by
    have:=List.any_eq_false.1 hn _ (List.getElem_mem hi)
    cases c:stY u l[i]with
    |none=>rw[c]at this;exact absurd rfl this
    |some z=>rfl
   obtain⟨c,ec,_,ib,sb,b0⟩: ∃c:Rat,stA l[i] (Y.t+u)=some c/\eb=0/\IsF b c/\Sml c 100/\0<=c:=by
    rcases h2 with⟨a1,_⟩|⟨c,a1,a2⟩
    ·rw[hs,a1]at nn;cases nn
    exact⟨c,a1,a2⟩
   obtain⟨r,e3,i3⟩:=qf2 hN ig ib (n:=200) (by omega) (zR (sg.mono (show 9*(1+13*i)<=3800 by omega)) (by omega) (by omega)) (zR (sb.mono (show 100<=3800 by omega)) (by omega) (by omega));have s2:=(qb3 (a:=1+13*i) (b:=12) (by omega) (by omega) sg (sb.mono (by omega))).mono (show 9*(1+13*i+12+1)<=9*(1+13*(i+1))by omega);rw[if_pos (by omega),qw,hx,ZB,qbl,Y.et,e1,ZB,show(⟨⟨r9.Num.s,r9.Num.w⟩,⟨r9.Den.s,r9.Den.w⟩⟩:qC)=r9 from rfl,e2,ZB,show(⟨l[i].Name,l[i].Density,T Y.t,l[i].Strength,l[i].Dye⟩:qh)=l[i]by rw[<-Y.et],h1,ZB,ZB];dsimp only;rw[qbi];rw[show(⟨⟨g.Num.s,g.Num.w⟩,⟨g.Den.s,g.Den.w⟩⟩:qC)=g from rfl,show(⟨⟨b.Num.s,b.Num.w⟩,⟨b.Den.s,b.Den.w⟩⟩:qC)=b from rfl,e3,ZB,ZB,qQ (by omega),YG hi,qaj,hs,ec,YN,<-Rat.add_assoc];exact qn9 su iu hn K (i+1) r _ (by omega) (by omega) i3 s2
  rw[if_neg (by omega),List.drop_eq_nil_of_le (by omega),qaj,Rat.add_zero];exact⟨g,rfl,ig,sg.mono (by omega)⟩
theorem qqB {u:Rat} {r9:qC} (su:Sml u 100) (iu:IsF r9 u) (hn:qdC u l=false): ∃g:qC,qb1 N l r9.Num.s r9.Num.w r9.Den.s r9.Den.w=some (g.Num.s,g.Num.w,g.Den.s,g.Den.w)/\IsF g (qaj u l)/\Sml (qaj u l) 1413:=by
 obtain⟨z,e0,i0⟩:=F_eq (n:=0) (by omega) (by omega);obtain⟨g,e1,i1,s1⟩:=qn9 hN hl ok su iu hn N 0 z 0 (by omega) (by omega) i0 (qmk (by omega));rw[YR,Rat.zero_add]at i1 s1;unfold qb1 xU;rw[show((0:Nat):Int)=0 from rfl]at e1;rw[e0,ZB,e1];exact⟨g,rfl,i1,s1⟩
theorem qn8 {u:Rat} {r9:qC} (su:Sml u 100) (iu:IsF r9 u): ∀(K i:Nat) (n:Int) (s:Str),i<=l.length->l.length<K+i->
 ∃h0:0<l.length\/l.length=0,qaF N l r9 K n s (i:Int)=some (if n=0 then(if qdC u (l.drop i)=true then 7 else 0)else n,if h:0<l.length then dyL l[0].Dye (l.drop i) s else s)
 |0,i,n,s,h,hK=>by omega
 |K+1,i,n,s,h,hK=>by
  refine⟨by omega,?_⟩;unfold qaF;by_cases hi:i<l.length
  ·obtain⟨Y⟩:=ok _ (List.getElem_mem hi);have hx:l[i]? =some l[i]:=Ya hi;have h0:l[0]? =some (l[0]'(by omega)):=Ya (by omega);obtain⟨f,e1,i1⟩:=xQ hN (Y.st.mono (show 100<=9000 by omega));obtain⟨v,e2,i2⟩:=qf2 hN i1 iu (n:=200) (by omega) (zR (Y.st.mono (show 100<=3800 by omega)) (by omega) (by omega)) (zR (su.mono (show 100<=3800 by omega)) (by omega) (by omega));obtain⟨⟨b,eb,h1,h2⟩,_⟩:=qhU hN Y.pts (by have:=Y.few;omega) (Y.sum su) i2
   have hs:stY u l[i]=stA l[i] (Y.t+u):=by unfold stY;rw[Y.et,qdc]
   have he:eb=if(stY u l[i]).isNone=true then 7 else 0:=by
    rw[hs];rcases h2 with⟨a1,a2⟩|⟨c,a1,a2,_⟩
    ·rw[a1,a2];rfl
    rw[a1,a2];rfl
   have st: ∀r:Str,(if(!(l[i].Dye==(l[0]'(by omega)).Dye))=true then some (if n=0 then eb else n,([]:Str))else some (if n=0 then eb else n,s))=some (if n=0 then eb else n,if l[i].Dye=(l[0]'(by omega)).Dye then s else[]):=fun _=>by
    by_cases c:l[i].Dye=(l[0]'(by omega)).Dye
    ·rw[if_neg (by simp[c]),if_pos c]
    rw[if_pos (by simp[c]),if_neg c]
   rw[if_pos (by omega),qw,hx,ZB,Y.et,e1,ZB,e2,ZB,h1,ZB,qhJ (by omega),ZB,show idx l 0=l[0]? from qbZ l,h0,ZB,st [],ZB,qQ (by omega)];obtain⟨_,hr⟩:=qn8 su iu K (i+1) (if n=0 then eb else n) (if l[i].Dye=(l[0]'(by omega)).Dye then s else[]) (by omega) (by omega);dsimp only;rw[hr,dif_pos (by omega),dif_pos (by omega),YG hi,dyL];congr 2;unfold qdC;rw[List.any_cons,he];by_cases hz:n=0
   ·rw[if_pos hz,if_pos hz]
    cases c:(stY u l[i]).isNone with
    |true=>simp
    |false=>simp
   rw[if_neg hz,if_neg hz,if_neg hz]
  rw[if_neg (by omega),List.drop_eq_nil_of_le (by omega)]
  have e1:(if n=0 then(if qdC u ([]:List qh)=true then(7:Int)else 0)else n)=n:=by
   split
   ·rename_i c;rw[c];rfl
   rfl
  rw[e1];split<;>rfl
end
noncomputable def plyV (name:Str) (l:List qh) (u f:Rat):qh×Int:=
 if qdC u l=true then(⟨[],[],[],[],[]⟩,7)else if qdv (vw l/f)=true\/qdv (qaj u l)=true then(⟨[],[],[],[],[]⟩,4)
 else(⟨name,T (vw l/f),T u,[⟨[48],T (qaj u l)⟩],dyL (l.head?.map (·.Dye)).get! l (l.head?.map (·.Dye)).get!⟩,0)
end Go.Av
end
section
namespace Go.Av
def qj0:List Int->Int
 |[]=>0
 |a::l=>if a=0 then qj0 l else a
theorem qly {l:List Int} (hl:l.length<=1000): ∀(K i:Nat),i<=l.length->l.length<K+i->qy l K (i:Int)=some (if qj0 (l.drop i)=0 then .inl ()else .inr (qj0 (l.drop i)))
 |0,i,h,hK=>by omega
 |K+1,i,h,hK=>by
  unfold qy;by_cases hi:i<l.length
  ·rw[if_pos (by omega),qw,Ya hi,ZB,YG hi,qj0];by_cases c:l[i]=0
   ·rw[decide_eq_true c,if_neg (by decide),qQ (by omega),qly hl K (i+1) (by omega) (by omega),if_pos c]
   rw[decide_eq_false c,if_pos (by decide),if_neg c,if_neg c]
  rw[if_neg (by omega),List.drop_eq_nil_of_le (by omega),qj0,if_pos rfl]
theorem qjr {N:Nat} {l:List Int} (hl:l.length<=1000) (hN:l.length<N):ji N l=some (qj0 l):=by
 unfold ji;have:=qly hl N 0 (by omega) (by omega);rw[show((0:Nat):Int)=0 from rfl,YR]at this;rw[this];by_cases c:qj0 l=0
 ·rw[if_pos c,c];rfl
 rw[if_neg c];rfl
theorem qqV {s:Str} {q:Rat} (e:s=T q) (hl:s.length<=60):Sml q 60:=qd6 (by omega) (by rw[<-e];exact hl)
def emY:qh:=⟨[],[],[],[],[]⟩
theorem qhX {N:Nat} (hN:600000<N) {name:Str} {l:List qh} {u f:Rat} (hl0:0<l.length) (hl:l.length<=12) (ok:qnn l) (hn:xe N name=some 0) (he:zX N l 12=some 0)
 (hu:zP N (T u)=some 0) (hf:ja N (T f)=some 0) (su:Sml u 100) (sf:Sml f 100) (f0:0<f):
 qat N name l (T u) (T f)=some (if 1<f then(emY,3)else plyV name l u f):=by
 obtain⟨ff,e8,i8⟩:=xQ hN (sf.mono (show 100<=9000 by omega));obtain⟨fu,e9,i9⟩:=xQ hN (su.mono (show 100<=9000 by omega));obtain⟨f1,e10,i10⟩:=F_eq (n:=1) (by omega) (by omega);have hc:=qjS hN i8 i10 (n:=200) (by omega) (zR (sf.mono (show 100<=3800 by omega)) (by omega) (by omega)) (zR ((qgO (n:=1) (k:=27) (by omega) (by omega) (by omega)).mono (show 27<=3800 by omega)) (by omega) (by omega));have hx0:l[0]? =some (l[0]'hl0):=Ya hl0;have z5:qj0 [0,0,0,0,0]=0:=rfl;unfold qat;rw[hn,ZB,decide_eq_false (show¬(l.length:Int)=0 by omega),ky,if_neg (by decide),ZB,he,ZB,hu,ZB,hf,ZB,qjr (by simp) (by simp;omega),ZB,z5,if_neg (by decide),e8,ZB,e9,ZB,e10,ZB,hc,ZB];have q1:((1:Int):Rat)=(1:Rat):=rfl;rw[q1]
 have hgt:decide ((if f<1 then(-1:Int)else if f=1 then 0 else 1)>0)=decide (1<f):=by
  by_cases a:f<1
  ·rw[if_pos a];simp;grind
  rw[if_neg a];by_cases b:f=1
  ·rw[if_pos b];simp;grind
  rw[if_neg b];simp;grind
 rw[hgt,ky,show idx l 0=l[0]? from qbZ l,hx0]
 have er:=fun n s=>qn8 hN hl ok su i9 N 0 n s (by omega) (by omega)
 by_cases g1:1<f
 ·rw[if_pos (decide_eq_true g1),ZB,ZB];obtain⟨_,h1⟩:=er 3 (l[0]'hl0).Dye;rw[show((0:Nat):Int)=0 from rfl,if_neg (by decide)]at h1;rw[h1,ZB,if_pos g1];dsimp only;rw[if_pos (by decide)];rfl
 rw[if_neg (by simp[g1]),ZB,ZB,if_neg g1];obtain⟨_,h1⟩:=er 0 (l[0]'hl0).Dye;rw[show((0:Nat):Int)=0 from rfl,if_pos rfl,YR,dif_pos hl0]at h1;rw[h1,ZB];dsimp only;unfold plyV;by_cases ha:qdC u l=true
 ·rw[if_pos ha,if_pos ha,if_pos (by decide)]
 rw[if_neg ha,if_neg ha,if_neg (by decide)]
 have ha':qdC u l=false:=by simpa using ha
 obtain⟨gd,d1,d2,d3⟩:=qqQ hN hl ok;obtain⟨gs,s1,s2,s3⟩:=qqB hN hl ok su i9 ha'
 have f0':f≠0:=fun c=>by rw[c]at f0;exact absurd f0 (by decide)
 obtain⟨r,r1,r2⟩:=qqD hN d2 i8 (n:=200) (by omega) (by omega) (zR (d3.mono (show 1413<=3800 by omega)) (by omega) (by omega)) (zR (sf.mono (show 100<=3800 by omega)) (by omega) (by omega)) f0';have sq:Sml (vw l/f) (9*(157+157)):=qj9 (by omega) d3 (sf.mono (by omega)) f0';rw[qa0,ZB,d1,ZB];dsimp only;rw[show(⟨⟨gd.Num.s,gd.Num.w⟩,⟨gd.Den.s,gd.Den.w⟩⟩:qC)=gd from rfl,r1,ZB,qd4 hN r2 (zR sq (by omega) (by omega)),ZB,qa8,ZB,s1,ZB];dsimp only;rw[show(⟨⟨gs.Num.s,gs.Num.w⟩,⟨gs.Den.s,gs.Den.w⟩⟩:qC)=gs from rfl,qd4 hN s2 (zR (s3.mono (show 1413<=3800 by omega)) (by omega) (by omega)),ZB,qhJ (by omega),ZB]
 have hd:(l.head?.map (·.Dye)).get! =(l[0]'hl0).Dye:=by
  rw[List.head?_eq_getElem?,hx0];rfl
 rw[hd];unfold qqb;cases ca:qdv (vw l/f)<;>cases cb:qdv (qaj u l)<;>simp
theorem qjI (u:Rat) (y:qh) (l:List qh):qdC u (y::l)=((stY u y).isNone||qdC u l):=List.any_cons
section
variable {N:Nat} (hN:600000<N) {l:List qh} (hl:l.length<=12) (ok:qnn l) {u:Rat} (su:Sml u 100)
include hN hl ok su
end
end Go.Av
end
