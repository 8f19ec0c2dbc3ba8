/-
  The reference's numerals.
-/
import Derived.Test.YthgioiakbbhonaaGreatDoorMkPa
import Derived.Test.YthgioiakbbhonaaGreatDoorAvPt
set_option linter.unusedVariables false
set_option linter.unusedSimpArgs false
set_option maxRecDepth 100000
set_option linter.unusedSectionVars false
noncomputable section
namespace Go.Av
theorem qcB {a b:Str} (h:a.length+b.length<=1000000000):cat a b=some (a++b):=by
 unfold cat;rw[ae (by omega)]
theorem dcut {d:Nat} (h:d<10):cut ([48,49,50,51,52,53,54,55,56,57]:Str) (d:Int) (w64 ((d:Int)+1))=some [dch d]:=by
 rw[qD (by omega)];rcases(show d=0\/d=1\/d=2\/d=3\/d=4\/d=5\/d=6\/d=7\/d=8\/d=9 by omega)with e|e|e|e|e|e|e|e|e|e<;>subst e<;>decide
theorem tm10 (n:Nat):(n:Int).tmod 10=((n%10:Nat):Int):=by rw[ba (by omega)];omega
theorem td10 (n:Nat):(n:Int).tdiv 10=((n/10:Nat):Int):=by rw[YF (by omega)];omega
theorem qg8 {least:Int} {K n:Nat} {s:Str} (hn:n<9223372036854775808) (hs:s.length<=1000) (h:0<n\/(s.length:Int)<least):ku least (K+1) (n:Int) s=ku least K ((n/10:Nat):Int) (dch (n%10)::s):=by
 have cond:(if(n:Int)>0 then some true else some (decide ((s.length:Int)<least)):Option Bool)=some true:=by
  by_cases c:(n:Int)>0
  ·rw[ae c]
  rw[aa c,ai (by omega)]
 rw[ku,cond,ZB,ae rfl,tm10,td10,dcut (by omega),ZB,qcB (by simp;omega),ZB,qo (by omega) (by omega)];rfl
theorem qgX {least:Int} {K:Nat} {s:Str} (h: ¬(s.length:Int)<least):ku least (K+1) 0 s=some s:=by
 rw[ku,aa (by omega),ah h,ZB,aa (by simp)]
theorem qkR: ∀(k K n:Nat) (s:Str),n<10^k->s.length+k=9->k<K->ku 9 K (n:Int) s=some (qeK k n++s)
 |k,0,n,s,_,_,h=>by omega
 |0,K+1,n,s,hn,hs,h=>by
  simp at hn;subst hn;exact qgX (by omega)
 |k+1,K+1,n,s,hn,hs,h=>by
  have h9:(10:Nat)^(k+1)<=10^9:=bC (by omega) (by omega);rw[bL]at hn;rw[qg8 (by rw[bL]at h9;omega) (by omega) (.inr (by omega)),qkR k K (n/10) _ (by omega) (by simp;omega) (by omega),qeK,Yz];rfl
theorem qlg: ∀(k K n:Nat) (s:Str),0<n->n<10^k->n<9223372036854775808->s.length+k<=900->k<K->ku 1 K (n:Int) s=some (Lib.decDigits n++s)
 |k,0,n,s,_,_,_,_,h=>by omega
 |0,K+1,n,s,h0,hn,_,hs,h=>by simp at hn;omega
 |k+1,K+1,n,s,h0,hn,h63,hs,h=>by
  rw[bL]at hn;rw[qg8 h63 (by omega) (.inl h0)];by_cases c:n<10
  ·obtain⟨K2,rfl⟩: ∃K2,K=K2+1:=⟨K-1,by omega⟩;rw[show n/10=0 by omega,jI c,show n%10=n by omega];exact qgX (by simp;omega)
  rw[qlg k K (n/10) _ (by omega) (by omega) (by omega) (by simp;omega) (by omega),qfY c,Yz];rfl
theorem qqo {N n:Nat} (hN:100<N) (h:n<1000000000):z8 N (n:Int) 9=some (qeK 9 n):=by
 unfold z8;rw[qkR 9 N n [] h rfl (by omega),ZB,YQ]
theorem qik {N n:Nat} (hN:100<N) (h:n<9223372036854775808):z8 N (n:Int) 1=some (Lib.decDigits n):=by
 unfold z8;rcases bj n with e|e
 ·subst e;obtain⟨K,rfl⟩: ∃K,N=K+1+1:=⟨N-2,by omega⟩;have h1:=qg8 (least:=1) (K:=K+1) (n:=0) (s:=[]) (by omega) (by simp) (.inr (by simp));rw[h1,Nat.zero_div];have h2:=qgX (least:=1) (K:=K) (s:=[dch (0%10)]) (by simp);have h2:ku 1 (K+1) ((0:Nat):Int) [dch (0%10)]=_:=h2;rw[h2,ZB,jI (by decide)]
 rw[qlg 19 N n [] e (by omega) h (by simp) (by omega),ZB,YQ]
theorem qiK: ∀k:Nat,E9^k=((10^(9*k):Nat):Int)
 |0=>rfl
 |k+1=>by
  rw[aE,qiK k,Nat.mul_succ,Nat.pow_add,aZ];rfl
def nv (w:List Int):Nat:=(dv E9 w).toNat
theorem qky {w:List Int} (h:Dg E9 w):(nv w:Int)=dv E9 w:=by
 have:=qF E0 h;unfold nv;omega
theorem nv_lt {w:List Int} (h:Dg E9 w):nv w<10^(9*w.length):=by
 have h1:=xU E0 h;rw[qiK,<-qky h]at h1;omega
theorem qjt {w:List Int} (h:Dg E9 w):(Lib.decDigits (nv w)).length<=9*w.length+1:=by
 refine(qaH (by omega)).2 ?_;have:=nv_lt h;rw[bL];omega
theorem qm8 {w:List Int} (h:Dg E9 w) {i:Nat} (hi:i<w.length):nv (w.drop i)=w[i].toNat+1000000000*nv (w.drop (i+1)):=by
 have h1:=qky (h.drop i);have h2:=qky (h.drop (i+1));have h3:=(h.at hi).1;rw[qiZ w hi]at h1;have h4:E9*dv E9 (w.drop (i+1))=1000000000*dv E9 (w.drop (i+1)):=rfl;omega
theorem qlS {N:Nat} (hN:100<N) {a:qJ} (ha:Dg E9 a.w) (hal:a.w.length<=100000): ∀(K i:Nat),i<=a.w.length->i<K->0<nv (a.w.drop i)->yS N a K (Lib.decDigits (nv (a.w.drop i))) ((i:Int)-1)=some (Lib.decDigits (nv a.w))
 |0,i,_,h,_=>by omega
 |K+1,0,_,_,_=>by
  rw[yS,aa (by omega),YR]
 |K+1,i+1,hi,h,hp=>by
  have hil:i<a.w.length:=by omega
  have ax:=ha.at hil;have ax2:a.w[i]<1000000000:=ax.2
  have ei:((i+1:Nat):Int)-1=(i:Int):=by omega
  have ed:a.w[i]=(a.w[i].toNat:Int):=by omega
  have el:=qm8 ha hil;have ll:=qjt (ha.drop (i+1));rw[YJ]at ll;rw[yS,ei,ae (by omega),ql,Ya hil,ZB]
  have e9:z8 N a.w[i] 9=some (qeK 9 a.w[i].toNat):=by
   conv=>lhs;rw[ed]
   exact qqo hN (by omega)
  rw[e9,ZB,qcB (by rw[qje];omega),ZB,qo (by omega) (by omega)]
  have e10:Lib.decDigits (nv (a.w.drop (i+1)))++qeK 9 a.w[i].toNat=Lib.decDigits (nv (a.w.drop i)):=by
   have h9:(10:Nat)^9=1000000000:=rfl
   have q:nv (a.w.drop i)/10^9=nv (a.w.drop (i+1)):=by rw[h9];omega
   have r:nv (a.w.drop i)%10^9=a.w[i].toNat:=by rw[h9];omega
   rw[qio 9 (nv (a.w.drop i)) (by rw[q];exact hp),q,r]
  rw[e10];exact qlS hN ha hal K i (by omega) (by omega) (by omega)
theorem xz {z:Int} (h:z<0):Lib.itoa z=45::Lib.decDigits z.natAbs:=by unfold Lib.itoa;rw[ae h]
theorem vE {z:Int} (h: ¬z<0):Lib.itoa z=Lib.decDigits z.natAbs:=by
 unfold Lib.itoa;rw[aa h,show z.toNat=z.natAbs by omega]
theorem qnB {N:Nat} (hN:60000<N) {z:Int} (h:zB z 50000):qcj N (rI z)=some (Lib.itoa z):=by
 obtain⟨c,e⟩:=qhe z;have l:(rI z).w.length<=50000:=h.len
 have en:nv (rI z).w=z.natAbs:=by unfold nv;rw[e];omega
 have ng:(rI z).neg=decide (z<0):=rfl;unfold qcj;by_cases h0:(rI z).w.length=0
 ·have hz:z=0:=by
   rw[YL.1 h0,zz]at e;omega
  rw[ae (by omega),hz]
  have:Lib.itoa 0=[48]:=by rw[vE (by decide)];exact jI (by decide)
  rw[this]
 have hk:(rI z).w.length-1<(rI z).w.length:=by omega
 have ax:=c.1.at hk;have ax2:(rI z).w[(rI z).w.length-1]<1000000000:=ax.2;have an:(rI z).w[(rI z).w.length-1]≠0:=c.2 _ (by rw[List.getLast?_eq_getElem?];exact Ya hk)
 have ed:(rI z).w[(rI z).w.length-1]=((rI z).w[(rI z).w.length-1].toNat:Int):=by omega
 have e1:nv ((rI z).w.drop ((rI z).w.length-1))=(rI z).w[(rI z).w.length-1].toNat:=by
  rw[qm8 c.1 hk,aA (by omega)];rfl
 have e2:z8 N (rI z).w[(rI z).w.length-1] 1=some (Lib.decDigits (nv ((rI z).w.drop ((rI z).w.length-1)))):=by
  conv=>lhs;rw[ed]
  rw[e1];exact qik (by omega) (by omega)
 have e3:=qlS (N:=N) (by omega) c.1 (by omega) N ((rI z).w.length-1) (by omega) (by omega) (by rw[e1];omega);have ll:=qjt c.1;rw[aa (by omega),qke (by omega) (by omega),ql,Ya hk,ZB,e2,ZB,show w64 (((rI z).w.length:Int)-2)=(((rI z).w.length-1:Nat):Int)-1 by rw[qo (by omega) (by omega)];omega,e3,ZB,ng];by_cases hz:z<0
 ·rw[ai hz,ae rfl,qcB (by simp;omega),ZB,xz hz,en];rfl
 rw[ah hz,aa (by simp),vE hz,en]
theorem qk7 {s:Str} (hd:s.all yX=true) (hl:s.length<=18): ∀(K i:Nat),i<=s.length->s.length<K+i->yu s K ((kw 0 (s.take i):Nat):Int) (i:Int)=some ((kw 0 s:Nat):Int)
 |0,i,h,hK=>by omega
 |K+1,i,h,hK=>by
  rw[yu];by_cases hi:i<s.length
  ·have ht:s.take (i+1)=s.take i++[s[i]]:=cf hi;have hc:yX s[i]=true:=Yp.1 hd _ (bq hi);obtain⟨_,hc2⟩:=qnc hc
   have hc1:48<=s[i].toNat:=by
    unfold yX at hc;rw[aI,aH]at hc;exact hc.1
   have hv:=qfy (s.take i) 0 (Yp.2 λx hx=>Yp.1 hd x (dh hx));have hp:(10:Nat)^(s.take i).length<=10^17:=bC (by omega) (by rw[Ym];omega);have hp2:(10:Nat)^17=100000000000000000:=rfl;rw[ae (by omega),ql,Ya hi,ZB,qo (n:=10*((kw 0 (s.take i):Nat):Int)) (by omega) (by omega),qo (n:=(s[i].toNat:Int)) (by omega) (by omega),qo (n:=10*((kw 0 (s.take i):Nat):Int)+(s[i].toNat:Int)) (by omega) (by omega),qo (by omega) (by omega),qD (by omega)]
   have e:10*((kw 0 (s.take i):Nat):Int)+(s[i].toNat:Int)-48=((kw 0 (s.take (i+1)):Nat):Int):=by rw[ht,qg9];omega
   rw[e];exact qk7 hd hl K (i+1) (by omega) (by omega)
  rw[aa (by omega),aj (by omega)]
theorem qgK {N:Nat} (hN:100<N) {s:Str} (hd:s.all yX=true) (hl:s.length<=18):qai N s=some ((kw 0 s:Nat):Int):=by
 have e:=qk7 hd hl N 0 (by omega) (by omega);have e:yu s N 0 0=_:=e;unfold qai;rw[e,ZB]
theorem qiS {s:Str} (h:s.all yX=true) (k:Nat):(s.take k).all yX=true:=Yp.2 λx hx=>Yp.1 h x (dh hx)
theorem qiq {s:Str} (h:s.all yX=true) (k:Nat):(s.drop k).all yX=true:=Yp.2 λx hx=>Yp.1 h x (List.mem_of_mem_drop hx)
theorem qk6 {N:Nat} (hN:100<N): ∀(K:Nat) (l:List Int) (s:Str),s.all yX=true->l.length+s.length<=90000->s.length<K->Dg E9 l->
 ∃l' s',xm N K l s=some (l',s')/\s'.length<=9/\s'.all yX=true/\Dg E9 l'/\l'.length<=90000/\dv E9 l'+E9^l'.length*(kw 0 s':Nat)=dv E9 l+E9^l.length*(kw 0 s:Nat)
 |0,l,s,_,_,h,_=>by omega
 |K+1,l,s,hd,hl,h,hg=>by
  rw[xm];by_cases c:s.length>9
  ·have lu:(s.drop (s.length-9)).length=9:=by rw[YJ];omega
   have hv:=qgK (N:=N) hN (qiq hd (s.length-9)) (by omega);have hv2:=qfy _ 0 (qiq hd (s.length-9));rw[lu]at hv2;rw[ae (by omega),show w64 ((s.length:Int)-9)=((s.length-9:Nat):Int)by rw[qo (by omega) (by omega)];omega,qaz (by omega),ZB,hv,ZB,xX (by simp;omega) (by simp;omega),ZB,y9 (by omega),ZB];obtain⟨l',s',f1,f2,f3,f4,f5,f6⟩:=qk6 hN K (l++[((kw 0 (s.drop (s.length-9)):Nat):Int)]) (s.take (s.length-9)) (qiS hd _) (by simp;omega) (by rw[Ym];omega) (hg.append (Dg.cons ⟨by omega,show((kw 0 (s.drop (s.length-9)):Nat):Int)<1000000000 by omega⟩ Dg.nil));refine⟨l',s',f1,f2,f3,f4,f5,?_⟩;rw[f6,qfp,Yq,bw,aE,Int.mul_assoc]
   have e:kw 0 s=kw 0 (s.take (s.length-9))*1000000000+kw 0 (s.drop (s.length-9)):=by
    have:=qfg (s.take (s.length-9)) (s.drop (s.length-9));rw[YS,lu]at this;exact this
   have e2:((kw 0 s:Nat):Int)=((kw 0 (s.drop (s.length-9)):Nat):Int)+E9*((kw 0 (s.take (s.length-9)):Nat):Int):=by
    have h4:E9*((kw 0 (s.take (s.length-9)):Nat):Int)=1000000000*((kw 0 (s.take (s.length-9)):Nat):Int):=rfl;omega
   rw[e2,Int.mul_add];omega
  rw[aa (by omega)];exact⟨l,s,rfl,by omega,hd,hg,by omega,rfl⟩
def sgn (s:Str):Bool:=decide (s[0]? =some 45)
def bdy (s:Str):Str:=if sgn s=true then s.drop 1 else s
theorem qgJ (s:Str):(if(s.length:Int)>0 then(idx s 0).bind λc=>some (decide ((c.toNat:Int)=45))else some false:Option Bool)=some (sgn s):=by
 unfold sgn
 cases s with
 |nil=>rfl
 |cons c t=>
  rw[ae (by simp),qau];have e:((c.toNat:Int)=45)↔(some c=some (45:UInt8)):=⟨λh=>ap some (UInt8.toNat_inj.1 (show c.toNat=45 by omega)),λh=>by rw[Ye h];rfl⟩;simp only[Yj,ZB];congr 1;exact decide_eq_decide.2 e
theorem qmf (s:Str):(if sgn s=true then(cut s 1 (s.length:Int)).bind λx=>some x else some s:Option Str)=some (bdy s):=by
 unfold bdy
 cases h:sgn s with
 |false=>rw[aa (by simp),aa (by simp)]
 |true=>
  have hl:1<=s.length:=by
   cases s with
   |nil=>simp[sgn]at h
   |cons=>simp
  have:=qaz hl;have e:cut s 1 (s.length:Int)=some (s.drop 1):=this;rw[ae rfl,ae rfl,e,ZB]
def qj6 (s:Str):Int:=if sgn s=true then-((kw 0 (bdy s):Nat):Int)else((kw 0 (bdy s):Nat):Int)
theorem qih {N:Nat} (hN:100000<N) {s:Str} (hd:(bdy s).all yX=true) (hl:(bdy s).length<=80000):qaV N s=some (rI (qj6 s)):=by
 unfold qaV;rw[qgJ,ZB,qmf,ZB];obtain⟨l,t,f1,f2,f3,f4,f5,f6⟩:=qk6 (N:=N) (by omega) N [] (bdy s) hd (by simp;omega) (by omega) Dg.nil;have hv:=qgK (N:=N) (by omega) f3 (by omega);have hv2:=qfy _ 0 f3;have hp:(10:Nat)^t.length<=10^9:=bC (by omega) f2;rw[f1,ZB];simp only;have hg:=f4.append (r:=[((kw 0 t:Nat):Int)]) (Dg.cons ⟨by omega,show((kw 0 t:Nat):Int)<1000000000 by omega⟩ Dg.nil);rw[hv,ZB,xX (by simp;omega) (by simp;omega),ZB,qa7 _ hg (by simp;omega) (by simp;omega),ZB,qfp,f6];simp only[zz,be,ce,bu,dq];rfl
theorem qh6 (z:Int):sgn (Lib.itoa z)=decide (z<0):=by
 unfold sgn;by_cases h:z<0
 ·rw[xz h,ai h];rfl
 rw[vE h,ah h]
 refine ah λe=>?_
 have hm:(45:UInt8)∈Lib.decDigits z.natAbs:=Yn e;have:=Yp.1 (qbO z.natAbs) _ hm;exact absurd this (by decide)
theorem qdo (z:Int):bdy (Lib.itoa z)=Lib.decDigits z.natAbs:=by
 unfold bdy;rw[qh6];by_cases h:z<0
 ·rw[ai h,ae rfl,xz h];rfl
 rw[ah h,aa (by simp),vE h]
theorem qdZ (z:Int):qj6 (Lib.itoa z)=z:=by
 unfold qj6;rw[qh6,qdo,qdd];by_cases h:z<0
 ·rw[ai h,ae rfl];omega
 rw[ah h,aa (by simp)];omega
def slA:Str->Nat
 |[]=>0
 |c::s=>if c=47 then 0 else slA s+1
theorem qhc: ∀s:Str,slA s<=s.length
 |[]=>ag _
 |c::s=>by
  rw[slA,Yr];have:=qhc s;split<;>omega
theorem qln {s:Str} (hl:s.length<=1000000): ∀(K i:Nat),i<=s.length->s.length<K+i->yF s K (i:Int)=some (if i+slA (s.drop i)<s.length then .inr ((i+slA (s.drop i):Nat):Int)else .inl ())
 |0,i,h,hK=>by omega
 |K+1,i,h,hK=>by
  rw[yF];by_cases hi:i<s.length
  ·have hd:s.drop i=s[i]::s.drop (i+1):=YG hi;rw[ae (by omega),ql,Ya hi,ZB,hd,slA];by_cases c:s[i]=47
   ·rw[ae c,ae (by rw[c];rfl),aY,ae hi]
   rw[aa c,aa (λe=>c (UInt8.toNat_inj.1 (show s[i].toNat=47 by omega))),qD (by omega),qln hl K (i+1) (by omega) (by omega),show i+1+slA (s.drop (i+1))=i+(slA (s.drop (i+1))+1)by omega]
  rw[aa (by omega),aA (by omega),aa (by omega)]
theorem qd1 {N:Nat} {s:Str} (hl:s.length<=1000000) (hN:s.length<N):xC N s=some (slA s:Int):=by
 have e:=qln hl N 0 (by omega) (by omega);have e:yF s N 0=_:=e;have h:=qhc s;unfold xC;rw[e,YR,az];by_cases c:slA s<s.length
 ·rw[ae c];rfl
 rw[aa c]
 have:slA s=s.length:=by omega
 rw[this];rfl
theorem qku: ∀(s t:Str),(∀c∈s,c≠47)->slA (s++47::t)=s.length/\slA s=s.length
 |[],t,_=>⟨by simp[slA],rfl⟩
 |c::s,t,h=>by
  have h1:=qku s t λx hx=>h x (List.mem_cons_of_mem _ hx)
  rw[cK,slA,slA,aa (h c (dY ..)),aa (h c (dY ..)),h1.1,h1.2];exact⟨rfl,rfl⟩
theorem and1 {n:Nat} (h:n<4611686018427387904):qB .i64 (n:Int) 1=((n%2:Nat):Int):=by
 show IntKind.wrap .i64 _=_
 have e:(BitVec.ofInt IntKind.i64.bits (n:Int)&&&BitVec.ofInt IntKind.i64.bits 1).toNat=n%2:=by
  rw[BitVec.toNat_and];show(BitVec.ofInt 64 (n:Int)).toNat&&&(BitVec.ofInt 64 1).toNat=_;rw[qcN (by omega) (by omega),qcN (by omega) (by omega)];exact Nat.and_one_is_mod n
 rw[e];show w64 _=_;exact qo (by omega) (by omega)
theorem shr1 (n:Nat):qz .i64 (n:Int) 1=((n/2:Nat):Int):=by
 show(n:Int).fdiv 2=_;rw[dD _ (by decide)];omega
theorem qo8 {N:Nat} (hN:11000<N): ∀(K n:Nat) (b acc:qm) (x y:Int) (mb ma:Nat),n<100000->n<K->IsZ b x->IsZ acc y->Fit x mb->Fit y ma->ma+mb*n<=3900->
 ∃r,yA N K b.s b.w acc.s acc.w (n:Int)=some (r.s,r.w)/\IsZ r (y*x^n)
 |0,n,_,_,_,_,_,_,_,h,_,_,_,_,_=>by omega
 |K+1,n,b,acc,x,y,mb,ma,hn,hK,hb,hacc,fx,fy,hm=>by
  rw[yA];by_cases h0:n=0
  ·subst h0;rw[aa (by omega)];exact⟨acc,rfl,by simpa using hacc⟩
  have hmb:mb<=mb*n:=Nat.le_mul_of_pos_right _ (by omega);obtain⟨m,r,hr,hmr⟩: ∃m r,r<2/\n=2*m+r:=⟨n/2,n%2,by omega,by omega⟩
  have emb:mb*n=mb*m+mb*m+mb*r:=by rw[hmr,Nat.mul_add,<-Nat.mul_assoc,cd mb 2,Nat.two_mul,Nat.add_mul]
  have S1: ∃(a2:qm) (m2:Nat),(if(qB .i64 (n:Int) 1)=1 then(qR N (⟨acc.s,acc.w⟩:qm) (⟨b.s,b.w⟩:qm)).bind λr20=>some (r20.s,r20.w)else some (acc.s,acc.w):Option (Int×(List Int)))=some (a2.s,a2.w)/\IsZ a2 (y*x^r)/\Fit (y*x^r) m2/\m2=ma+mb*r:=by
   rw[and1 (by omega),show n%2=r by omega];rcases(show r=0\/r=1 by omega)with e|e<;>subst e
   ·rw[aa (by simp)];exact⟨acc,ma,rfl,by simpa using hacc,by simpa using fy,by simp⟩
   obtain⟨p,e1,h1⟩:=qe9 hN hacc hb (fy.mono (by omega)) (fx.mono (by omega));have e1:qR N (⟨acc.s,acc.w⟩:qm) (⟨b.s,b.w⟩:qm)=some p:=e1;rw[ae (by simp),e1,ZB];exact⟨p,ma+mb,rfl,by rw[dO];exact h1,by rw[dO];exact qbu fy fx,by simp⟩
  obtain⟨a2,m2,e1,h1,f1,em2⟩:=S1
  have S2: ∃(b2:qm) (x2:Int) (m3:Nat),(if(n:Int)>1 then(qR N (⟨b.s,b.w⟩:qm) (⟨b.s,b.w⟩:qm)).bind λr22=>some (r22.s,r22.w,a2.s,a2.w)else some (b.s,b.w,a2.s,a2.w):Option (Int×(List Int)×Int×(List Int)))=some (b2.s,b2.w,a2.s,a2.w)/\IsZ b2 x2/\Fit x2 m3/\m3*m=mb*m+mb*m/\x2^m=(x*x)^m:=by
   by_cases c:(n:Int)>1
   ·have hm1:1<=m:=by omega
    have h3:mb<=mb*m:=Nat.le_mul_of_pos_right _ hm1;obtain⟨p,e2,h2⟩:=qe9 hN hb hb (fx.mono (by omega)) (fx.mono (by omega));have e2:qR N (⟨b.s,b.w⟩:qm) (⟨b.s,b.w⟩:qm)=some p:=e2;rw[ae c,e2,ZB];exact⟨p,x*x,mb+mb,rfl,h2,qbu fx fx,Nat.add_mul _ _ _,rfl⟩
   have hm0:m=0:=by omega
   subst hm0;rw[aa c];exact⟨b,x,mb,rfl,hb,fx,by simp,by simp⟩
  obtain⟨b2,x2,m3,e2,h2,f2,em3,ex⟩:=S2
  have S:((if(qB .i64 (n:Int) 1)=1 then(qR N (⟨acc.s,acc.w⟩:qm) (⟨b.s,b.w⟩:qm)).bind λr20=>some (r20.s,r20.w)else some (acc.s,acc.w):Option (Int×(List Int)))).bind (λ(n16,l17)=>
   if(n:Int)>1 then(qR N (⟨b.s,b.w⟩:qm) (⟨b.s,b.w⟩:qm)).bind λr22=>some (r22.s,r22.w,n16,l17)else some (b.s,b.w,n16,l17))=some (b2.s,b2.w,a2.s,a2.w):=by
   rw[e1,ZB];exact e2
  obtain⟨r',e3,h3⟩:=qo8 hN K m b2 a2 x2 (y*x^r) m3 m2 (by omega) (by omega) h2 h1 f2 f1 (by omega);rw[ae (by omega),S,ZB];simp only;rw[shr1,show n/2=m by omega];refine⟨r',e3,?_⟩
  have hx2:x*x=x^2:=by rw[aE,aE,ce,bu]
  rw[ex,Int.mul_assoc,hx2,<-Int.pow_mul,<-Int.pow_add,show r+2*m=n by omega]at h3;exact h3
theorem qsq {N:Nat} (hN:110000<N) {b:qm} {x:Int} {n mb:Nat} (hn:n<100000) (hb:IsZ b x) (fx:Fit x mb) (hm:1+mb*n<=3900): ∃r,qco N b (n:Int)=some r/\IsZ r (x^n):=by
 obtain⟨r,e,h⟩:=qo8 (N:=N) (by omega) N n b ⟨1,[]⟩ x 1 mb 1 hn (by omega) hb (Ue (by decide) (by decide)) fx (F1 (by omega)) hm;have e:yA N N b.s b.w 1 [] (n:Int)=some (r.s,r.w):=e;unfold qco;rw[qjK,ZB];simp only;rw[e,ZB];exact⟨r,rfl,by rw[bu]at h;exact h⟩
theorem qgH {z:Int} {p n:Nat} (h:(z.natAbs:Int)<((10^p:Nat):Int)) (hp:p<=19*n):Fit z n:=by
 have h1:(10:Nat)^p<=10^(19*n):=bC (by omega) hp
 have h2:((10^(19*n):Nat):Int)<=W^n:=by
  rw[Nat.pow_mul];have:=(qeY (x:=10000000000000000000) (y:=W) (by decide) (by decide) n).2;rw[cA];exact this
 unfold Fit;omega
theorem qcZ (s:Str):strings_HasPrefix s [45]=some (sgn s):=by
 unfold strings_HasPrefix stringslite_HasPrefix sgn
 cases s with
 |nil=>rfl
 |cons c t=>
  rw[ae (by simp;omega)];have e:cut (c::t) 0 (([45]:Str).length:Int)=some [c]:=y9 (l:=c::t) (k:=1) (by simp);rw[e];simp only[ZB,Yj];congr 1;rw[bQ,bG,aH];constructor
  ·intro h;injection h with h;rw[h]
  intro h;rw[Ye h]
theorem qm3 {s:Str} (h:sgn s=true):1<=s.length:=by
 cases s with
 |nil=>simp[sgn]at h
 |cons=>simp
theorem qfT (s:Str):strings_TrimPrefix s [45]=some (bdy s):=by
 unfold strings_TrimPrefix stringslite_TrimPrefix
 have e:stringslite_HasPrefix s [45]=some (sgn s):=by
  have:=qcZ s;unfold strings_HasPrefix at this
  cases h:stringslite_HasPrefix s [45]with
  |none=>rw[h]at this;cases this
  |some b=>rw[h]at this;exact this
 rw[e,ZB];unfold bdy
 cases h:sgn s with
 |false=>rw[aa (by simp),aa (by simp),ZB]
 |true=>
  have e2:cut s (([45]:Str).length:Int) (s.length:Int)=some (s.drop 1):=qaz (qm3 h);rw[ae rfl,ae rfl,e2,ZB,ZB]
theorem qkI (s:Str):strings_CutPrefix s [45]=some (bdy s,sgn s):=by
 unfold strings_CutPrefix stringslite_CutPrefix
 have e:stringslite_HasPrefix s [45]=some (sgn s):=by
  have:=qcZ s;unfold strings_HasPrefix at this
  cases h:stringslite_HasPrefix s [45]with
  |none=>rw[h]at this;cases this
  |some b=>rw[h]at this;exact this
 rw[e,ZB];unfold bdy
 cases h:sgn s with
 |false=>rw[ae (by simp),aa (by simp),ZB]
 |true=>
  have e2:cut s (([45]:Str).length:Int) (s.length:Int)=some (s.drop 1):=qaz (qm3 h);rw[aa (by simp),ae rfl,e2,ZB,ZB]
theorem qmJ {N:Nat} (hN:600000<N): ∀(K:Nat) (x:qm) (y:Int) (s:Str) (p:Nat),IsZ x y->0<=y->y<((10^p:Nat):Int)->p+s.length<=19000->s.all yX=true->s.length<K->
 ∃r,qae N K x.s x.w s=some (r.s,r.w)/\IsZ r (y*((10^s.length:Nat):Int)+(kw 0 s:Nat))
 |0,_,_,_,_,_,_,_,_,_,h=>by omega
 |K+1,x,y,s,p,hx,y0,y1,hp,hd,hK=>by
  rw[qae];by_cases h0:s.length=0
  ·rw[aa (by omega)];have:s=[]:=YL.1 h0;subst this;exact⟨x,rfl,by simpa[qcU]using hx⟩
  rw[ae (by omega)]
  obtain⟨g,hg,hg0,hgl,hg18⟩: ∃g:Nat,(if(s.length:Int)<18 then(s.length:Int)else 18)=(g:Int)/\0<g/\g<=s.length/\g<=18:=by
   by_cases c:(s.length:Int)<18
   ·exact⟨s.length,by rw[ae c],by omega,by omega,by omega⟩
   exact⟨18,by rw[aa c];rfl,by omega,by omega,by omega⟩
  have lt:(s.take g).length=g:=by rw[Ym];omega
  have ea:=qlh (s:=s.take g) (by omega) (qiS hd g)
  have et:qli (s.take g)=some (((kw 0 (s.take g):Nat):Int),()):=by
   unfold qli;rw[ae (by omega),ea];rfl
  have hv:=qfy (s.take g) 0 (qiS hd g);rw[lt]at hv;have hp18:(10:Nat)^g<=10^18:=bC (by omega) hg18;have h18:(10:Nat)^18=1000000000000000000:=rfl;rw[hg,y9 hgl,ZB,et,ZB,qjK,ZB];obtain⟨r1,e1,h1⟩:=qsq (N:=N) (by omega) (b:=⟨10,[]⟩) (x:=10) (n:=g) (mb:=1) (by omega) (Ue (by decide) (by decide)) (qgH (p:=2) (by decide) (by omega)) (by omega)
  have ep:(10:Int)^g=((10^g:Nat):Int):=by rw[cA];rfl
  rw[ep]at h1
  have fg:Fit ((10^g:Nat):Int) 1000:=qgH (p:=19) (by
   rw[aS];have h19:(10:Nat)^19=10000000000000000000:=rfl
   omega) (by omega)
  have fy:Fit y 1000:=qgH (p:=p) (by omega) (by omega);have hpos:0<10^g:=Nat.pow_pos (by decide);have yg0:0<=y*((10^g:Nat):Int):=Yv y0 (by omega)
  have yg1:(y+1)*((10^g:Nat):Int)<=((10^(p+g):Nat):Int):=by
   rw[Nat.pow_add,aZ];exact aB (by omega) (by omega)
  rw[aV,bu]at yg1;obtain⟨r2,e2,h2⟩:=qe9 (N:=N) (by omega) hx h1 (fy.mono (by omega)) (fg.mono (by omega));have e2:qR N (⟨x.s,x.w⟩:qm) r1=some r2:=e2;have hd2:IsZ ⟨((kw 0 (s.take g):Nat):Int),[]⟩ ((kw 0 (s.take g):Nat):Int):=Ue (by omega) (by omega)
  obtain⟨r3,e3,h3⟩:=qiC (N:=N) (by omega) h2 hd2 (qgH (p:=p+g) (by omega) (by omega)) (qgH (p:=19) (by
   rw[aS];have h19:(10:Nat)^19=10000000000000000000:=rfl
   omega) (by omega))
  rw[e1,ZB,e2,ZB,qjK,ZB,e3,ZB,qaz hgl,ZB]
  have ld:(s.drop g).length=s.length-g:=by rw[YJ]
  obtain⟨r,e4,h4⟩:=qmJ hN K r3 _ (s.drop g) (p+g) h3 (by omega) (by omega) (by omega) (qiq hd g) (by omega);refine⟨r,e4,?_⟩;have e5:=qfg (s.take g) (s.drop g);rw[YS]at e5
  have e6:(10:Nat)^s.length=10^g*10^(s.drop g).length:=by rw[<-Nat.pow_add,ld];congr 1;omega
  rw[e5,e6];rw[aV]at h4;rw[aZ,cC,aZ,<-Int.mul_assoc,<-Int.add_assoc];exact h4
theorem qhQ {N:Nat} (hN:600000<N) {s:Str} (hd:(bdy s).all yX=true) (hl:(bdy s).length<=19000): ∃r,qbQ N s=some r/\IsZ r (qj6 s):=by
 obtain⟨r,e,h⟩:=qmJ hN N ⟨0,[]⟩ 0 (bdy s) 0 (Ue (by decide) (by decide)) (by omega) (by decide) (by omega) hd (by omega);have e:qae N N 0 [] (bdy s)=some (r.s,r.w):=e;rw[Int.zero_mul,dq]at h;unfold qbQ;rw[qcZ,ZB,qfT,ZB,e,ZB];unfold qj6
 cases hs:sgn s with
 |false=>
  rw[aa (by simp)];exact⟨r,rfl,by simpa using h⟩
 |true=>
  obtain⟨r2,e2,h2⟩:=qhd h;have e2:zW (⟨r.s,r.w⟩:qm)=some r2:=e2;simp only[aJ];rw[e2];exact⟨r2,rfl,h2⟩
theorem qni: ∀n:Nat,Lib.repeatL [48] n=List.replicate n 48
 |0=>rfl
 |n+1=>by rw[Lib.repeatL,qni,dQ];rfl
theorem qjE: ∀k:Nat,qeK k 0=List.replicate k 48
 |0=>rfl
 |k+1=>by
  rw[qeK,Nat.zero_div,qjE k,List.replicate_succ'];rfl
theorem qlt: ∀(k n:Nat),n<10^(k+1)->qeK (k+1) n=List.replicate (k+1-(Lib.decDigits n).length) 48++Lib.decDigits n
 |0,n,h=>by
  have h:n<10:=by simpa using h
  rw[jI h,qeK,qeK,eB h];rfl
 |k+1,n,h=>by
  rw[qeK];by_cases c:n<10
  ·rw[jI c,eE c,qjE,eB c];rfl
  rw[bL]at h;rw[qlt k (n/10) (by omega),qfY c,Yz,Yq,bw,show k+1+1-((Lib.decDigits (n/10)).length+1)=k+1-(Lib.decDigits (n/10)).length by omega]
theorem qgY (n:Nat):Lib.itoa (n:Int)=Lib.decDigits n:=by rw[vE (by omega),aS]
theorem qow {r:Nat} (h:r<1000000000000000000) (c: ¬r=0):dg W (r:Int)=[(r:Int)]:=by
 rw[qkK (by omega) (by unfold W;omega)]
theorem qpk {r:Nat} (h:r<1000000000000000000):qil (r:Int) 10=some (Lib.decDigits r):=by
 unfold qil;rw[ae ⟨by omega,by omega,rfl⟩,qgY]
theorem qpW:(if((dg W ((0:Nat):Int)).length:Int)>0 then(idx (dg W ((0:Nat):Int)) 0).bind λx13=>(qil x13 10).bind λr14=>some r14 else some [48]:Option Str)=some (Lib.decDigits 0):=by
 rw[show((0:Nat):Int)=0 from rfl,qet,aa (by simp),jI (by decide)];rfl
theorem qqU {r:Nat} (h:r<1000000000000000000):(if((dg W (r:Int)).length:Int)>0 then(idx (dg W (r:Int)) 0).bind λx13=>(qil x13 10).bind λr14=>some r14 else some [48]:Option Str)=some (Lib.decDigits r):=by
 by_cases c:r=0
 ·rw[c];exact qpW
 rw[qow h c,ae (show((([(r:Int)]:List Int).length:Nat):Int)>0 from by rw[bw];decide),qau,Yj,ZB,qpk h];rfl
theorem p18:(10:Nat)^18=1000000000000000000:=rfl
theorem qqC {q r:Nat} (h:r<1000000000000000000): ∃t:Str,(if((dg W (q:Int)).length:Int)>0 then(qfx [48] (w64 (18-((Lib.decDigits r).length:Int)))).bind λr18=>(cat r18 (Lib.decDigits r)).bind λs19=>some s19 else some (Lib.decDigits r):Option Str)=some t/\0<t.length/\Lib.decDigits (1000000000000000000*q+r)=(if q=0 then[]else Lib.decDigits q)++t:=by
 have hr:r<10^18:=by rw[p18];exact h
 have lD:(Lib.decDigits r).length<=18:=(qaH (by decide)).2 hr;have lD0:=qiI r;by_cases c:q=0
 ·subst c;rw[show((0:Nat):Int)=0 from rfl,qet,aa (by simp),ae rfl,Nat.mul_zero,az];exact⟨_,rfl,lD0,rfl⟩
 have hne:dg W (q:Int)≠[]:=λe=>by have:=(qh9 W1 (by omega)).1 e;omega
 have hlen:0<(dg W (q:Int)).length:=cj.2 hne
 have et:qfx [48] (w64 (18-((Lib.decDigits r).length:Int)))=some (List.replicate (18-(Lib.decDigits r).length) 48):=by
  rw[qo (by omega) (by omega)];unfold qfx;rw[ae ⟨by omega,by omega,by simp;omega⟩,qni];congr 2;omega
 have hp:=qlt 17 r hr;have hl:(qeK (17+1) r).length=18:=qje _ _;have hs:=qio 18 (1000000000000000000*q+r);rw[p18,Nat.mul_add_div (by omega),eE h,aY,Nat.mul_add_mod,eB h]at hs;rw[ae (by omega),et,ZB,qcB (by simp;omega),ZB,<-hp,aa c];exact⟨_,rfl,by omega,hs (by omega)⟩
theorem qst {N:Nat} (hN:600000<N) (B:Nat) (hB:B<=3900) (K:Nat): ∀(k m:Nat) (l:List Str),m<10^(18*k)->k<K->k+l.length<=100000->Fit (m:Int) B->(∀t∈l,0<t.length)->
 ∃l',jS N K l (dg W (m:Int))=some l'/\(∀t∈l',0<t.length)/\l'.length<=k+l.length/\l'.reverse.flatten=(if m=0 then[]else Lib.decDigits m)++l.reverse.flatten:=by
 induction K with
 |zero=>intro k m l _ h;omega
 |succ K ih=>
  intro k m l hm hK hl fm hp;rw[jS];by_cases h0:m=0
  ·subst h0;rw[show((0:Nat):Int)=0 from rfl,qet,aa (by simp),ae rfl];exact⟨l,rfl,hp,by omega,rfl⟩
  obtain⟨j,hj⟩: ∃j,k=j+1:=⟨k-1,by
   rcases bj k with e|e
   ·subst e;simp at hm;omega
   omega⟩
  rw[hj]at hm hK hl
  have hm0:(0:Int)<=(m:Int):=by omega
  have hne:dg W (m:Int)≠[]:=λe=>by have:=(qh9 W1 hm0).1 e;omega
  have hlen:0<(dg W (m:Int)).length:=cj.2 hne;have ln:(dg W (m:Int)).length<=3900:=aX fm.len hB
  have cB:Can W [1000000000000000000]:=by
   have:=jD W1 (show(0:Int)<=1000000000000000000 by decide);rw[qkK (by decide) (by decide)]at this;exact this
  have vB:dv W [1000000000000000000]=1000000000000000000:=by rw[zR,zz,aO,aT]
  have ed:=qjA (N:=N) (by omega) (jD W1 hm0) cB (by omega) (by rw[vB];decide);rw[vB,vY W1 hm0]at ed;obtain⟨q,r,hq,hr⟩: ∃q r,m=1000000000000000000*q+r/\r<1000000000000000000:=⟨m/1000000000000000000,m%1000000000000000000,by omega,by omega⟩
  have eq:(m:Int)/1000000000000000000=(q:Int):=by omega
  have er:(m:Int)%1000000000000000000=(r:Int):=by omega
  rw[eq,er]at ed;obtain⟨t,et,t0,eD⟩:=qqC (q:=q) hr;rw[<-hq]at eD;rw[ae (by omega),ed,ZB];simp only;rw[qqU hr,ZB,et,ZB,xX (by simp;omega) (by simp;omega),ZB]
  have hk:q<10^(18*j):=by
   rw[Nat.mul_succ,Nat.pow_add,p18,cd]at hm;refine Nat.lt_of_mul_lt_mul_left (a:=1000000000000000000) ?_;omega
  obtain⟨l',f1,f2,f3,f4⟩:=ih j q (l++[t]) hk (by omega) (by simp;omega) (qcv (by omega) fm) (λu hu=>by
   rcases cz.1 hu with hu|hu
   ·exact hp u hu
   rw[List.mem_singleton.1 hu];exact t0)
  refine⟨l',f1,f2,by simp at f3;omega,?_⟩;rw[f4,aa h0,eD,List.reverse_append,dR,Yz];simp
def byN (s:Str):List Int:=s.map λx=>(x.toNat:Int)
theorem qhF (s:Str):(byN s).length=s.length:=by unfold byN;rw[bo]
theorem qoR {l:List Str} (hp: ∀t∈l,0<t.length) (hl:l.length<=100000): ∀(K i:Nat) (o:Option (List Int)),i<=l.length->i<K->(hof o).length+(l.take i).flatten.length<=1000000000->
 ∃o',zN l K o.isSome o ((i:Int)-1)=some (o'.isSome,o')/\hof o'=hof o++byN (l.take i).reverse.flatten
 |0,i,o,_,h,_=>by omega
 |K+1,0,o,hi,h,hb=>by
  rw[zN,aa (by omega)];exact⟨o,rfl,by simp[byN]⟩
 |K+1,i+1,o,hi,h,hb=>by
  have hil:i<l.length:=by omega
  have ei:((i+1:Nat):Int)-1=(i:Int):=by omega
  have ht:l.take (i+1)=l.take i++[l[i]]:=cf hil;have h1:=hp l[i] (bq hil);rw[ht,dR,Yq]at hb;simp only[List.flatten_cons,List.flatten_nil,YQ]at hb
  have ew:bWr o.isSome o l[i]=some (hof o++byN l[i]):=by
   unfold bWr;rw[ae ⟨rfl,by omega,h1⟩];rfl
  rw[zN,ei,ae (by omega),ql,Ya hil,ZB,ew,ZB,qo (by omega) (by omega)]
  obtain⟨o',f1,f2⟩:=qoR hp hl K i (some (hof o++byN l[i])) (by omega) (by omega) (by
   show(hof o++byN l[i]).length+_<=_
   rw[Yq,qhF];omega)
  refine⟨o',f1,?_⟩;rw[f2,ht,List.reverse_append,dR];show hof o++byN l[i]++_=_;rw[Yz];unfold byN;simp
theorem qpc (s:Str):(byN s).map (λn=>UInt8.ofNat n.toNat)=s:=by
 unfold byN;rw[List.map_map]
 conv=>rhs;rw[<-List.map_id s]
 refine List.map_congr_left λx _=>?_
 show UInt8.ofNat ((x.toNat:Int)).toNat=x;rw[aL,UInt8.ofNat_toNat]
theorem qq8 (s:Str):(byN s).all (λn=>decide (0<=n)&&decide (n<256))=true:=by
 unfold byN;rw[List.all_map,Yp];intro x _;have:x.toNat<256:=x.toNat_lt;simp;omega
theorem qkH: ∀l:List Str,l.reverse.flatten.length=l.flatten.length:=λl=>by
 rw[List.length_flatten,List.length_flatten,List.map_reverse,List.sum_reverse]
theorem qfs {N:Nat} (hN:600000<N) {x:qm} {z:Int} (h:IsZ x z) (fz:Fit z 3900):yG N x=some (Lib.itoa z):=by
 unfold yG
 cases e:x.w.isEmpty with
 |true=>
  obtain⟨h1,h2,h3⟩:=h.emp e;rw[ae rfl,h1];unfold qnr;rw[ae ⟨h2,h3⟩,ZB]
 |false=>
  have hz:z.natAbs≠0:=by
   rcases h with⟨hw,_⟩|⟨_,_,h1,_⟩
   ·rw[hw]at e;cases e
   omega
  obtain⟨B8,hB8⟩: ∃B8:Nat,B8=8000:=⟨_,rfl⟩
  have pw:((10^(18*B8):Nat):Int)=(1000000000000000000:Int)^B8:=by
   rw[Nat.pow_mul,cA];rfl
  have hm:z.natAbs<10^(18*B8):=by
   have h1:W^3900<=(1000000000000000000:Int)^B8:=by
    have a1:(1000000000000000000:Int)^B8=((1000000000000000000:Int)^2)^4000:=by rw[<-Int.pow_mul,hB8]
    have a2:W^4000<=((1000000000000000000:Int)^2)^4000:=(qeY (by decide) (by decide) 4000).2;have a3:W^3900<=W^4000:=xe (by decide) (by decide);rw[a1];exact cy a3 a2
   rw[<-pw]at h1;unfold Fit at fz;omega
  obtain⟨l,f1,f2,f3,f4⟩:=qst hN 3900 (ag _) N B8 z.natAbs [] hm (by omega) (by simp;omega) (by unfold Fit;rw[aS];exact fz) (λt ht=>by cases ht);rw[aa hz]at f4;simp only[List.reverse_nil,List.flatten_nil,YQ,be,aY]at f3 f4;have lD:(Lib.decDigits z.natAbs).length<=18*B8:=(qaH (by omega)).2 hm
  have lf:l.flatten.length<=18*B8:=by rw[<-qkH,f4];exact lD
  have lpos:=qiI z.natAbs;rw[aa (by simp),parts_eq h,ZB];simp only;rw[f1,ZB];have el:w64 ((l.length:Int)-1)=(l.length:Int)-1:=qo (by omega) (by omega)
  have fin: ∀(o:Option (List Int)) (pre:Str),hof o=byN pre->pre.length<=10->((zN l N o.isSome o (w64 ((l.length:Int)-1))).bind λ(ok30,o31)=>(qnX ok30 o31).bind λt38=>some t38)=some (pre++Lib.decDigits z.natAbs):=by
   intro o pre ho hpre;obtain⟨o',g1,g2⟩:=qoR f2 (by omega) N l.length o (ag _) (by omega) (by rw[ho,qhF,aj (ag _)];omega);rw[aj (ag _),f4,ho]at g2
   have g3:hof o'=byN (pre++Lib.decDigits z.natAbs):=by
    rw[g2];unfold byN;rw[dL]
   have hs:o'.isSome=true:=by
    cases o' with
    |none=>
     have:=ap List.length g3;rw[qhF,Yq]at this;simp at this;omega
    |some q=>rfl
   rw[el,g1,ZB];simp only;unfold qnX;rw[ae ⟨hs,by rw[g3,qhF,Yq];omega,by rw[g3];exact qq8 _⟩,g3,qpc,ZB]
  by_cases c:z<0
  ·have eb:bWr false (none:Option (List Int)) [45]=some [45]:=rfl;rw[ai c,ae rfl,eb,ZB,ZB];simp only;have:=fin (some [45]) [45] rfl (by simp);rw[xz c];exact this
  rw[ah c,aa (by simp),ZB];simp only;have:=fin none [] rfl (by simp);rw[vE c];exact this
theorem qrn {x:qm} {z:Int} (h:IsZ x z) (fz:Fit z 3900): ∃b:Nat,qbT x=some (b:Int)/\(z.natAbs:Int)<2^b:=by
 unfold qbT;rw[parts_eq h,ZB];simp only
 have hz:(0:Int)<=(z.natAbs:Int):=by omega
 have cc:=jD W1 hz;have vv:=vY W1 hz;have ll:=fz.len;generalize dg W (z.natAbs:Int)=w at*;by_cases h0:w.length=0
 ·rw[ae (by omega)];rw[YL.1 h0,zz]at vv;exact⟨0,rfl,by rw[<-vv];decide⟩
 have hk:w.length-1<w.length:=by omega
 have ax:=cc.1.at hk;obtain⟨l,e,hl⟩:=qk2 ax.1 ax.2
 have hl0:0<=l/\l<=64:=by
  rcases hl with⟨_,h⟩|⟨h1,h2,_⟩<;>omega
 have hl2:w[w.length-1]<2^l.toNat:=by
  rcases hl with⟨h1,h2⟩|⟨_,_,_,h⟩
  ·rw[h1,h2];decide
  exact h
 rw[aa (by omega),qke (by omega) (by omega),ql,Ya hk,ZB,e,ZB,qo (n:=64*((w.length-1:Nat):Int)) (by omega) (by omega),qo (by omega) (by omega)];refine⟨64*(w.length-1)+l.toNat,by congr 1;omega,?_⟩;have e1:=qy W w (w.length-1) hk;rw[aj (by omega),vv]at e1;have h1:=xU W0 (cc.1.take (w.length-1));rw[Ym,aP (by omega)]at h1
 have e2:(2:Int)^(64*(w.length-1)+l.toNat)=W^(w.length-1)*2^l.toNat:=by
  rw[Int.pow_add,Int.pow_mul];rfl
 have h2:W^(w.length-1)*(w[w.length-1]+1)<=W^(w.length-1)*2^l.toNat:=Yc (by omega) (aq (pow_pos W0 _));rw[Int.mul_add,bN]at h2;rw[e2];omega
theorem pow8: ∀n:Nat,(8:Int)^(n+1)<((10^(n+1):Nat):Int)
 |0=>by decide
 |n+1=>by
  have ih:=pow8 n;have a1:=pow_pos (show(0:Int)<8 by decide) (n+1);rw[aE,bL,aZ];omega
theorem qsl (n:Nat):(2:Int)^(3*n)=(8:Int)^n:=by
 rw[Int.pow_mul];rfl
theorem qrs {n m:Nat} (hm:m=3*(n+1)):(2:Int)^m<((10^(n+1):Nat):Int):=by
 rw[hm,qsl];exact pow8 n
def lng (z:Int):Bool:=decide (600<(Lib.decDigits z.natAbs).length)
theorem qm5 {N:Nat} (hN:600000<N) {x:qm} {z:Int} (h:IsZ x z) (fz:Fit z 3900):qdR N x=some (lng z):=by
 obtain⟨b,e,hb⟩:=qrn h fz;unfold qdR;rw[e,ZB];by_cases c:(b:Int)>1800
 ·rw[ae c,qfs hN h fz,ZB,qfT,qdo,ZB,ZB];congr 1;exact decide_eq_decide.2 (by omega)
 rw[aa c,ZB];congr 1;obtain⟨m,hm⟩: ∃m:Nat,m=3*(599+1):=⟨_,rfl⟩;have h1:(2:Int)^b<=2^m:=xe (by decide) (by omega);have h2:=qrs hm
 have h3:z.natAbs<10^(599+1):=by omega
 have:=(qaH (n:=z.natAbs) (k:=599+1) (by decide)).2 h3;unfold lng;rw[ah (by omega)]
def qqk (q:Rat):Bool:=lng q.num||lng q.den
theorem qpY {N:Nat} (hN:600000<N) {f:qb} {q:Rat} (h:IsF f q) (fq:qax q 3900):qaS N f=some (qqk q):=by
 unfold qaS qqk;rw[qm5 hN h.1 fq.1,ZB]
 cases lng q.num with
 |true=>rw[ae rfl,ZB,Bool.true_or]
 |false=>rw[aa (by simp),qm5 hN h.2 fq.2,ZB,ZB,Bool.false_or]
def T (q:Rat):Str:=Lib.itoa q.num++(if q.den=1 then[]else 47::Lib.decDigits q.den)
theorem Fit.itoaLen {z:Int} (h:Fit z 3900):(Lib.itoa z).length<=200001:=by
 have h1:(Lib.decDigits z.natAbs).length<=20*10000:=by
  refine(qaH (by decide)).2 ?_;obtain⟨B,hB⟩: ∃B:Nat,B=10000:=⟨_,rfl⟩;rw[<-hB];have h2:W^3900<=W^B:=xe (by decide) (by omega);have h3:W^B<=(100000000000000000000:Int)^B:=(qeY (by decide) (by decide) B).2
  have h4:((10^(20*B):Nat):Int)=(100000000000000000000:Int)^B:=by
   rw[Nat.pow_mul,cA];rfl
  unfold Fit at h;generalize W^3900=p at*;omega
 by_cases c:z<0
 ·rw[xz c,Yr];omega
 rw[vE c];omega
theorem qrm {N:Nat} (hN:600000<N) {f:qb} {q:Rat} (h:IsF f q) (fq:qax q 3900):qbr N f=some (T q):=by
 unfold qbr T;rw[qf1 h,ZB];by_cases c:q.den=1
 ·rw[ai c,ae rfl,qfs hN h.1 fq.1,ZB,ae c,YQ]
 have l1:=Fit.itoaLen fq.1;have l2:=Fit.itoaLen fq.2;rw[ah c,aa (by simp),qfs hN h.1 fq.1,ZB,qcB (by simp;omega),ZB,qfs hN h.2 fq.2,ZB,qcB (by simp;omega),ZB,aa c,qgY,Yz];rfl
theorem qqY {α:Type} {b:Bool} {x y:α}:jf b x y=if b=true then x else y:=by cases b<;>rfl
theorem qkX: ∀(s:Str) (j:Nat),qjl 47 s j=if slA s<s.length then((j+slA s:Nat):Int)else-1
 |[],j=>rfl
 |c::s,j=>by
  show jf (Nat.beq c.toNat 47) (Int.ofNat j) (qjl 47 s (j+1))=_;rw[qqY,qkX s (j+1),slA,Yr];by_cases h:c=47
  ·subst h;rw[ae (by decide),ae rfl,ae (by omega)];rfl
  have h2:c.toNat≠47:=λe=>h (UInt8.toNat_inj.1 (by rw[e];rfl))
  rw[aa (by rw[qdz h2];simp),aa h];by_cases c2:slA s<s.length
  ·rw[ae c2,ae (by omega)];congr 1;omega
  rw[aa c2,aa (by omega)]
theorem qpu {s:Str}:stringslite_Index s [47]=some (qjl 47 s 0):=by
 unfold stringslite_Index stringslite_IndexByte qkJ
 have h0: ¬(([47]:Str).length:Int)=0:=by simp
 have h1:(([47]:Str).length:Int)=1:=by simp
 rw[aa h0];simp only[ZB];by_cases hs:(([47]:Str)==s)=true
 ·have:s=[47]:=(bG.1 hs).symm;subst this;rfl
 rw[aa hs,ae h1,qau,show([47]:Str)[0]? =some 47 from rfl,ZB,ae (by decide)];rfl
theorem qo9 {s:Str} (hl:s.length<=1000000):strings_Cut s [47]=some (if slA s<s.length then(s.take (slA s),s.drop (slA s+1),true)else(s,[],false)):=by
 have h:=qhc s;unfold strings_Cut stringslite_Cut;rw[qpu,qkX,ZB];by_cases c:slA s<s.length
 ·rw[ae c,ae (by omega),ae c,az,y9 h,ZB,show w64 ((slA s:Int)+(([47]:Str).length:Int))=((slA s+1:Nat):Int)from qD (by omega),qaz (by omega),ZB,ZB]
 rw[aa c,aa (by omega),aa c,ZB]
theorem qgs {s:Str} (hl:s.length<=1000000):vJ s=some (decide (Dec s)):=by
 have hT:qlb s [48,49,50,51,52,53,54,55,56,57]=some (Lib.trimS s [48,49,50,51,52,53,54,55,56,57]):=by
  unfold qlb;rw[ae ⟨hl,by decide,by decide⟩]
 unfold vJ;rw[hT];simp only[ZB,qoa]
 cases s with
 |nil=>rfl
 |cons c t=>
  rw[ae (by rfl),qau];simp only[Yj,ZB]
  cases hd:(c::t).all yX with
  |false=>
   rw[aa (by simp),ZB,ah λh=>by rw[h.2.1]at hd;cases hd]
  |true=>
   rw[ae rfl];by_cases h:c=48
   ·subst h;rw[aa (by decide),ZB];congr 1;rw[bQ,bG,aH];exact⟨λe=>by rw[e];exact qm0 (by decide),λh=>h.2.2 rfl⟩
   rw[ae (by simp[ne48 h]),ZB,ai (show Dec (c::t)from⟨by simp,hd,λe=>absurd (Ye e) h⟩)]
theorem qh2 {s:Str} (hl:s.length<=1000000): ∀(K i:Nat),i<=s.length->s.length<K+i->jZ s K (i:Int)=some (if(s.drop i).all yX=true then .inl ()else .inr false)
 |0,i,h,hK=>by omega
 |K+1,i,h,hK=>by
  rw[jZ];by_cases hi:i<s.length
  ·have hd:s.drop i=s[i]::s.drop (i+1):=YG hi;rw[ae (by omega),ql,Ya hi,ZB,hd,bP];generalize s[i]=c
   have e:(if(c.toNat:Int)<48 then some true else some (decide ((c.toNat:Int)>57)):Option Bool)=some (!yX c):=by
    by_cases h1:(c.toNat:Int)<48
    ·rw[ae h1];congr 1;unfold yX;rw[ah (by omega)];rfl
    rw[aa h1];congr 1;unfold yX;rw[ai (p:=48<=c.toNat) (by omega),cN,<-decide_not];exact decide_eq_decide.2 (by omega)
   rw[e,ZB]
   cases hc:yX c with
   |true=>rw[aa (by simp),qD (by omega),qh2 hl K (i+1) (by omega) (by omega),cN]
   |false=>rw[ae (by simp),eX,aa (by simp)]
  rw[aa (by omega),aA (by omega)];rfl
theorem qiL {N:Nat} {s:Str} (hl:s.length<=1000000) (hN:s.length<N):jQ N s=some (decide (Dec s)):=by
 have e:=qh2 hl N 0 (by omega) (by omega);have e:jZ s N 0=_:=e
 have ed:qbM N s=some (s.all yX):=by
  unfold qbM;rw[e,YR];cases s.all yX<;>rfl
 unfold jQ
 cases s with
 |nil=>rfl
 |cons c t=>
  rw[aa (by simp;omega)];by_cases h1:((c::t).length:Int)>1
  ·rw[ae h1,qau];simp only[Yj,ZB];by_cases h:c=48
   ·subst h;rw[ae (by decide),ah λhD=>?_];have:=ap List.length (hD.2.2 rfl);rw[bw]at this;omega
   rw[aa (by simp[ne48 h]),ed,ZB];congr 1;rw[bQ,aH];exact⟨λhd=>⟨by simp,hd,λe=>absurd (Ye e) h⟩,λhD=>hD.2.1⟩
  rw[aa h1,ZB,aa (by simp),ed,ZB];have ht:t=[]:=YL.1 (by simp at h1;omega);subst ht;congr 1;rw[bQ,aH];exact⟨λhd=>qm0 (by simpa using hd),λhD=>hD.2.1⟩
theorem qj4 {z:Int} {p n:Nat} (h:(z.natAbs:Int)<((10^p:Nat):Int)) (hp:p<=9*n):zB z n:=by
 have h1:(10:Nat)^p<=10^(9*n):=bC (by omega) hp;unfold zB;rw[qiK];omega
theorem qhG {N:Nat} (hN:10<N) (a b:Int):jy N [a,b]=some (if a=0 then b else a):=by
 obtain⟨K,rfl⟩: ∃K,N=K+1+1+1:=⟨N-3,by omega⟩;unfold jy;by_cases ha:a=0
 ·by_cases hb:b=0
  ·subst ha;subst hb;rfl
  have h1:zZ [a,b] (K+1+1+1) 0=some (.inr b):=by
   rw[zZ,ae (by simp),qau];simp only[Yj,ZB];rw[aa (by simp[ha]),zZ,show w64 ((0:Int)+1)=1 from rfl,ae (by simp),idx_1];simp only[List.getElem?_cons_succ,Yj,ZB];rw[ae (by simp[hb])]
  rw[h1,ae ha];rfl
 have h1:zZ [a,b] (K+1+1+1) 0=some (.inr a):=by
  rw[zZ,ae (by simp),qau];simp only[Yj,ZB];rw[ae (by simp[ha])]
 rw[h1,aa ha];rfl
def okF (s:Str):Bool:=decide (Dec ((bdy s).take (slA (bdy s)))/\ ¬(sgn s=true/\(bdy s).take (slA (bdy s))=[48]))
def qiM (s:Str):Bool:=decide (slA (bdy s)<(bdy s).length/\ ¬(Dec ((bdy s).drop (slA (bdy s)+1))/\(bdy s).drop (slA (bdy s)+1)≠[48]/\(bdy s).drop (slA (bdy s)+1)≠[49]))
def chk (s:Str):Int:=
 if okF s=false\/qiM s=true then 1
 else if 600<((bdy s).take (slA (bdy s))).length\/600<((bdy s).drop (slA (bdy s)+1)).length then 4
 else if slA (bdy s)<(bdy s).length/\Nat.gcd (kw 0 ((bdy s).take (slA (bdy s)))) (kw 0 ((bdy s).drop (slA (bdy s)+1)))≠1 then 1
 else 0
theorem qcl {s:Str} (h:s.all yX=true):sgn s=false/\bdy s=s:=by
 have e:sgn s=false:=ah λe=>by
  have hm:(45:UInt8)∈s:=Yn e;exact absurd (Yp.1 h _ hm) (by decide)
 exact⟨e,by unfold bdy;rw[e];rfl⟩
theorem qd5 {s:Str} (h:s.all yX=true):qj6 s=(kw 0 s:Nat):=by
 obtain⟨h1,h2⟩:=qcl h;unfold qj6;rw[h1,h2];rfl
theorem qgL (s:Str):(bdy s).length<=s.length:=by
 unfold bdy;split
 ·rw[YJ];omega
 exact ag _
theorem qfE {s:Str} {k:Nat} (h:Dec s) (hk:s.length<=k):((kw 0 s:Nat):Int).natAbs<10^k:=by
 have h1:=qfy s 0 h.2.1;have h2:(10:Nat)^s.length<=10^k:=bC (by omega) hk;omega
theorem qgn {s:Str} (h:Dec s) (h0:s≠[48]):0<kw 0 s:=by
 rcases bj (kw 0 s)with e|e
 ·have:=h.eq;rw[e,jI (by decide)]at this;exact absurd this h0
 exact e
theorem qnV {N:Nat} (hN:600000<N) {s:Str} (hl:s.length<=10000):qbR N s=some (chk s):=by
 have hb:=qgL s;have hk:=qhc (bdy s)
 have lt:((bdy s).take (slA (bdy s))).length=slA (bdy s):=by rw[Ym];omega
 have ld:((bdy s).drop (slA (bdy s)+1)).length=(bdy s).length-(slA (bdy s)+1):=by rw[YJ]
 unfold qbR;rw[qkI,ZB];simp only
 have C:strings_Cut (bdy s) [47]=some ((bdy s).take (slA (bdy s)),(bdy s).drop (slA (bdy s)+1),decide (slA (bdy s)<(bdy s).length)):=by
  rw[qo9 (by omega)];by_cases c:slA (bdy s)<(bdy s).length
  ·rw[ae c,ai c]
  rw[aa c,ah c,aj (by omega),aA (by omega)]
 rw[C,ZB];unfold chk okF qiM;generalize hn:(bdy s).take (slA (bdy s))=n at*;generalize hd:(bdy s).drop (slA (bdy s)+1)=d at*;generalize slA (bdy s)=k at*;generalize (bdy s).length=m at*;simp only;rw[qgs (by omega),ZB]
 have B6:(if decide (Dec n)=true then if(!sgn s)=true then some true else some (!(n==[48]))else some false:Option Bool)=some (decide (Dec n/\ ¬(sgn s=true/\n=[48]))):=by
  by_cases h1:Dec n
  ·cases h2:sgn s with
   |false=>simp[h1]
   |true=>
    by_cases h3:n=[48]<;>simp[h1,h3]
  simp[h1]
 rw[B6,ZB];generalize hf:decide (Dec n/\ ¬(sgn s=true/\n=[48]))=ok at*
 have B8:(if decide (k<m)=true then(if ok=true then(vJ d).bind λr12=>if r12=true then if(!(d==[48]))=true then some (!(d==[49]))else some false else some false else some false:Option Bool).bind λb15=>some b15 else some ok:Option Bool)=some (ok&&!decide (k<m/\ ¬(Dec d/\d≠[48]/\d≠[49]))):=by
  by_cases h1:k<m
  ·cases ok with
   |false=>simp[h1]
   |true=>
    rw[qgs (by omega)];by_cases h2:Dec d
    ·by_cases h3:d=[48]
     ·simp[h1,h2,h3]
     by_cases h4:d=[49]<;>simp[h1,h2,h3,h4]
    simp[h1,h2]
  simp[h1]
 rw[B8,ZB];generalize hg:decide (k<m/\ ¬(Dec d/\d≠[48]/\d≠[49]))=bd at*
 have B:((qN (!(ok&&!bd)) 1).bind λr17=>if(n.length:Int)>600 then(qN true 4).bind λr19=>(jy N ([r17,r19]:List Int)).bind λr20=>some (r17,r19,r20)else(qN (decide ((d.length:Int)>600)) 4).bind λr21=>(jy N ([r17,r21]:List Int)).bind λr22=>some (r17,r21,r22):Option (Int×Int×Int))=some (if ok=false\/bd=true then 1 else 0,if 600<n.length\/600<d.length then 4 else 0,if ok=false\/bd=true then 1 else if 600<n.length\/600<d.length then 4 else 0):=by
  have w1:qN (!(ok&&!bd)) 1=some (if ok=false\/bd=true then 1 else 0):=by
   unfold qN;cases ok<;>cases bd<;>rfl
  rw[w1,ZB];by_cases c:(n.length:Int)>600
  ·rw[ae c,show qN true 4=some 4 from rfl,ZB,qhG (by omega),ZB,ae (show 600<n.length\/600<d.length from .inl (by omega))];by_cases c2:ok=false\/bd=true
   ·simp only[ae c2];rfl
   simp only[aa c2];rfl
  have w2:qN (decide ((d.length:Int)>600)) 4=some (if 600<n.length\/600<d.length then 4 else 0):=by
   unfold qN;by_cases c2:(d.length:Int)>600
   ·rw[ai c2,ae rfl,ae (.inr (by omega))]
   rw[ah c2,aa (by simp),aa (by omega)]
  rw[aa c,w2,ZB,qhG (by omega),ZB];by_cases c2:ok=false\/bd=true
  ·simp only[ae c2];rfl
  simp only[aa c2];rfl
 rw[B,ZB];simp only;by_cases c1:ok=false\/bd=true
 ·simp only[ae c1];rfl
 simp only[aa c1];by_cases c2:600<n.length\/600<d.length
 ·simp only[ae c2];rfl
 simp only[aa c2];rw[aa (show¬((!decide True)=true)by decide)]
 have ho:ok=true:=by cases ok<;>simp at c1⊢
 have hbd:bd=false:=by cases bd<;>simp at c1⊢
 have hDn:=(aK (hf.trans ho)).1;by_cases c3:k<m
 ·have hDd:Dec d/\d≠[48]/\d≠[49]:=Classical.byContradiction λhc=>cO (hg.trans hbd) ⟨c3,hc⟩
  obtain⟨r1,e1,h1⟩:=qhQ hN (s:=n) (by rw[(qcl hDn.2.1).2];exact hDn.2.1) (by rw[(qcl hDn.2.1).2];omega);obtain⟨r2,e2,h2⟩:=qhQ hN (s:=d) (by rw[(qcl hDd.1.2.1).2];exact hDd.1.2.1) (by rw[(qcl hDd.1.2.1).2];omega);rw[qd5 hDn.2.1]at h1;rw[qd5 hDd.1.2.1]at h2;have f1:Fit ((kw 0 n:Nat):Int) 40:=qgH (p:=600) (by have:=qfE hDn (k:=600) (by omega);omega) (by omega);have f2:Fit ((kw 0 d:Nat):Int) 40:=qgH (p:=600) (by have:=qfE hDd.1 (k:=600) (by omega);omega) (by omega);obtain⟨g,e3,h3⟩:=qpn hN h1 h2 (f1.mono (by omega)) (f2.mono (by omega));have eg:Int.gcd ((kw 0 n:Nat):Int) ((kw 0 d:Nat):Int)=Nat.gcd (kw 0 n) (kw 0 d):=rfl;rw[eg]at h3;have hgp:0<Nat.gcd (kw 0 n) (kw 0 d):=Nat.gcd_pos_of_pos_right _ (qgn hDd.1 hDd.2.1)
  have fg:Fit ((Nat.gcd (kw 0 n) (kw 0 d):Nat):Int) 40:=qcv (by
   have:=Nat.le_of_dvd (qgn hDd.1 hDd.2.1) (Nat.gcd_dvd_right (kw 0 n) (kw 0 d))
   omega) f2
  have e4:=qsa (N:=N) (by omega) h3 (Ue (z:=1) (by decide) (by decide)) (fg.mono (by omega)) (F1 (by omega));rw[ai c3,ae rfl,e1,ZB,e2,ZB,e3,ZB,qjK,ZB,e4,ZB,ZB];unfold qN;by_cases c4:Nat.gcd (kw 0 n) (kw 0 d)=1
  ·rw[aa (show¬((Nat.gcd (kw 0 n) (kw 0 d):Nat):Int)<1 by omega),ae (show((Nat.gcd (kw 0 n) (kw 0 d):Nat):Int)=1 by omega),aa (show¬(k<m/\Nat.gcd (kw 0 n) (kw 0 d)≠1)from λh=>h.2 c4)];rfl
  have: ¬((Nat.gcd (kw 0 n) (kw 0 d):Nat):Int)<1:=by omega
  rw[aa this,aa (show¬(((Nat.gcd (kw 0 n) (kw 0 d):Nat):Int)=1)by omega),ae (show k<m/\Nat.gcd (kw 0 n) (kw 0 d)≠1 from⟨c3,c4⟩)];rfl
 rw[ah c3,aa (by simp),ZB,aa (by omega)];rfl
theorem qqp:dg E9 1=[1]:=qkK (by decide) (by decide)
theorem qr3 {N:Nat} (hN:100<N):qaY N 1=some (rI 1):=by
 obtain⟨K,rfl⟩: ∃K,N=K+1+1:=⟨N-2,by omega⟩
 have h:yx (K+1+1) [] 1=some [1]:=by
  rw[yx,ae (by decide),aa (by decide),ZB,xX (by simp) (by simp),ZB,show w64 ((1:Int).tdiv 1000000000)=0 from rfl,yx,aa (by decide)];rfl
 unfold qaY;rw[h,ZB,ah (by decide),qa7 false (w:=[1]) (Dg.cons ⟨by decide,by decide⟩ Dg.nil) (by simp) (by simp),ZB];rfl
theorem qjQ {N:Nat} (hN:600000<N) {s:Str} (hl:s.length<=10000) (hk:slA s<s.length) (h1:(bdy (s.take (slA s))).all yX=true) (h2:(bdy (s.drop (slA s+1))).all yX=true):vZ N s=some (rI (qj6 (s.take (slA s))),rI (qj6 (s.drop (slA s+1)))):=by
 have b1:=qgL (s.take (slA s));have b2:=qgL (s.drop (slA s+1));rw[Ym]at b1;rw[YJ]at b2;unfold vZ;rw[qd1 (by omega) (by omega),ZB,aa (by omega),y9 (by omega),ZB,qih (by omega) h1 (by omega),ZB,qD (by omega),qaz (by omega),ZB,qih (by omega) h2 (by omega),ZB]
theorem qjv {N:Nat} (hN:600000<N) {s:Str} (hl:s.length<=10000):qbI N s=some (chk s):=by
 have hb:=qgL s;have hk:=qhc (bdy s)
 have lt:((bdy s).take (slA (bdy s))).length=slA (bdy s):=by rw[Ym];omega
 have ld:((bdy s).drop (slA (bdy s)+1)).length=(bdy s).length-(slA (bdy s)+1):=by rw[YJ]
 unfold qbI;rw[qgJ,ZB,qmf,ZB,qd1 (by omega) (by omega),ZB,y9 hk,ZB,qiL (by omega) (by omega),ZB]
 have I:Dec ((bdy s).take (slA (bdy s)))->((idx s 0).bind λc13=>if(c13.toNat:Int)=45 then(some ((bdy s).take (slA (bdy s)))).bind λs15=>some (s15==[48])else some false:Option Bool)=some (sgn s&&((bdy s).take (slA (bdy s))==[48])):=by
  intro hD;have h1:=hD.1;have hs:=qgJ s;rw[ae (by omega)]at hs;rw[qau]at hs⊢
  cases e:s[0]? with
  |none=>rw[e]at hs;cases hs
  |some c=>
   rw[e,ZB]at hs;rw[ZB,<-Ye hs];by_cases c2:(c.toNat:Int)=45
   ·rw[ae c2,ai c2,ZB,cN]
   rw[aa c2,ah c2,eX]
 have S16:(if(!decide (Dec ((bdy s).take (slA (bdy s)))))=true then some true else(idx s 0).bind λc13=>if(c13.toNat:Int)=45 then(some ((bdy s).take (slA (bdy s)))).bind λs15=>some (s15==[48])else some false:Option Bool)=some (!okF s):=by
  unfold okF;by_cases hD:Dec ((bdy s).take (slA (bdy s)))
  ·rw[aa (by simp[hD]),I hD];congr 1;rw[bQ];simp[hD]
  rw[ae (by simp[hD])];simp[hD]
 rw[S16,ZB]
 have S26:(if(slA (bdy s):Int)<((bdy s).length:Int)then(cut (bdy s) (w64 ((slA (bdy s):Int)+1)) ((bdy s).length:Int)).bind λs20=>(jQ N s20).bind λr21=>if(!r21)=true then some true else(cut (bdy s) (w64 ((slA (bdy s):Int)+1)) ((bdy s).length:Int)).bind λs23=>if(s23==[48])=true then some true else(cut (bdy s) (w64 ((slA (bdy s):Int)+1)) ((bdy s).length:Int)).bind λs25=>some (s25==[49])else some false:Option Bool)=some (qiM s):=by
  unfold qiM;by_cases c:slA (bdy s)<(bdy s).length
  ·rw[ae (by omega),qD (by omega),qaz (by omega),ZB,qiL (by omega) (by omega),ZB];by_cases hD:Dec ((bdy s).drop (slA (bdy s)+1))
   ·rw[aa (by simp[hD]),ZB];by_cases h3:(bdy s).drop (slA (bdy s)+1)=[48]
    ·rw[ae (by simp[h3])];simp[c,h3]
    rw[aa (by simp[h3]),ZB];congr 1;rw[bQ];simp[c,h3,hD]
   rw[ae (by simp[hD])];simp[c,hD]
  rw[aa (by omega)];simp[c]
 have S30:(if(slA (bdy s):Int)>600 then some true else some (decide ((w64 ((w64 (((bdy s).length:Int)-(slA (bdy s):Int)))-1))>600)):Option Bool)=some (decide (600<((bdy s).take (slA (bdy s))).length\/600<((bdy s).drop (slA (bdy s)+1)).length)):=by
  rw[lt,ld];by_cases c:(slA (bdy s):Int)>600
  ·rw[ae c,ai (.inl (by omega))]
  rw[aa c,qo (n:=((bdy s).length:Int)-(slA (bdy s):Int)) (by omega) (by omega),qo (by omega) (by omega)];congr 1;exact decide_eq_decide.2 (by omega)
 unfold chk;by_cases h1:okF s=true
 ·rw[h1,aa (by simp),S26,ZB];by_cases h2:qiM s=true
  ·rw[h2,ae rfl,ae (.inr rfl)]
  have h2':qiM s=false:=by simpa using h2
  rw[h2',aa (by simp),S30,ZB,aa (show¬(true=false\/false=true)by simp)];by_cases h3:600<((bdy s).take (slA (bdy s))).length\/600<((bdy s).drop (slA (bdy s)+1)).length
  ·rw[ai h3,ae rfl,ae h3]
  rw[ah h3,aa (by simp),aa h3];by_cases c:slA (bdy s)<(bdy s).length
  ·have hDn:=(aK h1).1
   have hDd:Dec ((bdy s).drop (slA (bdy s)+1))/\(bdy s).drop (slA (bdy s)+1)≠[48]/\(bdy s).drop (slA (bdy s)+1)≠[49]:=Classical.byContradiction λhc=>cO h2' ⟨c,hc⟩
   have ep:=qjQ hN (s:=bdy s) (by omega) c (by rw[(qcl hDn.2.1).2];exact hDn.2.1) (by rw[(qcl hDd.1.2.1).2];exact hDd.1.2.1);rw[qd5 hDn.2.1,qd5 hDd.1.2.1]at ep;rw[ae (by omega),ep,ZB];simp only;have v1:=qfE hDn (k:=600) (by omega);have v2:=qfE hDd.1 (k:=600) (by omega);have v3:=qgn hDd.1 hDd.2.1;generalize kw 0 ((bdy s).take (slA (bdy s)))=n at*;generalize kw 0 ((bdy s).drop (slA (bdy s)+1))=d at*;have f1:zB ((n:Nat):Int) 8000:=(qj4 (p:=600) (n:=70) (by omega) (by omega)).mono (by omega);have f2:zB ((d:Nat):Int) 8000:=(qj4 (p:=600) (n:=70) (by omega) (by omega)).mono (by omega)
   have e1:(rI ((n:Nat):Int)).w=dg E9 ((n:Nat):Int):=by
    show dg E9 (((n:Nat):Int).natAbs:Int)=_;rw[aS]
   have e2:(rI ((d:Nat):Int)).w=dg E9 ((d:Nat):Int):=by
    show dg E9 (((d:Nat):Int).natAbs:Int)=_;rw[aS]
   have ec:=qjr (N:=N) hN (a:=((n:Nat):Int)) (b:=((d:Nat):Int)) (by omega) (by omega) f1 f2;have eg:Int.gcd ((n:Nat):Int) ((d:Nat):Int)=Nat.gcd n d:=rfl;rw[eg]at ec;rw[e1,e2,ec,ZB];have hg:0<Nat.gcd n d:=Nat.gcd_pos_of_pos_right _ v3;have cc:=jD E1 (show(0:Int)<=((Nat.gcd n d:Nat):Int)by omega);have vv:=vY E1 (show(0:Int)<=((Nat.gcd n d:Nat):Int)by omega);by_cases h4:Nat.gcd n d=1
   ·have:dg E9 ((Nat.gcd n d:Nat):Int)=[1]:=by rw[show((Nat.gcd n d:Nat):Int)=1 by omega];exact qqp
    rw[this,aa (by simp),qau,aa (λh=>h.2 h4)];rfl
   rw[ae (show slA (bdy s)<(bdy s).length/\Nat.gcd n d≠1 from⟨c,h4⟩)];by_cases h5:(dg E9 ((Nat.gcd n d:Nat):Int)).length=1
   ·obtain⟨x,hx⟩:=cX.1 h5;rw[hx,zR,zz,aO,aT]at vv
    have hx1:x≠1:=by omega
    rw[hx,aa (by simp),qau];simp only[Yj,ZB,ah hx1];rfl
   rw[ae (by simp;omega)];rfl
  rw[aa (by omega),aa (by omega)];rfl
 have h1':okF s=false:=by simpa using h1
 rw[h1',ae (by simp),ae (.inl rfl)]
def tl (q:Rat):Str:=if q.den=1 then[]else 47::Lib.decDigits q.den
theorem T_eq (q:Rat):T q=Lib.itoa q.num++tl q:=rfl
theorem no47 {s:Str} (h:s.all yX=true): ∀c∈s,c≠47:=λc hc e=>by
 have:=Yp.1 h c hc;rw[e]at this;exact absurd this (by decide)
theorem qlp: ∀{s:Str},(∀c∈s,c≠47)->slA s=s.length:=λ{s} h=>(qku s [] h).2
theorem qiP {s:Str} (h: ∀c∈s,c≠47) (q:Rat):slA (s++tl q)=s.length:=by
 unfold tl;by_cases c:q.den=1
 ·rw[ae c,YQ];exact qlp h
 rw[aa c];exact(qku s _ h).1
theorem qfD (z:Int): ∀c∈Lib.itoa z,c≠47:=by
 by_cases h:z<0
 ·rw[xz h];intro c hc;rcases bK.1 hc with e|e
  ·rw[e];decide
  exact no47 (qbO _) c e
 rw[vE h];exact no47 (qbO _)
theorem qrA {s t:Str} (h:0<s.length):sgn (s++t)=sgn s:=by
 unfold sgn;rw[Yf h]
theorem qp7 (z:Int):0<(Lib.itoa z).length:=by
 by_cases h:z<0
 ·rw[xz h];simp
 rw[vE h];exact qiI _
theorem qmM (q:Rat):sgn (T q)=decide (q.num<0):=by rw[T_eq,qrA (qp7 _),qh6]
theorem qnq (q:Rat):bdy (T q)=Lib.decDigits q.num.natAbs++tl q:=by
 unfold bdy;rw[qmM,T_eq];by_cases h:q.num<0
 ·rw[ai h,ae rfl,xz h];rfl
 rw[ah h,aa (by simp),vE h]
theorem qrM {p q:Rat} (h:T p=T q):p=q:=by
 have h1:=ap slA h;have e1:slA (T p)=(Lib.itoa p.num).length:=qiP (qfD _) p;have e2:slA (T q)=(Lib.itoa q.num).length:=qiP (qfD _) q;rw[e1,e2]at h1;rw[T_eq,T_eq]at h;obtain⟨h2,h3⟩:=List.append_inj h h1
 have n1:p.num=q.num:=by rw[<-qdZ p.num,h2,qdZ]
 have n2:p.den=q.den:=by
  unfold tl at h3;by_cases c:p.den=1
  ·by_cases d:q.den=1
   ·rw[c,d]
   rw[ae c,aa d]at h3;cases h3
  by_cases d:q.den=1
  ·rw[aa c,ae d]at h3;cases h3
  rw[aa c,aa d]at h3;injection h3 with _ h3;exact qmh h3
 exact Rat.ext n1 n2
theorem qm6: ∀{s:Str},slA s<s.length->s=s.take (slA s)++47::s.drop (slA s+1)
 |[],h=>by simp at h
 |c::s,h=>by
  rw[slA]at h⊢;by_cases e:c=47
  ·rw[ae e,e];rfl
  rw[aa e,Yr]at h;rw[aa e,dn,dp,cK,<-qm6 (show slA s<s.length by omega)]
theorem qqF (s:Str):s=if sgn s=true then 45::bdy s else bdy s:=by
 unfold bdy
 cases h:sgn s with
 |false=>rw[aa (by simp),aa (by simp)]
 |true=>
  rw[ae rfl,ae rfl]
  cases s with
  |nil=>cases h
  |cons c t=>
   have e:=aK h;simp only[Yj]at e;rw[Ye e];rfl
theorem qpZ {s:Str} (h:chk s=0): ∃q:Rat,s=T q/\(Lib.decDigits q.num.natAbs).length<=600/\(Lib.decDigits q.den).length<=600:=by
 have hk:=qhc (bdy s)
 have lt:((bdy s).take (slA (bdy s))).length=slA (bdy s):=by rw[Ym];omega
 have hs:=qqF s;have hsp:=@qm6 (bdy s);unfold chk at h;by_cases h1:okF s=false\/qiM s=true
 ·rw[ae h1]at h;cases h
 rw[aa h1]at h;by_cases h2:600<((bdy s).take (slA (bdy s))).length\/600<((bdy s).drop (slA (bdy s)+1)).length
 ·rw[ae h2]at h;cases h
 rw[aa h2]at h;by_cases h3:slA (bdy s)<(bdy s).length/\Nat.gcd (kw 0 ((bdy s).take (slA (bdy s)))) (kw 0 ((bdy s).drop (slA (bdy s)+1)))≠1
 ·rw[ae h3]at h;cases h
 have ho:okF s=true:=by cases e:okF s with|true=>rfl|false=>exact absurd (.inl e) h1
 have hb:qiM s=false:=by cases e:qiM s with|false=>rfl|true=>exact absurd (.inr e) h1
 obtain⟨hDn,hng⟩:=aK ho;have en:=hDn.eq
 obtain⟨z,hz1,hz2⟩: ∃z:Int,z.natAbs=kw 0 ((bdy s).take (slA (bdy s)))/\(z<0↔sgn s=true):=by
  cases e:sgn s with
  |false=>exact⟨((kw 0 ((bdy s).take (slA (bdy s))):Nat):Int),by omega,by simp⟩
  |true=>
   have:=qgn hDn λc=>hng ⟨e,c⟩
   exact⟨-((kw 0 ((bdy s).take (slA (bdy s))):Nat):Int),by omega,by simp;omega⟩
 have hT: ∀t:Str,bdy s=(bdy s).take (slA (bdy s))++t->s=Lib.itoa z++t:=by
  intro t ht;rw[hs];by_cases c:z<0
  ·rw[ae (hz2.1 c),xz c,hz1,<-en,cK,<-ht]
  rw[aa λe=>c (hz2.2 e),vE c,hz1,<-en,<-ht]
 by_cases c:slA (bdy s)<(bdy s).length
 ·have hDd:Dec ((bdy s).drop (slA (bdy s)+1))/\(bdy s).drop (slA (bdy s)+1)≠[48]/\(bdy s).drop (slA (bdy s)+1)≠[49]:=Classical.byContradiction λhc=>cO hb ⟨c,hc⟩
  have ed:=hDd.1.eq;have hd0:=qgn hDd.1 hDd.2.1
  have hd1:kw 0 ((bdy s).drop (slA (bdy s)+1))≠1:=λe=>by
   rw[e,jI (by decide)]at ed;exact hDd.2.2 ed
  have hg:Nat.gcd z.natAbs (kw 0 ((bdy s).drop (slA (bdy s)+1)))=1:=by
   rw[hz1]
   exact Classical.byContradiction λe=>h3 ⟨c,e⟩
  refine⟨⟨z,kw 0 ((bdy s).drop (slA (bdy s)+1)),by omega,hg⟩,?_,?_,?_⟩
  ·have:=hT _ (hsp c);unfold T;rw[aa hd1];show s=Lib.itoa z++47::Lib.decDigits (kw 0 ((bdy s).drop (slA (bdy s)+1)));rw[<-ed];exact this
  ·show(Lib.decDigits z.natAbs).length<=600;rw[hz1,<-en];omega
  show(Lib.decDigits (kw 0 ((bdy s).drop (slA (bdy s)+1)))).length<=600;rw[<-ed];omega
 refine⟨(z:Rat),?_,?_,?_⟩
 ·have:=hT [] (by rw[YQ,aj (by omega)]);unfold T;rw[eL,ae rfl,dK];exact this
 ·rw[dK,hz1,<-en];omega
 rw[eL,jI (by decide)];simp
def Sml (q:Rat) (k:Nat):Prop:=(Lib.decDigits q.num.natAbs).length<=k/\(Lib.decDigits q.den).length<=k
theorem qhP (z:Int):(Lib.itoa z).length<=(Lib.decDigits z.natAbs).length+1:=by
 by_cases h:z<0
 ·rw[xz h];simp
 rw[vE h];omega
theorem qhW (q:Rat) (h:q.den≠1):slA (T q)<(T q).length/\(T q).take (slA (T q))=Lib.itoa q.num/\(T q).drop (slA (T q)+1)=Lib.decDigits q.den:=by
 have e:slA (T q)=(Lib.itoa q.num).length:=qiP (qfD _) q
 have ht:T q=Lib.itoa q.num++47::Lib.decDigits q.den:=by unfold T;rw[aa h]
 rw[e,ht];refine⟨by rw[Yq,Yr];omega,?_,?_⟩
 ·rw[dj (ag _),aj (ag _)]
 rw[db,aA (by omega),show(Lib.itoa q.num).length+1-(Lib.itoa q.num).length=1 by omega];rfl
theorem qgz (q:Rat) (h:q.den=1):T q=Lib.itoa q.num/\slA (T q)=(T q).length:=by
 have ht:T q=Lib.itoa q.num:=by unfold T;rw[ae h,YQ]
 refine⟨ht,?_⟩;rw[ht];exact qlp (qfD _)
theorem qkN {q:Rat} {k:Nat} (h:Sml q k):(T q).length<=2*k+2:=by
 have h1:=qhP q.num;have h2:=h.1;have h3:=h.2;unfold T;rw[Yq];split
 ·simp;omega
 rw[Yr];omega
theorem qgp {N:Nat} (hN:600000<N) {q:Rat} (h:Sml q 9000): ∃f,qb1 N (T q)=some f/\IsF f q:=by
 have hl:=qkN h;have h1:=h.1;have h2:=h.2;unfold qb1;rw[qo9 (by omega),ZB];obtain⟨r1,e1,i1⟩:=qhQ hN (s:=Lib.itoa q.num) (by rw[qdo];exact qbO _) (by rw[qdo];omega);rw[qdZ]at i1;by_cases c:q.den=1
 ·obtain⟨t1,t2⟩:=qgz q c;rw[aa (show¬slA (T q)<(T q).length by omega)];obtain⟨f,e2,i2⟩:=qiw i1;rw[ae (by rfl),t1,e1,ZB,e2,ZB];refine⟨f,rfl,?_⟩;have:(q.num:Rat)=q:=Rat.ext (by simp) (by simp[c]);rw[this]at i2;exact i2
 obtain⟨t1,t2,t3⟩:=qhW q c;rw[ae t1];have hd:=qbO q.den;obtain⟨r2,e2,i2⟩:=qhQ hN (s:=Lib.decDigits q.den) (by rw[(qcl hd).2];exact hd) (by rw[(qcl hd).2];omega);rw[qd5 hd,qdd]at i2;rw[aa (by simp),t2,t3,e1,ZB,e2,ZB];exact⟨⟨r1,r2⟩,rfl,i1,i2⟩
theorem qfC {N:Nat} (hN:600000<N) {q:Rat} (h:Sml q 4000):vZ N (T q)=some (rI q.num,rI (q.den:Int)):=by
 have hl:=qkN h;have h1:=h.1;have h2:=h.2;by_cases c:q.den=1
 ·obtain⟨t1,t2⟩:=qgz q c;unfold vZ;rw[qd1 (by omega) (by omega),ZB,t2,ae rfl,t1,qih (by omega) (by rw[qdo];exact qbO _) (by rw[qdo];omega),ZB,qr3 (by omega),ZB,qdZ,c];rfl
 obtain⟨t1,t2,t3⟩:=qhW q c;have hd:=qbO q.den;rw[qjQ hN (by omega) t1 (by rw[t2,qdo];exact qbO _) (by rw[t3,(qcl hd).2];exact hd),t2,t3,qdZ,qd5 hd,qdd]
theorem qnU {n:Nat} (h:0<n):(if((dg E9 (n:Int)).length:Int)=1 then(idx (dg E9 (n:Int)) 0).bind λx15=>some (decide (x15=1))else some false:Option Bool)=some (decide (n=1)):=by
 have vv:=vY E1 (show(0:Int)<=(n:Int)by omega);by_cases h4:n=1
 ·rw[show(n:Int)=1 by omega,qqp,ae (by simp),qau,h4];rfl
 rw[ah h4];by_cases h5:(dg E9 (n:Int)).length=1
 ·obtain⟨x,hx⟩:=cX.1 h5;rw[hx,zR,zz,aO,aT]at vv
  have hx1:x≠1:=by omega
  rw[hx,ae (by simp),qau];simp only[Yj,ZB,ah hx1]
 rw[aa (by omega)]
theorem zB.abs {z:Int} {n:Nat} (h:zB z n):zB (z.natAbs:Int) n:=by
 unfold zB at h⊢;rw[aS];exact h
theorem zB.le {a b:Int} {n:Nat} (h:(a.natAbs:Int)<=(b.natAbs:Int)) (k:zB b n):zB a n:=Int.lt_of_le_of_lt h k
theorem zB.itoaLen {z:Int} {n:Nat} (h:zB z n) (hn:0<n):(Lib.itoa z).length<=9*n+1:=by
 have h2:z.natAbs<10^(9*n):=by
  have h:(z.natAbs:Int)<E9^n:=h;rw[qiK]at h;exact dw.1 h
 have h3:=(qaH (show 0<9*n by omega)).2 h2;have h4:=qhP z;omega
theorem qmx {N:Nat} (hN:60000<N) {x y:Int} (hx:0<=x) (hy:0<y) {B:Nat} (hB:B<=8000) (fx:zB x B):ve N (dg E9 x) (dg E9 y)=some (dg E9 (x/y),dg E9 (x%y)):=by
 have l:=fx.len;rw[show(x.natAbs:Int)=x by omega]at l;rw[qen hN (jD E1 hx) (jD E1 (by omega)) (by omega) (by rw[vY E1 (by omega)];exact hy),vY E1 hx,vY E1 (by omega)]
theorem den_pos (q:Rat):0<q.den:=Nat.pos_of_ne_zero q.den_nz
theorem qiN {a b:Int} (hb:b≠0):(b.sign*a).natAbs=a.natAbs:=by rw[bm,cJ hb,de]
theorem qmR (a b:Int):Int.gcd (a.natAbs:Int) (b.natAbs:Int)=Int.gcd b a:=by
 rw[Int.gcd_comm];rfl
theorem qgB {N:Nat} (hN:600000<N) {B:Nat} (hB0:0<B) (hB:B<=8000) {a b:Int} (fa:zB a B) (fb:zB b B) (hb:b≠0):xc N (rI a) (rI b)=some (T (Rat.divInt a b)):=by
 have hg:0<Int.gcd b a:=bT _ hb;have ea:=qiN (a:=a) hb
 have S:(if(rI b).neg=true then(qaj N (rI a)).bind λr7=>(qaj N (rI b)).bind λr8=>some (r7.neg,r7.w,r8.neg,r8.w)else some ((rI a).neg,(rI a).w,(rI b).neg,(rI b).w):Option (Bool×(List Int)×Bool×(List Int)))=some (decide (b.sign*a<0),dg E9 (a.natAbs:Int),false,dg E9 (b.natAbs:Int)):=by
  by_cases h:b<0
  ·rw[ae (show(rI b).neg=true from ai h),qlf (by omega) (fa.mono (by omega)),ZB,qlf (by omega) (fb.mono (by omega)),ZB,dB h,Int.neg_mul,bu];show some (decide (-a<0),dg E9 (((-a).natAbs:Nat):Int),decide (-b<0),dg E9 (((-b).natAbs:Nat):Int))=_;rw[ah (show¬ -b<0 by omega),dz,dz]
  rw[aa (show¬(rI b).neg=true from λc=>h (aK c)),cY (by omega),bu];show some (decide (a<0),dg E9 ((a.natAbs:Nat):Int),decide (b<0),dg E9 ((b.natAbs:Nat):Int))=_;rw[ah h]
 have en:(Rat.divInt a b).num=b.sign*a/(Int.gcd b a:Int):=cS ..
 have ed:(b.natAbs:Int)/(Int.gcd b a:Int)=((Rat.divInt a b).den:Int):=by rw[cT,aa hb,cL]
 have hd:=den_pos (Rat.divInt a b);have dvd:(Int.gcd b a:Int)∣b.sign*a:=Int.dvd_mul_of_dvd_right (Int.gcd_dvd_right ..)
 have fn:zB (Rat.divInt a b).num B:=by
  rw[en];exact zB.le (cy (qao _ (by omega)) (by rw[ea];exact bU _)) fa
 have fd:zB ((Rat.divInt a b).den:Int) B:=by
  rw[<-ed];exact zB.le (cy (qao _ (by omega)) (bU _)) fb.abs
 have vn:(if decide (b.sign*a<0)=true then-dv E9 (dg E9 ((a.natAbs:Int)/(Int.gcd b a:Int)))else dv E9 (dg E9 ((a.natAbs:Int)/(Int.gcd b a:Int))))=(Rat.divInt a b).num:=by
  have p0:0<=(a.natAbs:Int)/(Int.gcd b a:Int):=aM (by omega) (by omega);rw[vY E1 p0,en];by_cases c:b.sign*a<0
  ·rw[ae (ai c),show(a.natAbs:Int)= -(b.sign*a)by omega,Int.neg_ediv_of_dvd dvd,Int.neg_neg]
  rw[aa (λh=>c (aK h)),show(a.natAbs:Int)=b.sign*a by omega]
 unfold xc;rw[S,ZB];simp only;rw[qjr hN (by omega) (by omega) (fa.abs.mono hB) (fb.abs.mono hB),ZB,qmR,qmx (by omega) (by omega) (by omega) hB fa.abs,ZB,qmx (by omega) (by omega) (by omega) hB fb.abs,ZB];simp only;have p0:0<=(a.natAbs:Int)/(Int.gcd b a:Int):=aM (by omega) (by omega)
 have ln:(dg E9 ((a.natAbs:Int)/(Int.gcd b a:Int))).length<=B:=by
  have:=(zB.le (cy (qao _ (by omega)) (bU _)) fa.abs:zB ((a.natAbs:Int)/(Int.gcd b a:Int)) B).len;rw[show(((a.natAbs:Int)/(Int.gcd b a:Int)).natAbs:Int)=(a.natAbs:Int)/(Int.gcd b a:Int)by omega]at this;exact this
 have ld:(dg E9 ((Rat.divInt a b).den:Int)).length<=B:=by
  have:=fd.len;rw[aS]at this;exact this
 rw[qa7 _ (jD E1 p0).1 (by omega) (by omega),ZB,vn,qnB (by omega) (fn.mono (by omega)),ZB,ed,qnU hd,ZB];have l1:=fn.itoaLen hB0;have l2:=fd.itoaLen hB0;unfold T;by_cases c:(Rat.divInt a b).den=1
 ·rw[ae (ai c),ae c,YQ]
 rw[aa (λh=>c (aK h)),aa c,qcB (by simp;omega),ZB,qa7 _ (jD E1 (by omega)).1 (by omega) (by omega),ZB,aa (by simp),vY E1 (by omega),qnB (by omega) (fd.mono (by omega)),ZB,qcB (by simp;omega),ZB,qgY,Yz];rfl
theorem qrN {a b:Int} (ha:0<=a) (hb:0<b):qfc .i64 a b=some (a%b):=by
 unfold qfc;rw[aa (by omega),ba ha]
theorem qrH {a b:Int} (hb:0<b) (h1: -4000000000000000000<=a) (h2:a<=4000000000000000000) (hd:b∣a):qc7 .i64 a b=some (a/b):=by
 have:=qao a hb;unfold qc7;rw[aa (by omega),Int.tdiv_eq_ediv_of_dvd hd];show some (w64 _)=_;rw[qo (by omega) (by omega)]
theorem qm1: ∀(k K:Nat) (a b:Int),0<=a->0<=b->b<2^k->2*k+2<=K->vO K a b=some (Int.gcd a b:Int)
 |k,0,a,b,_,_,_,hK=>by omega
 |k,K+1,a,b,ha,hb,hk,hK=>by
  have na:(a.natAbs:Int)=a:=by omega
  have nb:(b.natAbs:Int)=b:=by omega
  rcases(show b=0\/0<b by omega)with h0|h0
  ·rw[h0,vO,aa (by omega),dx,na]
  match k,hk,hK with
  |0,hk,hK=>simp at hk;omega
  |k+1,hk,hK=>
   have m0:=aC a (show b≠0 by omega);have m1:=ar a h0;rw[vO,ae (by omega),qrN ha h0,ZB,qdO ha hb]
   match K,hK with
   |0,hK=>omega
   |K+1,hK=>
    rcases(show a%b=0\/0<a%b by omega)with g0|g0
    ·rw[g0,vO,aa (by omega),dx,nb]
    have n0:=aC b (show a%b≠0 by omega);have n1:=ar b g0
    have hhalf:b%(a%b)<2^k:=by
     have d1:=aw b (a%b)
     have d2:1<=b/(a%b):=by
      rw[bM g0];omega
     have d3:a%b*1<=a%b*(b/(a%b)):=Yc d2 (by omega);rw[aE]at hk;omega
    rw[vO,ae (by omega),qrN hb g0,ZB,qdO hb m0];exact qm1 k K (a%b) (b%(a%b)) m0 n0 hhalf (by omega)
theorem qrh {N:Nat} (hN:200<N) {a b:Int} (ha:0<=a) (hb:0<=b) (h:b<9223372036854775808):qd6 N a b=some (Int.gcd a b:Int):=by
 unfold qd6;rw[qm1 63 N a b ha hb h (by omega),ZB]
theorem rabs {z:Int} (h1: -9223372036854775807<=z) (h2:z<=9223372036854775807):(if w64 (0-z)>z then w64 (0-z)else z)=(z.natAbs:Int):=by
 rw[qo (by omega) (by omega)];split<;>omega
theorem qrR {n:Nat} (h:n<=4000000000000000000):(Lib.decDigits n).length<=19:=(qaH (by decide)).2 (by omega)
theorem qo5 {N:Nat} (hN:1000<N) {a b:Int} (a1: -4000000000000000000<=a) (a2:a<=4000000000000000000) (b1: -4000000000000000000<=b) (b2:b<=4000000000000000000) (hb:b≠0):qd3 N a b=some (T (Rat.divInt a b)):=by
 have hg:0<Int.gcd b a:=bT _ hb;have ea:=qiN (a:=a) hb
 have S:(if b<0 then some (w64 (0-a),w64 (0-b))else some (a,b):Option (Int×Int))=some (b.sign*a,(b.natAbs:Int)):=by
  by_cases h:b<0
  ·rw[ae h,qo (by omega) (by omega),qo (by omega) (by omega),dB h,show(-1:Int)*a=0-a by omega,show(b.natAbs:Int)=0-b by omega]
  rw[aa h,cY (by omega),bu,show(b.natAbs:Int)=b by omega]
 have en:(Rat.divInt a b).num=b.sign*a/(Int.gcd b a:Int):=cS ..
 have ed:(b.natAbs:Int)/(Int.gcd b a:Int)=((Rat.divInt a b).den:Int):=by rw[cT,aa hb,cL]
 have hd:=den_pos (Rat.divInt a b);have dvd:(Int.gcd b a:Int)∣b.sign*a:=Int.dvd_mul_of_dvd_right (Int.gcd_dvd_right ..)
 have dvb:(Int.gcd b a:Int)∣(b.natAbs:Int):=by
  rw[Int.dvd_natAbs];exact Int.gcd_dvd_left ..
 have n1:=qao (b.sign*a) (show(0:Int)<(Int.gcd b a:Int)by omega);have n2:=qao (b.natAbs:Int) (show(0:Int)<(Int.gcd b a:Int)by omega);rw[<-en,ea]at n1;rw[ed,aS,aS]at n2;unfold qd3;rw[aa (show¬a< -4000000000000000000 by omega),aa (show¬a>4000000000000000000 by omega),aa (show¬b< -4000000000000000000 by omega),ah (show¬b>4000000000000000000 by omega),ZB,aa (by simp),S,ZB];simp only;rw[rabs (by omega) (by omega),ea,qrh (by omega) (by omega) (by omega) (by omega),ZB,qmR,qrH (by omega) (by omega) (by omega) dvd,ZB,qrH (by omega) (by omega) (by omega) dvb,ZB,<-en,ed,rabs (by omega) (by omega),qik (by omega) (by omega),qik (by omega) (by omega)];generalize Rat.divInt a b=q at*;have l1:=qrR (n:=q.num.natAbs) (by omega);have l2:=qrR (n:=q.den) (by omega)
 have S2:((if q.num<0 then some [45]else some []:Option Str).bind λs17=>(some (Lib.decDigits q.num.natAbs)).bind λr20=>(cat s17 r20).bind λs21=>(if(q.den:Int)>1 then(cat s21 [47]).bind λs25=>(some (Lib.decDigits q.den)).bind λr26=>(cat s25 r26).bind λs27=>some s27 else some s21:Option Str).bind λs22=>some s22)=some (T q):=by
  have li:(Lib.itoa q.num).length<=20:=by have:=qhP q.num;omega
  have I:((if q.num<0 then some [45]else some []:Option Str).bind λs17=>(some (Lib.decDigits q.num.natAbs)).bind λr20=>(cat s17 r20).bind λs21=>(if(q.den:Int)>1 then(cat s21 [47]).bind λs25=>(some (Lib.decDigits q.den)).bind λr26=>(cat s25 r26).bind λs27=>some s27 else some s21:Option Str).bind λs22=>some s22)=((if(q.den:Int)>1 then(cat (Lib.itoa q.num) [47]).bind λs25=>(some (Lib.decDigits q.den)).bind λr26=>(cat s25 r26).bind λs27=>some s27 else some (Lib.itoa q.num):Option Str).bind λs22=>some s22):=by
   by_cases c:q.num<0
   ·rw[ae c,ZB,ZB,qcB (by simp;omega),ZB,xz c];rfl
   rw[aa c,ZB,ZB,qcB (by simp;omega),ZB,vE c];rfl
  rw[I];unfold T;by_cases c:q.den=1
  ·rw[aa (by omega),ae c,ZB,YQ]
  rw[ae (by omega),aa c,qcB (by simp;omega),ZB,ZB,qcB (by simp;omega),ZB,ZB,Yz];rfl
 exact S2
theorem Sml.mono {q:Rat} {m n:Nat} (h:Sml q m) (hn:m<=n):Sml q n:=⟨aX h.1 hn,aX h.2 hn⟩
theorem qdx {q:Rat} {k n:Nat} (h:Sml q k) (hk:0<k) (hn:k<=9*n):zB q.num n:=qj4 (p:=k) (dw.2 ((qaH hk).1 h.1)) hn
theorem qdA {q:Rat} {k n:Nat} (h:Sml q k) (hk:0<k) (hn:k<=9*n):zB (q.den:Int) n:=qj4 (p:=k) (by rw[aS];exact dw.2 ((qaH hk).1 h.2)) hn
theorem qfi {q:Rat} {k n:Nat} (h:Sml q k) (hk:0<k) (hn:k<=19*n):qax q n:=⟨qgH (p:=k) (dw.2 ((qaH hk).1 h.1)) hn,qgH (p:=k) (by rw[aS];exact dw.2 ((qaH hk).1 h.2)) hn⟩
theorem qm4 {z:Int} {n:Nat} (h:zB z n) (hn:0<n):(Lib.decDigits z.natAbs).length<=9*n:=by
 refine(qaH (by omega)).2 ?_;have h:(z.natAbs:Int)<E9^n:=h;rw[qiK]at h;exact dw.1 h
theorem qh4 {q:Rat} {n:Nat} (h1:zB q.num n) (h2:zB (q.den:Int) n) (hn:0<n):Sml q (9*n):=by
 have h3:=qm4 h2 hn;rw[aS]at h3;exact⟨qm4 h1 hn,h3⟩
theorem qeM {a b:Int} {n:Nat} (hb:b≠0) (fa:zB a n) (fb:zB b n):zB (Rat.divInt a b).num n/\zB ((Rat.divInt a b).den:Int) n:=by
 have hg:0<Int.gcd b a:=bT _ hb;constructor
 ·rw[cS];exact zB.le (cy (qao _ (by omega)) (by rw[qiN hb];exact bU _)) fa
 rw[cT,aa hb,cL];exact zB.le (cy (qao _ (by omega)) (bU _)) fb.abs
theorem qaC {a b:Int} {m n:Nat} (ha:zB a m) (hb:zB b n):zB (a*b) (m+n):=by
 unfold zB at*;rw[bm,aZ,Int.pow_add];have h1:(a.natAbs:Int)*(b.natAbs:Int)<=(a.natAbs:Int)*E9^n:=Yc (aq hb) (by omega);have h2:(a.natAbs:Int)*E9^n<E9^m*E9^n:=YH ha (pow_pos E0 n);omega
theorem qlL {a b:Int} {n:Nat} (ha:zB a n) (hb:zB b n):zB (a+b) (n+1):=by
 unfold zB at*;rw[aE];have hp:=pow_pos E0 n
 have:((a+b).natAbs:Int)<=(a.natAbs:Int)+(b.natAbs:Int):=by omega
 unfold E9 at*;omega
theorem qp9 {q:Rat} (h:Sml q 600):qqk q=false:=by
 have h1:=h.1;have h2:=h.2;unfold qqk lng;rw[aS,ah (by omega),ah (by omega)];rfl
theorem qqq (s:Str):qb9 s=some (if s=[48]then 0 else if sgn s=true then-1 else 1):=by
 unfold qb9;by_cases c:s=[48]
 ·rw[ae (by simp[c]),ae c]
 rw[aa (by simp[c]),qgJ,ZB,aa c];cases sgn s<;>rfl
theorem itoa0:Lib.itoa 0=[48]:=by
 rw[vE (by decide),show(0:Int).natAbs=0 from rfl,jI (by decide)];rfl
theorem T0:T 0=[48]:=by
 rw[(qgz 0 rfl).1];exact itoa0
theorem qkF {q:Rat}:T q=[48]↔q=0:=by
 constructor
 ·intro h;exact qrM (h.trans T0.symm)
 intro h;rw[h];exact T0
theorem qrW (q:Rat):qb9 (T q)=some (if q.num<0 then-1 else if q.num=0 then 0 else 1):=by
 rw[qqq,qmM];by_cases c:q=0
 ·rw[ae (qkF.2 c),c];rfl
 rw[aa (λh=>c (qkF.1 h)),aa (show¬q.num=0 from λh=>c (Rat.num_eq_zero.1 h))];by_cases d:q.num<0
 ·rw[ai d,ae rfl,ae d]
 rw[ah d,aa (by simp),aa d]
theorem qjb {N:Nat} (hN:100000<N) {q:Rat} {k:Nat} (h:Sml q k) (hk:k<=9000):yn N (T q)=some (0,0,false)\/(yn N (T q)=some (q.num,(q.den:Int),true)/\q.num.natAbs<1000000000/\q.den<1000000000):=by
 have hl:=qkN h;have hb:=qgL (T q);have eb:=qnq q;have es:slA (Lib.decDigits q.num.natAbs++tl q)=(Lib.decDigits q.num.natAbs).length:=qiP (no47 (qbO _)) q;have lt:(Lib.decDigits q.num.natAbs++tl q).length=(Lib.decDigits q.num.natAbs).length+(tl q).length:=Yq;rw[eb]at hb;unfold yn;by_cases c:((T q).length:Int)>20
 ·left;rw[ae c]
 rw[aa c,qgJ,ZB,qmf,ZB,eb,qd1 (by omega) (by omega),ZB,es,qmM];by_cases c1:(Lib.decDigits q.num.natAbs).length>9
 ·left;rw[ae (by omega),ZB,ae rfl]
 rw[aa (by omega),qo (by omega) (by omega)];by_cases c2:(tl q).length>10
 ·left;rw[ai (by omega),ZB,ae rfl]
 right;rw[ah (by omega),ZB,aa (by simp),y9 (by omega),ZB,List.take_left',qgK (by omega) (qbO _) (by omega),ZB,qdd]
 ·have hn:q.num.natAbs<1000000000:=(qaH (show 0<9 by decide)).1 (by omega)
  have sg:(if decide (q.num<0)=true then some (w64 (0-(q.num.natAbs:Int)))else some (q.num.natAbs:Int):Option Int)=some q.num:=by
   by_cases d:q.num<0
   ·rw[ae (ai d),qo (by omega) (by omega)];congr 1;omega
   rw[aa (λh=>d (aK h))];congr 1;omega
  by_cases d:q.den=1
  ·have ht:tl q=[]:=by unfold tl;rw[ae d]
   rw[ht]at lt;rw[be]at lt;rw[ht,aa (by omega),ZB,sg,ZB,d];exact⟨rfl,hn,by decide⟩
  have ht:tl q=47::Lib.decDigits q.den:=by unfold tl;rw[aa d]
  rw[ht,Yr]at lt c2;have hd:q.den<1000000000:=(qaH (show 0<9 by decide)).1 (by omega);rw[ht,ae (by omega),qD (by omega),qaz (by omega),ZB,db,aA (by omega),show(Lib.decDigits q.num.natAbs).length+1-(Lib.decDigits q.num.natAbs).length=1 by omega,bn,dp,YR,qgK (by omega) (qbO _) (by omega),ZB,ZB,sg,ZB,qdd];exact⟨rfl,hn,hd⟩
 rfl
theorem qm7 {N:Nat} (hN:100000<N) {p q:Rat} {k:Nat} (hk:k<=9000) (hp:Sml p k) (hq:Sml q k) {Fq:(Int×Int×Bool)->(Int×Int×Bool)->Option Str} {slow:Option Str} {t:Str}
 (h1:p.num.natAbs<1000000000->p.den<1000000000->q.num.natAbs<1000000000->q.den<1000000000->Fq (p.num,(p.den:Int),true) (q.num,(q.den:Int),true)=some t) (h2:slow=some t):
 ((yn N (T p)).bind λr1=>(yn N (T q)).bind λr2=>(if r1.2.2=true then some r2.2.2 else some false:Option Bool).bind λb4=>if b4=true then(Fq r1 r2).bind λr7=>some r7 else slow)=some t:=by
 rcases qjb hN hp hk with e1|⟨e1,a1,a2⟩
 ·rcases qjb hN hq hk with e2|⟨e2,b1,b2⟩
  ·rw[e1,ZB,e2,ZB];exact h2
  rw[e1,ZB,e2,ZB];exact h2
 rcases qjb hN hq hk with e2|⟨e2,b1,b2⟩
 ·rw[e1,ZB,e2,ZB];exact h2
 rw[e1,ZB,e2,ZB];show((Fq (p.num,(p.den:Int),true) (q.num,(q.den:Int),true)).bind λr7=>some r7)=some t;rw[h1 a1 a2 b1 b2,ZB]
theorem qqb {a b:Int} (ha:a.natAbs<1000000000) (hb:b.natAbs<1000000000): -1000000000000000000<=a*b/\a*b<=1000000000000000000:=by
 have h:(a*b).natAbs<=1000000000*1000000000:=by
  rw[bm];exact cU (by omega) (by omega)
 omega
theorem qmU {N:Nat} (hN:600000<N) {p q:Rat} {k:Nat} (hk0:0<k) (hk:k<=4000) (hp:Sml p k) (hq:Sml q k):qcR N (T p) (T q)=some (T (p+q)):=by
 unfold qcR;obtain⟨n,hn⟩: ∃n:Nat,n=500:=⟨_,rfl⟩;have p1:=qdx (n:=n) hp hk0 (by omega);have p2:=qdA (n:=n) hp hk0 (by omega);have q1:=qdx (n:=n) hq hk0 (by omega);have q2:=qdA (n:=n) hq hk0 (by omega);refine qm7 (N:=N) (by omega) (show k<=9000 by omega) hp hq (λa1 a2 b1 b2=>?_) ?_
 ·have m1:=qqb a1 (show((q.den:Int)).natAbs<1000000000 by omega);have m2:=qqb b1 (show((p.den:Int)).natAbs<1000000000 by omega);have m3:=qqb (show((p.den:Int)).natAbs<1000000000 by omega) (show((q.den:Int)).natAbs<1000000000 by omega);have:=qdl p q;simp only;rw[qo (n:=p.num*(q.den:Int)) (by omega) (by omega),qo (n:=q.num*(p.den:Int)) (by omega) (by omega),qo (n:=(p.den:Int)*(q.den:Int)) (by omega) (by omega),qo (by omega) (by omega),qo5 (by omega) (by omega) (by omega) (by omega) (by omega) (qdl p q),<-qdi]
 rw[qfC hN (hp.mono (by omega)),ZB,qfC hN (hq.mono (by omega)),ZB];simp only;rw[qe1 (by omega) (p1.mono (by omega)) (q2.mono (by omega)),ZB,qe1 (by omega) (q1.mono (by omega)) (p2.mono (by omega)),ZB,qru (by omega) ((qaC p1 q2).mono (by omega)) ((qaC q1 p2).mono (by omega)),ZB,qe1 (by omega) (p2.mono (by omega)) (q2.mono (by omega)),ZB,qgB hN (B:=n+n+1) (by omega) (by omega) (qlL (qaC p1 q2) (qaC q1 p2)) ((qaC p2 q2).mono (by omega)) (qdl p q),ZB,<-qdi]
theorem qnz {N:Nat} (hN:600000<N) {p q:Rat} {k:Nat} (hk0:0<k) (hk:k<=4000) (hp:Sml p k) (hq:Sml q k):qcP N (T p) (T q)=some (T (p*q)):=by
 unfold qcP;obtain⟨n,hn⟩: ∃n:Nat,n=500:=⟨_,rfl⟩;have p1:=qdx (n:=n) hp hk0 (by omega);have p2:=qdA (n:=n) hp hk0 (by omega);have q1:=qdx (n:=n) hq hk0 (by omega);have q2:=qdA (n:=n) hq hk0 (by omega);refine qm7 (N:=N) (by omega) (show k<=9000 by omega) hp hq (λa1 a2 b1 b2=>?_) ?_
 ·have m1:=qqb a1 b1;have m3:=qqb (show((p.den:Int)).natAbs<1000000000 by omega) (show((q.den:Int)).natAbs<1000000000 by omega);simp only;rw[qo (n:=p.num*q.num) (by omega) (by omega),qo (n:=(p.den:Int)*(q.den:Int)) (by omega) (by omega),qo5 (by omega) (by omega) (by omega) (by omega) (by omega) (qdl p q),<-qdj]
 rw[qfC hN (hp.mono (by omega)),ZB,qfC hN (hq.mono (by omega)),ZB];simp only;rw[qe1 (by omega) (p1.mono (by omega)) (q1.mono (by omega)),ZB,qe1 (by omega) (p2.mono (by omega)) (q2.mono (by omega)),ZB,qgB hN (B:=n+n) (by omega) (by omega) (qaC p1 q1) (qaC p2 q2) (qdl p q),ZB,<-qdj]
theorem qkB {p q:Rat} {n:Nat} (hn:0<n) (hp:Sml p (9*n)) (hq:Sml q (9*n)):Sml (p*q) (9*(n+n)):=by
 have p1:=qdx (n:=n) hp (by omega) (by omega);have p2:=qdA (n:=n) hp (by omega) (by omega);have q1:=qdx (n:=n) hq (by omega) (by omega);have q2:=qdA (n:=n) hq (by omega) (by omega);rw[qdj];obtain⟨f1,f2⟩:=qeM (qdl p q) (qaC p1 q1) (qaC p2 q2);exact qh4 f1 f2 (by omega)
def qV:Nat->(Nat->Rat)->Rat
 |0,_=>0
 |n+1,f=>qV n f+f n
theorem zu {f g:Nat->Rat}: ∀(n:Nat),(∀j<n,f j=g j)->qV n f=qV n g
 |0,_=>rfl
 |n+1,h=>by
  unfold qV;rw[zu n (λj hj=>h j (by omega)),h n (by omega)]
theorem qgh (a b:Nat->Rat) (t:Rat): ∀n:Nat,qV n (λj=>a j-t*b j)=qV n a-t*qV n b
 |0=>by
  show(0:Rat)=0-t*0;grind
 |n+1=>by
  unfold qV;rw[qgh a b t n];grind
theorem qeV (a:Nat->Rat) (t:Rat): ∀n:Nat,qV n (λj=>a j*t)=qV n a*t
 |0=>by
  show(0:Rat)=0*t;grind
 |n+1=>by
  unfold qV;rw[qeV a t n];grind
theorem qfv: ∀n:Nat,qV n (λ_=>0)=0
 |0=>rfl
 |n+1=>by
  unfold qV;rw[qfv n,Rat.add_zero]
theorem qim (a:Nat->Rat) (k:Nat): ∀n:Nat,qV n (λj=>if j=k then a j else 0)=if k<n then a k else 0
 |0=>rfl
 |n+1=>by
  unfold qV;rw[qim a k n];dsimp only;by_cases h:k<n
  ·rw[ae h,aa (show¬n=k by omega),ae (by omega),Rat.add_zero]
  rw[aa h];by_cases e:n=k
  ·subst e;rw[ae rfl,ae (by omega),Rat.zero_add]
  rw[aa e,aa (by omega),Rat.add_zero]
theorem qjG (f:Nat->Nat->Rat) (n:Nat): ∀m:Nat,qV m (λi=>qV n (λj=>f i j))=qV n (λj=>qV m (λi=>f i j))
 |0=>(qfv n).symm
 |m+1=>by
  show qV m (λi=>qV n (λj=>f i j))+qV n (λj=>f m j)=_;rw[qjG f n m];have h:=qgh (λj=>qV m (λi=>f i j)) (λj=>f m j) (-1) n
  have e:qV n (λj=>qV m (λi=>f i j))+qV n (λj=>f m j)=qV n (λj=>qV m (λi=>f i j))-(-1)*qV n (λj=>f m j):=by grind
  rw[e,<-h]
  refine zu n λj _=>?_
  show _=qV m (λi=>f i j)+f m j;grind
abbrev Mx:=Nat->Nat->Rat
def qbo (M:Mx) (r d:Nat):Mx:=λi=>if i=d then M r else if i=r then M d else M i
def qi1 (M:Mx) (d:Nat) (s:Rat):Mx:=λi j=>if i=d then M i j*s else M i j
def qkm (M:Mx) (c d:Nat):Mx:=λi j=>if i=d then M i j else M i j-M i c*M d j
def qiT (M:Mx) (c d r:Nat):Mx:=qkm (qi1 (qbo M r d) d (qbo M r d d c)⁻¹) c d
theorem qpL (M:Mx) (r d:Nat):qbo M r d d=M r:=ae rfl
structure qol (Q:(Nat->Rat)->Prop):Prop where
 sub: ∀v w t,Q v->Q w->Q (λj=>v j-t*w j)
 scl: ∀v t,Q v->Q (λj=>v j*t)
theorem qjJ (M:Mx) (c d r:Nat):qiT M c d r d=λj=>M r j*(M r c)⁻¹:=by
 funext j;simp only[qiT,qkm,qi1,aJ,qpL]
theorem qjP (M:Mx) (c d r:Nat) {i:Nat} (h:i≠d):qiT M c d r i=λj=>qbo M r d i j-qbo M r d i c*(M r j*(M r c)⁻¹):=by
 funext j;simp only[qiT,qkm,qi1,aJ,aa h,qpL]
theorem qq0 {Q:(Nat->Rat)->Prop} (h:qol Q) {M:Mx} {R c d r:Nat} (hd:d<R) (hr:r<R) (hp:M r c≠0):(∀i<R,Q (M i))↔ ∀i<R,Q (qiT M c d r i):=by
 have hs: ∀i<R,∃k<R,qbo M r d i=M k:=λi hi=>by
  unfold qbo;by_cases e:i=d
  ·exact⟨r,hr,ae e⟩
  by_cases g:i=r
  ·exact⟨d,hd,by rw[aa e,ae g]⟩
  exact⟨i,hi,by rw[aa e,aa g]⟩
 constructor
 ·intro H i hi;by_cases e:i=d
  ·rw[e,qjJ];exact h.scl _ _ (H r hr)
  rw[qjP M c d r e];obtain⟨k,hk,ek⟩:=hs i hi;rw[ek];exact h.sub _ _ _ (H k hk) (h.scl _ _ (H r hr))
 intro H
 have hr':Q (M r):=by
  have:=h.scl _ (M r c) (H d hd);rw[qjJ]at this
  have e:(λj=>M r j*(M r c)⁻¹*M r c)=M r:=by
   funext j;rw[Rat.mul_assoc,Rat.inv_mul_cancel _ hp,Rat.mul_one]
  rwa [e]at this
 have hw: ∀i<R,i≠d->Q (qbo M r d i):=λi hi e=>by
  have:=h.sub _ _ (-(qbo M r d i c)) (H i hi) (H d hd);rw[qjP M c d r e,qjJ]at this
  have e:(λj=>qbo M r d i j-qbo M r d i c*(M r j*(M r c)⁻¹)- -(qbo M r d i c)*(M r j*(M r c)⁻¹))=qbo M r d i:=by
   funext j;grind
  rwa [e]at this
 intro i hi;by_cases e:i=r
 ·rw[e];exact hr'
 by_cases g:i=d
 ·subst g;have:=hw r hr (λq=>e q.symm);unfold qbo at this
  rwa [aa (λq=>e q.symm),ae rfl]at this
 have:=hw i hi g;unfold qbo at this
 rwa [aa g,aa e]at this
def qhz (M:Mx) (c:Nat):Nat->Nat->Option Nat
 |0,_=>none
 |k+1,r=>if M r c=0 then qhz M c k (r+1)else some r
theorem qgk {M:Mx} {c:Nat}: ∀{k r q:Nat},qhz M c k r=some q->r<=q/\q<r+k/\M q c≠0
 |0,r,q,h=>by cases h
 |k+1,r,q,h=>by
  unfold qhz at h;by_cases e:M r c=0
  ·rw[ae e]at h;obtain⟨a,b,d⟩:=qgk h;exact⟨by omega,by omega,d⟩
  rw[aa e]at h;obtain rfl:=Ye h;exact⟨ag _,by omega,e⟩
theorem qld {M:Mx} {c:Nat}: ∀{k r:Nat},qhz M c k r=none-> ∀q,r<=q->q<r+k->M q c=0
 |0,r,h,q,h1,h2=>by omega
 |k+1,r,h,q,h1,h2=>by
  unfold qhz at h;by_cases e:M r c=0
  ·rw[ae e]at h;by_cases g:q=r
   ·rw[g];exact e
   exact qld h q (by omega) (by omega)
  rw[aa e]at h;cases h
def qgQ (R:Nat) (s:Mx×List Nat) (c:Nat):Mx×List Nat:=match qhz s.1 c (R-s.2.length) s.2.length with
 |none=>s
 |some r=>(qiT s.1 c s.2.length r,s.2++[c])
structure EI (R c:Nat) (M:Mx) (p:List Nat):Prop where
 le:p.length<=c
 lr:p.length<=R
 z: ∀i,p.length<=i->i<R-> ∀j<c,M i j=0
 one:p.length=c-> ∀k<c,∀i<R,M i k=if i=k then 1 else 0
theorem EI.zero (R:Nat) (M:Mx):EI R 0 M []:=⟨ag _,aF _,λi _ _ j hj=>by omega,λ_ k hk=>by omega⟩
theorem qrr {M:Mx} {R d r:Nat} {i:Nat} (hd:d<R) (hr:r<R) (hi:i<R) (h1:d<=r) (h2:d<=i): ∃k,d<=k/\k<R/\qbo M r d i=M k:=by
 unfold qbo;by_cases e:i=d
 ·exact⟨r,h1,hr,ae e⟩
 by_cases g:i=r
 ·exact⟨d,ag _,hd,by rw[aa e,ae g]⟩
 exact⟨i,h2,hi,by rw[aa e,aa g]⟩
theorem EI.step {R c:Nat} {M:Mx} {p:List Nat} (h:EI R c M p):EI R (c+1) (qgQ R (M,p) c).1 (qgQ R (M,p) c).2:=by
 unfold qgQ;dsimp only
 cases hf:qhz M c (R-p.length) p.length with
 |none=>
  dsimp only;refine⟨by have:=h.le;omega,h.lr,λi h1 h2 j hj=>?_,λe=>by have:=h.le;omega⟩;by_cases e:j=c
  ·rw[e];exact qld hf i h1 (by have:=h.lr;omega)
  exact h.z i h1 h2 j (by omega)
 |some r=>
  obtain⟨r1,r2,r3⟩:=qgk hf;have lr:=h.lr;have hle:=h.le
  have hd:p.length<R:=by omega
  have hr:r<R:=by omega
  have hpl:(p++[c]).length=p.length+1:=by simp
  have cv:M r c*(M r c)⁻¹=1:=Rat.mul_inv_cancel _ r3;dsimp only;refine⟨by omega,by omega,λi h1 h2 j hj=>?_,λe k hk i hi=>?_⟩
  ·rw[hpl]at h1;rw[qjP M c p.length r (by omega)];obtain⟨k,k1,k2,k3⟩:=qrr (M:=M) hd hr h2 r1 (show p.length<=i by omega);dsimp only;rw[k3];by_cases e:j=c
   ·rw[e,cv];grind
   rw[h.z k k1 k2 j (by omega),h.z r r1 hr j (by omega)];grind
  have ec:p.length=c:=by omega
  have one:=h.one ec;by_cases e1:k=c
  ·by_cases e2:i=p.length
   ·rw[e2,qjJ,e1,ec,ae rfl];exact cv
   rw[qjP M c p.length r e2,aa (by omega),e1];dsimp only;rw[cv];grind
  have zr:M r k=0:=h.z r r1 hr k (by omega);by_cases e2:i=p.length
  ·rw[e2,qjJ,aa (by omega)];dsimp only;rw[zr];grind
  rw[qjP M c p.length r e2];dsimp only;rw[zr]
  have:qbo M r p.length i k=if i=k then 1 else 0:=by
   unfold qbo;rw[aa e2];by_cases e3:i=r
   ·rw[ae e3,h.z p.length (ag _) hd k (by omega),aa (by omega)]
   rw[aa e3];exact one k (by omega) i hi
  rw[this];grind
theorem qoB {Q:(Nat->Rat)->Prop} (h:qol Q) {R c:Nat} {M:Mx} {p:List Nat} (lr:p.length<=R):(∀i<R,Q (M i))↔ ∀i<R,Q ((qgQ R (M,p) c).1 i):=by
 unfold qgQ;dsimp only
 cases hf:qhz M c (R-p.length) p.length with
 |none=>exact Iff.rfl
 |some r=>
  obtain⟨r1,r2,r3⟩:=qgk hf;exact qq0 h (by omega) (by omega) r3
def RoB (B:Int) (C:Nat) (v:Nat->Rat):Prop:= ∃(D:Int) (z:Nat->Int),0<D/\D<=B/\ ∀j<C,v j*(D:Rat)=(z j:Rat)/\ -B<=z j/\z j<=B
theorem RoB.mono {B B':Int} {C:Nat} {v:Nat->Rat} (h:RoB B C v) (hB:B<=B'):RoB B' C v:=by
 obtain⟨D,z,h1,h2,h3⟩:=h;exact⟨D,z,h1,by omega,λj hj=>⟨(h3 j hj).1,by have:=(h3 j hj).2;omega,by have:=(h3 j hj).2;omega⟩⟩
theorem qlT {D:Int} (h:D≠0):(D:Rat)≠0:=by
 intro e
 have:(D:Int)=0:=by exact_mod_cast e
 exact h this
theorem RoB.scl {B:Int} {C:Nat} {v:Nat->Rat} (h:RoB B C v) {c:Nat} (hc:c<C) (h0:v c≠0):RoB B C (λj=>v j*(v c)⁻¹):=by
 obtain⟨D,z,h1,h2,h3⟩:=h;obtain⟨c1,c2,c3⟩:=h3 c hc;have hD:(D:Rat)≠0:=qlT (by omega)
 have zc:z c≠0:=λe=>by
  rw[e]at c1;rcases Rat.mul_eq_zero.1 c1 with q|q
  ·exact h0 q
  exact hD q
 have cv:v c*(v c)⁻¹=1:=Rat.mul_inv_cancel _ h0
 have key: ∀j<C,v j*(v c)⁻¹*(z c:Rat)=(z j:Rat):=λj hj=>by
  have e1:=(h3 j hj).1;grind
 by_cases p:0<z c
 ·exact⟨z c,z,p,c3,λj hj=>⟨key j hj,(h3 j hj).2⟩⟩
 refine⟨-(z c),λj=> -(z j),by omega,by omega,λj hj=>⟨?_,by have:=(h3 j hj).2;dsimp only;omega,by have:=(h3 j hj).2;dsimp only;omega⟩⟩;have:=key j hj;rw[Rat.intCast_neg,Rat.intCast_neg];grind
theorem qhH {a b B:Int} (hB:0<=B) (a1: -B<=a) (a2:a<=B) (b1: -B<=b) (b2:b<=B): -(B*B)<=a*b/\a*b<=B*B:=by
 have h:(a*b).natAbs<=B.natAbs*B.natAbs:=by
  rw[bm];exact cU (by omega) (by omega)
 have e:((B.natAbs*B.natAbs:Nat):Int)=B*B:=by
  rw[aZ,Int.natAbs_of_nonneg hB]
 omega
theorem RoB.elm {B:Int} {C:Nat} {v w:Nat->Rat} (h:RoB B C v) (k:RoB B C w) {c:Nat} (hc:c<C):RoB (2*(B*B)) C (λj=>v j-v c*w j):=by
 obtain⟨D,z,h1,h2,h3⟩:=h;obtain⟨E,y,k1,k2,k3⟩:=k;obtain⟨c1,c2,c3⟩:=h3 c hc
 have hB:0<=B:=by omega
 have BB:B<=B*B:=by
  have:=Yc (show(1:Int)<=B by omega) hB;omega
 refine⟨D*E,λj=>z j*E-z c*y j,cG h1 k1,?_,λj hj=>⟨?_,?_⟩⟩
 ·have:=(qhH hB (a:=D) (b:=E) (by omega) h2 (by omega) k2).2;omega
 ·have e1:=(h3 j hj).1;have e2:=(k3 j hj).1;rw[bI,Rat.intCast_sub,bI,bI];grind
 have m1:=qhH hB (a:=z j) (b:=E) (h3 j hj).2.1 (h3 j hj).2.2 (by omega) k2;have m2:=qhH hB c2 c3 (k3 j hj).2.1 (k3 j hj).2.2;dsimp only;omega
def bdE (B:Int):Nat->Int
 |0=>B
 |n+1=>2*(bdE B n*bdE B n)
theorem qkx {B:Int} (hB:1<=B): ∀n,0<bdE B n
 |0=>by unfold bdE;omega
 |n+1=>by
  have:=qkx hB n;have:=cG this this;unfold bdE;omega
theorem qo1 {B:Int} (hB:1<=B) (n:Nat):bdE B n<=bdE B (n+1):=by
 have h:=qkx hB n;have:=Yc (show(1:Int)<=bdE B n by omega) (show 0<=bdE B n by omega);show bdE B n<=2*(bdE B n*bdE B n);omega
theorem qqX {B:Int} (hB:1<=B) {R c C:Nat} (hc:c<C) {M:Mx} {p:List Nat} (lr:p.length<=R) (h: ∀i<R,RoB (bdE B p.length) C (M i)): ∀i<R,RoB (bdE B (qgQ R (M,p) c).2.length) C ((qgQ R (M,p) c).1 i):=by
 unfold qgQ;dsimp only
 cases hf:qhz M c (R-p.length) p.length with
 |none=>exact h
 |some r=>
  obtain⟨r1,r2,r3⟩:=qgk hf;dsimp only;intro i hi;have sc:=(h r (by omega)).scl hc r3;rw[show(p++[c]).length=p.length+1 by simp];by_cases e:i=p.length
  ·rw[e,qjJ];exact sc.mono (qo1 hB _)
  rw[qjP M c p.length r e]
  have hs: ∃k<R,qbo M r p.length i=M k:=by
   unfold qbo;rw[aa e];by_cases g:i=r
   ·exact⟨p.length,by omega,ae g⟩
   exact⟨i,hi,aa g⟩
  obtain⟨k,k1,k2⟩:=hs;rw[k2];exact(h k k1).elm sc hc
theorem RoB.sml {B:Int} {C:Nat} {v:Nat->Rat} (h:RoB B C v) {n:Nat} (hn:0<n) (hB:zB B n) {j:Nat} (hj:j<C):Sml (v j) (9*n):=by
 obtain⟨D,z,h1,h2,h3⟩:=h;obtain⟨e,z1,z2⟩:=h3 j hj;have hD:(D:Rat)≠0:=qlT (by omega)
 have e:v j=Rat.divInt (z j) D:=by rw[Rat.divInt_eq_div,<-e,Rat.mul_div_cancel hD]
 obtain⟨f1,f2⟩:=qeM (a:=z j) (b:=D) (n:=n) (by omega) (zB.le (b:=B) (by omega) hB) (zB.le (b:=B) (by omega) hB);rw[e];exact qh4 f1 f2 hn
section
def RwG {α:Type} (P:α->Rat->Prop) (C:Nat) (r:List α) (v:Nat->Rat):Prop:=r.length=C/\ ∀(j:Nat) f,r[j]? =some f->P f (v j)
def MxG {α:Type} (P:α->Rat->Prop) (R C:Nat) (l:List (List α)) (M:Mx):Prop:=l.length=R/\ ∀(i:Nat) r,l[i]? =some r->RwG P C r (M i)
abbrev RwF:=RwG IsF
abbrev MxF:=MxG IsF
section
variable {R C:Nat} {α:Type} {P:α->Rat->Prop}
theorem RwG.get {r:List α} {v:Nat->Rat} (h:RwG P C r v) {k:Nat} (hk:k<C): ∃f,r[k]? =some f/\P f (v k):=by
 have:k<r.length:=by rw[h.1];exact hk
 exact⟨r[k],Ya this,h.2 k _ (Ya this)⟩
theorem MxG.get {l:List (List α)} {M:Mx} (h:MxG P R C l M) {k:Nat} (hk:k<R): ∃r,l[k]? =some r/\RwG P C r (M k):=by
 have:k<l.length:=by rw[h.1];exact hk
 exact⟨l[k],Ya this,h.2 k _ (Ya this)⟩
theorem RwG.put {r:List α} {v:Nat->Rat} (h:RwG P C r v) {f:α} {q:Rat} (hf:P f q) (k:Nat):RwG P C (r.set k f) (λj=>if j=k then q else v j):=by
 refine⟨by rw[Yk];exact h.1,λj g hg=>?_⟩;dsimp only;by_cases e:j=k
 ·subst e;have hl:=(Yb.1 hg).1;rw[Yk]at hl;rw[List.getElem?_set_self hl]at hg;rw[ae rfl,<-Ye hg];exact hf
 rw[Yw (λc=>e c.symm)]at hg;rw[aa e];exact h.2 j g hg
theorem MxG.put {l:List (List α)} {M:Mx} (h:MxG P R C l M) {r:List α} {v:Nat->Rat} (hr:RwG P C r v) (k:Nat):MxG P R C (l.set k r) (λi=>if i=k then v else M i):=by
 refine⟨by rw[Yk];exact h.1,λj g hg=>?_⟩;dsimp only;by_cases e:j=k
 ·subst e;have hl:=(Yb.1 hg).1;rw[Yk]at hl;rw[List.getElem?_set_self hl]at hg;rw[ae rfl,<-Ye hg];exact hr
 rw[Yw (λc=>e c.symm)]at hg;rw[aa e];exact h.2 j g hg
theorem RwG.congr {r:List α} {v w:Nat->Rat} (h:RwG P C r v) (e: ∀j<C,v j=w j):RwG P C r w:=⟨h.1,λj f hf=>by
 have:=h.2 j f hf
 rwa [e j (by have:=(Yb.1 hf).1;rw[h.1]at this;exact this)]at this⟩
theorem MxG.congr {l:List (List α)} {M M':Mx} (h:MxG P R C l M) (e: ∀i<R,∀j<C,M i j=M' i j):MxG P R C l M':=⟨h.1,λi r hr=>(h.2 i r hr).congr (e i (by
 have:=(Yb.1 hr).1;rw[h.1]at this;exact this))⟩
end
theorem qkE {α:Type} (l:List α) (a:Nat) (x:α):qaw l (a:Int) x=l.set a x:=by unfold qaw;rfl
theorem qg1 {f:qb} {q:Rat} (h:IsF f q):jO f=some (if q.num<0 then-1 else if q.num=0 then 0 else 1):=by
 unfold jO;rw[qek h.1];rfl
theorem qck (q:Rat):((if q.num<0 then-1 else if q.num=0 then 0 else 1:Int)=0)↔q=0:=by
 rw[<-Rat.num_eq_zero];split
 ·constructor
  ·intro h;omega
  intro h;omega
 split
 ·exact⟨λ_=>by assumption,λ_=>rfl⟩
 exact⟨λh=>by omega,λh=>absurd h (by assumption)⟩
abbrev pI (p:List Nat):List Int:=p.map Int.ofNat
section
variable {N:Nat} (hN:600000<N) {R C:Nat} (hR:R<=100) (hC:C<=100) {p:List Int} {d:Nat} (hp:p.length=d) (hd:d<R)
include hN hR hC hp hd
theorem qrQ {M:Mx} {s:Rat} {f:qb} (hs:IsF f s) (fs:qax s 39) (fm: ∀j<C,qax (M d j) 39) {x:List qb} (hx:x.length=C): ∀(K k:Nat) (l:List (List qb)),k<=C->C<K+k->MxF R C l (λi j=>if i=d/\j<k then M i j*s else M i j)->
 ∃l',kg N x p f K l (k:Int)=some l'/\MxF R C l' (qi1 M d s)
 |0,k,l,h1,h2,h=>by omega
 |K+1,k,l,h1,h2,h=>by
  unfold kg;by_cases hk:k<C
  ·obtain⟨r,e1,g1⟩:=h.get hd;obtain⟨y,e2,g2⟩:=g1.get hk;rw[aa (by omega)]at g2;obtain⟨z,e3,g3⟩:=qkC hN g2 hs (n:=39) (by omega) (fm k hk) fs
   have hkr:k<r.length:=by rw[g1.1];exact hk
   rw[ae (by omega),hp,ql,e1,ZB,ql,e2,ZB,e3,ZB,vw hkr,ZB,qkE,qD (by omega)];refine qrQ hs fs fm hx K (k+1) _ (by omega) (by omega) ((h.put (g1.put g3 k) d).congr λi hi j hj=>?_);by_cases a:i=d
   ·rw[ae a];by_cases b:j=k
    ·rw[ae b,ae ⟨a,by omega⟩,a,b]
    rw[aa b];by_cases c:j<k
    ·rw[ae ⟨rfl,c⟩,ae ⟨a,by omega⟩,a]
    rw[aa (λq=>c q.2),aa (λq=>by omega),a]
   rw[aa a,aa (λq=>a q.1),aa (λq=>a q.1)]
  rw[aa (by omega)];refine⟨l,rfl,h.congr λi hi j hj=>?_⟩;unfold qi1;by_cases a:i=d
  ·rw[ae ⟨a,by omega⟩,ae a]
  rw[aa (λq=>a q.1),aa a]
omit hR hd in
theorem qoK {u v:Nat->Rat} {t:Rat} {f:qb} (ht:IsF f t) (ft:qax t 39) (fu: ∀j<C,qax (u j) 39) (fv: ∀j<C,qax (v j) 39) {l:List (List qb)} {w:List qb} (hw:l[d]? =some w) (gw:RwF C w v) {x:List qb} (hx:x.length=C) (i:Nat): ∀(K k:Nat) (r:List qb),k<=C->C<K+k->RwF C r (λj=>if j<k then u j-t*v j else u j)->
 ∃r',qY N l x p (i:Int) f K r (k:Int)=some (l.set i r')/\RwF C r' (λj=>u j-t*v j)
 |0,k,r,h1,h2,h=>by omega
 |K+1,k,r,h1,h2,h=>by
  unfold qY;by_cases hk:k<C
  ·obtain⟨y,e2,g2⟩:=h.get hk;rw[aa (by omega)]at g2;obtain⟨q,e3,g3⟩:=gw.get hk;obtain⟨z,e4,g4⟩:=qkC hN ht g3 (n:=39) (by omega) ft (fv k hk);obtain⟨z',e5,g5⟩:=qq4 hN g2 g4 (n:=39+39) (by omega) ((fu k hk).mono (show 39<=39+39 by decide)) (qiR ft (fv k hk))
   have hkr:k<r.length:=by rw[h.1];exact hk
   rw[ae (by omega),hp,ql,hw,ZB,ql,e2,ZB,ql,e3,ZB,e4,ZB,e5,ZB,vw hkr,ZB,qD (by omega)];refine qoK ht ft fu fv hw gw hx i K (k+1) _ (by omega) (by omega) ((h.put g5 k).congr λj hj=>?_);by_cases b:j=k
   ·rw[ae b,ae (by omega),b]
   rw[aa b];by_cases c:j<k
   ·rw[ae c,ae (by omega)]
   rw[aa c,aa (by omega)]
  rw[aa (by omega),qkE];refine⟨r,rfl,h.congr λj hj=>?_⟩;rw[ae (by omega)]
theorem qj5 {S:Mx} (fS: ∀i<R,∀j<C,qax (S i j) 39) {c:Nat} (hc:c<C) {q:List (List qb)} (hq:q.length=R): ∀(K i:Nat) (l:List (List qb)),i<=R->R<K+i->MxF R C l (λi' j=>if i'<i then qkm S c d i' j else S i' j)->
 ∃l',ko N q p (c:Int) K l (i:Int)=some l'/\MxF R C l' (qkm S c d)
 |0,i,l,h1,h2,h=>by omega
 |K+1,i,l,h1,h2,h=>by
  unfold ko;by_cases hi:i<R
  ·obtain⟨r,e1,g1⟩:=h.get hi
   have g1:RwF C r (S i):=g1.congr λj hj=>by rw[aa (by omega)]
   obtain⟨y,e2,g2⟩:=g1.get hc;rw[ae (by omega),ql,e1,ZB,hp];by_cases a:i=d
   ·rw[ae (by omega),ZB,ae rfl,ZB,qD (by omega)];refine qj5 fS hc hq K (i+1) _ (by omega) (by omega) (h.congr λi' hi' j hj=>?_);by_cases b:i'=i
    ·rw[aa (by omega),ae (by omega)];unfold qkm;rw[ae (by omega)]
    by_cases b2:i'<i
    ·rw[ae b2,ae (by omega)]
    rw[aa b2,aa (by omega)]
   rw[aa (by omega),ql,e2,ZB,qg1 g2,ZB,ZB];by_cases z:S i c=0
   ·rw[ai ((qck _).2 z),ae rfl,ZB,qD (by omega)];refine qj5 fS hc hq K (i+1) _ (by omega) (by omega) (h.congr λi' hi' j hj=>?_);by_cases b:i'=i
    ·rw[aa (by omega),ae (by omega)];unfold qkm;rw[aa (by omega),b,z];grind
    by_cases b2:i'<i
    ·rw[ae b2,ae (by omega)]
    rw[aa b2,aa (by omega)]
   rw[ah (λk=>z ((qck _).1 k)),aa (by decide),ZB,aa (by omega)];obtain⟨w,e3,g3⟩:=h.get hd
   have g3:RwF C w (S d):=g3.congr λj hj=>by
    by_cases b:d<i
    ·rw[ae b];unfold qkm;rw[ae rfl]
    rw[aa b]
   obtain⟨r',e4,g4⟩:=qoK hN hC hp g2 (fS i hi c hc) (λj hj=>fS i hi j hj) (λj hj=>fS d hd j hj) e3 g3 g1.1 i N 0 r (aF _) (by omega) (g1.congr λj hj=>by rw[aa (by omega)]);rw[show((0:Nat):Int)=0 from rfl]at e4;rw[e4,ZB,ZB,qD (by omega)];refine qj5 fS hc hq K (i+1) _ (by omega) (by omega) ((h.put g4 i).congr λi' hi' j hj=>?_);by_cases b:i'=i
   ·rw[ae b,ae (by omega)];unfold qkm;rw[aa (by omega),b]
   rw[aa b];by_cases b2:i'<i
   ·rw[ae b2,ae (by omega)]
   rw[aa b2,aa (by omega)]
  rw[aa (by omega)];exact⟨l,rfl,h.congr λi' hi' j hj=>by rw[ae (by omega)]⟩
omit hd in
theorem qox {B:Int} (hB:zB B 81) {c:Nat} (hc:c<C) (hpl:d<=50) {l:List (List qb)} {M:Mx} (h:MxF R C l M) (hb: ∀i<R,RoB B C (M i)): ∀(K r:Nat),d<=r->r<=R->R<K+r->
 (qhz M c (R-r) r=none/\qK N l p (c:Int) K (r:Int)=some (.inr ()))\/(∃q l',qhz M c (R-r) r=some q/\qK N l p (c:Int) K (r:Int)=some (.inl (l',p++[(c:Int)]))/\MxF R C l' (qiT M c d q))
 |0,r,h1,h2,h3=>by omega
 |K+1,r,h1,h2,h3=>by
  unfold qK
  have fq: ∀{v:Nat->Rat},RoB B C v-> ∀j<C,qax (v j) 39:=λhv j hj=>qfi (k:=9*81) (hv.sml (by decide) hB hj) (by decide) (by decide)
  by_cases hr:r<R
  ·obtain⟨x,e1,g1⟩:=h.get hr;obtain⟨y,e2,g2⟩:=g1.get hc
   have hf:R-r=(R-(r+1))+1:=by omega
   rw[ae (by have:=h.1;omega),ql,e1,ZB,ql,e2,ZB,qg1 g2,ZB,hf];unfold qhz;by_cases z:M r c=0
   ·rw[ae ((qck _).2 z),qD (by omega),ae z];exact qox hB hc hpl h hb K (r+1) (by omega) (by omega) (by omega)
   have hd:d<R:=by omega
   rw[aa (λk=>z ((qck _).1 k)),aa z];refine .inr ?_;obtain⟨x2,e3,g3⟩:=h.get hd
   have sw: ∃l2,((if(r:Int)=(p.length:Int)then(idx l (p.length:Int)).bind λx27=>some l else(idx l (p.length:Int)).bind λx29=>some (qaw (qaw l (p.length:Int) x) (r:Int) x29):Option (List (List qb))))=some l2/\MxF R C l2 (qbo M r d):=by
    rw[hp,ql,e3,ZB,ZB];by_cases a:r=d
    ·rw[ae (by omega)];refine⟨l,rfl,h.congr λi hi j hj=>?_⟩;unfold qbo;by_cases b:i=d
     ·rw[ae b,b,a]
     rw[aa b,aa (by omega)]
    rw[aa (by omega),qkE,qkE];refine⟨_,rfl,((h.put g1 d).put g3 r).congr λi hi j hj=>?_⟩;unfold qbo;by_cases b:i=r
    ·rw[ae b,aa (by omega),ae b]
    rw[aa b];by_cases b2:i=d
    ·rw[ae b2,ae b2]
    rw[aa b2,aa b2,aa b]
   obtain⟨l2,s1,s2⟩:=sw;rw[s1,ZB];have wd:qbo M r d d=M r:=qpL M r d;obtain⟨x3,e4,g4⟩:=s2.get hd;obtain⟨y3,e5,g5⟩:=g4.get hc;rw[wd]at g5 g4;have br:=hb r hr;obtain⟨iv,e6,g6⟩:=qqZ hN g5 ((fq br c hc).mono (by omega)) z;obtain⟨l3,e7,g7⟩:=qrQ hN hR hC hp hd (M:=qbo M r d) g6 (qpU (fq br c hc) (by decide)) (λj hj=>by rw[wd];exact fq br j hj) g4.1 N 0 l2 (aF _) (by omega) (s2.congr λi hi j hj=>by rw[aa (by omega)])
   have hS: ∀i<R,RoB B C (qi1 (qbo M r d) d (M r c)⁻¹ i):=λi hi=>by
    by_cases a:i=d
    ·have e:qi1 (qbo M r d) d (M r c)⁻¹ i=λj=>M r j*(M r c)⁻¹:=by
      funext j;unfold qi1;rw[ae a,a,wd]
     rw[e];exact br.scl hc z
    have e:qi1 (qbo M r d) d (M r c)⁻¹ i=qbo M r d i:=by
     funext j;unfold qi1;rw[aa a]
    rw[e];unfold qbo;rw[aa a];by_cases b:i=r
    ·rw[ae b];exact hb d hd
    rw[aa b];exact hb i hi
   obtain⟨l4,e8,g8⟩:=qj5 hN hR hC hp hd (S:=qi1 (qbo M r d) d (M r c)⁻¹) (λi hi j hj=>fq (hS i hi) j hj) hc g7.1 N 0 l3 (aF _) (by omega) (g7.congr λi hi j hj=>by rw[aa (by omega)]);rw[show((0:Nat):Int)=0 from rfl]at e7 e8;refine⟨r,l4,rfl,?_,?_⟩
   ·rw[hp,ql,e4,ZB,ql,e5,ZB,e6,ZB,e7,ZB,e8,ZB,xX (by simp;omega) (by simp;omega),ZB]
   unfold qiT;rw[wd];exact g8
  rw[aa (by have:=h.1;omega)]
  have:R-r=0:=by omega
  rw[this];exact .inl ⟨rfl,rfl⟩
end
def vR (R:Nat):Nat->Nat->Mx×List Nat->Mx×List Nat
 |0,_,s=>s
 |k+1,c,s=>vR R k (c+1) (qgQ R s c)
theorem qpV {B:Int} (hB:1<=B) {a b:Nat} (h:a<=b):bdE B a<=bdE B b:=by
 induction h with
 |refl=>exact bU _
 |step _ ih=>exact cy ih (qo1 hB _)
theorem fitd {B:Int} (hB:1<=B) {k:Nat} (h4:zB (bdE B 4) k) {n:Nat} (h:n<=4):zB (bdE B n) k:=zB.le (by have:=qpV hB h;have:=qkx hB n;omega) h4
structure qcC (B:Int) (R C c:Nat) (s:Mx×List Nat):Prop where
 one:1<=B
 ei:EI R c s.1 s.2
 rb: ∀i<R,RoB (bdE B s.2.length) C (s.1 i)
variable {B:Int}
theorem qcC.step {R C c:Nat} {s:Mx×List Nat} (h:qcC B R C c s) (hc:c<C):qcC B R C (c+1) (qgQ R s c):=⟨h.one,h.ei.step,qqX h.one hc h.ei.lr h.rb⟩
theorem qcC.run {R C:Nat}: ∀(k c:Nat) {s:Mx×List Nat},qcC B R C c s->c+k<=C->qcC B R C (c+k) (vR R k c s)
 |0,c,s,h,hk=>h
 |k+1,c,s,h,hk=>by
  have:=qcC.run k (c+1) (h.step (by omega)) (by omega)
  rwa [show c+1+k=c+(k+1)by omega]at this
theorem qiW {Q:(Nat->Rat)->Prop} (hQ:qol Q) {R C:Nat}: ∀(k c:Nat) {s:Mx×List Nat},qcC B R C c s->c+k<=C->((∀i<R,Q (s.1 i))↔ ∀i<R,Q ((vR R k c s).1 i))
 |0,c,s,h,hk=>Iff.rfl
 |k+1,c,s,h,hk=>(qoB hQ h.ei.lr).trans (qiW hQ k (c+1) (h.step (by omega)) (by omega))
section
variable {N:Nat} (hN:600000<N) {R C:Nat} (hR:R<=4) (hC:C<=100) (h4:zB (bdE B 4) 81)
include hN hR hC h4
theorem qkh {n:Nat} (hn:n<=C): ∀(K c k:Nat) (l:List (List qb)) (s:Mx×List Nat),c+k=n->k<K->qcC B R C c s->MxF R C l s.1->
 ∃l',qE N (n:Int) K l (pI s.2) (c:Int)=some (l',pI (vR R k c s).2)/\MxF R C l' (vR R k c s).1
 |0,c,k,l,s,h1,h2,ok,h=>by omega
 |K+1,c,0,l,s,h1,h2,ok,h=>by
  unfold qE;rw[aa (by omega)];exact⟨l,rfl,h⟩
 |K+1,c,k+1,l,s,h1,h2,ok,h=>by
  obtain⟨M,p⟩:=s;unfold qE;have hpl:(pI p).length=p.length:=bo ..;have lr:p.length<=R:=ok.ei.lr;have st:=ok.step (c:=c) (by omega);have P:=qox hN (by omega) hC hpl (fitd ok.one h4 (show p.length<=4 by omega)) (c:=c) (by omega) (by omega) h ok.rb N p.length (ag _) lr (by omega);rw[ae (by omega),hpl];rcases P with⟨f,e⟩|⟨q,l',f,e,g⟩
  ·have es:qgQ R (M,p) c=(M,p):=by
    unfold qgQ;dsimp only;rw[f]
   rw[e,ZB];dsimp only;rw[ZB,qD (by omega)];unfold vR;rw[es]at st⊢;exact qkh hn K (c+1) k l (M,p) (by omega) (by omega) st h
  have es:qgQ R (M,p) c=(qiT M c p.length q,p++[c]):=by
   unfold qgQ;dsimp only;rw[f]
  rw[e,ZB];dsimp only;rw[ZB,qD (by omega)];unfold vR;rw[es]at st⊢;have:=qkh hn K (c+1) k l' (qiT M c p.length q,p++[c]) (by omega) (by omega) st g;rw[show pI (qiT M c p.length q,p++[c]).2=pI p++[(c:Int)]from dL]at this;exact this
theorem qnj {n:Nat} (hn:n<=C) {l:List (List qb)} {M:Mx} (h1:1<=B) (hb: ∀i<R,RoB B C (M i)) (h:MxF R C l M):
 ∃l',zF N l (n:Int)=some (l',pI (vR R n 0 (M,[])).2)/\MxF R C l' (vR R n 0 (M,[])).1/\qcC B R C n (vR R n 0 (M,[])):=by
 have ok:qcC B R C 0 (M,[]):=⟨h1,EI.zero R M,hb⟩;obtain⟨l',e,g⟩:=qkh hN hR hC h4 hn N 0 n l (M,[]) (by omega) (by omega) ok h;refine⟨l',?_,g,by have:=ok.run n 0 (by omega);rwa [az]at this⟩;unfold zF;have e:qE N (n:Int) N l ([]:List Int) 0=some (l',pI (vR R n 0 (M,[])).2):=e;rw[e];rfl
end
end
def res (q:Rat):Str×Int:=if qqk q=true then([],4)else(T q,0)
section ops
variable {N:Nat} (hN:600000<N)
include hN
variable {p q:Rat} (hp:Sml p 600) (hq:Sml q 600) (cp:chk (T p)=0) (cq:chk (T q)=0)
include hp hq cp cq
end ops
theorem sml0 {k:Nat} (hk:0<k):Sml 0 k:=⟨(qaH hk).2 (by exact Nat.pos_of_ne_zero (by have:=Nat.pow_pos (n:=k) (show 0<10 by decide);omega)),(qaH hk).2 (Nat.one_lt_pow (by omega) (by decide))⟩
section ops
variable {N:Nat} (hN:600000<N)
include hN
variable {p p' q q':Rat} (hp:Sml p 60) (hp':Sml p' 60) (hq:Sml q 60) (hq':Sml q' 60) (cp:chk (T p)=0) (cp':chk (T p')=0) (cq:chk (T q)=0) (cq':chk (T q')=0) (hpp:p<=p') (hqq:q<=q')
include hp hp' hq hq' cp cp' cq cq' hpp hqq
end ops
theorem T_int (n:Int):T (n:Rat)=Lib.itoa n:=by
 unfold T;rw[dK,eL,ae rfl,YQ]
theorem qo2 {n:Nat}:Lib.decDigits n=[48]↔n=0:=by
 constructor
 ·intro h;exact qmh (h.trans (by rw[jI (by decide)];rfl))
 rintro rfl;rw[jI (by decide)];rfl
theorem qrX {n:Nat}:Lib.decDigits n=[49]↔n=1:=by
 constructor
 ·intro h;exact qmh (h.trans (by rw[jI (by decide)];rfl))
 rintro rfl;rw[jI (by decide)];rfl
theorem chk_T {q:Rat} (h:Sml q 600):chk (T q)=0:=by
 have n47:=no47 (qbO q.num.natAbs);have es:=qiP n47 q
 have et:(bdy (T q)).take (slA (bdy (T q)))=Lib.decDigits q.num.natAbs:=by
  rw[qnq,es,dj (ag _),bJ]
 have hd:=den_pos q
 have ed:slA (bdy (T q))<(bdy (T q)).length↔q.den≠1:=by
  rw[qnq,es,Yq];unfold tl;by_cases c:q.den=1
  ·rw[ae c];simp[c]
  rw[aa c];simp[c]
 have er:(bdy (T q)).drop (slA (bdy (T q))+1)=if q.den=1 then[]else Lib.decDigits q.den:=by
  rw[qnq,es];unfold tl;by_cases c:q.den=1
  ·rw[ae c,ae c,YQ,aA (by omega)]
  rw[aa c,aa c,db,aA (by omega),bn,show(Lib.decDigits q.num.natAbs).length+1-(Lib.decDigits q.num.natAbs).length=1 by omega];rfl
 have hok:okF (T q)=true:=by
  unfold okF;rw[et,qmM];refine ai ⟨qoV _,?_⟩;rintro⟨h1,h2⟩;have h1:=aK h1;have:=qo2.1 h2;omega
 have hbad:qiM (T q)=false:=by
  unfold qiM;refine ah ?_;rintro⟨h1,h2⟩;have c:=ed.1 h1;rw[er,aa c]at h2;exact h2 ⟨qoV _,λe=>by have:=qo2.1 e;omega,λe=>c (qrX.1 e)⟩
 unfold chk;rw[aa (by rw[hok,hbad];simp),et,er,aa,aa]
 ·rintro⟨h1,h2⟩;have c:=ed.1 h1;rw[aa c,qdd,qdd]at h2;exact h2 q.reduced
 have h1:=h.1;have h2:=h.2;split<;>simp<;>omega
theorem Num_T {N:Nat} (hN:100000<N) {q:Rat} (hl:(T q).length<=50000):qd4 N (T q)=some (Lib.itoa q.num):=by
 have hs:=qd1 (N:=N) (s:=T q) (by omega) (by omega);unfold qd4;rw[hs,ZB];by_cases c:q.den=1
 ·obtain⟨t1,t2⟩:=qgz q c;rw[y9 (by omega),ZB,t2,bJ,t1]
 obtain⟨t1,t2,t3⟩:=qhW q c;rw[y9 (by omega),ZB,t2]
theorem Den_T {N:Nat} (hN:100000<N) {q:Rat} (hl:(T q).length<=50000):qd7 N (T q)=some (Lib.decDigits q.den):=by
 have hs:=qd1 (N:=N) (s:=T q) (by omega) (by omega);unfold qd7;rw[hs,ZB];by_cases c:q.den=1
 ·obtain⟨t1,t2⟩:=qgz q c;rw[ae (by omega),c,jI (by decide)];rfl
 obtain⟨t1,t2,t3⟩:=qhW q c;rw[aa (by omega),qD (by omega),qaz (by omega),ZB,t3]
theorem qn7 {z:Int} (hl:(Lib.itoa z).length<=50000):qdP (Lib.itoa z)=some (Lib.decDigits z.natAbs):=by
 have hs:=qrW (z:Rat);rw[T_int,dK]at hs;unfold qdP;rw[hs,ZB];by_cases c:z<0
 ·have h1:=qaz (l:=(45:UInt8)::Lib.decDigits z.natAbs) (k:=1) (by simp);rw[ae c,ae (by decide),xz c,show(1:Int)=((1:Nat):Int)from rfl,h1];rfl
 rw[aa c,aa (by split<;>decide),vE (by omega)]
theorem qsp {N:Nat} (hN:600000<N) {s:Str} {d:Nat} (hd:0<d) (hd2:d<=1000): ∃b,qcO N s (d:Int)=some b/\(b=true-> ∃q:Rat,s=T q/\Sml q d/\chk (T q)=0):=by
 unfold qcO;rw[qo (n:=2*(d:Int)) (by omega) (by omega),qo (n:=2*(d:Int)+2) (by omega) (by omega)];by_cases c:(s.length:Int)<=2*(d:Int)+2
 ·rw[ae c,qjv hN (by omega),ZB];by_cases hc:chk s=0
  ·obtain⟨q,rfl,q1,q2⟩:=qpZ hc;have li:=qhP q.num;rw[ae hc,Num_T (by omega) (by omega),ZB,qn7 (by omega),ZB,Den_T (by omega) (by omega),ZB];by_cases e:(Lib.decDigits q.num.natAbs).length<=d
   ·rw[ae (by omega),ZB];exact⟨_,rfl,λh=>⟨q,rfl,⟨e,by have:=aK h;omega⟩,hc⟩⟩
   rw[aa (by omega),ZB];exact⟨_,rfl,λh=>by cases h⟩
  rw[aa hc,ZB];exact⟨_,rfl,λh=>by cases h⟩
 rw[aa c,ZB];exact⟨_,rfl,λh=>by cases h⟩
abbrev qa6:Str->Rat->Prop:=λs q=>s=T q
theorem RwG.ext {r r':List Str} {n:Nat} {v:Nat->Rat} (h:RwG qa6 n r v) (h':RwG qa6 n r' v):r=r':=by
 refine List.ext_getElem (by rw[h.1,h'.1]) λi h1 h2=>?_
 rw[h.2 i _ (Ya h1),h'.2 i _ (Ya h2)]
theorem RwG.nil {α:Type} {P:α->Rat->Prop} (v:Nat->Rat):RwG P 0 [] v:=⟨rfl,λj f h=>by cases h⟩
theorem RwG.snoc {α:Type} {P:α->Rat->Prop} {r:List α} {n:Nat} {v:Nat->Rat} (h:RwG P n r v) {x:α} (hx:P x (v n)):RwG P (n+1) (r++[x]) v:=by
 refine⟨by rw[Yq,h.1];rfl,λj f hf=>?_⟩;by_cases c:j<n
 ·rw[Yf (by rw[h.1];exact c)]at hf;exact h.2 j f hf
 have:=(Yb.1 hf).1;rw[Yq,h.1]at this
 have e:j=n:=by simp at this;omega
 subst e;rw[Yo (by rw[h.1];exact ag _),h.1,bR]at hf;rw[<-Ye hf];exact hx
theorem RwG.app {α:Type} {P:α->Rat->Prop} {r s:List α} {n m:Nat} {v w:Nat->Rat} (h:RwG P n r v) (k:RwG P m s w):RwG P (n+m) (r++s) (λj=>if j<n then v j else w (j-n)):=by
 refine⟨by rw[Yq,h.1,k.1],λj f hf=>?_⟩;dsimp only;by_cases c:j<n
 ·rw[Yf (by rw[h.1];exact c)]at hf;rw[ae c];exact h.2 j f hf
 rw[Yo (by rw[h.1];omega),h.1]at hf;rw[aa c];exact k.2 (j-n) f hf
theorem RwG.take {α:Type} {P:α->Rat->Prop} {r:List α} {n k:Nat} {v:Nat->Rat} (h:RwG P n r v) (hk:k<=n):RwG P k (r.take k) v:=by
 refine⟨by rw[Ym,h.1];omega,λj f hf=>?_⟩;rw[Yt]at hf;split at hf
 ·exact h.2 j f hf
 cases hf
theorem RwG.drop {α:Type} {P:α->Rat->Prop} {r:List α} {n k:Nat} {v:Nat->Rat} (h:RwG P n r v) (hk:k<=n):RwG P (n-k) (r.drop k) (λj=>v (k+j)):=by
 refine⟨by rw[YJ,h.1],λj f hf=>?_⟩;rw[YI]at hf;exact h.2 (k+j) f hf
noncomputable def qfF (s:Str):Rat:=open Classical in if h: ∃q,s=T q then Classical.choose h else 0
theorem qsv {s:Str} (h: ∃q,s=T q):s=T (qfF s):=by
 unfold qfF;rw[dif_pos h];exact Classical.choose_spec h
def qkP (l:List Str):Prop:= ∀s∈l,∃q,s=T q/\Sml q 4/\chk (T q)=0
section
variable {N:Nat} (hN:600000<N)
include hN
theorem qoI {l:List Str} (hl:l.length<=100): ∀(K i:Nat),i<=l.length->l.length<K+i-> ∃b:Bool,vF N l 4 K (i:Int)=some (if b=true then .inl ()else .inr false)/\(b=true-> ∀j,i<=j-> ∀s,l[j]? =some s-> ∃q,s=T q/\Sml q 4/\chk (T q)=0)
 |0,i,h,hK=>by omega
 |K+1,i,h,hK=>by
  unfold vF;by_cases c:i<l.length
  ·obtain⟨b,b1,b2⟩:=qsp hN (s:=l[i]) (d:=4) (by decide) (by decide);have b1:qcO N l[i] 4=some b:=b1;rw[ae (by omega),ql,Ya c,ZB,b1,ZB]
   cases b with
   |false=>exact⟨false,rfl,λe=>by cases e⟩
   |true=>
    rw[aa (by decide),qD (by omega)];obtain⟨r,e,g⟩:=qoI hl K (i+1) (by omega) (by omega);refine⟨r,e,λu j hj s hs=>?_⟩;by_cases d:j=i
    ·subst d;rw[Ya c]at hs;rw[<-Ye hs];exact b2 rfl
    exact g u j (by omega) s hs
  rw[aa (by omega)];refine⟨true,rfl,λu j hj s hs=>?_⟩;have:=(Yb.1 hs).1;omega
theorem qj9 (l:List Str): ∃b,xR N l 4 4=some b/\(b=true->l.length<=4/\qkP l):=by
 unfold xR;by_cases c:(l.length:Int)>4
 ·rw[ae c];exact⟨_,rfl,λh=>by cases h⟩
 rw[aa c];obtain⟨b,e,g⟩:=qoI hN (l:=l) (by omega) N 0 (aF _) (by omega);rw[show((0:Nat):Int)=0 from rfl]at e;rw[e,ZB]
 cases b with
 |true=>exact⟨_,rfl,λ_=>⟨by omega,λs hs=>by
  obtain⟨j,hj⟩:=List.getElem?_of_mem hs
  exact g rfl j (aF _) s hj⟩⟩
 |false=>exact⟨_,rfl,λh=>by cases h⟩
theorem qpr {m:List (List Str)} (hl:m.length<=100) {n:Nat} {r0:List Str} (h0:m[0]? =some r0) (hn:r0.length=n): ∀(K i:Nat),i<=m.length->m.length<K+i-> ∃b:Bool,jE N m 4 4 K (i:Int)=some (if b=true then .inl ()else .inr false)/\(b=true-> ∀j,i<=j-> ∀r,m[j]? =some r->r.length=n/\n<=4/\qkP r)
 |0,i,h,hK=>by omega
 |K+1,i,h,hK=>by
  unfold jE;by_cases c:i<m.length
  ·rw[ae (by omega),ql,Ya c,ZB,qau,h0,ZB];by_cases d:m[i].length=n
   ·obtain⟨b,b1,b2⟩:=qj9 hN m[i];rw[ai (by omega),aa (by decide),b1,ZB,ZB]
    cases b with
    |false=>exact⟨false,rfl,λe=>by cases e⟩
    |true=>
     rw[aa (by decide),qD (by omega)];obtain⟨r,e,g⟩:=qpr hl h0 hn K (i+1) (by omega) (by omega);refine⟨r,e,λu j hj s hs=>?_⟩;by_cases d':j=i
     ·subst d';rw[Ya c]at hs;rw[<-Ye hs];exact⟨d,by have:=(b2 rfl).1;omega,(b2 rfl).2⟩
     exact g u j (by omega) s hs
   rw[ah (by omega),ae (by decide),ZB,ae rfl];exact⟨false,rfl,λe=>by cases e⟩
  rw[aa (by omega)];refine⟨true,rfl,λu j hj s hs=>?_⟩;have:=(Yb.1 hs).1;omega
theorem qrp {m:List (List Str)} {n:Nat} {r0:List Str} (h0:m[0]? =some r0) (hn:r0.length=n): ∃b,qaB N m 4 4 4=some b/\(b=true->m.length<=4/\n<=4/\ ∀r∈m,r.length=n/\qkP r):=by
 unfold qaB;by_cases c:(m.length:Int)>4
 ·rw[ae c];exact⟨_,rfl,λh=>by cases h⟩
 rw[aa c];obtain⟨b,e,g⟩:=qpr hN (m:=m) (by omega) h0 hn N 0 (aF _) (by omega);rw[show((0:Nat):Int)=0 from rfl]at e;rw[e,ZB]
 cases b with
 |true=>exact⟨_,rfl,λ_=>⟨by omega,(g rfl 0 (ag _) r0 h0).2.1,λs hs=>by
  obtain⟨j,hj⟩:=List.getElem?_of_mem hs;have:=g rfl j (aF _) s hj
  exact⟨this.1,this.2.2⟩⟩⟩
 |false=>exact⟨_,rfl,λh=>by cases h⟩
def OkL (l:List Str):Prop:= ∀s∈l,s.length<=10000/\chk s=0
theorem qqn {l:List Str} (hl:l.length<=100) (h:OkL l): ∀(K i:Nat),i<=l.length->l.length<K+i->jU N l K (i:Int)=some (.inl ())
 |0,i,h1,hK=>by omega
 |K+1,i,h1,hK=>by
  unfold jU;by_cases c:i<l.length
  ·have g:=h _ (bq c);rw[ae (by omega),ql,Ya c,ZB,qjv hN g.1,g.2,ZB,aa (by decide),qD (by omega)];exact qqn hl h K (i+1) (by omega) (by omega)
  rw[aa (by omega)]
theorem qhR {l:List Str} (hl:l.length<=100) (h:OkL l):yz N l=some 0:=by
 have:=qqn hN hl h N 0 (aF _) (by omega);rw[show((0:Nat):Int)=0 from rfl]at this;unfold yz;rw[this];rfl
theorem qoh {l:List Str} (hl:l.length<=100) (h:OkL l): ∀(K i:Nat),i<=l.length->l.length<K+i->jF N l K (i:Int)=some (.inl ())
 |0,i,h1,hK=>by omega
 |K+1,i,h1,hK=>by
  unfold jF;by_cases c:i<l.length
  ·have g:=h _ (bq c);rw[ae (by omega),ql,Ya c,ZB,qnV hN g.1,g.2,ZB,aa (by decide),qD (by omega)];exact qoh hl h K (i+1) (by omega) (by omega)
  rw[aa (by omega)]
theorem qkd {l:List Str} (hl:l.length<=100) (h:OkL l):yL N l=some 0:=by
 have:=qoh hN hl h N 0 (aF _) (by omega);rw[show((0:Nat):Int)=0 from rfl]at this;unfold yL;rw[this];rfl
section
variable {m:List (List Str)} {n:Nat} (hm:0<m.length) (hm4:m.length<=4) (hn4:n<=4) (hr: ∀r∈m,r.length=n/\OkL r) {b:List Str} (hb:OkL b) (hbl:b.length<=100)
include hm hm4 hn4 hr hb hbl
omit hb hbl hn4 hN in
theorem row0: ∃r0,m[0]? =some r0/\r0.length=n:=⟨m[0],Ya hm,(hr _ (bq hm)).1⟩
theorem qoQ: ∀(K i:Nat),i<=m.length->m.length<K+i->zk N m K (i:Int)=some (.inl ())
 |0,i,h1,hK=>by omega
 |K+1,i,h1,hK=>by
  unfold zk;obtain⟨r0,e0,e1⟩:=row0 hm hm4 hr;by_cases c:i<m.length
  ·have g:=hr _ (bq c);rw[ae (by omega),ql,Ya c,ZB,qau,e0,ZB,ai (by omega),aa (by decide),qhR hN (by omega) g.2,ZB,aa (by decide),qD (by omega)];exact qoQ K (i+1) (by omega) (by omega)
  rw[aa (by omega)]
theorem qqD:yD N m b=some (if b.length=m.length then 0 else 2):=by
 obtain⟨r0,e0,e1⟩:=row0 hm hm4 hr;have:=qoQ hN hm hm4 hn4 hr hb hbl N 0 (aF _) (by omega);rw[show((0:Nat):Int)=0 from rfl]at this;unfold yD;rw[aa (by omega),aa (by omega),qau,e0,ZB,ZB,ah (by omega),aa (by decide),this];simp only[ZB];by_cases c:b.length=m.length
 ·rw[ai (by omega),aa (by decide),qhR hN hbl hb,ae c];rfl
 rw[ah (by omega),ae (by decide),aa c]
omit hb hbl in
theorem qoO: ∀(K i:Nat),i<=m.length->m.length<K+i->zf N m K (i:Int)=some (.inl ())
 |0,i,h1,hK=>by omega
 |K+1,i,h1,hK=>by
  unfold zf;obtain⟨r0,e0,e1⟩:=row0 hm hm4 hr;by_cases c:i<m.length
  ·have g:=hr _ (bq c);rw[ae (by omega),ql,Ya c,ZB,qau,e0,ZB,ai (by omega),qkd hN (by omega) g.2];unfold qN;rw[aa (by decide),ZB,ZB,qhG (by omega),ZB,aa (by decide),qD (by omega)];exact qoO K (i+1) (by omega) (by omega)
  rw[aa (by omega)]
theorem qmT (hl:b.length=m.length):za N m b=some 0:=by
 obtain⟨r0,e0,e1⟩:=row0 hm hm4 hr;have:=qoO hN hm hm4 hn4 hr N 0 (aF _) (by omega);rw[show((0:Nat):Int)=0 from rfl]at this;unfold za;rw[aa (by omega),aa (by omega),qau,e0,ZB,ZB,ah (by omega),aa (by decide),this];simp only[ZB];rw[ai (by omega),qkd hN hbl hb];unfold qN;rw[aa (by decide),ZB,ZB,qhG (by omega)];rfl
end
theorem qpm {r:List Str} {n:Nat} {v:Nat->Rat} (h:RwG qa6 n r v) (hn:n<=100) (hv: ∀j<n,Sml (v j) 9000): ∀(K i:Nat) (l:List qb),i<=n->n<K+i->RwF i l v-> ∃l',zS N r K l (i:Int)=some l'/\RwF n l' v
 |0,i,l,h1,hK,g=>by omega
 |K+1,i,l,h1,hK,g=>by
  unfold zS;by_cases c:i<n
  ·obtain⟨s,s1,s2⟩:=h.get c;obtain⟨f,f1,f2⟩:=qgp hN (hv i c);have s2:s=T (v i):=s2;have gl:=g.1;rw[ae (by have:=h.1;omega),ql,s1,ZB,s2,f1,ZB,xX (by simp;omega) (by simp;omega),ZB,qD (by omega)];exact qpm h hn hv K (i+1) _ (by omega) (by omega) (g.snoc f2)
  rw[aa (by have:=h.1;omega)]
  have e:i=n:=by omega
  subst e;exact⟨l,rfl,g⟩
theorem qkg {r:List Str} {n:Nat} {v:Nat->Rat} (h:RwG qa6 n r v) (hn:n<=100) (hv: ∀j<n,Sml (v j) 9000): ∃l,jR N r=some l/\RwF n l v:=by
 obtain⟨l,e,g⟩:=qpm hN h hn hv N 0 [] (aF _) (by omega) (RwG.nil v);rw[show((0:Nat):Int)=0 from rfl]at e;refine⟨l,?_,g⟩;unfold jR;rw[e];rfl
theorem cf_L {l:List qb} {n:Nat} {v:Nat->Rat} (h:RwF n l v) (hn:n<=100) (hv: ∀j<n,Sml (v j) 600): ∀(K i:Nat),i<=n->n<K+i->kr N l K (i:Int)=some (.inl ())
 |0,i,h1,hK=>by omega
 |K+1,i,h1,hK=>by
  unfold kr;by_cases c:i<n
  ·obtain⟨f,f1,f2⟩:=h.get c;have fq:qax (v i) 3900:=(qfi (n:=39) (hv i c) (by decide) (by decide)).mono (by decide);rw[ae (by have:=h.1;omega),ql,f1,ZB,qpY hN f2 fq,qp9 (hv i c),ZB,aa (by decide),qD (by omega)];exact cf_L h hn hv K (i+1) (by omega) (by omega)
  rw[aa (by have:=h.1;omega)]
theorem tx_L {l:List qb} {n:Nat} {v:Nat->Rat} (h:RwF n l v) (hn:n<=100) (hv: ∀j<n,Sml (v j) 600): ∀(K i:Nat) (o:List Str),i<=n->n<K+i->o.length=n->(∀(j:Nat) s,j<i->o[j]? =some s->s=T (v j))-> ∃o',qak N l K o (i:Int)=some o'/\RwG qa6 n o' v
 |0,i,o,h1,hK,_,_=>by omega
 |K+1,i,o,h1,hK,ol,og=>by
  unfold qak;by_cases c:i<n
  ·obtain⟨f,f1,f2⟩:=h.get c;have fq:qax (v i) 3900:=(qfi (n:=39) (hv i c) (by decide) (by decide)).mono (by decide)
   have hio:i<o.length:=by omega
   rw[ae (by have:=h.1;omega),ql,f1,ZB,qrm hN f2 fq,ZB,ql,Ya hio,ZB,vw hio,ZB,qD (by omega)]
   refine tx_L h hn hv K (i+1) _ (by omega) (by omega) (by rw[Yk];exact ol) λj s hj hs=>?_
   by_cases e:j=i
   ·subst e;rw[List.getElem?_set_self hio]at hs;exact(Ye hs).symm
   rw[Yw (λq=>e q.symm)]at hs;exact og j s (by omega) hs
  rw[aa (by have:=h.1;omega)];refine⟨o,rfl,ol,λj s hs=>og j s ?_ hs⟩;have:=(Yb.1 hs).1;omega
theorem qkS {l:List qb} {n:Nat} {v:Nat->Rat} (h:RwF n l v) (hn:n<=100) (hv: ∀j<n,Sml (v j) 600): ∃y,qa9 N l=some (y,0)/\RwG qa6 n y v:=by
 have e1:=cf_L hN h hn hv N 0 (aF _) (by omega);have hl:=h.1
 have mk0:mk 16 (l.length:Int) ([]:Str)=some (List.replicate n []):=by
  unfold mk;rw[ae (by omega),hl];rfl
 obtain⟨o,e2,g⟩:=tx_L hN h hn hv N 0 (List.replicate n []) (aF _) (by omega) bX (λj s hj=>by omega);rw[show((0:Nat):Int)=0 from rfl]at e1 e2;refine⟨o,?_,g⟩;unfold qa9 jK vX qfr;rw[e1];simp only[ZB];rw[aa (by decide),mk0,ZB,e2];rfl
end
theorem MxG.snoc {α:Type} {P:α->Rat->Prop} {i C:Nat} {l:List (List α)} {M:Mx} (h:MxG P i C l M) {r:List α} (hr:RwG P C r (M i)):MxG P (i+1) C (l++[r]) M:=by
 refine⟨by rw[Yq,h.1];rfl,λj f hf=>?_⟩;by_cases c:j<i
 ·rw[Yf (by rw[h.1];exact c)]at hf;exact h.2 j f hf
 have:=(Yb.1 hf).1;rw[Yq,h.1]at this
 have e:j=i:=by simp at this;omega
 subst e;rw[Yo (by rw[h.1];exact ag _),h.1,bR]at hf;rw[<-Ye hf];exact hr
theorem MxG.nil {α:Type} {P:α->Rat->Prop} {C:Nat} (M:Mx):MxG P 0 C [] M:=⟨rfl,λj f h=>by cases h⟩
abbrev f0:qb:=⟨⟨0,[]⟩,⟨1,[]⟩⟩
abbrev f1:qb:=⟨⟨1,[]⟩,⟨1,[]⟩⟩
theorem qmb:qgC 0=some f0:=rfl
theorem qpF:qgC 1=some f1:=rfl
theorem qrF (z:Int) (h:IsZ ⟨z,[]⟩ z): ∃f,qgC z=some f/\IsF f (z:Rat):=by
 obtain⟨f,e,g⟩:=qiw h;refine⟨f,?_,g⟩;unfold qgC qcx;rw[ZB,e];rfl
theorem isF0:IsF f0 0:=by
 obtain⟨f,e,g⟩:=qrF 0 (.inl ⟨rfl,rfl,by decide⟩);rw[qmb]at e;rw[<-Ye e]at g;exact g
theorem isF1:IsF f1 1:=by
 obtain⟨f,e,g⟩:=qrF 1 (.inl ⟨rfl,rfl,by decide⟩);rw[qpF]at e;rw[<-Ye e]at g;exact g
theorem qop {N:Nat} (hN:600000<N) {k:Nat} (hk:k<=5):vz N 0 [] 1 [] (k:Int)=some (List.replicate k f0):=by
 obtain⟨K,rfl⟩: ∃K,N=K+10:=⟨N-10,by omega⟩;rcases(show k=0\/k=1\/k=2\/k=3\/k=4\/k=5 by omega)with rfl|rfl|rfl|rfl|rfl|rfl<;>rfl
theorem qqG {k:Int} (h1:0<k) (h2:k<=1000):yO k=some (some []):=by
 have w:w64 (k-w64 (0-0))=k:=by rw[show w64 (0-0)=0 from rfl,qo (by omega) (by omega)];omega
 have c0:cut ([]:List qb) 0 0=some []:=rfl;unfold yO;rw[aa (by omega),ZB,w,ae h1,c0,ZB];unfold qnt;rw[ae ⟨h1,by omega,by omega⟩,ZB]
 have:cut (List.replicate k.toNat (⟨⟨0,[]⟩,⟨0,[]⟩⟩:qb)) 0 0=some []:=by
  have:=y9 (l:=List.replicate k.toNat (⟨⟨0,[]⟩,⟨0,[]⟩⟩:qb)) (k:=0) (aF _);rw[bh]at this;exact this
 rw[this];rfl
theorem qsf {N:Nat} (hN:600000<N) {a c:List qb} {f:qb} (ha:a.length<=100) (hc:c.length<=100):vC N a f.Num.s f.Num.w f.Den.s f.Den.w c=some (some (a++[f]++c)):=by
 obtain⟨K,rfl⟩: ∃K,N=K+10:=⟨N-10,by omega⟩;have i0:idx ([a,([(⟨(⟨f.Num.s,f.Num.w⟩:qm),(⟨f.Den.s,f.Den.w⟩:qm)⟩:qb)]:List qb),c]:List (List qb)) 0=some a:=rfl;have i1:idx ([a,([(⟨(⟨f.Num.s,f.Num.w⟩:qm),(⟨f.Den.s,f.Den.w⟩:qm)⟩:qb)]:List qb),c]:List (List qb)) 1=some [f]:=rfl;have i2:idx ([a,([(⟨(⟨f.Num.s,f.Num.w⟩:qm),(⟨f.Den.s,f.Den.w⟩:qm)⟩:qb)]:List qb),c]:List (List qb)) 2=some c:=rfl
 have w0:w64 ((0:Int)+(a.length:Int))=(a.length:Int):=by rw[qo (by omega) (by omega)];omega
 have w1:w64 ((a.length:Int)+(([f]:List qb).length:Int))=(a.length:Int)+1:=by rw[qo (by simp;omega) (by simp;omega)];rfl
 have w2:w64 ((a.length:Int)+1+(c.length:Int))=(a.length:Int)+1+(c.length:Int):=qo (by omega) (by omega)
 have e0:qH a f.Num.s f.Num.w f.Den.s f.Den.w c (K+10) 0 0=some ((a.length:Int)+1+(c.length:Int)):=by
  unfold qH;rw[ae (by decide),i0,ZB,w0,aa (by omega),ZB,show w64 (0+1)=1 from rfl];unfold qH;rw[ae (by decide),i1,ZB,w1,aa (by omega),ZB,show w64 (1+1)=2 from rfl];unfold qH;rw[ae (by decide),i2,ZB,w2,aa (by omega),ZB,show w64 (2+1)=3 from rfl];unfold qH;rw[aa (by decide)]
 have e1:qG a f.Num.s f.Num.w f.Den.s f.Den.w c (K+10) (some []) 0=some (some (a++[f]++c)):=by
  unfold qG;rw[ae (by decide),i0,ZB];dsimp only;rw[xX (by simp;omega) (by simp;omega),ZB,ZB,show w64 (0+1)=1 from rfl,bn];unfold qG;rw[ae (by decide),i1,ZB];dsimp only;rw[xX (by simp;omega) (by simp;omega),ZB,ZB,show w64 (1+1)=2 from rfl];unfold qG;rw[ae (by decide),i2,ZB];dsimp only;rw[xX (by simp;omega) (by simp;omega),ZB,ZB,show w64 (2+1)=3 from rfl];unfold qG;rw[aa (by decide)]
 unfold vC;rw[e0,ZB,qqG (by omega) (by omega),ZB,e1];rfl
def qaQ (n:Nat) (A:Mx) (b:Nat->Rat):Mx:=λi j=>if j<n then A i j else if j=n then b i else if j=n+1+i then 1 else 0
def jl (n:Nat) (A:Mx) (b:Nat->Rat):Mx:=λi j=>if j<n then A i j else b i
structure qpG (N R n:Nat) (m:List (List Str)) (b:List Str) (A:Mx) (v:Nat->Rat):Prop where
 R0:0<R
 R4:R<=4
 n4:n<=4
 mm:MxG qa6 R n m A
 bb:RwG qa6 R b v
 sA: ∀i<R,∀j<n,Sml (A i j) 9000
 sb: ∀i<R,Sml (v i) 9000
 ck:za N m b=some 0
section
variable {N:Nat} (hN:600000<N) {R n:Nat} {m:List (List Str)} {b:List Str} {A:Mx} {v:Nat->Rat} (E:qpG N R n m b A v)
include hN E
theorem qjy: ∀(K i:Nat) (l:List (List qb)),i<=R->R<K+i->MxF i (n+1+R) l (qaQ n A v)-> ∃l',vG N m b K l (i:Int)=some l'/\MxF R (n+1+R) l' (qaQ n A v)
 |0,i,l,h1,h2,h=>by omega
 |K+1,i,l,h1,h2,h=>by
  have ml:=E.mm.1;have R4:=E.R4;have n4:=E.n4;unfold vG;by_cases hi:i<R
  ·obtain⟨r,r1,r2⟩:=E.mm.get hi;obtain⟨s,s1,s2⟩:=E.bb.get hi;have s2:s=T (v i):=s2;obtain⟨l1,e1,g1⟩:=qkg hN r2 (by omega) (E.sA i hi);obtain⟨f,e2,g2⟩:=qgp hN (E.sb i hi)
   have lr:i<(List.replicate R f0).length:=by rw[bX];exact hi
   have own:RwF R ((List.replicate R f0).set i f1) (λk=>if k=i then 1 else 0):=by
    have z:RwF R (List.replicate R f0) (λ_=>0):=⟨bX,λj g hg=>by
     have:=Yb.1 hg;obtain⟨q,e⟩:=this;rw[dJ]at e
     rw[<-e];exact isF0⟩
    exact z.put isF1 i
   have x0:(List.replicate R f0)[i]? =some f0:=by rw[Ya lr,dJ]
   have row:RwF (n+1+R) (l1++[f]++(List.replicate R f0).set i f1) (qaQ n A v i):=by
    refine((RwG.app (P:=IsF) (n:=n) (m:=1) (s:=[f]) (w:=λ_=>v i) g1 ⟨rfl,λj g hg=>?_⟩).app own).congr λj hj=>?_
    ·cases j with
     |zero=>rw[<-Ye hg];exact g2
     |succ j=>cases hg
    unfold qaQ;by_cases c1:j<n
    ·rw[ae (by omega),ae c1,ae c1]
    by_cases c2:j=n
    ·rw[ae (by omega),aa c1,aa c1,ae c2]
    rw[aa (by omega),aa c1,aa c2];by_cases c3:j=n+1+i
    ·rw[ae (by omega),ae c3]
    rw[aa (by omega),aa c3]
   have rl:=row.1;rw[ae (by omega),ql,r1,ZB,qmb,ZB];dsimp only;rw[ml,qop hN (show R<=5 by omega),ZB,qpF,ZB,ql,x0,ZB,vw lr,ZB,e1,ZB,ql,s1,ZB,s2,e2,ZB,qsf hN (by rw[g1.1];omega) (by rw[own.1];omega),ZB];dsimp only;have hl:=h.1;rw[xX (by simp only[bw];omega) (by simp only[bw];omega),ZB,ae (by rw[rl];omega),ZB,ZB,qD (by omega)];exact qjy K (i+1) _ (by omega) (by omega) (h.snoc row)
  rw[aa (by omega)]
  have e:i=R:=by omega
  subst e;exact⟨l,rfl,h⟩
theorem qkU: ∀(K i:Nat) (l:List (List qb)),i<=R->R<K+i->MxF i (n+1) l (jl n A v)-> ∃l',yK N m b K l (i:Int)=some l'/\MxF R (n+1) l' (jl n A v)
 |0,i,l,h1,h2,h=>by omega
 |K+1,i,l,h1,h2,h=>by
  have ml:=E.mm.1;have R4:=E.R4;have n4:=E.n4;unfold yK;by_cases hi:i<R
  ·obtain⟨r,r1,r2⟩:=E.mm.get hi;obtain⟨s,s1,s2⟩:=E.bb.get hi;have s2:s=T (v i):=s2;obtain⟨l1,e1,g1⟩:=qkg hN r2 (by omega) (E.sA i hi);obtain⟨f,e2,g2⟩:=qgp hN (E.sb i hi)
   have row:RwF (n+1) (l1++[f]) (jl n A v i):=by
    refine(RwG.app (P:=IsF) (n:=n) (m:=1) (s:=[f]) (w:=λ_=>v i) g1 ⟨rfl,λj g hg=>?_⟩).congr λj hj=>rfl
    cases j with
    |zero=>rw[<-Ye hg];exact g2
    |succ j=>cases hg
   have hl:=h.1;have h11:=g1.1;rw[ae (by omega),ql,r1,ZB,e1,ZB,ql,s1,ZB,s2,e2,ZB,xX (by simp;omega) (by simp;omega),ZB,xX (by simp;omega) (by simp;omega),ZB,qD (by omega)];exact qkU K (i+1) _ (by omega) (by omega) (h.snoc row)
  rw[aa (by omega)]
  have e:i=R:=by omega
  subst e;exact⟨l,rfl,h⟩
end
section
variable {N:Nat} (hN:600000<N) {R n:Nat} (R4:R<=4) (n4:n<=4)
include hN R4 n4
theorem qjS {l:List (List qb)} {M:Mx} (hM:MxF R (n+1+R) l M) {x:List Str} (hx:x.length=n) {d:Nat} (hd:d<=R) (hs: ∀i,d<=i->i<R->M i n≠0-> ∀j<R,Sml (M i (n+1+j)) 600): ∀(K k:Nat),d+k<=R->R<K+(d+k)->
 ((∀i,d+k<=i->i<R->M i n=0)/\jb N x l d K (k:Int)=some (.inl ()))\/ ∃i y,d+k<=i/\i<R/\M i n≠0/\jb N x l d K (k:Int)=some (.inr (y,0))/\RwG qa6 R y (λj=>M i (n+1+j))
 |0,k,h1,h2=>by omega
 |K+1,k,h1,h2=>by
  unfold jb;have hl:=hM.1;by_cases c:d+k<R
  ·obtain⟨r,r1,r2⟩:=hM.get c;obtain⟨f,e1,e2⟩:=r2.get (show n<n+1+R by omega)
   have g:(l.drop d)[k]? =some r:=by rw[YI];exact r1
   rw[ae (by rw[YJ];omega),ql,g,ZB,hx,ql,e1,ZB,qg1 e2,ZB];by_cases z:M (d+k) n=0
   ·rw[ai ((qck _).2 z),aa (by decide),qD (by omega)];rcases qjS hM hx hd hs K (k+1) (by omega) (by omega)with⟨a,b⟩|⟨i,y,a1,a2,a3,a4,a5⟩
    ·refine .inl ⟨λi h3 h4=>?_,b⟩;by_cases e:i=d+k
     ·rw[e];exact z
     exact a i (by omega) h4
    exact .inr ⟨i,y,by omega,a2,a3,a4,a5⟩
   have rl:=r2.1
   have ct:cut r (w64 ((n:Int)+1)) (r.length:Int)=some (r.drop (n+1)):=by
    rw[qD (by omega)];exact qaz (by omega)
   have rd:=r2.drop (k:=n+1) (by omega);rw[show n+1+R-(n+1)=R by omega]at rd;obtain⟨y,y1,y2⟩:=qkS hN rd (by omega) (hs (d+k) (by omega) c z);rw[ah (λq=>z ((qck _).1 q)),ae (by decide),ct,ZB,y1,ZB];exact .inr ⟨d+k,y,ag _,c,z,rfl,y2⟩
  rw[aa (by rw[YJ];omega)];exact .inl ⟨λi h3 h4=>by omega,rfl⟩
theorem qia {l:List (List qb)} {M:Mx} (hM:MxF R (n+1) l M) {x:List Str} (hx:x.length=n) (hn:n<=R): ∀(K i:Nat) (o:List qb),i<=R->R<K+i->RwF (min i n) o (λq=>M q n)->(∀q,n<=q->q<i->M q n=0)->
 ((∃q,n<=q/\q<R/\M q n≠0)/\j6 x l K o (i:Int)=some (.inr ([],14)))\/((∀q,n<=q->q<R->M q n=0)/\ ∃o',j6 x l K o (i:Int)=some (.inl o')/\RwF n o' (λq=>M q n))
 |0,i,o,h1,h2,h3,h4=>by omega
 |K+1,i,o,h1,h2,h3,h4=>by
  unfold j6;have hl:=hM.1;have ol:=h3.1;by_cases c:i<R
  ·obtain⟨r,r1,r2⟩:=hM.get c;obtain⟨f,e1,e2⟩:=r2.get (show n<n+1 by omega);rw[ae (by omega),ql,r1,ZB,hx];by_cases c2:i<n
   ·rw[ae (by omega),ql,e1,ZB,xX (by simp;omega) (by simp;omega),ZB,ZB];dsimp only;rw[qD (by omega)];rw[aP (by omega)]at h3;refine qia hM hx hn K (i+1) _ (by omega) (by omega) ?_ (λq q1 q2=>by omega);rw[aP (by omega)];exact h3.snoc e2
   rw[aa (by omega),ql,e1,ZB,qg1 e2,ZB];by_cases z:M i n=0
   ·rw[ai ((qck _).2 z),aa (by decide),ZB];dsimp only;rw[qD (by omega)];refine qia hM hx hn K (i+1) o (by omega) (by omega) ?_ (λq q1 q2=>?_)
    ·rw[Nat.min_eq_right (by omega)]at h3⊢;exact h3
    by_cases e:q=i
    ·rw[e];exact z
    exact h4 q q1 (by omega)
   rw[ah (λq=>z ((qck _).1 q)),ae (by decide),ZB];exact .inl ⟨⟨i,by omega,c,z⟩,rfl⟩
  rw[aa (by omega)]
  have e:i=R:=by omega
  subst e;rw[Nat.min_eq_right hn]at h3;exact .inr ⟨h4,o,rfl,h3⟩
end
section
variable {N:Nat} (hN:600000<N) {R n:Nat} {m:List (List Str)} {b:List Str} {A:Mx} {v:Nat->Rat} (E:qpG N R n m b A v) {B:Int} (h4:zB (bdE B 4) 81) (hB:1<=B)
include hN E h4 hB
theorem qhh (hb: ∀i<R,RoB B (n+1+R) (qaQ n A v i)) (hs: ∀i,(vR R n 0 (qaQ n A v,[])).2.length<=i->i<R->(vR R n 0 (qaQ n A v,[])).1 i n≠0-> ∀j<R,Sml ((vR R n 0 (qaQ n A v,[])).1 i (n+1+j)) 600):
 ((∀i,(vR R n 0 (qaQ n A v,[])).2.length<=i->i<R->(vR R n 0 (qaQ n A v,[])).1 i n=0)/\jP N m b=some ([],7))\/ ∃i y,(vR R n 0 (qaQ n A v,[])).2.length<=i/\i<R/\(vR R n 0 (qaQ n A v,[])).1 i n≠0/\jP N m b=some (y,0)/\RwG qa6 R y (λj=>(vR R n 0 (qaQ n A v,[])).1 i (n+1+j)):=by
 have R4:=E.R4;have n4:=E.n4;obtain⟨r0,m0,g0⟩:=E.mm.get E.R0;obtain⟨l,e1,g1⟩:=qjy hN E N 0 [] (aF _) (by omega) (MxG.nil _);obtain⟨l',e2,g2,ok⟩:=qnj hN R4 (show n+1+R<=100 by omega) h4 (show n<=n+1+R by omega) hB hb g1;have lr:=ok.ei.lr;have pl:(pI (vR R n 0 (qaQ n A v,[])).2).length=(vR R n 0 (qaQ n A v,[])).2.length:=bo ..;rw[show((0:Nat):Int)=0 from rfl]at e1;have key:=qjS hN R4 n4 g2 g0.1 lr hs N 0 (by omega) (by omega);rw[show((0:Nat):Int)=0 from rfl,aY]at key
 have go: ∀o:Unit⊕(List Str×Int),jb N r0 l' (vR R n 0 (qaQ n A v,[])).2.length N 0=some o->jP N m b=some (match o with| .inl ()=>([],7)| .inr q=>q):=λo ho=>by
  unfold jP;rw[E.ck,ZB,aa (by decide),qau,m0,ZB,e1,ZB,g0.1,e2,ZB];dsimp only;rw[ae (by rw[g1.1,g2.1]),ZB,pl,qse (by rw[g2.1];exact lr),ZB,ho,ZB];cases o<;>rfl
 rcases key with⟨a,b⟩|⟨i,y,a1,a2,a3,a4,a5⟩
 ·exact .inl ⟨a,go _ b⟩
 exact .inr ⟨i,y,a1,a2,a3,go _ a4,a5⟩
theorem qiU (hb: ∀i<R,RoB B (n+1) (jl n A v i)) (hs:(vR R n 0 (jl n A v,[])).2.length=n->(∀q,n<=q->q<R->(vR R n 0 (jl n A v,[])).1 q n=0)-> ∀i<n,Sml ((vR R n 0 (jl n A v,[])).1 i n) 600):
 vP N m b=some ([],14)\/((vR R n 0 (jl n A v,[])).2.length=n/\n<=R/\(∀q,n<=q->q<R->(vR R n 0 (jl n A v,[])).1 q n=0)/\ ∃z,vP N m b=some (z,0)/\RwG qa6 n z (λi=>(vR R n 0 (jl n A v,[])).1 i n)):=by
 have R4:=E.R4;have n4:=E.n4;obtain⟨r0,m0,g0⟩:=E.mm.get E.R0;obtain⟨l,e1,g1⟩:=qkU hN E N 0 [] (aF _) (by omega) (MxG.nil _);obtain⟨l',e2,g2,ok⟩:=qnj hN R4 (show n+1<=100 by omega) h4 (show n<=n+1 by omega) hB hb g1;have lr:=ok.ei.lr;have le:=ok.ei.le;have pl:(pI (vR R n 0 (jl n A v,[])).2).length=(vR R n 0 (jl n A v,[])).2.length:=bo ..;rw[show((0:Nat):Int)=0 from rfl]at e1;unfold vP;rw[E.ck,ZB,aa (by decide),qau,m0,ZB,e1,ZB,g0.1,e2,ZB];dsimp only;rw[ae (by rw[g1.1,g2.1]),ZB,pl];by_cases c:(vR R n 0 (jl n A v,[])).2.length<n
 ·rw[ae (by omega)];exact .inl rfl
 rw[aa (by omega)]
 have hd:(vR R n 0 (jl n A v,[])).2.length=n:=by omega
 have key:=qia hN R4 n4 g2 g0.1 (by omega) N 0 [] (aF _) (by omega) (by rw[Nat.zero_min];exact RwG.nil _) (λq q1 q2=>by omega);rw[show((0:Nat):Int)=0 from rfl]at key;rcases key with⟨_,k⟩|⟨k1,o,k2,k3⟩
 ·rw[k];exact .inl rfl
 obtain⟨z,z1,z2⟩:=qkS hN k3 (by omega) (hs hd k1);rw[k2];refine .inr ⟨hd,by omega,k1,z,?_,z2⟩;dsimp only[ZB];rw[z1];rfl
end
theorem qjx {z:Int} {m n:Nat} (h:zB z m) (hn:m<=n):zB z n:=dA h (xe (by decide) hn)
theorem qps {p q:Rat} {n m:Nat} (hn:0<n) (hm:0<m) (hp:Sml p (9*n)) (hq:Sml q (9*m)):Sml (p+q) (9*(n+m+1)):=by
 rw[qdi];have a:=qdx hp (by omega) (ag _);have b:=qdA hp (by omega) (ag _);have c:=qdx hq (by omega) (ag _);have d:=qdA hq (by omega) (ag _);have e:=qaC c b;rw[Nat.add_comm m n]at e;obtain⟨f,g⟩:=qeM (qdl p q) (qlL (qaC a d) e) (qjx (qaC b d) (Nat.le_succ _));exact qh4 f g (by omega)
theorem T0':([48]:Str)=T 0:=T0.symm
theorem qhU {u:Nat->Rat} {k:Nat} (hk:0<k): ∀(n:Nat),(∀j<n,Sml (u j) (9*k))->Sml (qV n u) (9*(1+n*(k+1)))
 |0,h=>by
  rw[bf];exact sml0 (by decide)
 |n+1,h=>by
  have:=qps (by omega) hk (qhU hk n λj hj=>h j (by omega)) (h n (by omega));rw[show 1+n*(k+1)+k+1=1+(n+1)*(k+1)by rw[dI];omega]at this;exact this
section
variable {N:Nat} (hN:600000<N)
include hN
theorem qp3 {n:Nat} (hn:n<=4) {a b:List Str} {u w:Nat->Rat} (ha:RwG qa6 n a u) (hb:RwG qa6 n b w) (su: ∀j<n,Sml (u j) 603) (sw: ∀j<n,Sml (w j) 603): ∀(K i:Nat),i<=n->n<K+i->vD N a b K (T (qV i λj=>u j*w j)) (i:Int)=some (T (qV n λj=>u j*w j))
 |0,i,h1,h2=>by omega
 |K+1,i,h1,h2=>by
  unfold vD;have al:=ha.1;by_cases c:i<n
  ·obtain⟨s,s1,s2⟩:=ha.get c;obtain⟨t,t1,t2⟩:=hb.get c;have s2:s=T (u i):=s2;have t2:t=T (w i):=t2
   have pr: ∀j<n,Sml (u j*w j) (9*134):=λj hj=>qkB (n:=67) (by decide) (su j hj) (sw j hj)
   have sm:=qhU (k:=134) (by decide) i λj hj=>pr j (by omega)
   rw[ae (by omega),ql,s1,ZB,ql,t1,ZB,s2,t2,qnz hN (k:=603) (by decide) (by decide) (su i c) (sw i c),ZB,
    qmU hN (k:=4000) (by decide) (by decide) (sm.mono (by have:i*135<=3*135:=aN _ (by omega);omega)) ((pr i c).mono (by decide)),ZB,qD (by omega)]
   exact qp3 hn ha hb su sw K (i+1) (by omega) (by omega)
  rw[aa (by omega)]
  have e:i=n:=by omega
  rw[e]
theorem qkn {n:Nat} (hn:n<=4) {a b:List Str} {u w:Nat->Rat} (ha:RwG qa6 n a u) (hb:RwG qa6 n b w) (su: ∀j<n,Sml (u j) 603) (sw: ∀j<n,Sml (w j) 603):xL N a b=some (T (qV n λj=>u j*w j)):=by
 have:=qp3 hN hn ha hb su sw N 0 (aF _) (by omega);unfold xL;rw[T0',show(T 0:Str)=T (qV 0 λj=>u j*w j)from rfl];rw[show((0:Nat):Int)=0 from rfl]at this;rw[this];rfl
omit hN in
theorem qrC (q:Rat):qbb (T q)=some (decide (q=0)):=by
 unfold qbb;by_cases h:q=0
 ·rw[ai h,qkF.2 h];rfl
 rw[ah h];congr 1;rw[beq_eq_false_iff_ne]
 exact λe=>h (qkF.1 e)
section
variable {R n:Nat} (R0:0<R) (R4:R<=4) (n4:n<=4) {m:List (List Str)} {A:Mx} (hm:MxG qa6 R n m A) (sA: ∀i<R,∀j<n,Sml (A i j) 603) {y:List Str} {w:Nat->Rat} (hy:RwG qa6 R y w) (sy: ∀i<R,Sml (w i) 603)
include R0 R4 n4 hm sA hy sy
theorem qmC {c:Nat} (hc:c<n): ∀(K i:Nat),i<=R->R<K+i->vN N m y (c:Int) K (T (qV i λr=>w r*A r c)) (i:Int)=some (T (qV R λr=>w r*A r c))
 |0,i,h1,h2=>by omega
 |K+1,i,h1,h2=>by
  unfold vN;have ml:=hm.1;by_cases hi:i<R
  ·obtain⟨r,r1,r2⟩:=hm.get hi;obtain⟨s,s1,s2⟩:=r2.get hc;obtain⟨t,t1,t2⟩:=hy.get hi;have s2:s=T (A i c):=s2;have t2:t=T (w i):=t2
   have pr: ∀j<R,Sml (w j*A j c) (9*134):=λj hj=>qkB (n:=67) (by decide) (sy j hj) (sA j hj c hc)
   have sm:=qhU (k:=134) (by decide) i λj hj=>pr j (by omega)
   rw[ae (by omega),ql,t1,ZB,ql,r1,ZB,ql,s1,ZB,s2,t2,qnz hN (k:=603) (by decide) (by decide) (sy i hi) (sA i hi c hc),ZB,
    qmU hN (k:=4000) (by decide) (by decide) (sm.mono (by have:i*135<=3*135:=aN _ (by omega);omega)) ((pr i hi).mono (by decide)),ZB,qD (by omega)]
   exact qmC hc K (i+1) (by omega) (by omega)
  rw[aa (by omega)]
  have e:i=R:=by omega
  rw[e]
theorem qnf (h0: ∀c<n,qV R (λr=>w r*A r c)=0): ∀(K c:Nat),c<=n->n<K+c->vH N m y K (c:Int)=some (.inl ())
 |0,c,h1,h2=>by omega
 |K+1,c,h1,h2=>by
  unfold vH;obtain⟨r,r1,r2⟩:=hm.get R0;have rl:=r2.1;rw[qau,r1,ZB];by_cases hc:c<n
  ·have e:=qmC hN R0 R4 n4 hm sA hy sy hc N 0 (aF _) (by omega);rw[show((0:Nat):Int)=0 from rfl,show(T (qV 0 λr=>w r*A r c):Str)=[48]from T0,h0 c hc]at e;rw[ae (by omega),e,ZB,qrC,ZB,ai rfl,aa (by decide),qD (by omega)];exact qnf h0 K (c+1) (by omega) (by omega)
  rw[aa (by omega)]
theorem qqM {b:List Str} {v:Nat->Rat} (hb:RwG qa6 R b v) (sv: ∀i<R,Sml (v i) 603) (h0: ∀c<n,qV R (λr=>w r*A r c)=0) (h1:qV R (λr=>w r*v r)≠0):qbn N m b y=some true:=by
 have e:=qnf hN R0 R4 n4 hm sA hy sy h0 N 0 (aF _) (by omega);rw[show((0:Nat):Int)=0 from rfl]at e;have p:=qkn hN R4 hb hy sv sy
 have c:qV R (λj=>v j*w j)=qV R λr=>w r*v r:=zu R λj _=>Rat.mul_comm _ _
 unfold qbn;rw[e];simp only[ZB];rw[p,ZB,qrC,ZB,c,ah h1];rfl
end
def fS:Nat->Nat
 |0=>39+39
 |i+1=>fS i+fS i+1
omit hN in
theorem qrS (i:Nat):39+39<=fS i:=by
 induction i with
 |zero=>exact ag _
 |succ i ih=>unfold fS;omega
omit hN in
theorem qno {u:Nat->Rat}: ∀(n:Nat),(∀j<n,qax (u j) (39+39))->qax (qV n u) (fS n)
 |0,h=>by
  show qax 0 (39+39);exact(qfi (k:=9) (n:=1) (sml0 (by decide)) (by decide) (by decide)).mono (by decide)
 |n+1,h=>qqm (qno n λj hj=>h j (by omega)) ((h n (by omega)).mono (qrS n))
section
variable {R n:Nat} {m:List (List Str)} {b:List Str} {A:Mx} {v:Nat->Rat} (E:qpG N R n m b A v) (sA: ∀i<R,∀j<n,Sml (A i j) 603) (sv: ∀i<R,Sml (v i) 603) {y:List Str} {w:Nat->Rat} (hy:RwG qa6 R y w) (sy: ∀i<R,Sml (w i) 603)
include E sA sv hy sy
omit hy in
theorem qot {i:Nat} (hi:i<R) {f:qb} (hf:IsF f (w i)) {r:List qb} (hr:RwF (n+1) r (jl n A v i)): ∀(K k:Nat) (l:List qb),k<=n+1->n+1<K+k->RwF (n+1) l (λj=>if j<k then qV (i+1) (λq=>w q*jl n A v q j)else qV i (λq=>w q*jl n A v q j))-> ∃l',zL N f r K l (k:Int)=some l'/\RwF (n+1) l' (λj=>qV (i+1) (λq=>w q*jl n A v q j))
 |0,k,l,h1,h2,h=>by omega
 |K+1,k,l,h1,h2,h=>by
  unfold zL;have R4:=E.R4;have n4:=E.n4;have rl:=hr.1
  have fq: ∀{q:Rat},Sml q 603->qax q 39:=λhq=>qfi hq (by decide) (by decide)
  have fm: ∀q<R,∀j<n+1,qax (jl n A v q j) 39:=λq hq j hj=>by
   unfold jl;by_cases c:j<n
   ·rw[ae c];exact fq (sA q hq j c)
   rw[aa c];exact fq (sv q hq)
  by_cases c:k<n+1
  ·obtain⟨x,x1,x2⟩:=hr.get c;obtain⟨z,z1,z2⟩:=h.get c;rw[aa (by omega)]at z2;obtain⟨p,p1,p2⟩:=qkC hN hf x2 (n:=39) (by omega) (fq (sy i hi)) (fm i hi k c)
   have sf:=qno (u:=λq=>w q*jl n A v q k) i λq hq=>qiR (fq (sy q (by omega))) (fm q (by omega) k c)
   have f4:fS i<=1900:=by
    rcases(show i=0\/i=1\/i=2\/i=3 by omega)with rfl|rfl|rfl|rfl<;>decide
   obtain⟨s,s1,s2⟩:=qne hN z2 p2 (n:=fS i) f4 sf ((qiR (fq (sy i hi)) (fm i hi k c)).mono (qrS i))
   have kl:k<l.length:=by rw[h.1];exact c
   rw[ae (by omega),ql,x1,ZB,ql,z1,ZB,p1,ZB,s1,ZB,vw kl,ZB,qD (by omega)];refine qot hi hf hr K (k+1) _ (by omega) (by omega) ((h.put s2 k).congr λj hj=>?_);by_cases d:j=k
   ·rw[ae d,ae (by omega),d];rfl
   rw[aa d];by_cases d2:j<k
   ·rw[ae d2,ae (by omega)]
   rw[aa d2,aa (by omega)]
  rw[aa (by omega)];exact⟨l,rfl,h.congr λj hj=>by rw[ae (by omega)]⟩
theorem qqz: ∀(K i:Nat) (l:List qb),i<=R->R<K+i->RwF (n+1) l (λj=>qV i (λq=>w q*jl n A v q j))-> ∃l',zK N m b y K l (i:Int)=some l'/\RwF (n+1) l' (λj=>qV R (λq=>w q*jl n A v q j))
 |0,i,l,h1,h2,h=>by omega
 |K+1,i,l,h1,h2,h=>by
  unfold zK;have ml:=E.mm.1;have R4:=E.R4;have n4:=E.n4;by_cases hi:i<R
  ·obtain⟨r,r1,r2⟩:=E.mm.get hi;obtain⟨s,s1,s2⟩:=E.bb.get hi;obtain⟨t,t1,t2⟩:=hy.get hi;have s2:s=T (v i):=s2;have t2:t=T (w i):=t2;obtain⟨l1,e1,g1⟩:=qkg hN r2 (by omega) (E.sA i hi);obtain⟨f,e2,g2⟩:=qgp hN (E.sb i hi);obtain⟨f',e3,g3⟩:=qgp hN ((sy i hi).mono (show 603<=9000 by decide))
   have row:RwF (n+1) (l1++[f]) (jl n A v i):=by
    refine(RwG.app (P:=IsF) (n:=n) (m:=1) (s:=[f]) (w:=λ_=>v i) g1 ⟨rfl,λj g hg=>?_⟩).congr λj hj=>rfl
    cases j with
    |zero=>rw[<-Ye hg];exact g2
    |succ j=>cases hg
   have h11:=g1.1;obtain⟨l2,e4,g4⟩:=qot hN E sA sv sy hi g3 row N 0 l (aF _) (by omega) (h.congr λj hj=>by rw[aa (by omega)]);rw[show((0:Nat):Int)=0 from rfl]at e4;rw[ae (by omega),ql,r1,ZB,ql,t1,ZB,t2,e3,ZB,e1,ZB,ql,s1,ZB,s2,e2,ZB,xX (by simp;omega) (by simp;omega),ZB,e4,ZB,qD (by omega)];exact qqz K (i+1) l2 (by omega) (by omega) g4
  rw[aa (by omega)]
  have e:i=R:=by omega
  subst e;exact⟨l,rfl,h⟩
omit E sA sv hy sy hN in
theorem nz_L {l:List qb} {k:Nat} {u:Nat->Rat} (h:RwF k l u) (hk:k<=100) (h0: ∀j<k,u j=0): ∀(K i:Nat),i<=k->k<K+i->qZ l K (i:Int)=some (.inl ())
 |0,i,h1,hK=>by omega
 |K+1,i,h1,hK=>by
  unfold qZ;by_cases c:i<k
  ·obtain⟨f,f1,f2⟩:=h.get c;unfold xq;rw[ae (by have:=h.1;omega),ql,f1,ZB,qg1 f2,ZB,ZB,ai ((qck _).2 (h0 i c)),aa (by decide),qD (by omega)];exact nz_L h hk h0 K (i+1) (by omega) (by omega)
  rw[aa (by have:=h.1;omega)]
theorem qr8 (oy:OkL y) (h0: ∀c<n,qV R (λr=>w r*A r c)=0) (h1:qV R (λr=>w r*v r)≠0):y7 N m b y=some 0:=by
 have R4:=E.R4;have n4:=E.n4;have ml:=E.mm.1;obtain⟨r0,m0,g0⟩:=E.mm.get E.R0
 have z:RwF (n+1) (List.replicate (n+1) f0) (λj=>qV 0 (λq=>w q*jl n A v q j)):=⟨bX,λj g hg=>by
  obtain⟨q,e⟩:=Yb.1 hg;rw[dJ]at e
  rw[<-e];exact isF0⟩
 obtain⟨l,e1,g1⟩:=qqz hN E sA sv hy sy N 0 _ (aF _) (by omega) z;have ll:=g1.1
 have f3:jy N [0,0,0]=some 0:=by
  obtain⟨K,rfl⟩: ∃K,N=K+10:=⟨N-10,by omega⟩;rfl
 have w1:w64 ((l.length:Int)-1)=(n:Int):=by rw[qo (by omega) (by omega)];omega
 have tk:=g1.take (k:=n) (by omega)
 have nz:=nz_L tk (by omega) (λj hj=>by
  rw[<-h0 j hj]
  exact zu R λq _=>by unfold jl;rw[ae hj]) N 0 (aF _) (by omega)
 obtain⟨x,x1,x2⟩:=g1.get (show n<n+1 by omega)
 have hx:qV R (λq=>w q*jl n A v q n)≠0:=by
  rw[show qV R (λq=>w q*jl n A v q n)=qV R (λr=>w r*v r)from zu R λq _=>by unfold jl;rw[aa (by omega)]];exact h1
 rw[show((0:Nat):Int)=0 from rfl]at e1 nz;unfold y7 qN;rw[E.ck,ZB,ai (by have:=hy.1;omega),aa (by decide),ZB,qkd hN (by have:=hy.1;omega) oy,ZB,f3,ZB,aa (by decide),qmb,ZB,qau,m0,ZB,g0.1,qD (by omega)];dsimp only;rw[qop hN (show n+1<=5 by omega),ZB,e1,ZB,w1,y9 (by omega),ZB];unfold jL vQ;rw[nz];simp only[ZB];rw[aa (by decide),ql,x1,ZB,qg1 x2,ZB,ah (λq=>hx ((qck _).1 q)),aa (by decide)];rfl
end
end
section
open Go.Proofs Go.RowKit
variable [Glob]
theorem sml4 {q:Rat} (h:Sml q 4): -10000<q.num/\q.num<10000/\0<(q.den:Int)/\(q.den:Int)<10000:=by
 have a:=(qaH (show 0<4 by decide)).1 h.1;have b:=(qaH (show 0<4 by decide)).1 h.2;have c:=q.den_pos;omega
theorem qqB (q:Rat):q*((q.den:Int):Rat)=(q.num:Rat):=by
 have h:(((q.den:Int):Rat))≠0:=qlT (by have:=q.den_pos;omega);have e:q=Rat.divInt q.num q.den:=(Rat.num_divInt_den q).symm
 have e2:q=(q.num:Rat)/((q.den:Int):Rat):=by rw[<-Rat.divInt_eq_div];exact e
 conv=>lhs;lhs;rw[e2]
 exact Rat.div_mul_cancel h
theorem cden {q:Nat->Rat}: ∀(n:Nat),(∀j<n,Sml (q j) 4)-> ∃(D:Int) (z:Nat->Int),0<D/\D<=10000^n/\ ∀j<n,q j*(D:Rat)=(z j:Rat)/\ -(10000*10000^n)<=z j/\z j<=10000*10000^n
 |0,h=>⟨1,λ_=>0,by decide,by decide,λj hj=>by omega⟩
 |n+1,h=>by
  obtain⟨D,z,h1,h2,h3⟩:=cden n λj hj=>h j (by omega)
  obtain⟨a1,a2,a3,a4⟩:=sml4 (h n (by omega));have P:(0:Int)<10000^n:=Int.pow_pos (by decide);have e:(10000:Int)^(n+1)=10000^n*10000:=aE _ _;have m0:D*((q n).den:Int)<=10000^n*10000:=bB h2 (by omega) (by omega) (by omega);refine⟨D*((q n).den:Int),λj=>if j=n then(q n).num*D else z j*((q n).den:Int),cG h1 a3,by omega,λj hj=>?_⟩;dsimp only;by_cases c:j=n
  ·rw[ae c,c,bI,bI];refine⟨?_,?_⟩
   ·have:=qqB (q n);grind
   have:=qhH (B:=10000^n*10000) (by omega) (a:=(q n).num) (b:=D)
   have b1:((q n).num*D).natAbs<=10000*(10000^n:Int).natAbs:=by
    rw[bm];exact cU (by omega) (by omega)
   omega
  obtain⟨c1,c2,c3⟩:=h3 j (by omega);rw[aa c,bI,bI];refine⟨by grind,?_⟩
  have b1:(z j*((q n).den:Int)).natAbs<=(10000*10000^n:Int).natAbs*10000:=by
   rw[bm];exact cU (by omega) (by omega)
  omega
theorem qo7 {n:Nat} (n4:n<=4) {A:Mx} {v:Nat->Rat} {i:Nat} (hA: ∀j<n,Sml (A i j) 4) (hv:Sml (v i) 4) (C:Nat) (M:Mx) (hM: ∀j<C,(j<=n/\M i j=jl n A v i j)\/M i j=0\/M i j=1):RoB (10^24) C (M i):=by
 obtain⟨D,z,h1,h2,h3⟩:=cden (q:=jl n A v i) (n+1) λj hj=>by
  unfold jl;by_cases c:j<n
  ·rw[ae c];exact hA j c
  rw[aa c];exact hv
 have P:(10000:Int)^(n+1)<=10^20:=by
  rcases(show n=0\/n=1\/n=2\/n=3\/n=4 by omega)with rfl|rfl|rfl|rfl|rfl<;>decide
 have e20:(10:Int)^20=100000000000000000000:=by decide
 have e24:(10:Int)^24=1000000000000000000000000:=by decide
 refine⟨D,λj=>if j<=n/\M i j=jl n A v i j then z j else if M i j=0 then 0 else D,h1,by omega,λj hj=>?_⟩;dsimp only;by_cases c:j<=n/\M i j=jl n A v i j
 ·rw[ae c,c.2];obtain⟨g1,g2,g3⟩:=h3 j (by omega);exact⟨g1,by omega,by omega⟩
 rw[aa c];by_cases c0:M i j=0
 ·rw[ae c0,c0];exact⟨by rw[cQ];rfl,by omega,by omega⟩
 rw[aa c0];rcases hM j hj with q|q|q
 ·exact absurd q c
 ·exact absurd q c0
 rw[q,eJ];exact⟨rfl,by omega,by omega⟩
theorem qnw {n:Nat} (n4:n<=4) {A:Mx} {x:Nat->Rat} {i:Nat} (hA: ∀j<n,Sml (A i j) 4) (hx: ∀j<n,Sml (x j) 4) (C:Nat) (M:Mx) (hM: ∀j<C,(j<n/\M i j=A i j)\/M i j=qV n (λj=>A i j*x j)\/M i j=0\/M i j=1):RoB (10^45) C (M i):=by
 obtain⟨D,z,h1,h2,h3⟩:=cden (q:=A i) n hA;obtain⟨F,y,k1,k2,k3⟩:=cden (q:=x) n hx
 have P:(10000:Int)^n<=10000000000000000:=by
  rcases(show n=0\/n=1\/n=2\/n=3\/n=4 by omega)with rfl|rfl|rfl|rfl|rfl<;>decide
 have e45:(10:Int)^45=1000000000000000000000000000000000000000000000:=by decide
 have bD:D<=10000000000000000:=by omega
 have bF:F<=10000000000000000:=by omega
 have DF:D*F<=10000000000000000*10000000000000000:=bB bD bF (by omega) (by omega)
 have zb: ∀j<n,(z j).natAbs<=100000000000000000000:=λj hj=>by have:=(h3 j hj).2;omega
 have yb: ∀j<n,(y j).natAbs<=100000000000000000000:=λj hj=>by have:=(k3 j hj).2;omega
 have sm: ∀k≤n,∃s:Int,qV k (λj=>A i j*x j)*((D*F:Int):Rat)=(s:Rat)/\s.natAbs<=k*(100000000000000000000*100000000000000000000):=by
  intro k
  induction k with
  |zero=>exact λ_=>⟨0,by show(0:Rat)*_=_;rw[cQ];rfl,by decide⟩
  |succ k ih=>
   intro hk;obtain⟨s,s1,s2⟩:=ih (by omega);refine⟨s+z k*y k,?_,?_⟩
   ·show(qV k (λj=>A i j*x j)+A i k*x k)*_=_;have a:=(h3 k (by omega)).1;have b:=(k3 k (by omega)).1;rw[bI]at s1⊢;rw[Rat.intCast_add,bI];grind
   have a:=cU (zb k (by omega)) (yb k (by omega));have b:(z k*y k).natAbs=(z k).natAbs*(y k).natAbs:=bm ..;have c:=Int.natAbs_add_le s (z k*y k);rw[dI];omega
 obtain⟨s,s1,s2⟩:=sm n (ag _);have s2:s.natAbs<=4*(100000000000000000000*100000000000000000000):=aX s2 (aN _ n4);refine⟨D*F,λj=>if j<n/\M i j=A i j then z j*F else if M i j=qV n (λj=>A i j*x j)then s else if M i j=0 then 0 else D*F,cG h1 k1,by omega,λj hj=>?_⟩;have p0:=cG h1 k1;dsimp only;by_cases c:j<n/\M i j=A i j
 ·rw[ae c,c.2];obtain⟨g1,g2,g3⟩:=h3 j c.1
  have b1:(z j*F).natAbs<=100000000000000000000*10000000000000000:=by
   rw[bm];exact cU (zb j c.1) (by omega)
  refine⟨?_,by omega,by omega⟩;rw[bI,bI];grind
 rw[aa c];by_cases c1:M i j=qV n (λj=>A i j*x j)
 ·rw[ae c1,c1];exact⟨s1,by omega,by omega⟩
 rw[aa c1];by_cases c0:M i j=0
 ·rw[ae c0,c0];exact⟨by rw[cQ];rfl,by omega,by omega⟩
 rw[aa c0];rcases hM j hj with q|q|q|q
 ·exact absurd q c
 ·exact absurd q c1
 ·exact absurd q c0
 rw[q,eJ];exact⟨rfl,by omega,by omega⟩
theorem qoJ:zB (bdE (10^24) 4) 44:=by
 unfold zB;exact aK rfl
theorem qrK:zB (bdE (10^45) 4) 81:=by
 unfold zB;exact aK rfl
def Car (R n:Nat) (S:Mx) (w:Nat->Rat):Prop:= ∀k,k<=n->w k=qV R λr=>w (n+1+r)*S r k
theorem Car.lin (R n:Nat) (S:Mx):qol (Car R n S):=⟨λa b t ha hb k hk=>by
 have h:=qgh (λr=>a (n+1+r)*S r k) (λr=>b (n+1+r)*S r k) t R;rw[<-ha k hk,<-hb k hk]at h;show a k-t*b k=_;rw[<-h]
 refine zu R λr _=>?_
 dsimp only
 grind,λa t ha k hk=>by
 have h:=qeV (λr=>a (n+1+r)*S r k) t R;rw[<-ha k hk]at h;show a k*t=_;rw[<-h]
 refine zu R λr _=>?_
 dsimp only
 grind⟩
def Slv (n:Nat) (x:Nat->Rat) (w:Nat->Rat):Prop:=qV n (λj=>w j*x j)=w n
theorem Slv.lin (n:Nat) (x:Nat->Rat):qol (Slv n x):=⟨λa b t ha hb=>by
 have h:=qgh (λj=>a j*x j) (λj=>b j*x j) t n;unfold Slv at*;rw[ha,hb]at h;dsimp only;rw[<-h]
 refine zu n λr _=>?_
 grind,λa t ha=>by
 have h:=qeV (λj=>a j*x j) t n;unfold Slv at*;rw[ha]at h;dsimp only;rw[<-h]
 refine zu n λr _=>?_
 grind⟩
section
variable {R n:Nat} {A:Mx} {v:Nat->Rat}
theorem qrg {i:Nat} (hi:i<R):Car R n (jl n A v) (qaQ n A v i):=λk hk=>by
 have e:qV R (λr=>qaQ n A v i (n+1+r)*jl n A v r k)=qV R λr=>if r=i then(λr=>jl n A v r k) r else 0:=zu R λr _=>by
  unfold qaQ;rw[aa (by omega),aa (by omega)];by_cases c:r=i
  ·rw[ae (by omega),ae c,eJ]
  rw[aa (by omega),aa c,cQ]
 rw[e,qim,ae hi];unfold qaQ jl;by_cases c:k<n
 ·rw[ae c,ae c]
 rw[aa c,aa c,ae (by omega)]
theorem qgc {B:Int} (hB:1<=B) (hb: ∀i<R,RoB B (n+1+R) (qaQ n A v i)) {i:Nat} (h1:(vR R n 0 (qaQ n A v,[])).2.length<=i) (h2:i<R) (h3:(vR R n 0 (qaQ n A v,[])).1 i n≠0):
 (∀c<n,qV R (λr=>(vR R n 0 (qaQ n A v,[])).1 i (n+1+r)*A r c)=0)/\qV R (λr=>(vR R n 0 (qaQ n A v,[])).1 i (n+1+r)*v r)≠0:=by
 have ok0:qcC B R (n+1+R) 0 (qaQ n A v,[]):=⟨hB,EI.zero R _,hb⟩;have ok:=ok0.run n 0 (by omega);rw[az]at ok;have car:=(qiW (Car.lin R n (jl n A v)) n 0 ok0 (by omega)).1 (λi hi=>qrg hi) i h2;refine⟨λc hc=>?_,λh=>h3 ?_⟩
 ·have:=car c (by omega);rw[ok.ei.z i h1 h2 c hc]at this;rw[this]
  exact zu R λr _=>by unfold jl;rw[ae hc]
 rw[car n (ag _),<-h]
 exact zu R λr _=>by unfold jl;rw[aa (by omega)]
theorem qnA {w x:Nat->Rat} (h0: ∀c<n,qV R (λr=>w r*A r c)=0) (h1:qV R (λr=>w r*v r)≠0) (hx: ∀r<R,qV n (λj=>A r j*x j)=v r):False:=by
 refine h1 ?_
 have e1:qV R (λr=>w r*v r)=qV R λr=>qV n λj=>w r*A r j*x j:=zu R λr hr=>by
  rw[<-hx r hr,Rat.mul_comm,<-qeV]
  exact zu n λj _=>by grind
 rw[e1,qjG]
 have e2:qV n (λj=>qV R λr=>w r*A r j*x j)=qV n λ_=>0:=zu n λj hj=>by
  rw[qeV (λr=>w r*A r j) (x j),h0 j hj,cQ]
 rw[e2,qfv]
theorem qp4 (x:Nat->Rat) {i n:Nat} (hi:i<n):qV n (λj=>(if i=j then 1 else 0)*x j)=x i:=by
 have e:qV n (λj=>(if i=j then 1 else 0)*x j)=qV n λj=>if j=i then x j else 0:=zu n λj _=>by
  by_cases c:i=j
  ·rw[ae c,ae c.symm,eJ]
  rw[aa c,aa (λq=>c q.symm),cQ]
 rw[e,qim,ae hi]
theorem qfV {B:Int} (hB:1<=B) (hb: ∀i<R,RoB B (n+1) (jl n A v i)) (hd:(vR R n 0 (jl n A v,[])).2.length=n) (hn:n<=R) (h0: ∀q,n<=q->q<R->(vR R n 0 (jl n A v,[])).1 q n=0) (x:Nat->Rat):
 (∀r<R,qV n (λj=>A r j*x j)=v r)↔ ∀i<n,x i=(vR R n 0 (jl n A v,[])).1 i n:=by
 have ok0:qcC B R (n+1) 0 (jl n A v,[]):=⟨hB,EI.zero R _,hb⟩;have ok:=ok0.run n 0 (by omega);rw[az]at ok;have all:=qiW (Slv.lin n x) n 0 ok0 (by omega)
 have first:(∀r<R,Slv n x (jl n A v r))↔ ∀r<R,qV n (λj=>A r j*x j)=v r:=by
  refine forall_congr' λr=>imp_congr_right λhr=>?_
  unfold Slv
  have e:qV n (λj=>jl n A v r j*x j)=qV n λj=>A r j*x j:=zu n λj hj=>by unfold jl;rw[ae hj]
  rw[e,show jl n A v r n=v r from aa (by omega)]
 have last: ∀i<R,Slv n x ((vR R n 0 (jl n A v,[])).1 i)↔(i<n->x i=(vR R n 0 (jl n A v,[])).1 i n):=λi hi=>by
  unfold Slv
  have e:qV n (λj=>(vR R n 0 (jl n A v,[])).1 i j*x j)=qV n λj=>(if i=j then 1 else 0)*x j:=zu n λj hj=>by rw[ok.ei.one hd j hj i hi]
  rw[e];by_cases c:i<n
  ·rw[qp4 x c];exact⟨λh _=>h,λh=>h c⟩
  have z:qV n (λj=>(if i=j then 1 else 0)*x j)=0:=by
   exact(zu n λj hj=>by rw[aa (by omega),cQ]).trans (qfv n)
  rw[z,h0 i (by omega) hi];exact⟨λ_ h=>absurd h c,λ_=>rfl⟩
 rw[<-first];exact⟨λh i hi=>(last i (by omega)).1 (all.1 h i (by omega)) hi,λh=>all.2 λi hi=>(last i hi).2 λc=>h i c⟩
theorem qmA {B:Int} (hB:1<=B) {C k:Nat} (hk:0<k) (h4:zB (bdE B 4) k) (R4:R<=4) {M:Mx} (hb: ∀i<R,RoB B C (M i)) (hn:n<=C): ∀i<R,∀j<C,Sml ((vR R n 0 (M,[])).1 i j) (9*k):=λi hi j hj=>by
 have ok0:qcC B R C 0 (M,[]):=⟨hB,EI.zero R _,hb⟩;have ok:=ok0.run n 0 (by omega);have lr:=ok.ei.lr;exact(ok.rb i hi).sml hk (fitd hB h4 (by omega)) hj
end
end
section
open Go.Proofs Go.RowKit
variable [Glob]
theorem qdY {l:List Str} (h:qkP l):RwG qa6 l.length l (λj=>qfF (l.getD j []))/\ ∀j<l.length,Sml (qfF (l.getD j [])) 4:=by
 have key: ∀(j:Nat) s,l[j]? =some s->s=T (qfF (l.getD j []))/\Sml (qfF (l.getD j [])) 4:=λj s hs=>by
  obtain⟨q,e,g,_⟩:=h s (Yn hs);rw[Yy,hs,YN];have t:=qsv ⟨q,e⟩;refine⟨t,?_⟩;rw[<-qrM (e.symm.trans t)];exact g
 exact⟨⟨rfl,λj s hs=>(key j s hs).1⟩,λj hj=>(key j _ (Ya hj)).2⟩
theorem qkA {l:List Str} (h:qkP l):OkL l:=λs hs=>by
 obtain⟨q,e,g,c⟩:=h s hs;rw[e];exact⟨by have:=qkN g;omega,c⟩
theorem ql5 {l:List Str} {n:Nat} {v:Nat->Rat} (h:RwG qa6 n l v) (hv: ∀j<n,Sml (v j) 600):OkL l:=λs hs=>by
 obtain⟨j,hj⟩:=List.getElem?_of_mem hs;have hl:=(Yb.1 hj).1;have e:s=T (v j):=h.2 j s hj;have g:=hv j (by have:=h.1;omega);rw[e];exact⟨by have:=qkN g;omega,chk_T g⟩
theorem qod {a:List Str} (ha:a.length<=100): ∀(K i:Nat),i<=a.length->a.length<K+i->vL a a K (i:Int)=some (.inl ())
 |0,i,h1,h2=>by omega
 |K+1,i,h1,h2=>by
  unfold vL;by_cases c:i<a.length
  ·rw[ae (by omega),ql,Ya c,ZB,ZB,beq_self_eq_true,aa (by decide),qD (by omega)];exact qod ha K (i+1) (by omega) (by omega)
  rw[aa (by omega)]
theorem same_eq {N:Nat} (hN:600000<N) {a:List Str} (ha:a.length<=100):qaD N a a=some true:=by
 have:=qod ha N 0 (aF _) (by omega);rw[show((0:Nat):Int)=0 from rfl]at this;unfold qaD;rw[ai rfl,aa (by decide),this];rfl
section
variable {N:Nat} (hN:600000<N) {R n:Nat} (R0:0<R) (R4:R<=4) (n4:n<=4) {m:List (List Str)} {A:Mx} (hm:MxG qa6 R n m A) (sA: ∀i<R,∀j<n,Sml (A i j) 4)
include hN R0 R4 n4 hm sA
theorem qpb {b:List Str} {v:Nat->Rat} (hb:RwG qa6 R b v) {z:List Str} {u:Nat->Rat} (hz:RwG qa6 n z u) (su: ∀j<n,Sml (u j) 603) (e:Int) (hs: ∀r<R,qV n (λj=>A r j*u j)=v r): ∀(K i:Nat),i<=R->R<K+i->zJ N m b (z,e) K (i:Int)=some (.inl ())
 |0,i,h1,h2=>by omega
 |K+1,i,h1,h2=>by
  unfold zJ;have ml:=hm.1;by_cases c:i<R
  ·obtain⟨r,r1,r2⟩:=hm.get c;obtain⟨s,s1,s2⟩:=hb.get c;have s2:s=T (v i):=s2;rw[ae (by omega),ql,r1,ZB,qkn hN n4 r2 hz (λj hj=>(sA i c j hj).mono (by decide)) su,ZB,ql,s1,ZB,s2,hs i c,beq_self_eq_true,aa (by decide),qD (by omega)];exact qpb hb hz su e hs K (i+1) (by omega) (by omega)
  rw[aa (by omega)]
theorem qon {x:List Str} {u:Nat->Rat} (hx:RwG qa6 n x u) (su: ∀j<n,Sml (u j) 4): ∀(K i:Nat) (l:List Str),i<=R->R<K+i->RwG qa6 i l (λi=>qV n λj=>A i j*u j)-> ∃l',zh N m x K l (i:Int)=some l'/\RwG qa6 R l' (λi=>qV n λj=>A i j*u j)
 |0,i,l,h1,h2,h=>by omega
 |K+1,i,l,h1,h2,h=>by
  unfold zh;have ml:=hm.1;have hl:=h.1;by_cases c:i<R
  ·obtain⟨r,r1,r2⟩:=hm.get c;rw[ae (by omega),ql,r1,ZB,qkn hN n4 r2 hx (λj hj=>(sA i c j hj).mono (by decide)) (λj hj=>(su j hj).mono (by decide)),ZB,xX (by simp;omega) (by simp;omega),ZB,qD (by omega)];exact qon hx su K (i+1) _ (by omega) (by omega) (h.snoc (P:=qa6) rfl)
  rw[aa (by omega)]
  have e:i=R:=by omega
  subst e;exact⟨l,rfl,h⟩
theorem qlc {u:Nat->Rat} (su: ∀j<n,Sml (u j) 4) {i:Nat} (hi:i<R):Sml (qV n λj=>A i j*u j) 117:=by
 have:=qhU (k:=2) (by decide) n λj hj=>qkB (n:=1) (by decide) ((sA i hi j hj).mono (show 4<=9*1 by decide)) ((su j hj).mono (show 4<=9*1 by decide))
 exact this.mono (by omega)
theorem qq6 {b:List Str} {x:List Str} {u:Nat->Rat} (hx:RwG qa6 n x u) (su: ∀j<n,Sml (u j) 4) (hb:RwG qa6 R b (λi=>qV n λj=>A i j*u j)) (ck:za N m b=some 0):
 jP N m b=some ([],7)/\(vP N m b=some ([],14)\/vP N m b=some (x,0)):=by
 have E:qpG N R n m b A (λi=>qV n λj=>A i j*u j):=⟨R0,R4,n4,hm,hb,λi hi j hj=>(sA i hi j hj).mono (by decide),λi hi=>(qlc hN R0 R4 n4 hm sA su hi).mono (by decide),ck⟩
 have B1:(1:Int)<=10^45:=by decide
 have rb1: ∀i<R,RoB (10^45) (n+1+R) (qaQ n A (λi=>qV n λj=>A i j*u j) i):=λi hi=>qnw n4 (λj hj=>sA i hi j hj) su _ _ λj hj=>by
  unfold qaQ;by_cases c:j<n
  ·rw[ae c];exact .inl ⟨c,rfl⟩
  rw[aa c];by_cases c2:j=n
  ·rw[ae c2];exact .inr (.inl rfl)
  rw[aa c2];by_cases c3:j=n+1+i
  ·rw[ae c3];exact .inr (.inr (.inr rfl))
  rw[aa c3];exact .inr (.inr (.inl rfl))
 have rb2: ∀i<R,RoB (10^45) (n+1) (jl n A (λi=>qV n λj=>A i j*u j) i):=λi hi=>qnw n4 (λj hj=>sA i hi j hj) su _ _ λj hj=>by
  unfold jl;by_cases c:j<n
  ·rw[ae c];exact .inl ⟨c,rfl⟩
  rw[aa c];exact .inr (.inl rfl)
 have none_: ∀i,(vR R n 0 (qaQ n A (λi=>qV n λj=>A i j*u j),[])).2.length<=i->i<R->(vR R n 0 (qaQ n A (λi=>qV n λj=>A i j*u j),[])).1 i n=0:=λi h1 h2=>by
  by_cases c:(vR R n 0 (qaQ n A (λi=>qV n λj=>A i j*u j),[])).1 i n=0
  ·exact c
  obtain⟨a,b⟩:=qgc B1 rb1 h1 h2 c;exact(qnA a b (x:=u) λr _=>rfl).elim
 constructor
 ·rcases qhh hN E qrK B1 rb1 (λi h1 h2 h3=>absurd (none_ i h1 h2) h3)with⟨_,h⟩|⟨i,y,h1,h2,h3,_⟩
  ·exact h
  exact absurd (none_ i h1 h2) h3
 have un:(vR R n 0 (jl n A (λi=>qV n λj=>A i j*u j),[])).2.length=n->n<=R->(∀q,n<=q->q<R->(vR R n 0 (jl n A (λi=>qV n λj=>A i j*u j),[])).1 q n=0)-> ∀i<n,u i=(vR R n 0 (jl n A (λi=>qV n λj=>A i j*u j),[])).1 i n:=λhd hn h0=>(qfV B1 rb2 hd hn h0 u).1 λr _=>rfl
 have lr:(vR R n 0 (jl n A (λi=>qV n λj=>A i j*u j),[])).2.length<=R:=by
  have ok0:qcC (10^45) R (n+1) 0 (jl n A (λi=>qV n λj=>A i j*u j),[]):=⟨B1,EI.zero R _,rb2⟩;exact(ok0.run n 0 (by omega)).ei.lr
 rcases qiU hN E qrK B1 rb2 (λhd h0 i hi=>by rw[<-un hd (by omega) h0 i hi];exact(su i hi).mono (by decide))with h|⟨hd,hn,h0,z,h,hz⟩
 ·exact .inl h
 refine .inr ?_;rw[h,hx.ext (r':=z) (hz.congr λj hj=>(un hd hn h0 j hj).symm)]
end
end
section
open Go.Proofs Go.RowKit
variable [Glob]
theorem qf6 {N:Nat} (hN:600000<N) (m:List (List Str)) (b x:List Str):qas N m b x=some true:=by
 unfold qas awk;simp only[ZB,Bool.not_true,ZF,aU];by_cases c0:(m.length:Int)=0
 ·rw[ae c0];rfl
 rw[aa c0];by_cases c1:(m.length:Int)>4
 ·rw[ae c1];rfl
 rw[aa c1]
 have hm0:0<m.length:=by omega
 obtain⟨r0,e0⟩: ∃r,m[0]? =some r:=⟨_,Ya hm0⟩;obtain⟨b1,f1,g1⟩:=qrp hN e0 rfl;rw[f1,ZB]
 cases b1 with
 |false=>rfl
 |true=>
 obtain⟨b2,f2,g2⟩:=qj9 hN b;rw[aa (by decide),f2,ZB]
 cases b2 with
 |false=>rfl
 |true=>
 obtain⟨b3,f3,g3⟩:=qj9 hN x;rw[aa (by decide),f3,ZB]
 cases b3 with
 |false=>rfl
 |true=>
 obtain⟨m4,n4,mr⟩:=g1 rfl;obtain⟨bl,bg⟩:=g2 rfl;obtain⟨xl,xg⟩:=g3 rfl
 have mrk: ∀r∈m,r.length=r0.length/\OkL r:=λr hr=>⟨(mr r hr).1,qkA (mr r hr).2⟩
 rw[aa (by decide),qqD hN hm0 m4 n4 mrk (qkA bg) (by omega),ZB];by_cases c4:b.length=m.length
 ·rw[ae c4,aa (by decide),qau,e0,ZB];by_cases c5:x.length=r0.length
  ·rw[ai (show(x.length:Int)=(r0.length:Int)by omega)];generalize hn:r0.length=n at*
   have hm:MxG qa6 m.length n m (λi j=>qfF ((m.getD i []).getD j [])):=⟨rfl,λi r hr=>by
    obtain⟨q1,q2⟩:=mr r (Yn hr);have g:=(qdY q2).1;rw[q1]at g
    have e:m.getD i []=r:=by rw[Yy,hr];rfl
    show RwG qa6 n r (λj=>qfF ((m.getD i []).getD j []));rw[e]
    exact g⟩
   have sA: ∀i<m.length,∀j<n,Sml (qfF ((m.getD i []).getD j [])) 4:=λi hi j hj=>by
    obtain⟨q1,q2⟩:=mr m[i] (bq hi)
    have e:m.getD i []=m[i]:=by rw[Yy,Ya hi];rfl
    rw[e];exact(qdY q2).2 j (by omega)
   have hb:RwG qa6 m.length b (λj=>qfF (b.getD j [])):=by rw[<-c4];exact(qdY bg).1
   have sb: ∀j<m.length,Sml (qfF (b.getD j [])) 4:=by rw[<-c4];exact(qdY bg).2
   have hx:RwG qa6 n x (λj=>qfF (x.getD j [])):=by rw[<-c5];exact(qdY xg).1
   have sx: ∀j<n,Sml (qfF (x.getD j [])) 4:=by rw[<-c5];exact(qdY xg).2
   have ck:=qmT hN hm0 m4 n4 mrk (qkA bg) (by omega) c4;generalize hA:(λi j=>qfF ((m.getD i []).getD j []):Mx)=A at hm
   have sA: ∀i<m.length,∀j<n,Sml (A i j) 4:=λi hi j hj=>by rw[<-hA];exact sA i hi j hj
   generalize hv:(λj=>qfF (b.getD j []):Nat->Rat)=v at hb
   have sb: ∀j<m.length,Sml (v j) 4:=λj hj=>by rw[<-hv];exact sb j hj
   generalize hu:(λj=>qfF (x.getD j []):Nat->Rat)=u at hx
   have sx: ∀j<n,Sml (u j) 4:=λj hj=>by rw[<-hu];exact sx j hj
   have E:qpG N m.length n m b A v:=⟨hm0,m4,n4,hm,hb,λi hi j hj=>(sA i hi j hj).mono (by decide),λi hi=>(sb i hi).mono (by decide),ck⟩
   have B1:(1:Int)<=10^24:=by decide
   have rb1: ∀i<m.length,RoB (10^24) (n+1+m.length) (qaQ n A v i):=λi hi=>qo7 n4 (λj hj=>sA i hi j hj) (sb i hi) _ _ λj hj=>by
    by_cases d:j<=n
    ·refine .inl ⟨d,?_⟩;unfold qaQ jl;by_cases d2:j<n
     ·rw[ae d2,ae d2]
     rw[aa d2,aa d2,ae (by omega)]
    refine .inr ?_;unfold qaQ;rw[aa (by omega),aa (by omega)];by_cases d3:j=n+1+i
    ·rw[ae d3];exact .inr rfl
    rw[aa d3];exact .inl rfl
   have rb2: ∀i<m.length,RoB (10^24) (n+1) (jl n A v i):=λi hi=>qo7 n4 (λj hj=>sA i hi j hj) (sb i hi) _ _ λj hj=> .inl ⟨by omega,rfl⟩
   have SM1:=qmA B1 (k:=44) (by decide) qoJ m4 rb1 (n:=n) (by omega);have SM2:=qmA B1 (k:=44) (by decide) qoJ m4 rb2 (n:=n) (by omega);have F81:zB (bdE (10^24) 4) 81:=qjx qoJ (by decide)
   have lr2:(vR m.length n 0 (jl n A v,[])).2.length<=m.length:=by
    have ok0:qcC (10^24) m.length (n+1) 0 (jl n A v,[]):=⟨B1,EI.zero _ _,rb2⟩;exact(ok0.run n 0 (by omega)).ei.lr
   have sA6: ∀i<m.length,∀j<n,Sml (A i j) 603:=λi hi j hj=>(sA i hi j hj).mono (by decide)
   have sb6: ∀i<m.length,Sml (v i) 603:=λi hi=>(sb i hi).mono (by decide)
   obtain⟨mk,k1,k2⟩:=qon hN hm0 m4 n4 hm sA hx sx N 0 [] (aF _) (by omega) (RwG.nil _);rw[show((0:Nat):Int)=0 from rfl]at k1
   have km:OkL mk:=ql5 k2 λi hi=>(qlc hN hm0 m4 n4 hm sA sx hi).mono (by decide)
   obtain⟨q1,q2⟩:=qq6 hN hm0 m4 n4 hm sA hx sx k2 (qmT hN hm0 m4 n4 mrk km (by have:=k2.1;omega) k2.1);have se:=same_eq hN (a:=x) (by omega)
   have r1:=qhh hN E F81 B1 rb1 λi h1 h2 _ j hj=>(SM1 i h2 _ (by omega)).mono (by decide)
   have s1:=qiU hN E F81 B1 rb2 λhd h0 i hi=>(SM2 i (by omega) n (by omega)).mono (by decide)
   have fin:((zh N m x N ([]:List Str) 0).bind λl63=>
    (jP N m l63).bind λr69=>
    (vP N m l63).bind λr70=>
    (if r69.2=7 then
    if r70.2=14 then
    some true
    else
    if r70.2=0 then
    (qaD N r70.1 x).bind λr74=>
    some r74
    else
    some false
    else
    some false:Option Bool).bind λb75=>
    some b75)=some true:=by
    rw[k1,ZB,q1,ZB];rcases q2 with q2|q2
    ·rw[q2];rfl
    rw[q2,ZB];dsimp only;rw[ae rfl,aa (by decide),ae rfl,se];rfl
   rcases r1 with⟨z1,r1⟩|⟨i,y,i1,i2,i3,r1,hy⟩
   ·rw[r1,ZB];rcases s1 with s1|⟨hd,hn',h0,z,s1,hz⟩
    ·rw[s1,ZB];exact fin
    rw[s1,ZB];simp+decide only[aJ,aU,ZB]
    have zs: ∀i<n,Sml ((vR m.length n 0 (jl n A v,[])).1 i n) 600:=λi hi=>(SM2 i (by omega) n (by omega)).mono (by decide)
    have zl:=hz.1;have lw:=qpb hN hm0 m4 n4 hm sA hb hz (λj hj=>(zs j hj).mono (by decide)) 0 ((qfV B1 rb2 hd hn' h0 _).2 λi hi=>rfl) N 0 (aF _) (by omega);rw[show((0:Nat):Int)=0 from rfl]at lw;rw[ai (show(z.length:Int)=(r0.length:Int)by omega),aa (by decide),qhR hN (by omega) (ql5 hz zs),ZB,ZB,aa (by decide),lw,ZB,ZB];exact fin
   rw[r1,ZB];rcases s1 with s1|⟨hd,hn',h0,z,s1,hz⟩
   ·rw[s1,ZB];simp+decide only[aJ,aU,ZB];obtain⟨a1,a2⟩:=qgc B1 rb1 i1 i2 i3
    have ys: ∀j<m.length,Sml ((vR m.length n 0 (qaQ n A v,[])).1 i (n+1+j)) 600:=λj hj=>(SM1 i i2 _ (by omega)).mono (by decide)
    have ys6: ∀j<m.length,Sml ((vR m.length n 0 (qaQ n A v,[])).1 i (n+1+j)) 603:=λj hj=>(ys j hj).mono (by decide)
    have yl:=hy.1;have oy:=ql5 hy ys;rw[ai (show(y.length:Int)=(m.length:Int)by omega),aa (by decide),qhR hN (by omega) oy,ZB,aa (by decide),qqM hN hm0 m4 n4 hm sA6 hy ys6 hb sb6 a1 a2,ZB,aa (by decide),qr8 hN E sA6 sb6 hy ys6 oy a1 a2,ZB,ZB,aa (by decide)];exact fin
   exfalso;obtain⟨a1,a2⟩:=qgc B1 rb1 i1 i2 i3;exact qnA a1 a2 ((qfV B1 rb2 hd hn' h0 _).2 λi hi=>rfl)
  rw[ah (by omega)];rfl
 rw[aa c4];rfl
end
end Go.Av
end
