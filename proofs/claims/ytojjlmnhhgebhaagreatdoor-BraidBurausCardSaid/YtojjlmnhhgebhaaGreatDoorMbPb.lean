/-
  The reference's numerals.
-/
import Derived.Test.YtojjlmnhhgebhaaGreatDoorMbPa
import Derived.Test.YtojjlmnhhgebhaaGreatDoorAvPt
import Derived.Test.YtojjlmnhhgebhaaGreatDoorQGenBu
set_option linter.unusedVariables false
set_option linter.unusedSimpArgs false
set_option maxRecDepth 100000
set_option linter.unusedSectionVars false
section
namespace Go.Av
theorem qbC {a b:Str} (h:a.length+b.length<=1000000000):cat a b=some (a++b):=by
 unfold cat;rw[if_pos (by omega)]
theorem dcut {d:Nat} (h:d<10):cut ([48,49,50,51,52,53,54,55,56,57]:Str) (d:Int) (w64 ((d:Int)+1))=some [dch d]:=by
 rw[qJ (by omega)];rcases(show d=0\/d=1\/d=2\/d=3\/d=4\/d=5\/d=6\/d=7\/d=8\/d=9 by omega)with e|e|e|e|e|e|e|e|e|e<;>subst e<;>decide
theorem tm10 (n:Nat):(n:Int).tmod 10=((n%10:Nat):Int):=by rw[Int.tmod_eq_emod_of_nonneg (by omega)];omega
theorem td10 (n:Nat):(n:Int).tdiv 10=((n/10:Nat):Int):=by rw[YF (by omega)];omega
theorem qgv {least:Int} {K n:Nat} {s:Str} (hn:n<9223372036854775808) (hs:s.length<=1000) (h:0<n\/(s.length:Int)<least):qR least (K+1) (n:Int) s=qR least K ((n/10:Nat):Int) (dch (n%10)::s):=by
 have cond:(if(n:Int)>0 then some true else some (decide ((s.length:Int)<least)):Option Bool)=some true:=by
  by_cases c:(n:Int)>0
  ·rw[if_pos c]
  rw[if_neg c,decide_eq_true (by omega)]
 rw[qR,cond,ZB,if_pos rfl,tm10,td10,dcut (by omega),ZB,qbC (by simp;omega),ZB,qh (by omega) (by omega)];rfl
theorem qgG {least:Int} {K:Nat} {s:Str} (h: ¬(s.length:Int)<least):qR least (K+1) 0 s=some s:=by
 rw[qR,if_neg (by omega),decide_eq_false h,ZB,if_neg (by simp)]
theorem qkn: ∀(k K n:Nat) (s:Str),n<10^k->s.length+k=9->k<K->qR 9 K (n:Int) s=some (qea k n++s)
 |k,0,n,s,_,_,h=>by omega
 |0,K+1,n,s,hn,hs,h=>by
  simp at hn;subst hn;exact qgG (by omega)
 |k+1,K+1,n,s,hn,hs,h=>by
  have h9:(10:Nat)^(k+1)<=10^9:=Nat.pow_le_pow_right (by omega) (by omega);rw[Nat.pow_succ]at hn;rw[qgv (by rw[Nat.pow_succ]at h9;omega) (by omega) (.inr (by omega)),qkn k K (n/10) _ (by omega) (by simp;omega) (by omega),qea,Yz];rfl
theorem qjV: ∀(k K n:Nat) (s:Str),0<n->n<10^k->n<9223372036854775808->s.length+k<=900->k<K->qR 1 K (n:Int) s=some (Lib.decDigits n++s)
 |k,0,n,s,_,_,_,_,h=>by omega
 |0,K+1,n,s,h0,hn,_,hs,h=>by simp at hn;omega
 |k+1,K+1,n,s,h0,hn,h63,hs,h=>by
  rw[Nat.pow_succ]at hn;rw[qgv h63 (by omega) (.inl h0)];by_cases c:n<10
  ·obtain⟨K2,rfl⟩: ∃K2,K=K2+1:=⟨K-1,by omega⟩;rw[show n/10=0 by omega,vR c,show n%10=n by omega];exact qgG (by simp;omega)
  rw[qjV k K (n/10) _ (by omega) (by omega) (by omega) (by simp;omega) (by omega),qgE c,Yz];rfl
theorem qnL {N n:Nat} (hN:100<N) (h:n<1000000000):zG N (n:Int) 9=some (qea 9 n):=by
 unfold zG;rw[qkn 9 N n [] h rfl (by omega),ZB,YQ]
theorem qhU {N n:Nat} (hN:100<N) (h:n<9223372036854775808):zG N (n:Int) 1=some (Lib.decDigits n):=by
 unfold zG;rcases Nat.eq_zero_or_pos n with e|e
 ·subst e;obtain⟨K,rfl⟩: ∃K,N=K+1+1:=⟨N-2,by omega⟩;have h1:=qgv (least:=1) (K:=K+1) (n:=0) (s:=[]) (by omega) (by simp) (.inr (by simp));rw[h1,Nat.zero_div];have h2:=qgG (least:=1) (K:=K) (s:=[dch (0%10)]) (by simp);have h2:qR 1 (K+1) ((0:Nat):Int) [dch (0%10)]=_:=h2;rw[h2,ZB,vR (by decide)]
 rw[qjV 19 N n [] e (by omega) h (by simp) (by omega),ZB,YQ]
theorem qij: ∀k:Nat,E9^k=((10^(9*k):Nat):Int)
 |0=>rfl
 |k+1=>by
  rw[Int.pow_succ,qij k,Nat.mul_succ,Nat.pow_add,Int.natCast_mul];rfl
def nv (w:List Int):Nat:=(dv E9 w).toNat
theorem qjK {w:List Int} (h:Dg E9 w):(nv w:Int)=dv E9 w:=by
 have:=qD E0 h;unfold nv;omega
theorem nv_lt {w:List Int} (h:Dg E9 w):nv w<10^(9*w.length):=by
 have h1:=yY E0 h;rw[qij,<-qjK h]at h1;omega
theorem qiP {w:List Int} (h:Dg E9 w):(Lib.decDigits (nv w)).length<=9*w.length+1:=by
 refine(qaS (by omega)).2 ?_;have:=nv_lt h;rw[Nat.pow_succ];omega
theorem qmx {w:List Int} (h:Dg E9 w) {i:Nat} (hi:i<w.length):nv (w.drop i)=w[i].toNat+1000000000*nv (w.drop (i+1)):=by
 have h1:=qjK (h.drop i);have h2:=qjK (h.drop (i+1));have h3:=(h.at hi).1;rw[qhl w hi]at h1;have h4:E9*dv E9 (w.drop (i+1))=1000000000*dv E9 (w.drop (i+1)):=rfl;omega
theorem qkK {N:Nat} (hN:100<N) {a:qF} (ha:Dg E9 a.w) (hal:a.w.length<=100000): ∀(K i:Nat),i<=a.w.length->i<K->0<nv (a.w.drop i)->vZ N a K (Lib.decDigits (nv (a.w.drop i))) ((i:Int)-1)=some (Lib.decDigits (nv a.w))
 |0,i,_,h,_=>by omega
 |K+1,0,_,_,_=>by
  rw[vZ,if_neg (by omega),YR]
 |K+1,i+1,hi,h,hp=>by
  have hil:i<a.w.length:=by omega
  have ax:=ha.at hil;have ax2:a.w[i]<1000000000:=ax.2
  have ei:((i+1:Nat):Int)-1=(i:Int):=by omega
  have ed:a.w[i]=(a.w[i].toNat:Int):=by omega
  have el:=qmx ha hil;have ll:=qiP (ha.drop (i+1));rw[YJ]at ll;rw[vZ,ei,if_pos (by omega),ql,Ya hil,ZB]
  have e9:zG N a.w[i] 9=some (qea 9 a.w[i].toNat):=by
   conv=>lhs;rw[ed]
   exact qnL hN (by omega)
  rw[e9,ZB,qbC (by rw[qih];omega),ZB,qh (by omega) (by omega)]
  have e10:Lib.decDigits (nv (a.w.drop (i+1)))++qea 9 a.w[i].toNat=Lib.decDigits (nv (a.w.drop i)):=by
   have h9:(10:Nat)^9=1000000000:=rfl
   have q:nv (a.w.drop i)/10^9=nv (a.w.drop (i+1)):=by rw[h9];omega
   have r:nv (a.w.drop i)%10^9=a.w[i].toNat:=by rw[h9];omega
   rw[qho 9 (nv (a.w.drop i)) (by rw[q];exact hp),q,r]
  rw[e10];exact qkK hN ha hal K i (by omega) (by omega) (by omega)
theorem yf {z:Int} (h:z<0):Lib.itoa z=45::Lib.decDigits z.natAbs:=by unfold Lib.itoa;rw[if_pos h]
theorem zQ {z:Int} (h: ¬z<0):Lib.itoa z=Lib.decDigits z.natAbs:=by
 unfold Lib.itoa;rw[if_neg h,show z.toNat=z.natAbs by omega]
theorem qme {N:Nat} (hN:60000<N) {z:Int} (h:jh z 50000):qbB N (rI z)=some (Lib.itoa z):=by
 obtain⟨c,e⟩:=qgj z;have l:(rI z).w.length<=50000:=h.len
 have en:nv (rI z).w=z.natAbs:=by unfold nv;rw[e];omega
 have ng:(rI z).neg=decide (z<0):=rfl;unfold qbB;by_cases h0:(rI z).w.length=0
 ·have hz:z=0:=by
   rw[YL.1 h0,ze]at e;omega
  rw[if_pos (by omega),hz]
  have:Lib.itoa 0=[48]:=by rw[zQ (by decide)];exact vR (by decide)
  rw[this]
 have hk:(rI z).w.length-1<(rI z).w.length:=by omega
 have ax:=c.1.at hk;have ax2:(rI z).w[(rI z).w.length-1]<1000000000:=ax.2;have an:(rI z).w[(rI z).w.length-1]≠0:=c.2 _ (by rw[List.getLast?_eq_getElem?];exact Ya hk)
 have ed:(rI z).w[(rI z).w.length-1]=((rI z).w[(rI z).w.length-1].toNat:Int):=by omega
 have e1:nv ((rI z).w.drop ((rI z).w.length-1))=(rI z).w[(rI z).w.length-1].toNat:=by
  rw[qmx c.1 hk,List.drop_of_length_le (by omega)];rfl
 have e2:zG N (rI z).w[(rI z).w.length-1] 1=some (Lib.decDigits (nv ((rI z).w.drop ((rI z).w.length-1)))):=by
  conv=>lhs;rw[ed]
  rw[e1];exact qhU (by omega) (by omega)
 have e3:=qkK (N:=N) (by omega) c.1 (by omega) N ((rI z).w.length-1) (by omega) (by omega) (by rw[e1];omega);have ll:=qiP c.1;rw[if_neg (by omega),qgy (by omega) (by omega),ql,Ya hk,ZB,e2,ZB,show w64 (((rI z).w.length:Int)-2)=(((rI z).w.length-1:Nat):Int)-1 by rw[qh (by omega) (by omega)];omega,e3,ZB,ng];by_cases hz:z<0
 ·rw[decide_eq_true hz,if_pos rfl,qbC (by simp;omega),ZB,yf hz,en];rfl
 rw[decide_eq_false hz,if_neg (by simp),zQ hz,en]
theorem qj4 {s:Str} (hd:s.all yc=true) (hl:s.length<=18): ∀(K i:Nat),i<=s.length->s.length<K+i->vJ s K ((qU 0 (s.take i):Nat):Int) (i:Int)=some ((qU 0 s:Nat):Int)
 |0,i,h,hK=>by omega
 |K+1,i,h,hK=>by
  rw[vJ];by_cases hi:i<s.length
  ·have ht:s.take (i+1)=s.take i++[s[i]]:=List.take_succ_eq_append_getElem hi;have hc:yc s[i]=true:=Yp.1 hd _ (List.getElem_mem hi);obtain⟨_,hc2⟩:=qmq hc
   have hc1:48<=s[i].toNat:=by
    unfold yc at hc;rw[Bool.and_eq_true,decide_eq_true_eq]at hc;exact hc.1
   have hv:=qe3 (s.take i) 0 (Yp.2 fun x hx=>Yp.1 hd x (List.mem_of_mem_take hx));have hp:(10:Nat)^(s.take i).length<=10^17:=Nat.pow_le_pow_right (by omega) (by rw[Ym];omega);have hp2:(10:Nat)^17=100000000000000000:=rfl;rw[if_pos (by omega),ql,Ya hi,ZB,qh (n:=10*((qU 0 (s.take i):Nat):Int)) (by omega) (by omega),qh (n:=(s[i].toNat:Int)) (by omega) (by omega),qh (n:=10*((qU 0 (s.take i):Nat):Int)+(s[i].toNat:Int)) (by omega) (by omega),qh (by omega) (by omega),qJ (by omega)]
   have e:10*((qU 0 (s.take i):Nat):Int)+(s[i].toNat:Int)-48=((qU 0 (s.take (i+1)):Nat):Int):=by rw[ht,qgz];omega
   rw[e];exact qj4 hd hl K (i+1) (by omega) (by omega)
  rw[if_neg (by omega),List.take_of_length_le (by omega)]
theorem qfH {N:Nat} (hN:100<N) {s:Str} (hd:s.all yc=true) (hl:s.length<=18):xA N s=some ((qU 0 s:Nat):Int):=by
 have e:=qj4 hd hl N 0 (by omega) (by omega);have e:vJ s N 0 0=_:=e;unfold xA;rw[e,ZB]
theorem qif {s:Str} (h:s.all yc=true) (k:Nat):(s.take k).all yc=true:=Yp.2 fun x hx=>Yp.1 h x (List.mem_of_mem_take hx)
theorem qhJ {s:Str} (h:s.all yc=true) (k:Nat):(s.drop k).all yc=true:=Yp.2 fun x hx=>Yp.1 h x (List.mem_of_mem_drop hx)
theorem qkN {N:Nat} (hN:100<N): ∀(K:Nat) (l:List Int) (s:Str),s.all yc=true->l.length+s.length<=90000->s.length<K->Dg E9 l->
 ∃l' s',yh N K l s=some (l',s')/\s'.length<=9/\s'.all yc=true/\Dg E9 l'/\l'.length<=90000/\dv E9 l'+E9^l'.length*(qU 0 s':Nat)=dv E9 l+E9^l.length*(qU 0 s:Nat)
 |0,l,s,_,_,h,_=>by omega
 |K+1,l,s,hd,hl,h,hg=>by
  rw[yh];by_cases c:s.length>9
  ·have lu:(s.drop (s.length-9)).length=9:=by rw[YJ];omega
   have hv:=qfH (N:=N) hN (qhJ hd (s.length-9)) (by omega);have hv2:=qe3 _ 0 (qhJ hd (s.length-9));rw[lu]at hv2;rw[if_pos (by omega),show w64 ((s.length:Int)-9)=((s.length-9:Nat):Int)by rw[qh (by omega) (by omega)];omega,yL (by omega),ZB,hv,ZB,qbX (by simp;omega) (by simp;omega),ZB,ym (by omega),ZB];obtain⟨l',s',f1,f2,f3,f4,f5,f6⟩:=qkN hN K (l++[((qU 0 (s.drop (s.length-9)):Nat):Int)]) (s.take (s.length-9)) (qif hd _) (by simp;omega) (by rw[Ym];omega) (hg.append (Dg.cons ⟨by omega,show((qU 0 (s.drop (s.length-9)):Nat):Int)<1000000000 by omega⟩ Dg.nil));refine⟨l',s',f1,f2,f3,f4,f5,?_⟩;rw[f6,qeU,Yq,List.length_singleton,Int.pow_succ,Int.mul_assoc]
   have e:qU 0 s=qU 0 (s.take (s.length-9))*1000000000+qU 0 (s.drop (s.length-9)):=by
    have:=qeg (s.take (s.length-9)) (s.drop (s.length-9));rw[YS,lu]at this;exact this
   have e2:((qU 0 s:Nat):Int)=((qU 0 (s.drop (s.length-9)):Nat):Int)+E9*((qU 0 (s.take (s.length-9)):Nat):Int):=by
    have h4:E9*((qU 0 (s.take (s.length-9)):Nat):Int)=1000000000*((qU 0 (s.take (s.length-9)):Nat):Int):=rfl;omega
   rw[e2,Int.mul_add];omega
  rw[if_neg (by omega)];exact⟨l,s,rfl,by omega,hd,hg,by omega,rfl⟩
def sgn (s:Str):Bool:=decide (s[0]? =some 45)
def bdy (s:Str):Str:=if sgn s=true then s.drop 1 else s
theorem qgg (s:Str):(if(s.length:Int)>0 then(idx s 0).bind fun c=>some (decide ((c.toNat:Int)=45))else some false:Option Bool)=some (sgn s):=by
 unfold sgn
 cases s with
 |nil=>rfl
 |cons c t=>
  rw[if_pos (by simp),qcz];have e:((c.toNat:Int)=45)↔(some c=some (45:UInt8)):=⟨fun h=>congrArg some (UInt8.toNat_inj.1 (show c.toNat=45 by omega)),fun h=>by rw[Ye h];rfl⟩;simp only[Yj,ZB];congr 1;exact decide_eq_decide.2 e
theorem qlb (s:Str):(if sgn s=true then(cut s 1 (s.length:Int)).bind fun x=>some x else some s:Option Str)=some (bdy s):=by
 unfold bdy
 cases h:sgn s with
 |false=>rw[if_neg (by simp),if_neg (by simp)]
 |true=>
  have hl:1<=s.length:=by
   cases s with
   |nil=>simp[sgn]at h
   |cons=>simp
  have:=yL hl;have e:cut s 1 (s.length:Int)=some (s.drop 1):=this;rw[if_pos rfl,if_pos rfl,e,ZB]
def qji (s:Str):Int:=if sgn s=true then-((qU 0 (bdy s):Nat):Int)else((qU 0 (bdy s):Nat):Int)
theorem qhC {N:Nat} (hN:100000<N) {s:Str} (hd:(bdy s).all yc=true) (hl:(bdy s).length<=80000):qam N s=some (rI (qji s)):=by
 unfold qam;rw[qgg,ZB,qlb,ZB];obtain⟨l,t,f1,f2,f3,f4,f5,f6⟩:=qkN (N:=N) (by omega) N [] (bdy s) hd (by simp;omega) (by omega) Dg.nil;have hv:=qfH (N:=N) (by omega) f3 (by omega);have hv2:=qe3 _ 0 f3;have hp:(10:Nat)^t.length<=10^9:=Nat.pow_le_pow_right (by omega) f2;rw[f1,ZB];simp only;have hg:=f4.append (r:=[((qU 0 t:Nat):Int)]) (Dg.cons ⟨by omega,show((qU 0 t:Nat):Int)<1000000000 by omega⟩ Dg.nil);rw[hv,ZB,qbX (by simp;omega) (by simp;omega),ZB,qaw _ hg (by simp;omega) (by simp;omega),ZB,qeU,f6];simp only[ze,List.length_nil,Int.pow_zero,Int.one_mul,Int.zero_add];rfl
theorem qfJ (z:Int):sgn (Lib.itoa z)=decide (z<0):=by
 unfold sgn;by_cases h:z<0
 ·rw[yf h,decide_eq_true h];rfl
 rw[zQ h,decide_eq_false h]
 refine decide_eq_false fun e=>?_
 have hm:(45:UInt8)∈Lib.decDigits z.natAbs:=Yn e;have:=Yp.1 (qbY z.natAbs) _ hm;exact absurd this (by decide)
theorem qbT (z:Int):bdy (Lib.itoa z)=Lib.decDigits z.natAbs:=by
 unfold bdy;rw[qfJ];by_cases h:z<0
 ·rw[decide_eq_true h,if_pos rfl,yf h];rfl
 rw[decide_eq_false h,if_neg (by simp),zQ h]
theorem qcd (z:Int):qji (Lib.itoa z)=z:=by
 unfold qji;rw[qfJ,qbT,qeI];by_cases h:z<0
 ·rw[decide_eq_true h,if_pos rfl];omega
 rw[decide_eq_false h,if_neg (by simp)];omega
def slA:Str->Nat
 |[]=>0
 |c::s=>if c=47 then 0 else slA s+1
theorem qgk: ∀s:Str,slA s<=s.length
 |[]=>Nat.le_refl _
 |c::s=>by
  rw[slA,Yr];have:=qgk s;split<;>omega
theorem qkS {s:Str} (hl:s.length<=1000000): ∀(K i:Nat),i<=s.length->s.length<K+i->j6 s K (i:Int)=some (if i+slA (s.drop i)<s.length then .inr ((i+slA (s.drop i):Nat):Int)else .inl ())
 |0,i,h,hK=>by omega
 |K+1,i,h,hK=>by
  rw[j6];by_cases hi:i<s.length
  ·have hd:s.drop i=s[i]::s.drop (i+1):=YG hi;rw[if_pos (by omega),ql,Ya hi,ZB,hd,slA];by_cases c:s[i]=47
   ·rw[if_pos c,if_pos (by rw[c];rfl),Nat.add_zero,if_pos hi]
   rw[if_neg c,if_neg (fun e=>c (UInt8.toNat_inj.1 (show s[i].toNat=47 by omega))),qJ (by omega),qkS hl K (i+1) (by omega) (by omega),show i+1+slA (s.drop (i+1))=i+(slA (s.drop (i+1))+1)by omega]
  rw[if_neg (by omega),List.drop_of_length_le (by omega),if_neg (by omega)]
theorem qcu {N:Nat} {s:Str} (hl:s.length<=1000000) (hN:s.length<N):yR N s=some (slA s:Int):=by
 have e:=qkS hl N 0 (by omega) (by omega);have e:j6 s N 0=_:=e;have h:=qgk s;unfold yR;rw[e,YR,Nat.zero_add];by_cases c:slA s<s.length
 ·rw[if_pos c];rfl
 rw[if_neg c]
 have:slA s=s.length:=by omega
 rw[this];rfl
theorem qjz: ∀(s t:Str),(∀c∈s,c≠47)->slA (s++47::t)=s.length/\slA s=s.length
 |[],t,_=>⟨by simp[slA],rfl⟩
 |c::s,t,h=>by
  have h1:=qjz s t fun x hx=>h x (List.mem_cons_of_mem _ hx)
  rw[List.cons_append,slA,slA,if_neg (h c (List.mem_cons_self ..)),if_neg (h c (List.mem_cons_self ..)),h1.1,h1.2];exact⟨rfl,rfl⟩
end Go.Av
end
section
namespace Go.Av
theorem and1 {n:Nat} (h:n<4611686018427387904):qB .i64 (n:Int) 1=((n%2:Nat):Int):=by
 show IntKind.wrap .i64 _=_
 have e:(BitVec.ofInt IntKind.i64.bits (n:Int)&&&BitVec.ofInt IntKind.i64.bits 1).toNat=n%2:=by
  rw[BitVec.toNat_and];show(BitVec.ofInt 64 (n:Int)).toNat&&&(BitVec.ofInt 64 1).toNat=_;rw[qce (by omega) (by omega),qce (by omega) (by omega)];exact Nat.and_one_is_mod n
 rw[e];show w64 _=_;exact qh (by omega) (by omega)
theorem shr1 (n:Nat):qz .i64 (n:Int) 1=((n/2:Nat):Int):=by
 show(n:Int).fdiv 2=_;rw[Int.fdiv_eq_ediv_of_nonneg _ (by decide)];omega
theorem qnQ {N:Nat} (hN:11000<N): ∀(K n:Nat) (b acc:qo) (x y:Int) (mb ma:Nat),n<100000->n<K->IsZ b x->IsZ acc y->Fit x mb->Fit y ma->ma+mb*n<=3900->
 ∃r,vK N K b.s b.w acc.s acc.w (n:Int)=some (r.s,r.w)/\IsZ r (y*x^n)
 |0,n,_,_,_,_,_,_,_,h,_,_,_,_,_=>by omega
 |K+1,n,b,acc,x,y,mb,ma,hn,hK,hb,hacc,fx,fy,hm=>by
  rw[vK];by_cases h0:n=0
  ·subst h0;rw[if_neg (by omega)];exact⟨acc,rfl,by simpa using hacc⟩
  have hmb:mb<=mb*n:=Nat.le_mul_of_pos_right _ (by omega);obtain⟨m,r,hr,hmr⟩: ∃m r,r<2/\n=2*m+r:=⟨n/2,n%2,by omega,by omega⟩
  have emb:mb*n=mb*m+mb*m+mb*r:=by rw[hmr,Nat.mul_add,<-Nat.mul_assoc,Nat.mul_comm mb 2,Nat.two_mul,Nat.add_mul]
  have S1: ∃(a2:qo) (m2:Nat),(if(qB .i64 (n:Int) 1)=1 then(qM N (⟨acc.s,acc.w⟩:qo) (⟨b.s,b.w⟩:qo)).bind fun r20=>some (r20.s,r20.w)else some (acc.s,acc.w):Option (Int×(List Int)))=some (a2.s,a2.w)/\IsZ a2 (y*x^r)/\Fit (y*x^r) m2/\m2=ma+mb*r:=by
   rw[and1 (by omega),show n%2=r by omega];rcases(show r=0\/r=1 by omega)with e|e<;>subst e
   ·rw[if_neg (by simp)];exact⟨acc,ma,rfl,by simpa using hacc,by simpa using fy,by simp⟩
   obtain⟨p,e1,h1⟩:=qec hN hacc hb (fy.mono (by omega)) (fx.mono (by omega));have e1:qM N (⟨acc.s,acc.w⟩:qo) (⟨b.s,b.w⟩:qo)=some p:=e1;rw[if_pos (by simp),e1,ZB];exact⟨p,ma+mb,rfl,by rw[Int.pow_one];exact h1,by rw[Int.pow_one];exact qb7 fy fx,by simp⟩
  obtain⟨a2,m2,e1,h1,f1,em2⟩:=S1
  have S2: ∃(b2:qo) (x2:Int) (m3:Nat),(if(n:Int)>1 then(qM N (⟨b.s,b.w⟩:qo) (⟨b.s,b.w⟩:qo)).bind fun r22=>some (r22.s,r22.w,a2.s,a2.w)else some (b.s,b.w,a2.s,a2.w):Option (Int×(List Int)×Int×(List Int)))=some (b2.s,b2.w,a2.s,a2.w)/\IsZ b2 x2/\Fit x2 m3/\m3*m=mb*m+mb*m/\x2^m=(x*x)^m:=by
   by_cases c:(n:Int)>1
   ·have hm1:1<=m:=by omega
    have h3:mb<=mb*m:=Nat.le_mul_of_pos_right _ hm1;obtain⟨p,e2,h2⟩:=qec hN hb hb (fx.mono (by omega)) (fx.mono (by omega));have e2:qM N (⟨b.s,b.w⟩:qo) (⟨b.s,b.w⟩:qo)=some p:=e2;rw[if_pos c,e2,ZB];exact⟨p,x*x,mb+mb,rfl,h2,qb7 fx fx,Nat.add_mul _ _ _,rfl⟩
   have hm0:m=0:=by omega
   subst hm0;rw[if_neg c];exact⟨b,x,mb,rfl,hb,fx,by simp,by simp⟩
  obtain⟨b2,x2,m3,e2,h2,f2,em3,ex⟩:=S2
  have S:((if(qB .i64 (n:Int) 1)=1 then(qM N (⟨acc.s,acc.w⟩:qo) (⟨b.s,b.w⟩:qo)).bind fun r20=>some (r20.s,r20.w)else some (acc.s,acc.w):Option (Int×(List Int)))).bind (fun(n16,l17)=>
   if(n:Int)>1 then(qM N (⟨b.s,b.w⟩:qo) (⟨b.s,b.w⟩:qo)).bind fun r22=>some (r22.s,r22.w,n16,l17)else some (b.s,b.w,n16,l17))=some (b2.s,b2.w,a2.s,a2.w):=by
   rw[e1,ZB];exact e2
  obtain⟨r',e3,h3⟩:=qnQ hN K m b2 a2 x2 (y*x^r) m3 m2 (by omega) (by omega) h2 h1 f2 f1 (by omega);rw[if_pos (by omega),S,ZB];simp only;rw[shr1,show n/2=m by omega];refine⟨r',e3,?_⟩
  have hx2:x*x=x^2:=by rw[Int.pow_succ,Int.pow_succ,Int.pow_zero,Int.one_mul]
  rw[ex,Int.mul_assoc,hx2,<-Int.pow_mul,<-Int.pow_add,show r+2*m=n by omega]at h3;exact h3
theorem qrH {N:Nat} (hN:110000<N) {b:qo} {x:Int} {n mb:Nat} (hn:n<100000) (hb:IsZ b x) (fx:Fit x mb) (hm:1+mb*n<=3900): ∃r,qbH N b (n:Int)=some r/\IsZ r (x^n):=by
 obtain⟨r,e,h⟩:=qnQ (N:=N) (by omega) N n b ⟨1,[]⟩ x 1 mb 1 hn (by omega) hb (Uf (by decide) (by decide)) fx (F1 (by omega)) hm;have e:vK N N b.s b.w 1 [] (n:Int)=some (r.s,r.w):=e;unfold qbH;rw[qhM,ZB];simp only;rw[e,ZB];exact⟨r,rfl,by rw[Int.one_mul]at h;exact h⟩
theorem qhK {z:Int} {p n:Nat} (h:(z.natAbs:Int)<((10^p:Nat):Int)) (hp:p<=19*n):Fit z n:=by
 have h1:(10:Nat)^p<=10^(19*n):=Nat.pow_le_pow_right (by omega) hp
 have h2:((10^(19*n):Nat):Int)<=W^n:=by
  rw[Nat.pow_mul];have:=(qdj (x:=10000000000000000000) (y:=W) (by decide) (by decide) n).2;rw[Int.natCast_pow];exact this
 unfold Fit;omega
theorem qcy (s:Str):strings_HasPrefix s [45]=some (sgn s):=by
 unfold strings_HasPrefix stringslite_HasPrefix sgn
 cases s with
 |nil=>rfl
 |cons c t=>
  rw[if_pos (by simp;omega)];have e:cut (c::t) 0 (([45]:Str).length:Int)=some [c]:=ym (l:=c::t) (k:=1) (by simp);rw[e];simp only[ZB,Yj];congr 1;rw[Bool.eq_iff_iff,beq_iff_eq,decide_eq_true_eq];constructor
  ·intro h;injection h with h;rw[h]
  intro h;rw[Ye h]
theorem qjF {s:Str} (h:sgn s=true):1<=s.length:=by
 cases s with
 |nil=>simp[sgn]at h
 |cons=>simp
theorem qfj (s:Str):strings_TrimPrefix s [45]=some (bdy s):=by
 unfold strings_TrimPrefix stringslite_TrimPrefix
 have e:stringslite_HasPrefix s [45]=some (sgn s):=by
  have:=qcy s;unfold strings_HasPrefix at this
  cases h:stringslite_HasPrefix s [45]with
  |none=>rw[h]at this;cases this
  |some b=>rw[h]at this;exact this
 rw[e,ZB];unfold bdy
 cases h:sgn s with
 |false=>rw[if_neg (by simp),if_neg (by simp),ZB]
 |true=>
  have e2:cut s (([45]:Str).length:Int) (s.length:Int)=some (s.drop 1):=yL (qjF h);rw[if_pos rfl,if_pos rfl,e2,ZB,ZB]
theorem qjs (s:Str):strings_CutPrefix s [45]=some (bdy s,sgn s):=by
 unfold strings_CutPrefix stringslite_CutPrefix
 have e:stringslite_HasPrefix s [45]=some (sgn s):=by
  have:=qcy s;unfold strings_HasPrefix at this
  cases h:stringslite_HasPrefix s [45]with
  |none=>rw[h]at this;cases this
  |some b=>rw[h]at this;exact this
 rw[e,ZB];unfold bdy
 cases h:sgn s with
 |false=>rw[if_pos (by simp),if_neg (by simp),ZB]
 |true=>
  have e2:cut s (([45]:Str).length:Int) (s.length:Int)=some (s.drop 1):=yL (qjF h);rw[if_neg (by simp),if_pos rfl,e2,ZB,ZB]
theorem qmz {N:Nat} (hN:600000<N): ∀(K:Nat) (x:qo) (y:Int) (s:Str) (p:Nat),IsZ x y->0<=y->y<((10^p:Nat):Int)->p+s.length<=19000->s.all yc=true->s.length<K->
 ∃r,xw N K x.s x.w s=some (r.s,r.w)/\IsZ r (y*((10^s.length:Nat):Int)+(qU 0 s:Nat))
 |0,_,_,_,_,_,_,_,_,_,h=>by omega
 |K+1,x,y,s,p,hx,y0,y1,hp,hd,hK=>by
  rw[xw];by_cases h0:s.length=0
  ·rw[if_neg (by omega)];have:s=[]:=YL.1 h0;subst this;exact⟨x,rfl,by simpa[qct]using hx⟩
  rw[if_pos (by omega)]
  obtain⟨g,hg,hg0,hgl,hg18⟩: ∃g:Nat,(if(s.length:Int)<18 then(s.length:Int)else 18)=(g:Int)/\0<g/\g<=s.length/\g<=18:=by
   by_cases c:(s.length:Int)<18
   ·exact⟨s.length,by rw[if_pos c],by omega,by omega,by omega⟩
   exact⟨18,by rw[if_neg c];rfl,by omega,by omega,by omega⟩
  have lt:(s.take g).length=g:=by rw[Ym];omega
  have ea:=qjS (s:=s.take g) (by omega) (qif hd g)
  have et:qkD (s.take g)=some (((qU 0 (s.take g):Nat):Int),()):=by
   unfold qkD;rw[if_pos (by omega),ea];rfl
  have hv:=qe3 (s.take g) 0 (qif hd g);rw[lt]at hv;have hp18:(10:Nat)^g<=10^18:=Nat.pow_le_pow_right (by omega) hg18;have h18:(10:Nat)^18=1000000000000000000:=rfl;rw[hg,ym hgl,ZB,et,ZB,qhM,ZB];obtain⟨r1,e1,h1⟩:=qrH (N:=N) (by omega) (b:=⟨10,[]⟩) (x:=10) (n:=g) (mb:=1) (by omega) (Uf (by decide) (by decide)) (qhK (p:=2) (by decide) (by omega)) (by omega)
  have ep:(10:Int)^g=((10^g:Nat):Int):=by rw[Int.natCast_pow];rfl
  rw[ep]at h1
  have fg:Fit ((10^g:Nat):Int) 1000:=qhK (p:=19) (by
   rw[Int.natAbs_natCast];have h19:(10:Nat)^19=10000000000000000000:=rfl
   omega) (by omega)
  have fy:Fit y 1000:=qhK (p:=p) (by omega) (by omega);have hpos:0<10^g:=Nat.pow_pos (by decide);have yg0:0<=y*((10^g:Nat):Int):=Yv y0 (by omega)
  have yg1:(y+1)*((10^g:Nat):Int)<=((10^(p+g):Nat):Int):=by
   rw[Nat.pow_add,Int.natCast_mul];exact Int.mul_le_mul_of_nonneg_right (by omega) (by omega)
  rw[Int.add_mul,Int.one_mul]at yg1;obtain⟨r2,e2,h2⟩:=qec (N:=N) (by omega) hx h1 (fy.mono (by omega)) (fg.mono (by omega));have e2:qM N (⟨x.s,x.w⟩:qo) r1=some r2:=e2;have hd2:IsZ ⟨((qU 0 (s.take g):Nat):Int),[]⟩ ((qU 0 (s.take g):Nat):Int):=Uf (by omega) (by omega)
  obtain⟨r3,e3,h3⟩:=qh4 (N:=N) (by omega) h2 hd2 (qhK (p:=p+g) (by omega) (by omega)) (qhK (p:=19) (by
   rw[Int.natAbs_natCast];have h19:(10:Nat)^19=10000000000000000000:=rfl
   omega) (by omega))
  rw[e1,ZB,e2,ZB,qhM,ZB,e3,ZB,yL hgl,ZB]
  have ld:(s.drop g).length=s.length-g:=by rw[YJ]
  obtain⟨r,e4,h4⟩:=qmz hN K r3 _ (s.drop g) (p+g) h3 (by omega) (by omega) (by omega) (qhJ hd g) (by omega);refine⟨r,e4,?_⟩;have e5:=qeg (s.take g) (s.drop g);rw[YS]at e5
  have e6:(10:Nat)^s.length=10^g*10^(s.drop g).length:=by rw[<-Nat.pow_add,ld];congr 1;omega
  rw[e5,e6];rw[Int.add_mul]at h4;rw[Int.natCast_mul,Int.natCast_add,Int.natCast_mul,<-Int.mul_assoc,<-Int.add_assoc];exact h4
theorem qg9 {N:Nat} (hN:600000<N) {s:Str} (hd:(bdy s).all yc=true) (hl:(bdy s).length<=19000): ∃r,qbg N s=some r/\IsZ r (qji s):=by
 obtain⟨r,e,h⟩:=qmz hN N ⟨0,[]⟩ 0 (bdy s) 0 (Uf (by decide) (by decide)) (by omega) (by decide) (by omega) hd (by omega);have e:xw N N 0 [] (bdy s)=some (r.s,r.w):=e;rw[Int.zero_mul,Int.zero_add]at h;unfold qbg;rw[qcy,ZB,qfj,ZB,e,ZB];unfold qji
 cases hs:sgn s with
 |false=>
  rw[if_neg (by simp)];exact⟨r,rfl,by simpa using h⟩
 |true=>
  obtain⟨r2,e2,h2⟩:=qgt h;have e2:zx (⟨r.s,r.w⟩:qo)=some r2:=e2;simp only[if_true];rw[e2];exact⟨r2,rfl,h2⟩
end Go.Av
end
section
namespace Go.Av
theorem qmH: ∀n:Nat,Lib.repeatL [48] n=List.replicate n 48
 |0=>rfl
 |n+1=>by rw[Lib.repeatL,qmH,List.replicate_succ];rfl
theorem qiI: ∀k:Nat,qea k 0=List.replicate k 48
 |0=>rfl
 |k+1=>by
  rw[qea,Nat.zero_div,qiI k,List.replicate_succ'];rfl
theorem qkH: ∀(k n:Nat),n<10^(k+1)->qea (k+1) n=List.replicate (k+1-(Lib.decDigits n).length) 48++Lib.decDigits n
 |0,n,h=>by
  have h:n<10:=by simpa using h
  rw[vR h,qea,qea,Nat.mod_eq_of_lt h];rfl
 |k+1,n,h=>by
  rw[qea];by_cases c:n<10
  ·rw[vR c,Nat.div_eq_of_lt c,qiI,Nat.mod_eq_of_lt c];rfl
  rw[Nat.pow_succ]at h;rw[qkH k (n/10) (by omega),qgE c,Yz,Yq,List.length_singleton,show k+1+1-((Lib.decDigits (n/10)).length+1)=k+1-(Lib.decDigits (n/10)).length by omega]
theorem qgq (n:Nat):Lib.itoa (n:Int)=Lib.decDigits n:=by rw[zQ (by omega),Int.natAbs_natCast]
theorem qo1 {r:Nat} (h:r<1000000000000000000) (c: ¬r=0):dg W (r:Int)=[(r:Int)]:=by
 rw[qi4 (by omega) (by unfold W;omega)]
theorem qoc {r:Nat} (h:r<1000000000000000000):qh9 (r:Int) 10=some (Lib.decDigits r):=by
 unfold qh9;rw[if_pos ⟨by omega,by omega,rfl⟩,qgq]
theorem qnG:(if((dg W ((0:Nat):Int)).length:Int)>0 then(idx (dg W ((0:Nat):Int)) 0).bind fun x13=>(qh9 x13 10).bind fun r14=>some r14 else some [48]:Option Str)=some (Lib.decDigits 0):=by
 rw[show((0:Nat):Int)=0 from rfl,qdV,if_neg (by simp),vR (by decide)];rfl
theorem qpR {r:Nat} (h:r<1000000000000000000):(if((dg W (r:Int)).length:Int)>0 then(idx (dg W (r:Int)) 0).bind fun x13=>(qh9 x13 10).bind fun r14=>some r14 else some [48]:Option Str)=some (Lib.decDigits r):=by
 by_cases c:r=0
 ·rw[c];exact qnG
 rw[qo1 h c,if_pos (show((([(r:Int)]:List Int).length:Nat):Int)>0 from by rw[List.length_singleton];decide),qcz,Yj,ZB,qoc h];rfl
theorem p18:(10:Nat)^18=1000000000000000000:=rfl
theorem qqg {q r:Nat} (h:r<1000000000000000000): ∃t:Str,(if((dg W (q:Int)).length:Int)>0 then(qeR [48] (w64 (18-((Lib.decDigits r).length:Int)))).bind fun r18=>(cat r18 (Lib.decDigits r)).bind fun s19=>some s19 else some (Lib.decDigits r):Option Str)=some t/\0<t.length/\Lib.decDigits (1000000000000000000*q+r)=(if q=0 then[]else Lib.decDigits q)++t:=by
 have hr:r<10^18:=by rw[p18];exact h
 have lD:(Lib.decDigits r).length<=18:=(qaS (by decide)).2 hr;have lD0:=qk7 r;by_cases c:q=0
 ·subst c;rw[show((0:Nat):Int)=0 from rfl,qdV,if_neg (by simp),if_pos rfl,Nat.mul_zero,Nat.zero_add];exact⟨_,rfl,lD0,rfl⟩
 have hne:dg W (q:Int)≠[]:=fun e=>by have:=(qhS W1 (by omega)).1 e;omega
 have hlen:0<(dg W (q:Int)).length:=List.length_pos_iff.2 hne
 have et:qeR [48] (w64 (18-((Lib.decDigits r).length:Int)))=some (List.replicate (18-(Lib.decDigits r).length) 48):=by
  rw[qh (by omega) (by omega)];unfold qeR;rw[if_pos ⟨by omega,by omega,by simp;omega⟩,qmH];congr 2;omega
 have hp:=qkH 17 r hr;have hl:(qea (17+1) r).length=18:=qih _ _;have hs:=qho 18 (1000000000000000000*q+r);rw[p18,Nat.mul_add_div (by omega),Nat.div_eq_of_lt h,Nat.add_zero,Nat.mul_add_mod,Nat.mod_eq_of_lt h]at hs;rw[if_pos (by omega),et,ZB,qbC (by simp;omega),ZB,<-hp,if_neg c];exact⟨_,rfl,by omega,hs (by omega)⟩
theorem qrP {N:Nat} (hN:600000<N) (B:Nat) (hB:B<=3900) (K:Nat): ∀(k m:Nat) (l:List Str),m<10^(18*k)->k<K->k+l.length<=100000->Fit (m:Int) B->(∀t∈l,0<t.length)->
 ∃l',jr N K l (dg W (m:Int))=some l'/\(∀t∈l',0<t.length)/\l'.length<=k+l.length/\l'.reverse.flatten=(if m=0 then[]else Lib.decDigits m)++l.reverse.flatten:=by
 induction K with
 |zero=>intro k m l _ h;omega
 |succ K ih=>
  intro k m l hm hK hl fm hp;rw[jr];by_cases h0:m=0
  ·subst h0;rw[show((0:Nat):Int)=0 from rfl,qdV,if_neg (by simp),if_pos rfl];exact⟨l,rfl,hp,by omega,rfl⟩
  obtain⟨j,hj⟩: ∃j,k=j+1:=⟨k-1,by
   rcases Nat.eq_zero_or_pos k with e|e
   ·subst e;simp at hm;omega
   omega⟩
  rw[hj]at hm hK hl
  have hm0:(0:Int)<=(m:Int):=by omega
  have hne:dg W (m:Int)≠[]:=fun e=>by have:=(qhS W1 hm0).1 e;omega
  have hlen:0<(dg W (m:Int)).length:=List.length_pos_iff.2 hne;have ln:(dg W (m:Int)).length<=3900:=Nat.le_trans fm.len hB
  have cB:Can W [1000000000000000000]:=by
   have:=zY W1 (show(0:Int)<=1000000000000000000 by decide);rw[qi4 (by decide) (by decide)]at this;exact this
  have vB:dv W [1000000000000000000]=1000000000000000000:=by rw[zt,ze,Int.mul_zero,Int.add_zero]
  have ed:=qiJ (N:=N) (by omega) (zY W1 hm0) cB (by omega) (by rw[vB];decide);rw[vB,jU W1 hm0]at ed;obtain⟨q,r,hq,hr⟩: ∃q r,m=1000000000000000000*q+r/\r<1000000000000000000:=⟨m/1000000000000000000,m%1000000000000000000,by omega,by omega⟩
  have eq:(m:Int)/1000000000000000000=(q:Int):=by omega
  have er:(m:Int)%1000000000000000000=(r:Int):=by omega
  rw[eq,er]at ed;obtain⟨t,et,t0,eD⟩:=qqg (q:=q) hr;rw[<-hq]at eD;rw[if_pos (by omega),ed,ZB];simp only;rw[qpR hr,ZB,et,ZB,qbX (by simp;omega) (by simp;omega),ZB]
  have hk:q<10^(18*j):=by
   rw[Nat.mul_succ,Nat.pow_add,p18,Nat.mul_comm]at hm;refine Nat.lt_of_mul_lt_mul_left (a:=1000000000000000000) ?_;omega
  obtain⟨l',f1,f2,f3,f4⟩:=ih j q (l++[t]) hk (by omega) (by simp;omega) (qd0 (by omega) fm) (fun u hu=>by
   rcases List.mem_append.1 hu with hu|hu
   ·exact hp u hu
   rw[List.mem_singleton.1 hu];exact t0)
  refine⟨l',f1,f2,by simp at f3;omega,?_⟩;rw[f4,if_neg h0,eD,List.reverse_append,List.flatten_append,Yz];simp
def byN (s:Str):List Int:=s.map fun x=>(x.toNat:Int)
theorem qg7 (s:Str):(byN s).length=s.length:=by unfold byN;rw[List.length_map]
theorem qoP {l:List Str} (hp: ∀t∈l,0<t.length) (hl:l.length<=100000): ∀(K i:Nat) (o:Option (List Int)),i<=l.length->i<K->(hof o).length+(l.take i).flatten.length<=1000000000->
 ∃o',zo l K o.isSome o ((i:Int)-1)=some (o'.isSome,o')/\hof o'=hof o++byN (l.take i).reverse.flatten
 |0,i,o,_,h,_=>by omega
 |K+1,0,o,hi,h,hb=>by
  rw[zo,if_neg (by omega)];exact⟨o,rfl,by simp[byN]⟩
 |K+1,i+1,o,hi,h,hb=>by
  have hil:i<l.length:=by omega
  have ei:((i+1:Nat):Int)-1=(i:Int):=by omega
  have ht:l.take (i+1)=l.take i++[l[i]]:=List.take_succ_eq_append_getElem hil;have h1:=hp l[i] (List.getElem_mem hil);rw[ht,List.flatten_append,Yq]at hb;simp only[List.flatten_cons,List.flatten_nil,YQ]at hb
  have ew:bWr o.isSome o l[i]=some (hof o++byN l[i]):=by
   unfold bWr;rw[if_pos ⟨rfl,by omega,h1⟩];rfl
  rw[zo,ei,if_pos (by omega),ql,Ya hil,ZB,ew,ZB,qh (by omega) (by omega)]
  obtain⟨o',f1,f2⟩:=qoP hp hl K i (some (hof o++byN l[i])) (by omega) (by omega) (by
   show(hof o++byN l[i]).length+_<=_
   rw[Yq,qg7];omega)
  refine⟨o',f1,?_⟩;rw[f2,ht,List.reverse_append,List.flatten_append];show hof o++byN l[i]++_=_;rw[Yz];unfold byN;simp
theorem qnC (s:Str):(byN s).map (fun n=>UInt8.ofNat n.toNat)=s:=by
 unfold byN;rw[List.map_map]
 conv=>rhs;rw[<-List.map_id s]
 refine List.map_congr_left fun x _=>?_
 show UInt8.ofNat ((x.toNat:Int)).toNat=x;rw[Int.toNat_natCast,UInt8.ofNat_toNat]
theorem qqj (s:Str):(byN s).all (fun n=>decide (0<=n)&&decide (n<256))=true:=by
 unfold byN;rw[List.all_map,Yp];intro x _;have:x.toNat<256:=x.toNat_lt;simp;omega
theorem qjP: ∀l:List Str,l.reverse.flatten.length=l.flatten.length:=fun l=>by
 rw[List.length_flatten,List.length_flatten,List.map_reverse,List.sum_reverse]
theorem qeT {N:Nat} (hN:600000<N) {x:qo} {z:Int} (h:IsZ x z) (fz:Fit z 3900):vG N x=some (Lib.itoa z):=by
 unfold vG
 cases e:x.w.isEmpty with
 |true=>
  obtain⟨h1,h2,h3⟩:=h.emp e;rw[if_pos rfl,h1];unfold qlD;rw[if_pos ⟨h2,h3⟩,ZB]
 |false=>
  have hz:z.natAbs≠0:=by
   rcases h with⟨hw,_⟩|⟨_,_,h1,_⟩
   ·rw[hw]at e;cases e
   omega
  obtain⟨B8,hB8⟩: ∃B8:Nat,B8=8000:=⟨_,rfl⟩
  have pw:((10^(18*B8):Nat):Int)=(1000000000000000000:Int)^B8:=by
   rw[Nat.pow_mul,Int.natCast_pow];rfl
  have hm:z.natAbs<10^(18*B8):=by
   have h1:W^3900<=(1000000000000000000:Int)^B8:=by
    have a1:(1000000000000000000:Int)^B8=((1000000000000000000:Int)^2)^4000:=by rw[<-Int.pow_mul,hB8]
    have a2:W^4000<=((1000000000000000000:Int)^2)^4000:=(qdj (by decide) (by decide) 4000).2;have a3:W^3900<=W^4000:=yH (by decide) (by decide);rw[a1];exact Int.le_trans a3 a2
   rw[<-pw]at h1;unfold Fit at fz;omega
  obtain⟨l,f1,f2,f3,f4⟩:=qrP hN 3900 (Nat.le_refl _) N B8 z.natAbs [] hm (by omega) (by simp;omega) (by unfold Fit;rw[Int.natAbs_natCast];exact fz) (fun t ht=>by cases ht);rw[if_neg hz]at f4;simp only[List.reverse_nil,List.flatten_nil,YQ,List.length_nil,Nat.add_zero]at f3 f4;have lD:(Lib.decDigits z.natAbs).length<=18*B8:=(qaS (by omega)).2 hm
  have lf:l.flatten.length<=18*B8:=by rw[<-qjP,f4];exact lD
  have lpos:=qk7 z.natAbs;rw[if_neg (by simp),parts_eq h,ZB];simp only;rw[f1,ZB];have el:w64 ((l.length:Int)-1)=(l.length:Int)-1:=qh (by omega) (by omega)
  have fin: ∀(o:Option (List Int)) (pre:Str),hof o=byN pre->pre.length<=10->((zo l N o.isSome o (w64 ((l.length:Int)-1))).bind fun(ok30,o31)=>(qmN ok30 o31).bind fun t38=>some t38)=some (pre++Lib.decDigits z.natAbs):=by
   intro o pre ho hpre;obtain⟨o',g1,g2⟩:=qoP f2 (by omega) N l.length o (Nat.le_refl _) (by omega) (by rw[ho,qg7,List.take_of_length_le (Nat.le_refl _)];omega);rw[List.take_of_length_le (Nat.le_refl _),f4,ho]at g2
   have g3:hof o'=byN (pre++Lib.decDigits z.natAbs):=by
    rw[g2];unfold byN;rw[List.map_append]
   have hs:o'.isSome=true:=by
    cases o' with
    |none=>
     have:=congrArg List.length g3;rw[qg7,Yq]at this;simp at this;omega
    |some q=>rfl
   rw[el,g1,ZB];simp only;unfold qmN;rw[if_pos ⟨hs,by rw[g3,qg7,Yq];omega,by rw[g3];exact qqj _⟩,g3,qnC,ZB]
  by_cases c:z<0
  ·have eb:bWr false (none:Option (List Int)) [45]=some [45]:=rfl;rw[decide_eq_true c,if_pos rfl,eb,ZB,ZB];simp only;have:=fin (some [45]) [45] rfl (by simp);rw[yf c];exact this
  rw[decide_eq_false c,if_neg (by simp),ZB];simp only;have:=fin none [] rfl (by simp);rw[zQ c];exact this
end Go.Av
end
section
namespace Go.Av
theorem qqD {x:qo} {z:Int} (h:IsZ x z) (fz:Fit z 3900): ∃b:Nat,qbh x=some (b:Int)/\(z.natAbs:Int)<2^b:=by
 unfold qbh;rw[parts_eq h,ZB];simp only
 have hz:(0:Int)<=(z.natAbs:Int):=by omega
 have cc:=zY W1 hz;have vv:=jU W1 hz;have ll:=fz.len;generalize dg W (z.natAbs:Int)=w at*;by_cases h0:w.length=0
 ·rw[if_pos (by omega)];rw[YL.1 h0,ze]at vv;exact⟨0,rfl,by rw[<-vv];decide⟩
 have hk:w.length-1<w.length:=by omega
 have ax:=cc.1.at hk;obtain⟨l,e,hl⟩:=qj5 ax.1 ax.2
 have hl0:0<=l/\l<=64:=by
  rcases hl with⟨_,h⟩|⟨h1,h2,_⟩<;>omega
 have hl2:w[w.length-1]<2^l.toNat:=by
  rcases hl with⟨h1,h2⟩|⟨_,_,_,h⟩
  ·rw[h1,h2];decide
  exact h
 rw[if_neg (by omega),qgy (by omega) (by omega),ql,Ya hk,ZB,e,ZB,qh (n:=64*((w.length-1:Nat):Int)) (by omega) (by omega),qh (by omega) (by omega)];refine⟨64*(w.length-1)+l.toNat,by congr 1;omega,?_⟩;have e1:=qy W w (w.length-1) hk;rw[List.take_of_length_le (by omega),vv]at e1;have h1:=yY W0 (cc.1.take (w.length-1));rw[Ym,Nat.min_eq_left (by omega)]at h1
 have e2:(2:Int)^(64*(w.length-1)+l.toNat)=W^(w.length-1)*2^l.toNat:=by
  rw[Int.pow_add,Int.pow_mul];rfl
 have h2:W^(w.length-1)*(w[w.length-1]+1)<=W^(w.length-1)*2^l.toNat:=Yc (by omega) (Int.le_of_lt (pow_pos W0 _));rw[Int.mul_add,Int.mul_one]at h2;rw[e2];omega
theorem pow8: ∀n:Nat,(8:Int)^(n+1)<((10^(n+1):Nat):Int)
 |0=>by decide
 |n+1=>by
  have ih:=pow8 n;have a1:=pow_pos (show(0:Int)<8 by decide) (n+1);rw[Int.pow_succ,Nat.pow_succ,Int.natCast_mul];omega
theorem qrM (n:Nat):(2:Int)^(3*n)=(8:Int)^n:=by
 rw[Int.pow_mul];rfl
theorem qqy {n m:Nat} (hm:m=3*(n+1)):(2:Int)^m<((10^(n+1):Nat):Int):=by
 rw[hm,qrM];exact pow8 n
def lng (z:Int):Bool:=decide (600<(Lib.decDigits z.natAbs).length)
theorem qmr {N:Nat} (hN:600000<N) {x:qo} {z:Int} (h:IsZ x z) (fz:Fit z 3900):qdl N x=some (lng z):=by
 obtain⟨b,e,hb⟩:=qqD h fz;unfold qdl;rw[e,ZB];by_cases c:(b:Int)>1800
 ·rw[if_pos c,qeT hN h fz,ZB,qfj,qbT,ZB,ZB];congr 1;exact decide_eq_decide.2 (by omega)
 rw[if_neg c,ZB];congr 1;obtain⟨m,hm⟩: ∃m:Nat,m=3*(599+1):=⟨_,rfl⟩;have h1:(2:Int)^b<=2^m:=yH (by decide) (by omega);have h2:=qqy hm
 have h3:z.natAbs<10^(599+1):=by omega
 have:=(qaS (n:=z.natAbs) (k:=599+1) (by decide)).2 h3;unfold lng;rw[decide_eq_false (by omega)]
def qk8 (q:Rat):Bool:=lng q.num||lng q.den
theorem qoT {N:Nat} (hN:600000<N) {f:qj} {q:Rat} (h:IsF f q) (fq:xI q 3900):qak N f=some (qk8 q):=by
 unfold qak qk8;rw[qmr hN h.1 fq.1,ZB]
 cases lng q.num with
 |true=>rw[if_pos rfl,ZB,Bool.true_or]
 |false=>rw[if_neg (by simp),qmr hN h.2 fq.2,ZB,ZB,Bool.false_or]
def T (q:Rat):Str:=Lib.itoa q.num++(if q.den=1 then[]else 47::Lib.decDigits q.den)
theorem Fit.itoaLen {z:Int} (h:Fit z 3900):(Lib.itoa z).length<=200001:=by
 have h1:(Lib.decDigits z.natAbs).length<=20*10000:=by
  refine(qaS (by decide)).2 ?_;obtain⟨B,hB⟩: ∃B:Nat,B=10000:=⟨_,rfl⟩;rw[<-hB];have h2:W^3900<=W^B:=yH (by decide) (by omega);have h3:W^B<=(100000000000000000000:Int)^B:=(qdj (by decide) (by decide) B).2
  have h4:((10^(20*B):Nat):Int)=(100000000000000000000:Int)^B:=by
   rw[Nat.pow_mul,Int.natCast_pow];rfl
  unfold Fit at h;generalize W^3900=p at*;omega
 by_cases c:z<0
 ·rw[yf c,Yr];omega
 rw[zQ c];omega
theorem qqi {N:Nat} (hN:600000<N) {f:qj} {q:Rat} (h:IsF f q) (fq:xI q 3900):qaM N f=some (T q):=by
 unfold qaM T;rw[qfD h,ZB];by_cases c:q.den=1
 ·rw[decide_eq_true c,if_pos rfl,qeT hN h.1 fq.1,ZB,if_pos c,YQ]
 have l1:=Fit.itoaLen fq.1;have l2:=Fit.itoaLen fq.2;rw[decide_eq_false c,if_neg (by simp),qeT hN h.1 fq.1,ZB,qbC (by simp;omega),ZB,qeT hN h.2 fq.2,ZB,qbC (by simp;omega),ZB,if_neg c,qgq,Yz];rfl
theorem qqA {α:Type} {b:Bool} {x y:α}:zK b x y=if b=true then x else y:=by cases b<;>rfl
theorem qkd: ∀(s:Str) (j:Nat),qiA 47 s j=if slA s<s.length then((j+slA s:Nat):Int)else-1
 |[],j=>rfl
 |c::s,j=>by
  show zK (Nat.beq c.toNat 47) (Int.ofNat j) (qiA 47 s (j+1))=_;rw[qqA,qkd s (j+1),slA,Yr];by_cases h:c=47
  ·subst h;rw[if_pos (by decide),if_pos rfl,if_pos (by omega)];rfl
  have h2:c.toNat≠47:=fun e=>h (UInt8.toNat_inj.1 (by rw[e];rfl))
  rw[if_neg (by rw[qcK h2];simp),if_neg h];by_cases c2:slA s<s.length
  ·rw[if_pos c2,if_pos (by omega)];congr 1;omega
  rw[if_neg c2,if_neg (by omega)]
theorem qob {s:Str}:stringslite_Index s [47]=some (qiA 47 s 0):=by
 unfold stringslite_Index stringslite_IndexByte qjn
 have h0: ¬(([47]:Str).length:Int)=0:=by simp
 have h1:(([47]:Str).length:Int)=1:=by simp
 rw[if_neg h0];simp only[ZB];by_cases hs:(([47]:Str)==s)=true
 ·have:s=[47]:=(beq_iff_eq.1 hs).symm;subst this;rfl
 rw[if_neg hs,if_pos h1,qcz,show([47]:Str)[0]? =some 47 from rfl,ZB,if_pos (by decide)];rfl
theorem qnN {s:Str} (hl:s.length<=1000000):strings_Cut s [47]=some (if slA s<s.length then(s.take (slA s),s.drop (slA s+1),true)else(s,[],false)):=by
 have h:=qgk s;unfold strings_Cut stringslite_Cut;rw[qob,qkd,ZB];by_cases c:slA s<s.length
 ·rw[if_pos c,if_pos (by omega),if_pos c,Nat.zero_add,ym h,ZB,show w64 ((slA s:Int)+(([47]:Str).length:Int))=((slA s+1:Nat):Int)from qJ (by omega),yL (by omega),ZB,ZB]
 rw[if_neg c,if_neg (by omega),if_neg c,ZB]
theorem qfX {s:Str} (hl:s.length<=1000000):jH s=some (decide (Dec s)):=by
 have hT:qjX s [48,49,50,51,52,53,54,55,56,57]=some (Lib.trimS s [48,49,50,51,52,53,54,55,56,57]):=by
  unfold qjX;rw[if_pos ⟨hl,by decide,by decide⟩]
 unfold jH;rw[hT];simp only[ZB,qmP]
 cases s with
 |nil=>rfl
 |cons c t=>
  rw[if_pos (by rfl),qcz];simp only[Yj,ZB]
  cases hd:(c::t).all yc with
  |false=>
   rw[if_neg (by simp),ZB,decide_eq_false fun h=>by rw[h.2.1]at hd;cases hd]
  |true=>
   rw[if_pos rfl];by_cases h:c=48
   ·subst h;rw[if_neg (by decide),ZB];congr 1;rw[Bool.eq_iff_iff,beq_iff_eq,decide_eq_true_eq];exact⟨fun e=>by rw[e];exact qmh (by decide),fun h=>h.2.2 rfl⟩
   rw[if_pos (by simp[ne48 h]),ZB,decide_eq_true (show Dec (c::t)from⟨by simp,hd,fun e=>absurd (Ye e) h⟩)]
theorem qhv {s:Str} (hl:s.length<=1000000): ∀(K i:Nat),i<=s.length->s.length<K+i->jD s K (i:Int)=some (if(s.drop i).all yc=true then .inl ()else .inr false)
 |0,i,h,hK=>by omega
 |K+1,i,h,hK=>by
  rw[jD];by_cases hi:i<s.length
  ·have hd:s.drop i=s[i]::s.drop (i+1):=YG hi;rw[if_pos (by omega),ql,Ya hi,ZB,hd,List.all_cons];generalize s[i]=c
   have e:(if(c.toNat:Int)<48 then some true else some (decide ((c.toNat:Int)>57)):Option Bool)=some (!yc c):=by
    by_cases h1:(c.toNat:Int)<48
    ·rw[if_pos h1];congr 1;unfold yc;rw[decide_eq_false (by omega)];rfl
    rw[if_neg h1];congr 1;unfold yc;rw[decide_eq_true (p:=48<=c.toNat) (by omega),Bool.true_and,<-decide_not];exact decide_eq_decide.2 (by omega)
   rw[e,ZB]
   cases hc:yc c with
   |true=>rw[if_neg (by simp),qJ (by omega),qhv hl K (i+1) (by omega) (by omega),Bool.true_and]
   |false=>rw[if_pos (by simp),Bool.false_and,if_neg (by simp)]
  rw[if_neg (by omega),List.drop_of_length_le (by omega)];rfl
theorem qh8 {N:Nat} {s:Str} (hl:s.length<=1000000) (hN:s.length<N):jk N s=some (decide (Dec s)):=by
 have e:=qhv hl N 0 (by omega) (by omega);have e:jD s N 0=_:=e
 have ed:qbo N s=some (s.all yc):=by
  unfold qbo;rw[e,YR];cases s.all yc<;>rfl
 unfold jk
 cases s with
 |nil=>rfl
 |cons c t=>
  rw[if_neg (by simp;omega)];by_cases h1:((c::t).length:Int)>1
  ·rw[if_pos h1,qcz];simp only[Yj,ZB];by_cases h:c=48
   ·subst h;rw[if_pos (by decide),decide_eq_false fun hD=>?_];have:=congrArg List.length (hD.2.2 rfl);rw[List.length_singleton]at this;omega
   rw[if_neg (by simp[ne48 h]),ed,ZB];congr 1;rw[Bool.eq_iff_iff,decide_eq_true_eq];exact⟨fun hd=>⟨by simp,hd,fun e=>absurd (Ye e) h⟩,fun hD=>hD.2.1⟩
  rw[if_neg h1,ZB,if_neg (by simp),ed,ZB];have ht:t=[]:=YL.1 (by simp at h1;omega);subst ht;congr 1;rw[Bool.eq_iff_iff,decide_eq_true_eq];exact⟨fun hd=>qmh (by simpa using hd),fun hD=>hD.2.1⟩
end Go.Av
end
section
namespace Go.Av
theorem qjt {z:Int} {p n:Nat} (h:(z.natAbs:Int)<((10^p:Nat):Int)) (hp:p<=9*n):jh z n:=by
 have h1:(10:Nat)^p<=10^(9*n):=Nat.pow_le_pow_right (by omega) hp;unfold jh;rw[qij];omega
theorem ql1 {N:Nat} (hN:10<N) (a b:Int):yM N [a,b]=some (if a=0 then b else a):=by
 obtain⟨K,rfl⟩: ∃K,N=K+1+1+1:=⟨N-3,by omega⟩;unfold yM;by_cases ha:a=0
 ·by_cases hb:b=0
  ·subst ha;subst hb;rfl
  have h1:zF [a,b] (K+1+1+1) 0=some (.inr b):=by
   rw[zF,if_pos (by simp),qcz];simp only[Yj,ZB];rw[if_neg (by simp[ha]),zF,show w64 ((0:Int)+1)=1 from rfl,if_pos (by simp),idx_1];simp only[List.getElem?_cons_succ,Yj,ZB];rw[if_pos (by simp[hb])]
  rw[h1,if_pos ha];rfl
 have h1:zF [a,b] (K+1+1+1) 0=some (.inr a):=by
  rw[zF,if_pos (by simp),qcz];simp only[Yj,ZB];rw[if_pos (by simp[ha])]
 rw[h1,if_neg ha];rfl
def okF (s:Str):Bool:=decide (Dec ((bdy s).take (slA (bdy s)))/\ ¬(sgn s=true/\(bdy s).take (slA (bdy s))=[48]))
def qjL (s:Str):Bool:=decide (slA (bdy s)<(bdy s).length/\ ¬(Dec ((bdy s).drop (slA (bdy s)+1))/\(bdy s).drop (slA (bdy s)+1)≠[48]/\(bdy s).drop (slA (bdy s)+1)≠[49]))
def chk (s:Str):Int:=
 if okF s=false\/qjL s=true then 1
 else if 600<((bdy s).take (slA (bdy s))).length\/600<((bdy s).drop (slA (bdy s)+1)).length then 4
 else if slA (bdy s)<(bdy s).length/\Nat.gcd (qU 0 ((bdy s).take (slA (bdy s)))) (qU 0 ((bdy s).drop (slA (bdy s)+1)))≠1 then 1
 else 0
theorem qbF {s:Str} (h:s.all yc=true):sgn s=false/\bdy s=s:=by
 have e:sgn s=false:=decide_eq_false fun e=>by
  have hm:(45:UInt8)∈s:=Yn e;exact absurd (Yp.1 h _ hm) (by decide)
 exact⟨e,by unfold bdy;rw[e];rfl⟩
theorem qdt {s:Str} (h:s.all yc=true):qji s=(qU 0 s:Nat):=by
 obtain⟨h1,h2⟩:=qbF h;unfold qji;rw[h1,h2];rfl
theorem qga (s:Str):(bdy s).length<=s.length:=by
 unfold bdy;split
 ·rw[YJ];omega
 exact Nat.le_refl _
theorem qe2 {s:Str} {k:Nat} (h:Dec s) (hk:s.length<=k):((qU 0 s:Nat):Int).natAbs<10^k:=by
 have h1:=qe3 s 0 h.2.1;have h2:(10:Nat)^s.length<=10^k:=Nat.pow_le_pow_right (by omega) hk;omega
theorem qfL {s:Str} (h:Dec s) (h0:s≠[48]):0<qU 0 s:=by
 rcases Nat.eq_zero_or_pos (qU 0 s)with e|e
 ·have:=h.eq;rw[e,vR (by decide)]at this;exact absurd this h0
 exact e
theorem qmR {N:Nat} (hN:600000<N) {s:Str} (hl:s.length<=10000):qbj N s=some (chk s):=by
 have hb:=qga s;have hk:=qgk (bdy s)
 have lt:((bdy s).take (slA (bdy s))).length=slA (bdy s):=by rw[Ym];omega
 have ld:((bdy s).drop (slA (bdy s)+1)).length=(bdy s).length-(slA (bdy s)+1):=by rw[YJ]
 unfold qbj;rw[qjs,ZB];simp only
 have C:strings_Cut (bdy s) [47]=some ((bdy s).take (slA (bdy s)),(bdy s).drop (slA (bdy s)+1),decide (slA (bdy s)<(bdy s).length)):=by
  rw[qnN (by omega)];by_cases c:slA (bdy s)<(bdy s).length
  ·rw[if_pos c,decide_eq_true c]
  rw[if_neg c,decide_eq_false c,List.take_of_length_le (by omega),List.drop_of_length_le (by omega)]
 rw[C,ZB];unfold chk okF qjL;generalize hn:(bdy s).take (slA (bdy s))=n at*;generalize hd:(bdy s).drop (slA (bdy s)+1)=d at*;generalize slA (bdy s)=k at*;generalize (bdy s).length=m at*;simp only;rw[qfX (by omega),ZB]
 have B6:(if decide (Dec n)=true then if(!sgn s)=true then some true else some (!(n==[48]))else some false:Option Bool)=some (decide (Dec n/\ ¬(sgn s=true/\n=[48]))):=by
  by_cases h1:Dec n
  ·cases h2:sgn s with
   |false=>simp[h1]
   |true=>
    by_cases h3:n=[48]<;>simp[h1,h3]
  simp[h1]
 rw[B6,ZB];generalize hf:decide (Dec n/\ ¬(sgn s=true/\n=[48]))=ok at*
 have B8:(if decide (k<m)=true then(if ok=true then(jH d).bind fun r12=>if r12=true then if(!(d==[48]))=true then some (!(d==[49]))else some false else some false else some false:Option Bool).bind fun b15=>some b15 else some ok:Option Bool)=some (ok&&!decide (k<m/\ ¬(Dec d/\d≠[48]/\d≠[49]))):=by
  by_cases h1:k<m
  ·cases ok with
   |false=>simp[h1]
   |true=>
    rw[qfX (by omega)];by_cases h2:Dec d
    ·by_cases h3:d=[48]
     ·simp[h1,h2,h3]
     by_cases h4:d=[49]<;>simp[h1,h2,h3,h4]
    simp[h1,h2]
  simp[h1]
 rw[B8,ZB];generalize hg:decide (k<m/\ ¬(Dec d/\d≠[48]/\d≠[49]))=bd at*
 have B:((zz (!(ok&&!bd)) 1).bind fun r17=>if(n.length:Int)>600 then(zz true 4).bind fun r19=>(yM N ([r17,r19]:List Int)).bind fun r20=>some (r17,r19,r20)else(zz (decide ((d.length:Int)>600)) 4).bind fun r21=>(yM N ([r17,r21]:List Int)).bind fun r22=>some (r17,r21,r22):Option (Int×Int×Int))=some (if ok=false\/bd=true then 1 else 0,if 600<n.length\/600<d.length then 4 else 0,if ok=false\/bd=true then 1 else if 600<n.length\/600<d.length then 4 else 0):=by
  have w1:zz (!(ok&&!bd)) 1=some (if ok=false\/bd=true then 1 else 0):=by
   unfold zz;cases ok<;>cases bd<;>rfl
  rw[w1,ZB];by_cases c:(n.length:Int)>600
  ·rw[if_pos c,show zz true 4=some 4 from rfl,ZB,ql1 (by omega),ZB,if_pos (show 600<n.length\/600<d.length from .inl (by omega))];by_cases c2:ok=false\/bd=true
   ·simp only[if_pos c2];rfl
   simp only[if_neg c2];rfl
  have w2:zz (decide ((d.length:Int)>600)) 4=some (if 600<n.length\/600<d.length then 4 else 0):=by
   unfold zz;by_cases c2:(d.length:Int)>600
   ·rw[decide_eq_true c2,if_pos rfl,if_pos (.inr (by omega))]
   rw[decide_eq_false c2,if_neg (by simp),if_neg (by omega)]
  rw[if_neg c,w2,ZB,ql1 (by omega),ZB];by_cases c2:ok=false\/bd=true
  ·simp only[if_pos c2];rfl
  simp only[if_neg c2];rfl
 rw[B,ZB];simp only;by_cases c1:ok=false\/bd=true
 ·simp only[if_pos c1];rfl
 simp only[if_neg c1];by_cases c2:600<n.length\/600<d.length
 ·simp only[if_pos c2];rfl
 simp only[if_neg c2];rw[if_neg (show¬((!decide True)=true)by decide)]
 have ho:ok=true:=by cases ok<;>simp at c1⊢
 have hbd:bd=false:=by cases bd<;>simp at c1⊢
 have hDn:=(of_decide_eq_true (hf.trans ho)).1;by_cases c3:k<m
 ·have hDd:Dec d/\d≠[48]/\d≠[49]:=Classical.byContradiction fun hc=>of_decide_eq_false (hg.trans hbd) ⟨c3,hc⟩
  obtain⟨r1,e1,h1⟩:=qg9 hN (s:=n) (by rw[(qbF hDn.2.1).2];exact hDn.2.1) (by rw[(qbF hDn.2.1).2];omega);obtain⟨r2,e2,h2⟩:=qg9 hN (s:=d) (by rw[(qbF hDd.1.2.1).2];exact hDd.1.2.1) (by rw[(qbF hDd.1.2.1).2];omega);rw[qdt hDn.2.1]at h1;rw[qdt hDd.1.2.1]at h2;have f1:Fit ((qU 0 n:Nat):Int) 40:=qhK (p:=600) (by have:=qe2 hDn (k:=600) (by omega);omega) (by omega);have f2:Fit ((qU 0 d:Nat):Int) 40:=qhK (p:=600) (by have:=qe2 hDd.1 (k:=600) (by omega);omega) (by omega);obtain⟨g,e3,h3⟩:=qof hN h1 h2 (f1.mono (by omega)) (f2.mono (by omega));have eg:Int.gcd ((qU 0 n:Nat):Int) ((qU 0 d:Nat):Int)=Nat.gcd (qU 0 n) (qU 0 d):=rfl;rw[eg]at h3;have hgp:0<Nat.gcd (qU 0 n) (qU 0 d):=Nat.gcd_pos_of_pos_right _ (qfL hDd.1 hDd.2.1)
  have fg:Fit ((Nat.gcd (qU 0 n) (qU 0 d):Nat):Int) 40:=qd0 (by
   have:=Nat.le_of_dvd (qfL hDd.1 hDd.2.1) (Nat.gcd_dvd_right (qU 0 n) (qU 0 d))
   omega) f2
  have e4:=qrh (N:=N) (by omega) h3 (Uf (z:=1) (by decide) (by decide)) (fg.mono (by omega)) (F1 (by omega));rw[decide_eq_true c3,if_pos rfl,e1,ZB,e2,ZB,e3,ZB,qhM,ZB,e4,ZB,ZB];unfold zz;by_cases c4:Nat.gcd (qU 0 n) (qU 0 d)=1
  ·rw[if_neg (show¬((Nat.gcd (qU 0 n) (qU 0 d):Nat):Int)<1 by omega),if_pos (show((Nat.gcd (qU 0 n) (qU 0 d):Nat):Int)=1 by omega),if_neg (show¬(k<m/\Nat.gcd (qU 0 n) (qU 0 d)≠1)from fun h=>h.2 c4)];rfl
  have: ¬((Nat.gcd (qU 0 n) (qU 0 d):Nat):Int)<1:=by omega
  rw[if_neg this,if_neg (show¬(((Nat.gcd (qU 0 n) (qU 0 d):Nat):Int)=1)by omega),if_pos (show k<m/\Nat.gcd (qU 0 n) (qU 0 d)≠1 from⟨c3,c4⟩)];rfl
 rw[decide_eq_false c3,if_neg (by simp),ZB,if_neg (by omega)];rfl
end Go.Av
end
section
namespace Go.Av
theorem qo2:dg E9 1=[1]:=qi4 (by decide) (by decide)
theorem qrD {N:Nat} (hN:100<N):qap N 1=some (rI 1):=by
 obtain⟨K,rfl⟩: ∃K,N=K+1+1:=⟨N-2,by omega⟩
 have h:vw (K+1+1) [] 1=some [1]:=by
  rw[vw,if_pos (by decide),if_neg (by decide),ZB,qbX (by simp) (by simp),ZB,show w64 ((1:Int).tdiv 1000000000)=0 from rfl,vw,if_neg (by decide)];rfl
 unfold qap;rw[h,ZB,decide_eq_false (by decide),qaw false (w:=[1]) (Dg.cons ⟨by decide,by decide⟩ Dg.nil) (by simp) (by simp),ZB];rfl
theorem qiS {N:Nat} (hN:600000<N) {s:Str} (hl:s.length<=10000) (hk:slA s<s.length) (h1:(bdy (s.take (slA s))).all yc=true) (h2:(bdy (s.drop (slA s+1))).all yc=true):jC N s=some (rI (qji (s.take (slA s))),rI (qji (s.drop (slA s+1)))):=by
 have b1:=qga (s.take (slA s));have b2:=qga (s.drop (slA s+1));rw[Ym]at b1;rw[YJ]at b2;unfold jC;rw[qcu (by omega) (by omega),ZB,if_neg (by omega),ym (by omega),ZB,qhC (by omega) h1 (by omega),ZB,qJ (by omega),yL (by omega),ZB,qhC (by omega) h2 (by omega),ZB]
theorem qiN {N:Nat} (hN:600000<N) {s:Str} (hl:s.length<=10000):qa2 N s=some (chk s):=by
 have hb:=qga s;have hk:=qgk (bdy s)
 have lt:((bdy s).take (slA (bdy s))).length=slA (bdy s):=by rw[Ym];omega
 have ld:((bdy s).drop (slA (bdy s)+1)).length=(bdy s).length-(slA (bdy s)+1):=by rw[YJ]
 unfold qa2;rw[qgg,ZB,qlb,ZB,qcu (by omega) (by omega),ZB,ym hk,ZB,qh8 (by omega) (by omega),ZB]
 have I:Dec ((bdy s).take (slA (bdy s)))->((idx s 0).bind fun c13=>if(c13.toNat:Int)=45 then(some ((bdy s).take (slA (bdy s)))).bind fun s15=>some (s15==[48])else some false:Option Bool)=some (sgn s&&((bdy s).take (slA (bdy s))==[48])):=by
  intro hD;have h1:=hD.1;have hs:=qgg s;rw[if_pos (by omega)]at hs;rw[qcz]at hs⊢
  cases e:s[0]? with
  |none=>rw[e]at hs;cases hs
  |some c=>
   rw[e,ZB]at hs;rw[ZB,<-Ye hs];by_cases c2:(c.toNat:Int)=45
   ·rw[if_pos c2,decide_eq_true c2,ZB,Bool.true_and]
   rw[if_neg c2,decide_eq_false c2,Bool.false_and]
 have S16:(if(!decide (Dec ((bdy s).take (slA (bdy s)))))=true then some true else(idx s 0).bind fun c13=>if(c13.toNat:Int)=45 then(some ((bdy s).take (slA (bdy s)))).bind fun s15=>some (s15==[48])else some false:Option Bool)=some (!okF s):=by
  unfold okF;by_cases hD:Dec ((bdy s).take (slA (bdy s)))
  ·rw[if_neg (by simp[hD]),I hD];congr 1;rw[Bool.eq_iff_iff];simp[hD]
  rw[if_pos (by simp[hD])];simp[hD]
 rw[S16,ZB]
 have S26:(if(slA (bdy s):Int)<((bdy s).length:Int)then(cut (bdy s) (w64 ((slA (bdy s):Int)+1)) ((bdy s).length:Int)).bind fun s20=>(jk N s20).bind fun r21=>if(!r21)=true then some true else(cut (bdy s) (w64 ((slA (bdy s):Int)+1)) ((bdy s).length:Int)).bind fun s23=>if(s23==[48])=true then some true else(cut (bdy s) (w64 ((slA (bdy s):Int)+1)) ((bdy s).length:Int)).bind fun s25=>some (s25==[49])else some false:Option Bool)=some (qjL s):=by
  unfold qjL;by_cases c:slA (bdy s)<(bdy s).length
  ·rw[if_pos (by omega),qJ (by omega),yL (by omega),ZB,qh8 (by omega) (by omega),ZB];by_cases hD:Dec ((bdy s).drop (slA (bdy s)+1))
   ·rw[if_neg (by simp[hD]),ZB];by_cases h3:(bdy s).drop (slA (bdy s)+1)=[48]
    ·rw[if_pos (by simp[h3])];simp[c,h3]
    rw[if_neg (by simp[h3]),ZB];congr 1;rw[Bool.eq_iff_iff];simp[c,h3,hD]
   rw[if_pos (by simp[hD])];simp[c,hD]
  rw[if_neg (by omega)];simp[c]
 have S30:(if(slA (bdy s):Int)>600 then some true else some (decide ((w64 ((w64 (((bdy s).length:Int)-(slA (bdy s):Int)))-1))>600)):Option Bool)=some (decide (600<((bdy s).take (slA (bdy s))).length\/600<((bdy s).drop (slA (bdy s)+1)).length)):=by
  rw[lt,ld];by_cases c:(slA (bdy s):Int)>600
  ·rw[if_pos c,decide_eq_true (.inl (by omega))]
  rw[if_neg c,qh (n:=((bdy s).length:Int)-(slA (bdy s):Int)) (by omega) (by omega),qh (by omega) (by omega)];congr 1;exact decide_eq_decide.2 (by omega)
 unfold chk;by_cases h1:okF s=true
 ·rw[h1,if_neg (by simp),S26,ZB];by_cases h2:qjL s=true
  ·rw[h2,if_pos rfl,if_pos (.inr rfl)]
  have h2':qjL s=false:=by simpa using h2
  rw[h2',if_neg (by simp),S30,ZB,if_neg (show¬(true=false\/false=true)by simp)];by_cases h3:600<((bdy s).take (slA (bdy s))).length\/600<((bdy s).drop (slA (bdy s)+1)).length
  ·rw[decide_eq_true h3,if_pos rfl,if_pos h3]
  rw[decide_eq_false h3,if_neg (by simp),if_neg h3];by_cases c:slA (bdy s)<(bdy s).length
  ·have hDn:=(of_decide_eq_true h1).1
   have hDd:Dec ((bdy s).drop (slA (bdy s)+1))/\(bdy s).drop (slA (bdy s)+1)≠[48]/\(bdy s).drop (slA (bdy s)+1)≠[49]:=Classical.byContradiction fun hc=>of_decide_eq_false h2' ⟨c,hc⟩
   have ep:=qiS hN (s:=bdy s) (by omega) c (by rw[(qbF hDn.2.1).2];exact hDn.2.1) (by rw[(qbF hDd.1.2.1).2];exact hDd.1.2.1);rw[qdt hDn.2.1,qdt hDd.1.2.1]at ep;rw[if_pos (by omega),ep,ZB];simp only;have v1:=qe2 hDn (k:=600) (by omega);have v2:=qe2 hDd.1 (k:=600) (by omega);have v3:=qfL hDd.1 hDd.2.1;generalize qU 0 ((bdy s).take (slA (bdy s)))=n at*;generalize qU 0 ((bdy s).drop (slA (bdy s)+1))=d at*;have f1:jh ((n:Nat):Int) 8000:=(qjt (p:=600) (n:=70) (by omega) (by omega)).mono (by omega);have f2:jh ((d:Nat):Int) 8000:=(qjt (p:=600) (n:=70) (by omega) (by omega)).mono (by omega)
   have e1:(rI ((n:Nat):Int)).w=dg E9 ((n:Nat):Int):=by
    show dg E9 (((n:Nat):Int).natAbs:Int)=_;rw[Int.natAbs_natCast]
   have e2:(rI ((d:Nat):Int)).w=dg E9 ((d:Nat):Int):=by
    show dg E9 (((d:Nat):Int).natAbs:Int)=_;rw[Int.natAbs_natCast]
   have ec:=qiO (N:=N) hN (a:=((n:Nat):Int)) (b:=((d:Nat):Int)) (by omega) (by omega) f1 f2;have eg:Int.gcd ((n:Nat):Int) ((d:Nat):Int)=Nat.gcd n d:=rfl;rw[eg]at ec;rw[e1,e2,ec,ZB];have hg:0<Nat.gcd n d:=Nat.gcd_pos_of_pos_right _ v3;have cc:=zY E1 (show(0:Int)<=((Nat.gcd n d:Nat):Int)by omega);have vv:=jU E1 (show(0:Int)<=((Nat.gcd n d:Nat):Int)by omega);by_cases h4:Nat.gcd n d=1
   ·have:dg E9 ((Nat.gcd n d:Nat):Int)=[1]:=by rw[show((Nat.gcd n d:Nat):Int)=1 by omega];exact qo2
    rw[this,if_neg (by simp),qcz,if_neg (fun h=>h.2 h4)];rfl
   rw[if_pos (show slA (bdy s)<(bdy s).length/\Nat.gcd n d≠1 from⟨c,h4⟩)];by_cases h5:(dg E9 ((Nat.gcd n d:Nat):Int)).length=1
   ·obtain⟨x,hx⟩:=List.length_eq_one_iff.1 h5;rw[hx,zt,ze,Int.mul_zero,Int.add_zero]at vv
    have hx1:x≠1:=by omega
    rw[hx,if_neg (by simp),qcz];simp only[Yj,ZB,decide_eq_false hx1];rfl
   rw[if_pos (by simp;omega)];rfl
  rw[if_neg (by omega),if_neg (by omega)];rfl
 have h1':okF s=false:=by simpa using h1
 rw[h1',if_pos (by simp),if_pos (.inl rfl)]
end Go.Av
end
section
namespace Go.Av
def tl (q:Rat):Str:=if q.den=1 then[]else 47::Lib.decDigits q.den
theorem qmO (q:Rat):T q=Lib.itoa q.num++tl q:=rfl
theorem no47 {s:Str} (h:s.all yc=true): ∀c∈s,c≠47:=fun c hc e=>by
 have:=Yp.1 h c hc;rw[e]at this;exact absurd this (by decide)
theorem qj3: ∀{s:Str},(∀c∈s,c≠47)->slA s=s.length:=fun {s} h=>(qjz s [] h).2
theorem qjH {s:Str} (h: ∀c∈s,c≠47) (q:Rat):slA (s++tl q)=s.length:=by
 unfold tl;by_cases c:q.den=1
 ·rw[if_pos c,YQ];exact qj3 h
 rw[if_neg c];exact(qjz s _ h).1
theorem qeV (z:Int): ∀c∈Lib.itoa z,c≠47:=by
 by_cases h:z<0
 ·rw[yf h];intro c hc;rcases List.mem_cons.1 hc with e|e
  ·rw[e];decide
  exact no47 (qbY _) c e
 rw[zQ h];exact no47 (qbY _)
theorem qqa {s t:Str} (h:0<s.length):sgn (s++t)=sgn s:=by
 unfold sgn;rw[Yf h]
theorem qj0 (z:Int):0<(Lib.itoa z).length:=by
 by_cases h:z<0
 ·rw[yf h];simp
 rw[zQ h];exact qk7 _
theorem qmg (q:Rat):sgn (T q)=decide (q.num<0):=by rw[qmO,qqa (qj0 _),qfJ]
theorem qqW (q:Rat):bdy (T q)=Lib.decDigits q.num.natAbs++tl q:=by
 unfold bdy;rw[qmg,qmO];by_cases h:q.num<0
 ·rw[decide_eq_true h,if_pos rfl,yf h];rfl
 rw[decide_eq_false h,if_neg (by simp),zQ h]
theorem T_inj {p q:Rat} (h:T p=T q):p=q:=by
 have h1:=congrArg slA h;have e1:slA (T p)=(Lib.itoa p.num).length:=qjH (qeV _) p;have e2:slA (T q)=(Lib.itoa q.num).length:=qjH (qeV _) q;rw[e1,e2]at h1;rw[qmO,qmO]at h;obtain⟨h2,h3⟩:=List.append_inj h h1
 have n1:p.num=q.num:=by rw[<-qcd p.num,h2,qcd]
 have n2:p.den=q.den:=by
  unfold tl at h3;by_cases c:p.den=1
  ·by_cases d:q.den=1
   ·rw[c,d]
   rw[if_pos c,if_neg d]at h3;cases h3
  by_cases d:q.den=1
  ·rw[if_neg c,if_pos d]at h3;cases h3
  rw[if_neg c,if_neg d]at h3;injection h3 with _ h3;exact qrF h3
 exact Rat.ext n1 n2
theorem qlW: ∀{s:Str},slA s<s.length->s=s.take (slA s)++47::s.drop (slA s+1)
 |[],h=>by simp at h
 |c::s,h=>by
  rw[slA]at h⊢;by_cases e:c=47
  ·rw[if_pos e,e];rfl
  rw[if_neg e,Yr]at h;rw[if_neg e,List.take_succ_cons,List.drop_succ_cons,List.cons_append,<-qlW (show slA s<s.length by omega)]
theorem qp6 (s:Str):s=if sgn s=true then 45::bdy s else bdy s:=by
 unfold bdy
 cases h:sgn s with
 |false=>rw[if_neg (by simp),if_neg (by simp)]
 |true=>
  rw[if_pos rfl,if_pos rfl]
  cases s with
  |nil=>cases h
  |cons c t=>
   have e:=of_decide_eq_true h;simp only[Yj]at e;rw[Ye e];rfl
theorem qo7 {s:Str} (h:chk s=0): ∃q:Rat,s=T q/\(Lib.decDigits q.num.natAbs).length<=600/\(Lib.decDigits q.den).length<=600:=by
 have hk:=qgk (bdy s)
 have lt:((bdy s).take (slA (bdy s))).length=slA (bdy s):=by rw[Ym];omega
 have hs:=qp6 s;have hsp:=@qlW (bdy s);unfold chk at h;by_cases h1:okF s=false\/qjL s=true
 ·rw[if_pos h1]at h;cases h
 rw[if_neg h1]at h;by_cases h2:600<((bdy s).take (slA (bdy s))).length\/600<((bdy s).drop (slA (bdy s)+1)).length
 ·rw[if_pos h2]at h;cases h
 rw[if_neg h2]at h;by_cases h3:slA (bdy s)<(bdy s).length/\Nat.gcd (qU 0 ((bdy s).take (slA (bdy s)))) (qU 0 ((bdy s).drop (slA (bdy s)+1)))≠1
 ·rw[if_pos h3]at h;cases h
 have ho:okF s=true:=by cases e:okF s with|true=>rfl|false=>exact absurd (.inl e) h1
 have hb:qjL s=false:=by cases e:qjL s with|false=>rfl|true=>exact absurd (.inr e) h1
 obtain⟨hDn,hng⟩:=of_decide_eq_true ho;have en:=hDn.eq
 obtain⟨z,hz1,hz2⟩: ∃z:Int,z.natAbs=qU 0 ((bdy s).take (slA (bdy s)))/\(z<0↔sgn s=true):=by
  cases e:sgn s with
  |false=>exact⟨((qU 0 ((bdy s).take (slA (bdy s))):Nat):Int),by omega,by simp⟩
  |true=>
   have:=qfL hDn fun c=>hng ⟨e,c⟩
   exact⟨-((qU 0 ((bdy s).take (slA (bdy s))):Nat):Int),by omega,by simp;omega⟩
 have hT: ∀t:Str,bdy s=(bdy s).take (slA (bdy s))++t->s=Lib.itoa z++t:=by
  intro t ht;rw[hs];by_cases c:z<0
  ·rw[if_pos (hz2.1 c),yf c,hz1,<-en,List.cons_append,<-ht]
  rw[if_neg fun e=>c (hz2.2 e),zQ c,hz1,<-en,<-ht]
 by_cases c:slA (bdy s)<(bdy s).length
 ·have hDd:Dec ((bdy s).drop (slA (bdy s)+1))/\(bdy s).drop (slA (bdy s)+1)≠[48]/\(bdy s).drop (slA (bdy s)+1)≠[49]:=Classical.byContradiction fun hc=>of_decide_eq_false hb ⟨c,hc⟩
  have ed:=hDd.1.eq;have hd0:=qfL hDd.1 hDd.2.1
  have hd1:qU 0 ((bdy s).drop (slA (bdy s)+1))≠1:=fun e=>by
   rw[e,vR (by decide)]at ed;exact hDd.2.2 ed
  have hg:Nat.gcd z.natAbs (qU 0 ((bdy s).drop (slA (bdy s)+1)))=1:=by
   rw[hz1]
   exact Classical.byContradiction fun e=>h3 ⟨c,e⟩
  refine⟨⟨z,qU 0 ((bdy s).drop (slA (bdy s)+1)),by omega,hg⟩,?_,?_,?_⟩
  ·have:=hT _ (hsp c);unfold T;rw[if_neg hd1];show s=Lib.itoa z++47::Lib.decDigits (qU 0 ((bdy s).drop (slA (bdy s)+1)));rw[<-ed];exact this
  ·show(Lib.decDigits z.natAbs).length<=600;rw[hz1,<-en];omega
  show(Lib.decDigits (qU 0 ((bdy s).drop (slA (bdy s)+1)))).length<=600;rw[<-ed];omega
 refine⟨(z:Rat),?_,?_,?_⟩
 ·have:=hT [] (by rw[YQ,List.take_of_length_le (by omega)]);unfold T;rw[Rat.den_intCast,if_pos rfl,Rat.num_intCast];exact this
 ·rw[Rat.num_intCast,hz1,<-en];omega
 rw[Rat.den_intCast,vR (by decide)];simp
end Go.Av
end
section
namespace Go.Av
def Sml (q:Rat) (k:Nat):Prop:=(Lib.decDigits q.num.natAbs).length<=k/\(Lib.decDigits q.den).length<=k
theorem qhh (z:Int):(Lib.itoa z).length<=(Lib.decDigits z.natAbs).length+1:=by
 by_cases h:z<0
 ·rw[yf h];simp
 rw[zQ h];omega
theorem qeY (q:Rat) (h:q.den≠1):slA (T q)<(T q).length/\(T q).take (slA (T q))=Lib.itoa q.num/\(T q).drop (slA (T q)+1)=Lib.decDigits q.den:=by
 have e:slA (T q)=(Lib.itoa q.num).length:=qjH (qeV _) q
 have ht:T q=Lib.itoa q.num++47::Lib.decDigits q.den:=by unfold T;rw[if_neg h]
 rw[e,ht];refine⟨by rw[Yq,Yr];omega,?_,?_⟩
 ·rw[List.take_append_of_le_length (Nat.le_refl _),List.take_of_length_le (Nat.le_refl _)]
 rw[List.drop_append,List.drop_of_length_le (by omega),show(Lib.itoa q.num).length+1-(Lib.itoa q.num).length=1 by omega];rfl
theorem qdT (q:Rat) (h:q.den=1):T q=Lib.itoa q.num/\slA (T q)=(T q).length:=by
 have ht:T q=Lib.itoa q.num:=by unfold T;rw[if_pos h,YQ]
 refine⟨ht,?_⟩;rw[ht];exact qj3 (qeV _)
theorem qkk {q:Rat} {k:Nat} (h:Sml q k):(T q).length<=2*k+2:=by
 have h1:=qhh q.num;have h2:=h.1;have h3:=h.2;unfold T;rw[Yq];split
 ·simp;omega
 rw[Yr];omega
theorem qp5 {N:Nat} (hN:600000<N) {q:Rat} (h:Sml q 9000): ∃f,qez N (T q)=some f/\IsF f q:=by
 have hl:=qkk h;have h1:=h.1;have h2:=h.2;unfold qez;rw[qnN (by omega),ZB];obtain⟨r1,e1,i1⟩:=qg9 hN (s:=Lib.itoa q.num) (by rw[qbT];exact qbY _) (by rw[qbT];omega);rw[qcd]at i1;by_cases c:q.den=1
 ·obtain⟨t1,t2⟩:=qdT q c;rw[if_neg (show¬slA (T q)<(T q).length by omega)];obtain⟨f,e2,i2⟩:=qh0 i1;rw[if_pos (by rfl),t1,e1,ZB,e2,ZB];refine⟨f,rfl,?_⟩;have:(q.num:Rat)=q:=Rat.ext (by simp) (by simp[c]);rw[this]at i2;exact i2
 obtain⟨t1,t2,t3⟩:=qeY q c;rw[if_pos t1];have hd:=qbY q.den;obtain⟨r2,e2,i2⟩:=qg9 hN (s:=Lib.decDigits q.den) (by rw[(qbF hd).2];exact hd) (by rw[(qbF hd).2];omega);rw[qdt hd,qeI]at i2;rw[if_neg (by simp),t2,t3,e1,ZB,e2,ZB];exact⟨⟨r1,r2⟩,rfl,i1,i2⟩
theorem qda {N:Nat} (hN:600000<N) {q:Rat} (h:Sml q 4000):jC N (T q)=some (rI q.num,rI (q.den:Int)):=by
 have hl:=qkk h;have h1:=h.1;have h2:=h.2;by_cases c:q.den=1
 ·obtain⟨t1,t2⟩:=qdT q c;unfold jC;rw[qcu (by omega) (by omega),ZB,t2,if_pos rfl,t1,qhC (by omega) (by rw[qbT];exact qbY _) (by rw[qbT];omega),ZB,qrD (by omega),ZB,qcd,c];rfl
 obtain⟨t1,t2,t3⟩:=qeY q c;have hd:=qbY q.den;rw[qiS hN (by omega) t1 (by rw[t2,qbT];exact qbY _) (by rw[t3,(qbF hd).2];exact hd),t2,t3,qcd,qdt hd,qeI]
end Go.Av
end
section
namespace Go.Av
theorem qnf {n:Nat} (h:0<n):(if((dg E9 (n:Int)).length:Int)=1 then(idx (dg E9 (n:Int)) 0).bind fun x15=>some (decide (x15=1))else some false:Option Bool)=some (decide (n=1)):=by
 have vv:=jU E1 (show(0:Int)<=(n:Int)by omega);by_cases h4:n=1
 ·rw[show(n:Int)=1 by omega,qo2,if_pos (by simp),qcz,h4];rfl
 rw[decide_eq_false h4];by_cases h5:(dg E9 (n:Int)).length=1
 ·obtain⟨x,hx⟩:=List.length_eq_one_iff.1 h5;rw[hx,zt,ze,Int.mul_zero,Int.add_zero]at vv
  have hx1:x≠1:=by omega
  rw[hx,if_pos (by simp),qcz];simp only[Yj,ZB,decide_eq_false hx1]
 rw[if_neg (by omega)]
theorem jh.abs {z:Int} {n:Nat} (h:jh z n):jh (z.natAbs:Int) n:=by
 unfold jh at h⊢;rw[Int.natAbs_natCast];exact h
theorem jh.le {a b:Int} {n:Nat} (h:(a.natAbs:Int)<=(b.natAbs:Int)) (k:jh b n):jh a n:=Int.lt_of_le_of_lt h k
theorem jh.itoaLen {z:Int} {n:Nat} (h:jh z n) (hn:0<n):(Lib.itoa z).length<=9*n+1:=by
 have h2:z.natAbs<10^(9*n):=by
  have h:(z.natAbs:Int)<E9^n:=h;rw[qij]at h;exact Int.ofNat_lt.1 h
 have h3:=(qaS (show 0<9*n by omega)).2 h2;have h4:=qhh z;omega
theorem qlX {N:Nat} (hN:60000<N) {x y:Int} (hx:0<=x) (hy:0<y) {B:Nat} (hB:B<=8000) (fx:jh x B):jB N (dg E9 x) (dg E9 y)=some (dg E9 (x/y),dg E9 (x%y)):=by
 have l:=fx.len;rw[show(x.natAbs:Int)=x by omega]at l;rw[qdD hN (zY E1 hx) (zY E1 (by omega)) (by omega) (by rw[jU E1 (by omega)];exact hy),jU E1 hx,jU E1 (by omega)]
theorem den_pos (q:Rat):0<q.den:=Nat.pos_of_ne_zero q.den_nz
theorem qiw {a b:Int} (hb:b≠0):(b.sign*a).natAbs=a.natAbs:=by rw[Int.natAbs_mul,Int.natAbs_sign_of_ne_zero hb,Nat.one_mul]
theorem ql2 (a b:Int):Int.gcd (a.natAbs:Int) (b.natAbs:Int)=Int.gcd b a:=by
 rw[Int.gcd_comm];rfl
theorem qdZ {N:Nat} (hN:600000<N) {B:Nat} (hB0:0<B) (hB:B<=8000) {a b:Int} (fa:jh a B) (fb:jh b B) (hb:b≠0):ve N (rI a) (rI b)=some (T (Rat.divInt a b)):=by
 have hg:0<Int.gcd b a:=Int.gcd_pos_of_ne_zero_left _ hb;have ea:=qiw (a:=a) hb
 have S:(if(rI b).neg=true then(xy N (rI a)).bind fun r7=>(xy N (rI b)).bind fun r8=>some (r7.neg,r7.w,r8.neg,r8.w)else some ((rI a).neg,(rI a).w,(rI b).neg,(rI b).w):Option (Bool×(List Int)×Bool×(List Int)))=some (decide (b.sign*a<0),dg E9 (a.natAbs:Int),false,dg E9 (b.natAbs:Int)):=by
  by_cases h:b<0
  ·rw[if_pos (show(rI b).neg=true from decide_eq_true h),qkr (by omega) (fa.mono (by omega)),ZB,qkr (by omega) (fb.mono (by omega)),ZB,Int.sign_eq_neg_one_of_neg h,Int.neg_mul,Int.one_mul];show some (decide (-a<0),dg E9 (((-a).natAbs:Nat):Int),decide (-b<0),dg E9 (((-b).natAbs:Nat):Int))=_;rw[decide_eq_false (show¬ -b<0 by omega),Int.natAbs_neg,Int.natAbs_neg]
  rw[if_neg (show¬(rI b).neg=true from fun c=>h (of_decide_eq_true c)),Int.sign_eq_one_of_pos (by omega),Int.one_mul];show some (decide (a<0),dg E9 ((a.natAbs:Nat):Int),decide (b<0),dg E9 ((b.natAbs:Nat):Int))=_;rw[decide_eq_false h]
 have en:(Rat.divInt a b).num=b.sign*a/(Int.gcd b a:Int):=Rat.num_divInt ..
 have ed:(b.natAbs:Int)/(Int.gcd b a:Int)=((Rat.divInt a b).den:Int):=by rw[Rat.den_divInt,if_neg hb,Int.natCast_ediv]
 have hd:=den_pos (Rat.divInt a b);have dvd:(Int.gcd b a:Int)∣b.sign*a:=Int.dvd_mul_of_dvd_right (Int.gcd_dvd_right ..)
 have fn:jh (Rat.divInt a b).num B:=by
  rw[en];exact jh.le (Int.le_trans (xG _ (by omega)) (by rw[ea];exact Int.le_refl _)) fa
 have fd:jh ((Rat.divInt a b).den:Int) B:=by
  rw[<-ed];exact jh.le (Int.le_trans (xG _ (by omega)) (Int.le_refl _)) fb.abs
 have vn:(if decide (b.sign*a<0)=true then-dv E9 (dg E9 ((a.natAbs:Int)/(Int.gcd b a:Int)))else dv E9 (dg E9 ((a.natAbs:Int)/(Int.gcd b a:Int))))=(Rat.divInt a b).num:=by
  have p0:0<=(a.natAbs:Int)/(Int.gcd b a:Int):=Int.ediv_nonneg (by omega) (by omega);rw[jU E1 p0,en];by_cases c:b.sign*a<0
  ·rw[if_pos (decide_eq_true c),show(a.natAbs:Int)= -(b.sign*a)by omega,Int.neg_ediv_of_dvd dvd,Int.neg_neg]
  rw[if_neg (fun h=>c (of_decide_eq_true h)),show(a.natAbs:Int)=b.sign*a by omega]
 unfold ve;rw[S,ZB];simp only;rw[qiO hN (by omega) (by omega) (fa.abs.mono hB) (fb.abs.mono hB),ZB,ql2,qlX (by omega) (by omega) (by omega) hB fa.abs,ZB,qlX (by omega) (by omega) (by omega) hB fb.abs,ZB];simp only;have p0:0<=(a.natAbs:Int)/(Int.gcd b a:Int):=Int.ediv_nonneg (by omega) (by omega)
 have ln:(dg E9 ((a.natAbs:Int)/(Int.gcd b a:Int))).length<=B:=by
  have:=(jh.le (Int.le_trans (xG _ (by omega)) (Int.le_refl _)) fa.abs:jh ((a.natAbs:Int)/(Int.gcd b a:Int)) B).len;rw[show(((a.natAbs:Int)/(Int.gcd b a:Int)).natAbs:Int)=(a.natAbs:Int)/(Int.gcd b a:Int)by omega]at this;exact this
 have ld:(dg E9 ((Rat.divInt a b).den:Int)).length<=B:=by
  have:=fd.len;rw[Int.natAbs_natCast]at this;exact this
 rw[qaw _ (zY E1 p0).1 (by omega) (by omega),ZB,vn,qme (by omega) (fn.mono (by omega)),ZB,ed,qnf hd,ZB];have l1:=fn.itoaLen hB0;have l2:=fd.itoaLen hB0;unfold T;by_cases c:(Rat.divInt a b).den=1
 ·rw[if_pos (decide_eq_true c),if_pos c,YQ]
 rw[if_neg (fun h=>c (of_decide_eq_true h)),if_neg c,qbC (by simp;omega),ZB,qaw _ (zY E1 (by omega)).1 (by omega) (by omega),ZB,if_neg (by simp),jU E1 (by omega),qme (by omega) (fd.mono (by omega)),ZB,qbC (by simp;omega),ZB,qgq,Yz];rfl
theorem qq4 {a b:Int} (ha:0<=a) (hb:0<b):qeG .i64 a b=some (a%b):=by
 unfold qeG;rw[if_neg (by omega),Int.tmod_eq_emod_of_nonneg ha]
theorem qq3 {a b:Int} (hb:0<b) (h1: -4000000000000000000<=a) (h2:a<=4000000000000000000) (hd:b∣a):qco .i64 a b=some (a/b):=by
 have:=xG a hb;unfold qco;rw[if_neg (by omega),Int.tdiv_eq_ediv_of_dvd hd];show some (w64 _)=_;rw[qh (by omega) (by omega)]
theorem qlQ: ∀(k K:Nat) (a b:Int),0<=a->0<=b->b<2^k->2*k+2<=K->jT K a b=some (Int.gcd a b:Int)
 |k,0,a,b,_,_,_,hK=>by omega
 |k,K+1,a,b,ha,hb,hk,hK=>by
  have na:(a.natAbs:Int)=a:=by omega
  have nb:(b.natAbs:Int)=b:=by omega
  rcases(show b=0\/0<b by omega)with h0|h0
  ·rw[h0,jT,if_neg (by omega),Int.gcd_zero,na]
  match k,hk,hK with
  |0,hk,hK=>simp at hk;omega
  |k+1,hk,hK=>
   have m0:=Int.emod_nonneg a (show b≠0 by omega);have m1:=Int.emod_lt_of_pos a h0;rw[jT,if_pos (by omega),qq4 ha h0,ZB,qdb ha hb]
   match K,hK with
   |0,hK=>omega
   |K+1,hK=>
    rcases(show a%b=0\/0<a%b by omega)with g0|g0
    ·rw[g0,jT,if_neg (by omega),Int.gcd_zero,nb]
    have n0:=Int.emod_nonneg b (show a%b≠0 by omega);have n1:=Int.emod_lt_of_pos b g0
    have hhalf:b%(a%b)<2^k:=by
     have d1:=Int.mul_ediv_add_emod b (a%b)
     have d2:1<=b/(a%b):=by
      rw[Int.le_ediv_iff_mul_le g0];omega
     have d3:a%b*1<=a%b*(b/(a%b)):=Yc d2 (by omega);rw[Int.pow_succ]at hk;omega
    rw[jT,if_pos (by omega),qq4 hb g0,ZB,qdb hb m0];exact qlQ k K (a%b) (b%(a%b)) m0 n0 hhalf (by omega)
theorem qqH {N:Nat} (hN:200<N) {a b:Int} (ha:0<=a) (hb:0<=b) (h:b<9223372036854775808):qdu N a b=some (Int.gcd a b:Int):=by
 unfold qdu;rw[qlQ 63 N a b ha hb h (by omega),ZB]
theorem rabs {z:Int} (h1: -9223372036854775807<=z) (h2:z<=9223372036854775807):(if w64 (0-z)>z then w64 (0-z)else z)=(z.natAbs:Int):=by
 rw[qh (by omega) (by omega)];split<;>omega
theorem qq7 {n:Nat} (h:n<=4000000000000000000):(Lib.decDigits n).length<=19:=(qaS (by decide)).2 (by omega)
theorem qog {N:Nat} (hN:1000<N) {a b:Int} (a1: -4000000000000000000<=a) (a2:a<=4000000000000000000) (b1: -4000000000000000000<=b) (b2:b<=4000000000000000000) (hb:b≠0):qdr N a b=some (T (Rat.divInt a b)):=by
 have hg:0<Int.gcd b a:=Int.gcd_pos_of_ne_zero_left _ hb;have ea:=qiw (a:=a) hb
 have S:(if b<0 then some (w64 (0-a),w64 (0-b))else some (a,b):Option (Int×Int))=some (b.sign*a,(b.natAbs:Int)):=by
  by_cases h:b<0
  ·rw[if_pos h,qh (by omega) (by omega),qh (by omega) (by omega),Int.sign_eq_neg_one_of_neg h,show(-1:Int)*a=0-a by omega,show(b.natAbs:Int)=0-b by omega]
  rw[if_neg h,Int.sign_eq_one_of_pos (by omega),Int.one_mul,show(b.natAbs:Int)=b by omega]
 have en:(Rat.divInt a b).num=b.sign*a/(Int.gcd b a:Int):=Rat.num_divInt ..
 have ed:(b.natAbs:Int)/(Int.gcd b a:Int)=((Rat.divInt a b).den:Int):=by rw[Rat.den_divInt,if_neg hb,Int.natCast_ediv]
 have hd:=den_pos (Rat.divInt a b);have dvd:(Int.gcd b a:Int)∣b.sign*a:=Int.dvd_mul_of_dvd_right (Int.gcd_dvd_right ..)
 have dvb:(Int.gcd b a:Int)∣(b.natAbs:Int):=by
  rw[Int.dvd_natAbs];exact Int.gcd_dvd_left ..
 have n1:=xG (b.sign*a) (show(0:Int)<(Int.gcd b a:Int)by omega);have n2:=xG (b.natAbs:Int) (show(0:Int)<(Int.gcd b a:Int)by omega);rw[<-en,ea]at n1;rw[ed,Int.natAbs_natCast,Int.natAbs_natCast]at n2;unfold qdr;rw[if_neg (show¬a< -4000000000000000000 by omega),if_neg (show¬a>4000000000000000000 by omega),if_neg (show¬b< -4000000000000000000 by omega),decide_eq_false (show¬b>4000000000000000000 by omega),ZB,if_neg (by simp),S,ZB];simp only;rw[rabs (by omega) (by omega),ea,qqH (by omega) (by omega) (by omega) (by omega),ZB,ql2,qq3 (by omega) (by omega) (by omega) dvd,ZB,qq3 (by omega) (by omega) (by omega) dvb,ZB,<-en,ed,rabs (by omega) (by omega),qhU (by omega) (by omega),qhU (by omega) (by omega)];generalize Rat.divInt a b=q at*;have l1:=qq7 (n:=q.num.natAbs) (by omega);have l2:=qq7 (n:=q.den) (by omega)
 have S2:((if q.num<0 then some [45]else some []:Option Str).bind fun s17=>(some (Lib.decDigits q.num.natAbs)).bind fun r20=>(cat s17 r20).bind fun s21=>(if(q.den:Int)>1 then(cat s21 [47]).bind fun s25=>(some (Lib.decDigits q.den)).bind fun r26=>(cat s25 r26).bind fun s27=>some s27 else some s21:Option Str).bind fun s22=>some s22)=some (T q):=by
  have li:(Lib.itoa q.num).length<=20:=by have:=qhh q.num;omega
  have I:((if q.num<0 then some [45]else some []:Option Str).bind fun s17=>(some (Lib.decDigits q.num.natAbs)).bind fun r20=>(cat s17 r20).bind fun s21=>(if(q.den:Int)>1 then(cat s21 [47]).bind fun s25=>(some (Lib.decDigits q.den)).bind fun r26=>(cat s25 r26).bind fun s27=>some s27 else some s21:Option Str).bind fun s22=>some s22)=((if(q.den:Int)>1 then(cat (Lib.itoa q.num) [47]).bind fun s25=>(some (Lib.decDigits q.den)).bind fun r26=>(cat s25 r26).bind fun s27=>some s27 else some (Lib.itoa q.num):Option Str).bind fun s22=>some s22):=by
   by_cases c:q.num<0
   ·rw[if_pos c,ZB,ZB,qbC (by simp;omega),ZB,yf c];rfl
   rw[if_neg c,ZB,ZB,qbC (by simp;omega),ZB,zQ c];rfl
  rw[I];unfold T;by_cases c:q.den=1
  ·rw[if_neg (by omega),if_pos c,ZB,YQ]
  rw[if_pos (by omega),if_neg c,qbC (by simp;omega),ZB,ZB,qbC (by simp;omega),ZB,ZB,Yz];rfl
 exact S2
end Go.Av
end
section
namespace Go.Av
theorem Sml.mono {q:Rat} {m n:Nat} (h:Sml q m) (hn:m<=n):Sml q n:=⟨Nat.le_trans h.1 hn,Nat.le_trans h.2 hn⟩
theorem qdO {q:Rat} {k n:Nat} (h:Sml q k) (hk:0<k) (hn:k<=9*n):jh q.num n:=qjt (p:=k) (Int.ofNat_lt.2 ((qaS hk).1 h.1)) hn
theorem qdJ {q:Rat} {k n:Nat} (h:Sml q k) (hk:0<k) (hn:k<=9*n):jh (q.den:Int) n:=qjt (p:=k) (by rw[Int.natAbs_natCast];exact Int.ofNat_lt.2 ((qaS hk).1 h.2)) hn
theorem qlE {z:Int} {n:Nat} (h:jh z n) (hn:0<n):(Lib.decDigits z.natAbs).length<=9*n:=by
 refine(qaS (by omega)).2 ?_;have h:(z.natAbs:Int)<E9^n:=h;rw[qij]at h;exact Int.ofNat_lt.1 h
theorem qoB {q:Rat} {n:Nat} (h1:jh q.num n) (h2:jh (q.den:Int) n) (hn:0<n):Sml q (9*n):=by
 have h3:=qlE h2 hn;rw[Int.natAbs_natCast]at h3;exact⟨qlE h1 hn,h3⟩
theorem qjR {a b:Int} {n:Nat} (hb:b≠0) (fa:jh a n) (fb:jh b n):jh (Rat.divInt a b).num n/\jh ((Rat.divInt a b).den:Int) n:=by
 have hg:0<Int.gcd b a:=Int.gcd_pos_of_ne_zero_left _ hb;constructor
 ·rw[Rat.num_divInt];exact jh.le (Int.le_trans (xG _ (by omega)) (by rw[qiw hb];exact Int.le_refl _)) fa
 rw[Rat.den_divInt,if_neg hb,Int.natCast_ediv];exact jh.le (Int.le_trans (xG _ (by omega)) (Int.le_refl _)) fb.abs
theorem qbm {a b:Int} {m n:Nat} (ha:jh a m) (hb:jh b n):jh (a*b) (m+n):=by
 unfold jh at*;rw[Int.natAbs_mul,Int.natCast_mul,Int.pow_add];have h1:(a.natAbs:Int)*(b.natAbs:Int)<=(a.natAbs:Int)*E9^n:=Yc (Int.le_of_lt hb) (by omega);have h2:(a.natAbs:Int)*E9^n<E9^m*E9^n:=YH ha (pow_pos E0 n);omega
theorem qoy {a b:Int} {n:Nat} (ha:jh a n) (hb:jh b n):jh (a+b) (n+1):=by
 unfold jh at*;rw[Int.pow_succ];have hp:=pow_pos E0 n
 have:((a+b).natAbs:Int)<=(a.natAbs:Int)+(b.natAbs:Int):=by omega
 unfold E9 at*;omega
theorem qkC {q:Rat} (h:Sml q 600):qk8 q=false:=by
 have h1:=h.1;have h2:=h.2;unfold qk8 lng;rw[Int.natAbs_natCast,decide_eq_false (by omega),decide_eq_false (by omega)];rfl
theorem qko (s:Str):qaj s=some (if s=[48]then 0 else if sgn s=true then-1 else 1):=by
 unfold qaj;by_cases c:s=[48]
 ·rw[if_pos (by simp[c]),if_pos c]
 rw[if_neg (by simp[c]),qgg,ZB,if_neg c];cases sgn s<;>rfl
theorem qqV:Lib.itoa 0=[48]:=by
 rw[zQ (by decide),show(0:Int).natAbs=0 from rfl,vR (by decide)];rfl
theorem qnl {z:Int}:Lib.itoa z=[48]↔z=0:=by
 constructor
 ·intro h;have h2:=qcd z;rw[h]at h2;exact h2.symm
 intro h;rw[h];exact qqV
theorem T0:T 0=[48]:=by
 rw[(qdT 0 rfl).1];exact qqV
theorem qjG {q:Rat}:T q=[48]↔q=0:=by
 constructor
 ·intro h;exact T_inj (h.trans T0.symm)
 intro h;rw[h];exact T0
theorem qo9 (q:Rat):qaj (T q)=some (if q.num<0 then-1 else if q.num=0 then 0 else 1):=by
 rw[qko,qmg];by_cases c:q=0
 ·rw[if_pos (qjG.2 c),c];rfl
 rw[if_neg (fun h=>c (qjG.1 h)),if_neg (show¬q.num=0 from fun h=>c (Rat.num_eq_zero.1 h))];by_cases d:q.num<0
 ·rw[decide_eq_true d,if_pos rfl,if_pos d]
 rw[decide_eq_false d,if_neg (by simp),if_neg d]
theorem qrr (q:Rat):tl (-q)=tl q:=by
 unfold tl;rw[Rat.neg_den]
theorem Neg_T {N:Nat} {q:Rat} (h:(T q).length<=100000):qds (T q)=some (T (-q)):=by
 unfold qds;rw[qo9,ZB]
 have e:T (-q)=Lib.itoa (-q.num)++tl q:=by rw[qmO,qrr,Rat.neg_num]
 by_cases c:q.num<0
 ·have hs:sgn (T q)=true:=by rw[qmg];exact decide_eq_true c
  have hb:(T q).drop 1=bdy (T q):=by unfold bdy;rw[if_pos hs]
  have h1:=qjF hs;rw[if_pos c,if_pos (by decide),show(1:Int)=((1:Nat):Int)from rfl,yL h1,ZB,hb,qqW,e,zQ (by omega),Int.natAbs_neg]
 rw[if_neg c,if_neg (by split<;>decide),ZB];by_cases d:q.num=0
 ·rw[if_pos d,if_pos rfl,Rat.num_eq_zero.1 d];rfl
 rw[if_neg d,if_neg (by decide),qbC (by simp;omega),ZB,e,yf (by omega),Int.natAbs_neg,qmO,zQ c];rfl
theorem qp8 {N:Nat} (hN:100000<N) {q:Rat} {k:Nat} (h:Sml q k) (hk:k<=9000):qbV N (T q)=some (if qk8 q=true then 4 else 0):=by
 have hl:=qkk h;have hs:=qcu (N:=N) (s:=T q) (by omega) (by omega)
 have hnum:qa3 N (T q)=some (Lib.itoa q.num):=by
  unfold qa3;rw[hs,ZB];by_cases c:q.den=1
  ·obtain⟨t1,t2⟩:=qdT q c;rw[ym (by omega),ZB,t2,List.take_length,t1]
  obtain⟨t1,t2,t3⟩:=qeY q c;rw[ym (by omega),ZB,t2]
 have habs:qa1 (Lib.itoa q.num)=some (Lib.decDigits q.num.natAbs):=by
  have hs:=qfJ q.num;have hb:=qbT q.num;unfold qa1;rw[qko,ZB,hs];unfold bdy at hb;rw[hs]at hb;by_cases c:q.num<0
  ·rw[if_neg (show¬Lib.itoa q.num=[48]from fun h=>by have:=qnl.1 h;omega),if_pos (decide_eq_true c),if_pos (by decide),show(1:Int)=((1:Nat):Int)from rfl,yL (qj0 _),ZB];rw[if_pos (decide_eq_true c)]at hb;rw[hb]
  rw[decide_eq_false c,if_neg (by split<;>simp),zQ c]
 have hden:qa4 N (T q)=some (Lib.decDigits q.den):=by
  unfold qa4;rw[hs,ZB];by_cases c:q.den=1
  ·obtain⟨t1,t2⟩:=qdT q c;rw[if_pos (by omega),c,vR (by decide)];rfl
  obtain⟨t1,t2,t3⟩:=qeY q c;rw[if_neg (by omega),qJ (by omega),yL (by omega),ZB,t3]
 unfold qbV;rw[hnum,ZB,habs,ZB,hden];unfold qk8 lng;rw[Int.natAbs_natCast];by_cases c:600<(Lib.decDigits q.num.natAbs).length
 ·rw[if_pos (by omega),decide_eq_true c,Bool.true_or];rfl
 rw[if_neg (by omega),decide_eq_false c,Bool.false_or,ZB];by_cases d:600<(Lib.decDigits q.den).length
 ·rw[decide_eq_true (by omega),decide_eq_true d];rfl
 rw[decide_eq_false (by omega),decide_eq_false d];rfl
theorem qhk {N:Nat} (hN:100000<N) {q:Rat} {k:Nat} (h:Sml q k) (hk:k<=9000):vE N (T q)=some (0,0,false)\/(vE N (T q)=some (q.num,(q.den:Int),true)/\q.num.natAbs<1000000000/\q.den<1000000000):=by
 have hl:=qkk h;have hb:=qga (T q);have eb:=qqW q;have es:slA (Lib.decDigits q.num.natAbs++tl q)=(Lib.decDigits q.num.natAbs).length:=qjH (no47 (qbY _)) q;have lt:(Lib.decDigits q.num.natAbs++tl q).length=(Lib.decDigits q.num.natAbs).length+(tl q).length:=Yq;rw[eb]at hb;unfold vE;by_cases c:((T q).length:Int)>20
 ·left;rw[if_pos c]
 rw[if_neg c,qgg,ZB,qlb,ZB,eb,qcu (by omega) (by omega),ZB,es,qmg];by_cases c1:(Lib.decDigits q.num.natAbs).length>9
 ·left;rw[if_pos (by omega),ZB,if_pos rfl]
 rw[if_neg (by omega),qh (by omega) (by omega)];by_cases c2:(tl q).length>10
 ·left;rw[decide_eq_true (by omega),ZB,if_pos rfl]
 right;rw[decide_eq_false (by omega),ZB,if_neg (by simp),ym (by omega),ZB,List.take_left',qfH (by omega) (qbY _) (by omega),ZB,qeI]
 ·have hn:q.num.natAbs<1000000000:=(qaS (show 0<9 by decide)).1 (by omega)
  have sg:(if decide (q.num<0)=true then some (w64 (0-(q.num.natAbs:Int)))else some (q.num.natAbs:Int):Option Int)=some q.num:=by
   by_cases d:q.num<0
   ·rw[if_pos (decide_eq_true d),qh (by omega) (by omega)];congr 1;omega
   rw[if_neg (fun h=>d (of_decide_eq_true h))];congr 1;omega
  by_cases d:q.den=1
  ·have ht:tl q=[]:=by unfold tl;rw[if_pos d]
   rw[ht]at lt;rw[List.length_nil]at lt;rw[ht,if_neg (by omega),ZB,sg,ZB,d];exact⟨rfl,hn,by decide⟩
  have ht:tl q=47::Lib.decDigits q.den:=by unfold tl;rw[if_neg d]
  rw[ht,Yr]at lt c2;have hd:q.den<1000000000:=(qaS (show 0<9 by decide)).1 (by omega);rw[ht,if_pos (by omega),qJ (by omega),yL (by omega),ZB,List.drop_append,List.drop_of_length_le (by omega),show(Lib.decDigits q.num.natAbs).length+1-(Lib.decDigits q.num.natAbs).length=1 by omega,List.nil_append,List.drop_succ_cons,YR,qfH (by omega) (qbY _) (by omega),ZB,ZB,sg,ZB,qeI];exact⟨rfl,hn,hd⟩
 rfl
theorem qlV {N:Nat} (hN:100000<N) {p q:Rat} {k:Nat} (hk:k<=9000) (hp:Sml p k) (hq:Sml q k) {Fq:(Int×Int×Bool)->(Int×Int×Bool)->Option Str} {slow:Option Str} {t:Str}
 (h1:p.num.natAbs<1000000000->p.den<1000000000->q.num.natAbs<1000000000->q.den<1000000000->Fq (p.num,(p.den:Int),true) (q.num,(q.den:Int),true)=some t) (h2:slow=some t):
 ((vE N (T p)).bind fun r1=>(vE N (T q)).bind fun r2=>(if r1.2.2=true then some r2.2.2 else some false:Option Bool).bind fun b4=>if b4=true then(Fq r1 r2).bind fun r7=>some r7 else slow)=some t:=by
 rcases qhk hN hp hk with e1|⟨e1,a1,a2⟩
 ·rcases qhk hN hq hk with e2|⟨e2,b1,b2⟩
  ·rw[e1,ZB,e2,ZB];exact h2
  rw[e1,ZB,e2,ZB];exact h2
 rcases qhk hN hq hk with e2|⟨e2,b1,b2⟩
 ·rw[e1,ZB,e2,ZB];exact h2
 rw[e1,ZB,e2,ZB];show((Fq (p.num,(p.den:Int),true) (q.num,(q.den:Int),true)).bind fun r7=>some r7)=some t;rw[h1 a1 a2 b1 b2,ZB]
theorem qnM {a b:Int} (ha:a.natAbs<1000000000) (hb:b.natAbs<1000000000): -1000000000000000000<=a*b/\a*b<=1000000000000000000:=by
 have h:(a*b).natAbs<=1000000000*1000000000:=by
  rw[Int.natAbs_mul];exact Nat.mul_le_mul (by omega) (by omega)
 omega
theorem qjm {N:Nat} (hN:600000<N) {p q:Rat} {k:Nat} (hk0:0<k) (hk:k<=4000) (hp:Sml p k) (hq:Sml q k):qbE N (T p) (T q)=some (T (p+q)):=by
 unfold qbE;obtain⟨n,hn⟩: ∃n:Nat,n=500:=⟨_,rfl⟩;have p1:=qdO (n:=n) hp hk0 (by omega);have p2:=qdJ (n:=n) hp hk0 (by omega);have q1:=qdO (n:=n) hq hk0 (by omega);have q2:=qdJ (n:=n) hq hk0 (by omega);refine qlV (N:=N) (by omega) (show k<=9000 by omega) hp hq (fun a1 a2 b1 b2=>?_) ?_
 ·have m1:=qnM a1 (show((q.den:Int)).natAbs<1000000000 by omega);have m2:=qnM b1 (show((p.den:Int)).natAbs<1000000000 by omega);have m3:=qnM (show((p.den:Int)).natAbs<1000000000 by omega) (show((q.den:Int)).natAbs<1000000000 by omega);have:=qdS p q;simp only;rw[qh (n:=p.num*(q.den:Int)) (by omega) (by omega),qh (n:=q.num*(p.den:Int)) (by omega) (by omega),qh (n:=(p.den:Int)*(q.den:Int)) (by omega) (by omega),qh (by omega) (by omega),qog (by omega) (by omega) (by omega) (by omega) (by omega) (qdS p q),<-qfv]
 rw[qda hN (hp.mono (by omega)),ZB,qda hN (hq.mono (by omega)),ZB];simp only;rw[qeN (by omega) (p1.mono (by omega)) (q2.mono (by omega)),ZB,qeN (by omega) (q1.mono (by omega)) (p2.mono (by omega)),ZB,qqn (by omega) ((qbm p1 q2).mono (by omega)) ((qbm q1 p2).mono (by omega)),ZB,qeN (by omega) (p2.mono (by omega)) (q2.mono (by omega)),ZB,qdZ hN (B:=n+n+1) (by omega) (by omega) (qoy (qbm p1 q2) (qbm q1 p2)) ((qbm p2 q2).mono (by omega)) (qdS p q),ZB,<-qfv]
theorem qma {N:Nat} (hN:600000<N) {p q:Rat} {k:Nat} (hk0:0<k) (hk:k<=4000) (hp:Sml p k) (hq:Sml q k):xR N (T p) (T q)=some (T (p*q)):=by
 unfold xR;obtain⟨n,hn⟩: ∃n:Nat,n=500:=⟨_,rfl⟩;have p1:=qdO (n:=n) hp hk0 (by omega);have p2:=qdJ (n:=n) hp hk0 (by omega);have q1:=qdO (n:=n) hq hk0 (by omega);have q2:=qdJ (n:=n) hq hk0 (by omega);refine qlV (N:=N) (by omega) (show k<=9000 by omega) hp hq (fun a1 a2 b1 b2=>?_) ?_
 ·have m1:=qnM a1 b1;have m3:=qnM (show((p.den:Int)).natAbs<1000000000 by omega) (show((q.den:Int)).natAbs<1000000000 by omega);simp only;rw[qh (n:=p.num*q.num) (by omega) (by omega),qh (n:=(p.den:Int)*(q.den:Int)) (by omega) (by omega),qog (by omega) (by omega) (by omega) (by omega) (by omega) (qdS p q),<-qcn]
 rw[qda hN (hp.mono (by omega)),ZB,qda hN (hq.mono (by omega)),ZB];simp only;rw[qeN (by omega) (p1.mono (by omega)) (q1.mono (by omega)),ZB,qeN (by omega) (p2.mono (by omega)) (q2.mono (by omega)),ZB,qdZ hN (B:=n+n) (by omega) (by omega) (qbm p1 q1) (qbm p2 q2) (qdS p q),ZB,<-qcn]
theorem qqQ {p q:Rat} {n:Nat} (hn:0<n) (hp:Sml p (9*n)) (hq:Sml q (9*n)):Sml (p*q) (9*(n+n)):=by
 have p1:=qdO (n:=n) hp (by omega) (by omega);have p2:=qdJ (n:=n) hp (by omega) (by omega);have q1:=qdO (n:=n) hq (by omega) (by omega);have q2:=qdJ (n:=n) hq (by omega) (by omega);rw[qcn];obtain⟨f1,f2⟩:=qjR (qdS p q) (qbm p1 q1) (qbm p2 q2);exact qoB f1 f2 (by omega)
theorem qqc {p:Rat} {k:Nat} (h:Sml p k):Sml (-p) k:=by
 unfold Sml;rw[Rat.neg_num,Rat.neg_den,Int.natAbs_neg];exact h
theorem qqJ {p:Rat} {k:Nat} (h:Sml p k) (h0:p≠0):Sml p⁻¹ k:=by
 have hn:p.num≠0:=fun c=>h0 (Rat.num_eq_zero.1 c)
 unfold Sml;rw[Rat.num_inv,Rat.den_inv,if_neg hn,Int.natAbs_mul,Int.natAbs_sign_of_ne_zero hn,Nat.one_mul,Int.natAbs_natCast];exact⟨h.2,h.1⟩
theorem qmi {N:Nat} (hN:600000<N) {p q:Rat} {k:Nat} (hk0:0<k) (hk:k<=4000) (hp:Sml p k) (hq:Sml q k):qcg N (T p) (T q)=some (T (p-q)):=by
 have hl:=qkk hq;unfold qcg;rw[Neg_T (N:=N) (by omega),ZB,qjm hN hk0 hk hp (qqc hq),ZB,Rat.sub_eq_add_neg]
theorem qqI {N:Nat} (hN:600000<N) {p:Rat} {k:Nat} (hk0:0<k) (hk:k<=4000) (hp:Sml p k) (h0:p≠0):xn N (T p)=some (T p⁻¹):=by
 obtain⟨n,hn⟩: ∃n:Nat,n=500:=⟨_,rfl⟩;have p1:=qdO (n:=n) hp hk0 (by omega);have p2:=qdJ (n:=n) hp hk0 (by omega);unfold xn;rw[qda hN (hp.mono (by omega)),ZB];simp only;rw[qdZ hN (B:=n) (by omega) (by omega) p2 p1 (fun c=>h0 (Rat.num_eq_zero.1 c)),ZB,<-Rat.inv_def]
theorem qpZ {N:Nat} (hN:600000<N) {p q:Rat} {k:Nat} (hk0:0<k) (hk:k<=4000) (hp:Sml p k) (hq:Sml q k) (h0:q≠0):qdm N (T p) (T q)=some (T (p/q)):=by
 unfold qdm;rw[qqI hN hk0 hk hq h0,ZB,qma hN hk0 hk hp (qqJ hq h0),ZB,<-Rat.div_def]
end Go.Av
end
section
namespace Go.Av
def le3 (x u v:Rat):Prop:=(x-u).abs<(x-v).abs\/((x-u).abs=(x-v).abs/\(u.den<v.den\/(u.den=v.den/\u<=v)))
end Go.Av
end
section
namespace Go.Av
def res (q:Rat):Str×Int:=if qk8 q=true then([],4)else(T q,0)
section ops
variable {N:Nat} (hN:600000<N)
include hN
variable {p q:Rat} (hp:Sml p 600) (hq:Sml q 600) (cp:chk (T p)=0) (cq:chk (T q)=0)
include hp hq cp cq
end ops
end Go.Av
end
section
namespace Go.Av
end Go.Av
end
section
namespace Go.Av
end Go.Av
end
section
namespace Go.Av
open Classical
theorem qgi {p q:Rat}:((if p<q then-1 else if p=q then 0 else 1:Int)>0)↔q<p:=by
 by_cases h:p<q
 ·rw[if_pos h];exact⟨fun c=>absurd c (by decide),fun c=>absurd c (Rat.not_lt.2 (Rat.le_of_lt h))⟩
 rw[if_neg h];by_cases e:p=q
 ·rw[if_pos e];exact⟨fun c=>absurd c (by decide),fun c=>absurd (e▸c) Rat.lt_irrefl⟩
 rw[if_neg e];refine⟨fun _=>?_,fun _=>by decide⟩;exact Rat.lt_of_le_of_ne (Rat.not_lt.1 h) (Ne.symm e)
end Go.Av
end
section
namespace Go.Av
section ops
variable {N:Nat} (hN:600000<N)
include hN
variable {p p' q q':Rat} (hp:Sml p 60) (hp':Sml p' 60) (hq:Sml q 60) (hq':Sml q' 60) (cp:chk (T p)=0) (cp':chk (T p')=0) (cq:chk (T q)=0) (cq':chk (T q')=0) (hpp:p<=p') (hqq:q<=q')
include hp hp' hq hq' cp cp' cq cq' hpp hqq
end ops
end Go.Av
end
section
namespace Go.Av
theorem qq8 (n:Int):T (n:Rat)=Lib.itoa n:=by
 unfold T;rw[Rat.num_intCast,Rat.den_intCast,if_pos rfl,YQ]
end Go.Av
end
section
namespace Go.Av
theorem F_eq {n:Int} (h1: -9223372036854775808<=n) (h2:n<=9223372036854775807): ∃f,qfi n=some f/\IsF f (n:Rat):=by
 obtain⟨f,e,i⟩:=qh0 (Uf h1 h2);refine⟨f,?_,i⟩;unfold qfi;rw[qhM,ZB,e,ZB]
structure Cvg (x:Rat) (m:Nat) (a b c d:Int) (r:Rat):Prop where
 b0:0<=b
 d0:0<=d
 bm:b<=m
 dm:d<=m
 st:(b=1/\d=0)\/(1<=d/\1<r)
 fr:xI r 4
 za:Fit a 5
 zc:Fit c 5
 eq:x*((d:Rat)*r+(b:Rat))=(c:Rat)*r+(a:Rat)
 det:c*b-d*a=1\/c*b-d*a= -1
end Go.Av
end
section
namespace Go.Av
theorem qg2 {p q:Rat}:((if p<q then-1 else if p=q then 0 else 1:Int)=0)↔p=q:=by
 by_cases h:p<q
 ·rw[if_pos h];exact⟨fun c=>absurd c (by decide),fun c=>absurd (c▸h) Rat.lt_irrefl⟩
 rw[if_neg h];by_cases e:p=q
 ·rw[if_pos e];exact⟨fun _=>e,fun _=>rfl⟩
 rw[if_neg e];exact⟨fun c=>absurd c (by decide),fun c=>absurd c e⟩
end Go.Av
end
section
namespace Go.Av
theorem pick {x L M:Rat} {d f:Int} (nL:(L.den:Int)=d) (nM:(M.den:Int)=f) {c:Int}
 (hc:c=if(if(x-L).abs<(x-M).abs then-1 else if(x-L).abs=(x-M).abs then 0 else 1:Int)=0 then(if(if(d:Rat)<(f:Rat)then-1 else if(d:Rat)=(f:Rat)then 0 else 1:Int)=0 then(if L<M then-1 else if L=M then 0 else 1)else(if(d:Rat)<(f:Rat)then-1 else if(d:Rat)=(f:Rat)then 0 else 1))else(if(x-L).abs<(x-M).abs then-1 else if(x-L).abs=(x-M).abs then 0 else 1)):
 (¬c>0->le3 x L M)/\(c>0->le3 x M L):=by
 by_cases h1:(x-L).abs=(x-M).abs
 ·rw[if_pos (qg2.2 h1)]at hc;by_cases h2:(d:Rat)=(f:Rat)
  ·rw[if_pos (qg2.2 h2)]at hc;have h2:=Rat.intCast_inj.1 h2;constructor
   ·intro h;rw[hc]at h;exact .inr ⟨h1,.inr ⟨by omega,Rat.not_lt.1 fun k=>h (qgi.2 k)⟩⟩
   intro h;rw[hc]at h;exact .inr ⟨h1.symm,.inr ⟨by omega,Rat.le_of_lt (qgi.1 h)⟩⟩
  rw[if_neg (fun k=>h2 (qg2.1 k))]at hc;constructor
  ·intro h;rw[hc]at h;have h:=Rat.not_lt.1 (fun k=>h (qgi.2 k))
   have h3:d≠f:=fun k=>h2 (by rw[k])
   have:=Rat.intCast_le_intCast.1 h;exact .inr ⟨h1,.inl (by omega)⟩
  intro h;rw[hc]at h;have:=Rat.intCast_lt_intCast.1 (qgi.1 h);exact .inr ⟨h1.symm,.inl (by omega)⟩
 rw[if_neg (fun k=>h1 (qg2.1 k))]at hc;constructor
 ·intro h;rw[hc]at h;have h:=Rat.not_lt.1 (fun k=>h (qgi.2 k));exact .inl (Rat.lt_of_le_of_ne h h1)
 intro h;rw[hc]at h;exact .inl (qgi.1 h)
theorem qnq {z:Int} {n:Nat} (h:Fit z n) (hn:0<n):(Lib.decDigits z.natAbs).length<=20*n:=by
 refine(qaS (by omega)).2 ?_;have h1:(z.natAbs:Int)<W^n:=h;have h2:=(qdj (x:=W) (y:=100000000000000000000) (by decide) (by decide) n).2
 have h3:(100000000000000000000:Int)^n=((10^(20*n):Nat):Int):=by
  rw[Nat.pow_mul,Int.natCast_pow];rfl
 omega
theorem qbQ {q:Rat} {n:Nat} (h:xI q n) (hn:0<n):Sml q (20*n):=by
 have:=qnq h.2 hn;rw[Int.natAbs_natCast]at this;exact⟨qnq h.1 hn,this⟩
end Go.Av
end
section
namespace Go.Av
theorem Num_T {N:Nat} (hN:100000<N) {q:Rat} (hl:(T q).length<=50000):qa3 N (T q)=some (Lib.itoa q.num):=by
 have hs:=qcu (N:=N) (s:=T q) (by omega) (by omega);unfold qa3;rw[hs,ZB];by_cases c:q.den=1
 ·obtain⟨t1,t2⟩:=qdT q c;rw[ym (by omega),ZB,t2,List.take_length,t1]
 obtain⟨t1,t2,t3⟩:=qeY q c;rw[ym (by omega),ZB,t2]
theorem Den_T {N:Nat} (hN:100000<N) {q:Rat} (hl:(T q).length<=50000):qa4 N (T q)=some (Lib.decDigits q.den):=by
 have hs:=qcu (N:=N) (s:=T q) (by omega) (by omega);unfold qa4;rw[hs,ZB];by_cases c:q.den=1
 ·obtain⟨t1,t2⟩:=qdT q c;rw[if_pos (by omega),c,vR (by decide)];rfl
 obtain⟨t1,t2,t3⟩:=qeY q c;rw[if_neg (by omega),qJ (by omega),yL (by omega),ZB,t3]
theorem qnj {z:Int} (hl:(Lib.itoa z).length<=50000):qa1 (Lib.itoa z)=some (Lib.decDigits z.natAbs):=by
 have hs:=qo9 (z:Rat);rw[qq8,Rat.num_intCast]at hs;unfold qa1;rw[hs,ZB];by_cases c:z<0
 ·have h1:=yL (l:=(45:UInt8)::Lib.decDigits z.natAbs) (k:=1) (by simp);rw[if_pos c,if_pos (by decide),yf c,show(1:Int)=((1:Nat):Int)from rfl,h1];rfl
 rw[if_neg c,if_neg (by split<;>decide),zQ (by omega)]
theorem qrE {N:Nat} (hN:600000<N) {s:Str} {d:Nat} (hd:0<d) (hd2:d<=1000): ∃b,qdd N s (d:Int)=some b/\(b=true-> ∃q:Rat,s=T q/\Sml q d/\chk (T q)=0):=by
 unfold qdd;rw[qh (n:=2*(d:Int)) (by omega) (by omega),qh (n:=2*(d:Int)+2) (by omega) (by omega)];by_cases c:(s.length:Int)<=2*(d:Int)+2
 ·rw[if_pos c,qiN hN (by omega),ZB];by_cases hc:chk s=0
  ·obtain⟨q,rfl,q1,q2⟩:=qo7 hc;have li:=qhh q.num;rw[if_pos hc,Num_T (by omega) (by omega),ZB,qnj (by omega),ZB,Den_T (by omega) (by omega),ZB];by_cases e:(Lib.decDigits q.num.natAbs).length<=d
   ·rw[if_pos (by omega),ZB];exact⟨_,rfl,fun h=>⟨q,rfl,⟨e,by have:=of_decide_eq_true h;omega⟩,hc⟩⟩
   rw[if_neg (by omega),ZB];exact⟨_,rfl,fun h=>by cases h⟩
  rw[if_neg hc,ZB];exact⟨_,rfl,fun h=>by cases h⟩
 rw[if_neg c,ZB];exact⟨_,rfl,fun h=>by cases h⟩
end Go.Av
end
section
namespace Go.Av
def qcr (n c:Int):Bool:=decide (c≠0)&&decide (-n<c)&&decide (c<n)
def qjb (n:Int) (w:List Int):Int:=if n<1\/12<n then 3 else if 200<w.length then 5 else if w.all (qcr n)=true then 0 else 3
theorem letter_eq {n:Int} (h1:1<=n) (h2:n<=12) (c:Int):qbb n c=some (qcr n c):=by
 unfold qbb qcr
 have hw:w64 (0-n)= -n:=by rw[qh (by omega) (by omega)];omega
 rw[hw];by_cases a:c=0
 ·simp[a]
 by_cases b: -n<c
 ·simp[a,b]
 simp[a,b]
theorem qln {n:Int} (h1:1<=n) (h2:n<=12) (c:Int):qaK n c=some (!qcr n c):=by
 unfold qaK qcr
 have hw:w64 (0-n)= -n:=by rw[qh (by omega) (by omega)];omega
 rw[hw];by_cases a:c=0
 ·simp[a]
 by_cases b: -n<c
 ·rw[if_neg a,if_neg (by omega)];by_cases d:c<n
  ·simp[a,b,d]
  simp[a,b,d];omega
 rw[if_neg a,if_pos (by omega)];simp[a,b]
theorem qkU {n:Int} {w:List Int} {i:Nat} (h:i<w.length):(w.drop i).all (qcr n)=(qcr n w[i]&&(w.drop (i+1)).all (qcr n)):=by
 rw[YG h,List.all_cons]
theorem qoG {n:Int} (h1:1<=n) (h2:n<=12) {w:List Int} (hl:w.length<=300): ∀(K i:Nat),i<=w.length->w.length<K+i->zZ n w K (i:Int)=some (if(w.drop i).all (qcr n)=true then .inl ()else .inr 3)
 |0,i,h,hK=>by omega
 |K+1,i,h,hK=>by
  unfold zZ;by_cases hi:i<w.length
  ·rw[if_pos (by omega),ql,Ya hi,ZB,letter_eq h1 h2,ZB,qkU hi]
   cases c:qcr n w[i]with
   |false=>rfl
   |true=>
    rw[if_neg (by decide),qJ (by omega),qoG h1 h2 hl K (i+1) (by omega) (by omega),Bool.true_and]
  rw[if_neg (by omega),List.drop_eq_nil_of_le (by omega)];rfl
theorem qk4 {N:Nat} (hN:2000<N) {n:Int} {w:List Int} (hl:w.length<=300):xP N n w=some (qjb n w):=by
 unfold xP qjb;by_cases a:n<1
 ·rw[if_pos a,ZB,if_pos rfl,if_pos (.inl a)]
 by_cases b:12<n
 ·rw[if_neg a,decide_eq_true (by omega),ZB,if_pos rfl,if_pos (.inr b)]
 rw[if_neg a,decide_eq_false (by omega),ZB,if_neg (by decide),if_neg (show¬(n<1\/12<n)by omega)];by_cases c:200<w.length
 ·rw[if_pos (by omega),if_pos c]
 rw[if_neg (by omega),if_neg c,show(0:Int)=((0:Nat):Int)from rfl,qoG (by omega) (by omega) hl N 0 (by omega) (by omega),YR];cases w.all (qcr n)<;>rfl
theorem qph {n:Int} (h1:1<=n) (h2:n<=12) {w:List Int} (hl:w.length<=300): ∀(K i:Nat),i<=w.length->w.length<K+i->((w.drop i).all (qcr n)=true/\qI w n K (i:Int)=some (.inl ()))\/((w.drop i).all (qcr n)=false/\ ∃j:Nat,qI w n K (i:Int)=some (.inr (j:Int)))
 |0,i,h,hK=>by omega
 |K+1,i,h,hK=>by
  unfold qI yE;by_cases hi:i<w.length
  ·rw[if_pos (by omega),ql,Ya hi,ZB,qln h1 h2,ZB,ZB,qkU hi]
   cases c:qcr n w[i]with
   |false=>exact .inr ⟨rfl,i,rfl⟩
   |true=>
    rw[if_neg (by decide),qJ (by omega),Bool.true_and];exact qph h1 h2 hl K (i+1) (by omega) (by omega)
  rw[if_neg (by omega),List.drop_eq_nil_of_le (by omega)];exact .inl ⟨rfl,rfl⟩
theorem ql0 {N:Nat} (hN:10<N) (a b:Int):yP N [a,b]=some (if a=0 then b else a):=by
 obtain⟨K,rfl⟩: ∃K,N=K+1+1+1:=⟨N-3,by omega⟩;have w1:w64 1=1:=rfl;have w2:w64 2=2:=rfl
 have i0: ∀a b:Int,idx [a,b] 0=some a:=fun _ _=>rfl
 have i1: ∀a b:Int,idx [a,b] 1=some b:=fun _ _=>rfl
 unfold yP;by_cases ha:a=0
 ·by_cases hb:b=0
  ·simp[zU,i0,i1,ha,hb,w1,w2]
  simp[zU,i0,i1,ha,hb,w1,w2]
 simp[zU,i0,ha]
theorem qeL (b:Bool) (e:Int):jJ b e=some (if b=true then e else 0):=by
 unfold jJ;cases b<;>rfl
theorem qmJ {N:Nat} (hN:2000<N) {n:Int} {w:List Int} (hl:w.length<=300):xN N n w=some (qjb n w):=by
 unfold xN xB qjb;by_cases a:n<1\/12<n
 ·have:(Option.bind (if n<1 then(jJ true 3).bind fun r2=>some r2 else(jJ (decide (n>12)) 3).bind fun r3=>some r3:Option Int) fun n4=>some n4)=some 3:=by
   by_cases b:n<1
   ·rw[if_pos b];rfl
   rw[if_neg b,decide_eq_true (by omega)];rfl
  rw[this,ZB,qeL,ZB,ql0 (by omega),if_neg (by decide),ZB,if_pos (by decide),if_pos a]
 have:(Option.bind (if n<1 then(jJ true 3).bind fun r2=>some r2 else(jJ (decide (n>12)) 3).bind fun r3=>some r3:Option Int) fun n4=>some n4)=some 0:=by
  rw[if_neg (by omega),decide_eq_false (by omega)];rfl
 rw[this,ZB,qeL,ZB,ql0 (by omega),if_pos rfl,ZB,if_neg a];by_cases c:200<w.length
 ·rw[decide_eq_true (show(w.length:Int)>200 by omega),if_pos rfl,if_pos (by decide),if_pos c]
 rw[decide_eq_false (show¬(w.length:Int)>200 by omega),if_neg Bool.false_ne_true,if_neg (show¬(!decide ((0:Int)=0))=true by decide),if_neg c];unfold jl vL;rcases qph (n:=n) (by omega) (by omega) hl N 0 (by omega) (by omega)with⟨g1,g2⟩|⟨g1,j,g2⟩<;>rw[show((0:Nat):Int)=0 from rfl]at g2
 ·rw[g2,<-YR (l:=w),g1];rfl
 rw[g2,<-YR (l:=w),g1];simp only[ZB];rw[decide_eq_true (show(j:Int)>=0 by omega),qeL];rfl
structure qrc (n:Nat) (w:List Int):Prop where
 n1:1<=n
 n2:n<=12
 len:w.length<=200
 let_: ∀c∈w,c≠0/\ -(n:Int)<c/\c<n
theorem qpV {n:Int} {w:List Int} (h:qjb n w=0): ∃k:Nat,n=k/\qrc k w:=by
 unfold qjb at h;split at h
 ·omega
 rename_i a;split at h
 ·omega
 rename_i b;split at h
 ·rename_i c;refine⟨n.toNat,by omega,by omega,by omega,by omega,fun x hx=>?_⟩;have:=Yp.1 c x hx;simp only[qcr,Bool.and_eq_true,decide_eq_true_eq]at this;omega
 omega
end Go.Av
end
section
namespace Go.Av
structure PInv (n:Nat) (row p:List Int):Prop where
 rl:row.length=n
 pl:p.length=n
 at_: ∀k,k<n-> ∃v:Nat,v<n/\row[k]? =some (v:Int)/\p[v]? =some (k:Int)
 all: ∀v,v<n-> ∃k,k<n/\row[k]? =some (v:Int)
end Go.Av
end
section
namespace Go.Av
end Go.Av
end
section
namespace Go.Av
def qnk (l:List Int):Int:=(l.find? fun x=>!decide (x=0)).getD 0
theorem qkM {l:List Int} (hl:l.length<=100): ∀(K i:Nat),i<=l.length->l.length<K+i->zU l K (i:Int)=some (match(l.drop i).find? (fun x=>!decide (x=0))with|some x=> .inr x|none=> .inl ())
 |0,i,h,hK=>by omega
 |K+1,i,h,hK=>by
  unfold zU;by_cases hi:i<l.length
  ·rw[if_pos (by omega),ql,Ya hi,ZB,YG hi,List.find?_cons];by_cases c:l[i]=0
   ·rw[if_neg (by simp[c]),qJ (by omega),qkM hl K (i+1) (by omega) (by omega)];simp[c]
   rw[if_pos (by simp[c])];simp[c]
  rw[if_neg (by omega),List.drop_eq_nil_of_le (by omega)];rfl
theorem qmZ {N:Nat} {l:List Int} (hl:l.length<=100) (hN:l.length<N):yP N l=some (qnk l):=by
 unfold yP qnk;have:=qkM hl N 0 (by omega) (by omega);rw[YR,show((0:Nat):Int)=0 from rfl]at this;rw[this];cases l.find? (fun x=>!decide (x=0))<;>rfl
theorem qkR {l:List Int} (hl:l.length<=100): ∀(K i:Nat),i<=l.length->l.length<K+i->yo l K (i:Int)=some (match(l.drop i).find? (fun x=>!decide (x=0))with|some x=> .inr x|none=> .inl ())
 |0,i,h,hK=>by omega
 |K+1,i,h,hK=>by
  unfold yo;by_cases hi:i<l.length
  ·rw[if_pos (by omega),ql,Ya hi,ZB,YG hi,List.find?_cons];by_cases c:l[i]=0
   ·rw[if_neg (by simp[c]),qJ (by omega),qkR hl K (i+1) (by omega) (by omega)];simp[c]
   rw[if_pos (by simp[c])];simp[c]
  rw[if_neg (by omega),List.drop_eq_nil_of_le (by omega)];rfl
theorem qmY {N:Nat} {l:List Int} (hl:l.length<=100) (hN:l.length<N):qa6 N l=some (qnk l):=by
 unfold qa6 qnk;have:=qkR hl N 0 (by omega) (by omega);rw[YR,show((0:Nat):Int)=0 from rfl]at this;rw[this];cases l.find? (fun x=>!decide (x=0))<;>rfl
section
end
end Go.Av
end
noncomputable section
namespace Go.Av
open Go.Proofs Go.RowKit
variable [Glob]
def Bd (D:Int) (x:Rat) (k:Nat):Prop:= ∃z:Int,z.natAbs<=4000000^k/\x*((D:Rat)^k)=(z:Rat)
def Cf (D:Int) (x:Rat):Prop:= ∃z:Int,z.natAbs<=2000000/\x*(D:Rat)=(z:Rat)
theorem Bd.step {D:Int} {x y a b:Rat} {k:Nat} (hx:Bd D x k) (hy:Bd D y k) (ha:Cf D a) (hb:Cf D b):Bd D (x*a+y*b) (k+1):=by
 obtain⟨z,z1,z2⟩:=hx;obtain⟨u,u1,u2⟩:=hy;obtain⟨c,c1,c2⟩:=ha;obtain⟨d,d1,d2⟩:=hb;refine⟨z*c+u*d,?_,?_⟩
 ·have h1:(z*c).natAbs<=4000000^k*2000000:=by rw[Int.natAbs_mul];exact Nat.mul_le_mul z1 c1
  have h2:(u*d).natAbs<=4000000^k*2000000:=by rw[Int.natAbs_mul];exact Nat.mul_le_mul u1 d1
  rw[Nat.pow_succ];generalize 4000000^k=P at*;omega
 rw[Rat.pow_succ,Rat.intCast_add,Rat.intCast_mul,Rat.intCast_mul,<-z2,<-u2,<-c2,<-d2];generalize (D:Rat)^k=P;grind
theorem Bd.up {D:Int} (hD:D.natAbs<=1000000) {x:Rat} {k:Nat} (hx:Bd D x k):Bd D x (k+1):=by
 obtain⟨z,z1,z2⟩:=hx;refine⟨z*D,?_,?_⟩
 ·have h1:(z*D).natAbs<=4000000^k*1000000:=by rw[Int.natAbs_mul];exact Nat.mul_le_mul z1 hD
  rw[Nat.pow_succ];exact Nat.le_trans h1 (Nat.mul_le_mul_left _ (Ys rfl))
 rw[Rat.pow_succ,Rat.intCast_mul,<-z2,Rat.mul_assoc]
theorem qit (D:Int): ∀k:Nat,(D^k).natAbs=D.natAbs^k
 |0=>by rw[Int.pow_zero,Nat.pow_zero];rfl
 |k+1=>by rw[Int.pow_succ,Int.natAbs_mul,qit D k,Nat.pow_succ]
theorem qlw (D:Int): ∀k:Nat,((D^k:Int):Rat)=(D:Rat)^k
 |0=>rfl
 |k+1=>by rw[Int.pow_succ,Rat.intCast_mul,qlw D k,Rat.pow_succ]
theorem Bd.fit {D:Int} (hD:D.natAbs<=1000000) (hD0:0<D) {x:Rat} {k:Nat} (hk:k<=12) (hx:Bd D x k):xI x 5:=by
 obtain⟨z,z1,z2⟩:=hx;have hp:(0:Int)<D^k:=Int.pow_pos hD0
 have hp':((D^k:Int):Rat)≠0:=by
  intro h
  have:(D^k:Int)=0:=by exact_mod_cast h
  omega
 have e:x=Rat.divInt z (D^k):=by
  rw[Rat.divInt_eq_div,<-z2,qlw,Rat.mul_div_cancel];rw[<-qlw];exact hp'
 rw[e];refine qhw (by omega) ?_ ?_
 ·have h4:4000000^k<=4000000^12:=Nat.pow_le_pow_right (by decide) hk;have:((z.natAbs:Nat):Int)<=((4000000^12:Nat):Int):=Int.ofNat_le.2 (Nat.le_trans z1 h4);exact Int.lt_of_le_of_lt this (by decide)
 have h4:(D^k).natAbs<=1000000^12:=by
  rw[qit];exact Nat.le_trans (Nat.pow_le_pow_left hD k) (Nat.pow_le_pow_right (by decide) hk)
 have:(((D^k).natAbs:Nat):Int)<=((1000000^12:Nat):Int):=Int.ofNat_le.2 h4;exact Int.lt_of_le_of_lt this (by decide)
theorem Bd.sml {D:Int} (hD:D.natAbs<=1000000) (hD0:0<D) {x:Rat} {k:Nat} (hk:k<=12) (hx:Bd D x k):Sml x 100:=qbQ (hx.fit hD hD0 hk) (by decide)
end Go.Av
end
noncomputable section
namespace Go.Av
open Go.Proofs Go.RowKit
variable [Glob]
def qe8 {β:Type} (v:Nat->β) (k:Nat) (q:β):Nat->β:=fun j=>if j=k then q else v j
def qca {α:Type} (R:α->Rat->Prop) (n:Nat) (r:List α) (v:Nat->Rat):Prop:=r.length=n/\ ∀j f,r[j]? =some f->R f (v j)
def MR {α:Type} (R:α->Rat->Prop) (n:Nat) (l:List (List α)) (M:Nat->Nat->Rat):Prop:=l.length=n/\ ∀i r,l[i]? =some r->qca R n r (M i)
variable {α:Type} {R:α->Rat->Prop} {n:Nat}
theorem qca.set {r:List α} {v:Nat->Rat} (h:qca R n r v) {f:α} {q:Rat} (hf:R f q) (k:Nat):qca R n (r.set k f) (qe8 v k q):=by
 refine⟨by rw[Yk];exact h.1,fun j g hj=>?_⟩;unfold qe8;by_cases e:j=k
 ·subst e
  have hl:j<r.length:=by
   have:=(Yb.1 hj).1
   rwa [Yk]at this
  rw[List.getElem?_set_self hl]at hj;cases hj
  rw[if_pos rfl];exact hf
 rw[Yw (fun c=>e c.symm)]at hj;rw[if_neg e];exact h.2 j g hj
theorem qca.get {r:List α} {v:Nat->Rat} (h:qca R n r v) {k:Nat} (hk:k<n): ∃f,r[k]? =some f/\R f (v k):=by
 have hk':k<r.length:=by rw[h.1];exact hk
 exact⟨r[k],Ya hk',h.2 k _ (Ya hk')⟩
theorem MR.get {l:List (List α)} {M:Nat->Nat->Rat} (h:MR R n l M) {k:Nat} (hk:k<n): ∃r,l[k]? =some r/\qca R n r (M k):=by
 have hk':k<l.length:=by rw[h.1];exact hk
 exact⟨l[k],Ya hk',h.2 k _ (Ya hk')⟩
theorem MR.set {l:List (List α)} {M:Nat->Nat->Rat} (h:MR R n l M) {r:List α} {v:Nat->Rat} (hr:qca R n r v) (k:Nat):MR R n (l.set k r) (qe8 M k v):=by
 refine⟨by rw[Yk];exact h.1,fun j g hj=>?_⟩;unfold qe8;by_cases e:j=k
 ·subst e
  have hl:j<l.length:=by
   have:=(Yb.1 hj).1
   rwa [Yk]at this
  rw[List.getElem?_set_self hl]at hj;cases hj
  rw[if_pos rfl];exact hr
 rw[Yw (fun c=>e c.symm)]at hj;rw[if_neg e];exact h.2 j g hj
theorem MR.congr {l:List (List α)} {M M':Nat->Nat->Rat} (h:MR R n l M) (e: ∀i<n,M i=M' i):MR R n l M':=
 ⟨h.1,fun i r hi=>by
  have hl:i<n:=by rw[<-h.1];exact(Yb.1 hi).1
  rw[<-e i hl];exact h.2 i r hi⟩
theorem qca.ext {f:Rat->α} {r r':List α} {v:Nat->Rat} (h:qca (fun x q=>x=f q) n r v) (h':qca (fun x q=>x=f q) n r' v):r=r':=by
 apply List.ext_getElem?;intro k;by_cases hk:k<n
 ·obtain⟨x,x1,x2⟩:=h.get hk;obtain⟨y,y1,y2⟩:=h'.get hk;rw[x1,y1,x2,y2]
 rw[Yg (by rw[h.1];omega),Yg (by rw[h'.1];omega)]
theorem MR.ext {f:Rat->α} {r r':List (List α)} {M:Nat->Nat->Rat} (h:MR (fun x q=>x=f q) n r M) (h':MR (fun x q=>x=f q) n r' M):r=r':=by
 apply List.ext_getElem?;intro k;by_cases hk:k<n
 ·obtain⟨x,x1,x2⟩:=h.get hk;obtain⟨y,y1,y2⟩:=h'.get hk;rw[x1,y1,x2.ext y2]
 rw[Yg (by rw[h.1];omega),Yg (by rw[h'.1];omega)]
def qfP (p:Bool) (t:Rat) (k:Nat) (v:Nat->Rat):Nat->Rat:=
 if p=true then qe8 (qe8 v k (v k*(1-t)+v (k+1)*1)) (k+1) (v k*t+v (k+1)*0)
 else qe8 (qe8 v k (v k*0+v (k+1)*t⁻¹)) (k+1) (v k*1+v (k+1)*(1-t⁻¹))
def qdh (t:Rat) (c:Int) (M:Nat->Nat->Rat):Nat->Nat->Rat:=fun i=>qfP (decide (c>0)) t (c.natAbs-1) (M i)
def idM:Nat->Nat->Rat:=fun i=>qe8 (fun _=>0) i 1
def runM (t:Rat) (w:List Int):Nat->Nat->Rat:=w.foldl (fun M c=>qdh t c M) idM
structure Sm (D:Int) (t:Rat):Prop where
 d0:0<D
 d1:D.natAbs<=1000000
 c0:Cf D 0
 c1:Cf D 1
 ct:Cf D t
 cu:Cf D (1-t)
 ci:Cf D t⁻¹
 cj:Cf D (1-t⁻¹)
theorem qic {D:Int} {t:Rat} (S:Sm D t) (p:Bool) (k:Nat) {v:Nat->Rat} {m:Nat} (h: ∀j,Bd D (v j) m) (j:Nat):Bd D (qfP p t k v j) (m+1):=by
 unfold qfP;split
 ·unfold qe8;split
  ·exact(h _).step (h _) S.ct S.c0
  split
  ·exact(h _).step (h _) S.cu S.c1
  exact(h _).up S.d1
 unfold qe8;split
 ·exact(h _).step (h _) S.c1 S.cj
 split
 ·exact(h _).step (h _) S.c0 S.ci
 exact(h _).up S.d1
theorem qle (D:Int) (i j:Nat):Bd D (idM i j) 0:=by
 unfold idM qe8;split
 ·exact⟨1,by decide,by rw[Rat.pow_zero,Rat.mul_one];rfl⟩
 exact⟨0,by decide,by rw[Rat.pow_zero,Rat.mul_one];rfl⟩
theorem qlL {D:Int} {t:Rat} (S:Sm D t): ∀(w:List Int) (M:Nat->Nat->Rat) (m:Nat),(∀i j,Bd D (M i j) m)-> ∀i j,Bd D (w.foldl (fun M c=>qdh t c M) M i j) (m+w.length)
 |[],M,m,h=>h
 |c::w,M,m,h=>by
  rw[List.foldl_cons,Yr];have:=qlL S w (qdh t c M) (m+1) (fun i j=>qic S _ _ (h i) j);intro i j;have:=this i j
  rwa [show m+(w.length+1)=m+1+w.length by omega]
theorem Sm.of {t:Rat} (h:Sml t 3) (h0:t≠0): ∃D,Sm D t:=by
 obtain⟨h1,h2⟩:=h;have h1:=(qaS (by decide)).1 h1;have h2:=(qaS (by decide)).1 h2
 have hn:t.num≠0:=fun e=>h0 (Rat.num_eq_zero.1 e)
 have hd:=t.den_pos;generalize ep:t.num=p at h1 hn;generalize eq:t.den=q at h2 hd
 have et:t*(q:Rat)=(p:Rat):=by
  rw[<-ep,<-eq]
  conv=>lhs;lhs;rw[<-Rat.num_divInt_den t,Rat.divInt_eq_div]
  exact Rat.div_mul_cancel (by intro h;have h2:t.den=0:=by exact_mod_cast h
                               exact t.den_nz h2)
 have ei:t⁻¹*(p:Rat)=(q:Rat):=by
  rw[<-et,<-Rat.mul_assoc,Rat.inv_mul_cancel t h0,Rat.one_mul]
 have habs: ∃s:Int,(s=1\/s= -1)/\p*s=(p.natAbs:Int):=by
  by_cases c:0<=p
  ·exact⟨1,.inl rfl,by omega⟩
  exact⟨-1,.inr rfl,by omega⟩
 obtain⟨s,s1,s2⟩:=habs
 have b1:p.natAbs<=999:=by omega
 have b2:q<=999:=by omega
 have b3:p.natAbs*q<=999*999:=Nat.mul_le_mul b1 b2;have b4:p.natAbs*p.natAbs<=999*999:=Nat.mul_le_mul b1 b1;have b5:q*q<=999*999:=Nat.mul_le_mul b2 b2;have b0:0<p.natAbs*q:=Nat.mul_pos (by omega) hd
 have eD:((p.natAbs*q:Nat):Int)=p*s*q:=by rw[s2];push_cast;rfl
 have hs1:s.natAbs=1:=by rcases s1 with rfl|rfl<;>rfl
 have eR:(((p.natAbs*q:Nat):Int):Rat)=(p:Rat)*(s:Rat)*(q:Rat):=by
  rw[eD,Rat.intCast_mul,Rat.intCast_mul];rfl
 have T1:t*(((p.natAbs*q:Nat):Int):Rat)=((p*p*s:Int):Rat):=by
  rw[eR,Rat.intCast_mul,Rat.intCast_mul,<-et];grind
 have T2:t⁻¹*(((p.natAbs*q:Nat):Int):Rat)=((s*q*q:Int):Rat):=by
  rw[eR,Rat.intCast_mul,Rat.intCast_mul,show(((q:Nat):Int):Rat)=(q:Rat)from rfl]
  have:t⁻¹*((p:Rat)*(s:Rat)*(q:Rat))=(t⁻¹*(p:Rat))*(s:Rat)*(q:Rat):=by grind
  rw[this,ei];grind
 have n1:(p*p*s).natAbs<=999*999:=by rw[Int.natAbs_mul,Int.natAbs_mul,hs1,Nat.mul_one];exact b4
 have n2:(s*q*q:Int).natAbs<=999*999:=by rw[Int.natAbs_mul,Int.natAbs_mul,hs1,Nat.one_mul,Int.natAbs_natCast];exact b5
 refine⟨((p.natAbs*q:Nat):Int),⟨by omega,by omega,⟨0,by decide,by rw[Rat.zero_mul];rfl⟩,⟨((p.natAbs*q:Nat):Int),by omega,Rat.one_mul _⟩,⟨_,Nat.le_trans n1 (by decide),T1⟩,
  ⟨((p.natAbs*q:Nat):Int)-p*p*s,by omega,?_⟩,⟨_,Nat.le_trans n2 (by decide),T2⟩,⟨((p.natAbs*q:Nat):Int)-s*q*q,by omega,?_⟩⟩⟩
 ·rw[Rat.intCast_sub,<-T1];grind
 rw[Rat.intCast_sub,<-T2];grind
end Go.Av
end
noncomputable section
namespace Go.Av
open Go.Proofs Go.RowKit
variable [Glob]
theorem qcJ {α:Type} (l:List α) (a:Nat) (x:α):qx l (a:Int) x=l.set a x:=by
 unfold qx;rw[Int.toNat_natCast]
def coV (p:Bool) (t:Rat):(Rat×Rat)×(Rat×Rat):=if p=true then((1-t,t),(1,0))else((0,1),(t⁻¹,1-t⁻¹))
theorem qnK (p:Bool) (t:Rat) (k:Nat) (v:Nat->Rat):qfP p t k v=qe8 (qe8 v k (v k*(coV p t).1.1+v (k+1)*(coV p t).2.1)) (k+1) (v k*(coV p t).1.2+v (k+1)*(coV p t).2.2):=by
 cases p<;>rfl
theorem Cf.bd {D:Int} {x:Rat} (h:Cf D x):Bd D x 1:=by
 obtain⟨z,z1,z2⟩:=h;exact⟨z,Nat.le_trans z1 (Ys rfl),by rw[Rat.pow_succ,Rat.pow_zero,Rat.one_mul];exact z2⟩
theorem qqE {D:Int} {t:Rat} (S:Sm D t) (p:Bool):xI (coV p t).1.1 5/\xI (coV p t).1.2 5/\xI (coV p t).2.1 5/\xI (coV p t).2.2 5:=by
 have f: ∀{x:Rat},Cf D x->xI x 5:=fun h=>h.bd.fit S.d1 S.d0 (by decide)
 cases p
 ·exact⟨f S.c0,f S.c1,f S.ci,f S.cj⟩
 exact⟨f S.cu,f S.ct,f S.c1,f S.c0⟩
theorem rep1 {N n:Nat} (hN:10<N) (h1:1<=n) (h2:n<=5) (f:qj):yD N f.Num.s f.Num.w f.Den.s f.Den.w (n:Int)=some (List.replicate n f):=by
 obtain⟨M,rfl⟩: ∃M,N=M+10:=⟨N-10,by omega⟩
 have:n=1\/n=2\/n=3\/n=4\/n=5:=by omega
 rcases this with rfl|rfl|rfl|rfl|rfl
 all_goals (show @Eq (Option _) _ _;kernel_rfl)
theorem qn8: ∃f,qfi 1=some f/\IsF f 1:=F_eq (n:=1) (by decide) (by decide)
theorem ql4: ∃f,qfi 0=some f/\IsF f 0:=F_eq (n:=0) (by decide) (by decide)
theorem row0 {n i:Nat} {α:Type} {R:α->Rat->Prop} {z o:α} (hz:R z 0) (ho:R o 1):qca R n ((List.replicate n z).set i o) (idM i):=by
 have h:qca R n (List.replicate n z) (fun _=>0):=by
  refine⟨List.length_replicate,fun j f hj=>?_⟩;have:=Yn hj;rw[List.eq_of_mem_replicate this];exact hz
 exact h.set ho i
theorem qnH {N n:Nat} (hN:10<N) (h1:1<=n) (h2:n<=5) {w:List Int} {l1:List (List qj)} (hl:l1.length=n): ∀(K i:Nat) (l2:List (List qj)),l2.length=n->(∀i' r,i'<i->l2[i']? =some r->qca IsF n r (idM i'))->i<=n->n<K+i-> ∃l,yj N (n:Int) w l1 K l2 (i:Int)=some l/\MR IsF n l idM
 |0,i,l2,e,hr,hi,hK=>by omega
 |K+1,i,l2,e,hr,hi,hK=>by
  unfold yj;by_cases c:i<n
  ·obtain⟨z,z1,z2⟩:=ql4;obtain⟨o,o1,o2⟩:=qn8;rw[if_pos (by omega),z1,ZB,rep1 hN h1 h2,ZB,ql,Ya (by omega),ZB,if_pos (by rw[List.length_replicate];omega),ZB,qcJ,ql,List.getElem?_set_self (by omega),ZB,o1,ZB,ql,Ya (by rw[List.length_replicate];omega),ZB,zP (by rw[List.length_replicate];omega),ZB,qcJ,List.set_set,qJ (by omega)];refine qnH hN h1 h2 hl K (i+1) _ (by rw[Yk];exact e) (fun i' r hi' hr'=>?_) (by omega) (by omega);by_cases d:i'=i
   ·subst d;rw[List.getElem?_set_self (by omega)]at hr';cases hr'
    exact row0 z2 o2
   rw[Yw (fun q=>d q.symm)]at hr';exact hr i' r (by omega) hr'
  rw[if_neg (by omega)];refine⟨_,rfl,e,fun i' r hr'=>hr i' r ?_ hr'⟩;have:=(Yb.1 hr').1;omega
theorem qoa {N:Nat} (hN:600000<N) {D:Int} {t:Rat} (S:Sm D t) (h0:t≠0) {f:qj} (hf:IsF f t) (c:Int): ∃r,qbP N c f=some r/\IsF r.1.1 (coV (decide (c>0)) t).1.1/\IsF r.1.2 (coV (decide (c>0)) t).1.2/\IsF r.2.1 (coV (decide (c>0)) t).2.1/\IsF r.2.2 (coV (decide (c>0)) t).2.2:=by
 obtain⟨z,z1,z2⟩:=ql4;obtain⟨o,o1,o2⟩:=qn8
 have g: ∀{x:Rat},Cf D x->xI x 5:=fun h=>h.bd.fit S.d1 S.d0 (by decide)
 unfold qbP;rw[o1,ZB,z1,ZB];by_cases h:c>0
 ·obtain⟨r,r1,r2⟩:=qmn hN o2 hf (n:=5) (by omega) (g S.c1) (g S.ct);rw[if_pos h,r1,ZB,decide_eq_true h];exact⟨_,rfl,r2,hf,o2,z2⟩
 obtain⟨r,r1,r2⟩:=qqF hN hf (xI.mono (n:=3900) (g S.ct) (Ys rfl)) h0;obtain⟨s,s1,s2⟩:=qmn hN o2 r2 (n:=5) (by omega) (g S.c1) (g S.ci);rw[if_neg h,r1,ZB,ZB,s1,ZB,decide_eq_false h];exact⟨_,rfl,z2,o2,r2,s2⟩
theorem qoI {N:Nat} (hN:600000<N) {f g a c:qj} {x y p q:Rat} (hf:IsF f x) (hg:IsF g y) (ha:IsF a p) (hc:IsF c q) (fx:xI x 5) (fy:xI y 5) (fp:xI p 5) (fq:xI q 5):
 ∃r1 r2 r3,jQ N f a=some r1/\jQ N g c=some r2/\yQ N r1 r2=some r3/\IsF r3 (x*p+y*q):=by
 obtain⟨r1,e1,i1⟩:=qmt hN hf ha (n:=5) (by omega) fx fp;obtain⟨r2,e2,i2⟩:=qmt hN hg hc (n:=5) (by omega) fy fq;obtain⟨r3,e3,i3⟩:=qlR hN i1 i2 (n:=5+5) (by omega) (qj6 fx fp) (qj6 fy fq);exact⟨r1,r2,r3,e1,e2,e3,i3⟩
theorem qpy {N n:Nat} (hN:600000<N) (h2:n<=5) {D:Int} {t:Rat} (S:Sm D t) {M:Nat->Nat->Rat} {c:Int} (hc:1<=c.natAbs) (hc2:c.natAbs<n) (hM: ∀i j,xI (M i j) 5) {l17:List (List qj)} (hl:l17.length=n) {r24:(qj×qj)×(qj×qj)}
 (ha:IsF r24.1.1 (coV (decide (c>0)) t).1.1) (hb:IsF r24.1.2 (coV (decide (c>0)) t).1.2) (hc':IsF r24.2.1 (coV (decide (c>0)) t).2.1) (hd:IsF r24.2.2 (coV (decide (c>0)) t).2.2):
 ∀(K i:Nat) (l25:List (List qj)),MR IsF n l25 (fun i'=>if i'<i then qdh t c M i' else M i')->i<=n->n<K+i-> ∃l,yn N l17 (c.natAbs:Int) r24 K l25 (i:Int)=some l/\MR IsF n l (qdh t c M)
 |0,i,l25,h,hi,hK=>by omega
 |K+1,i,l25,h,hi,hK=>by
  unfold yn;obtain⟨fa,fb,fc,fd⟩:=qqE S (decide (c>0));by_cases d:i<n
  ·obtain⟨r,e1,hr⟩:=h.get d;rw[if_neg (Nat.lt_irrefl _)]at hr;obtain⟨k,hk⟩: ∃k,c.natAbs=k+1:=⟨c.natAbs-1,by omega⟩
   have ek:w64 (((k+1:Nat):Int)-1)=(k:Int):=by rw[qgy (by omega) (by omega)];rfl
   obtain⟨x,x1,x2⟩:=hr.get (k:=k) (by omega);obtain⟨y,y1,y2⟩:=hr.get (k:=k+1) (by omega);obtain⟨p1,p2,p3,q1,q2,q3,q4⟩:=qoI hN x2 y2 ha hc' (hM _ _) (hM _ _) fa fc;obtain⟨s1,s2,s3,t1,t2,t3,t4⟩:=qoI hN x2 y2 hb hd (hM _ _) (hM _ _) fb fd;have hlen:r.length=n:=hr.1;rw[hk,if_pos (by omega),ql,e1,ZB,ek,ql,x1,ZB,qJ (by omega),ql,y1,ZB,q1,ZB,q2,ZB,q3,ZB,zP (by omega),ZB,t1,ZB,t2,ZB,t3,ZB,ql,Ya (by rw[Yk];omega),ZB,zP (by rw[Yk];omega),ZB,qcJ,qJ (by omega),show((k+1:Nat):Int)=(c.natAbs:Int)by rw[hk]];refine qpy hN h2 S hc hc2 hM hl ha hb hc' hd K (i+1) _ ((h.set ((hr.set q4 k).set t4 (k+1)) i).congr fun i' hi'=>?_) (by omega) (by omega);unfold qe8;by_cases g:i'=i
   ·subst g;rw[if_pos rfl,if_pos (by omega)];show _=qfP (decide (c>0)) t (c.natAbs-1) (M i');rw[qnK,hk,Nat.add_sub_cancel];rfl
   rw[if_neg g];show(if i'<i then qdh t c M i' else M i')=_;by_cases g2:i'<i
   ·rw[if_pos g2,if_pos (by omega)]
   rw[if_neg g2,if_neg (by omega)]
  rw[if_neg (by omega)];exact⟨_,rfl,h.congr fun i' hi'=>by rw[if_pos (by omega)]⟩
theorem qp9 {c:Int} (h1: -100<c) (h2:c<100):qdv c=some (c.natAbs:Int):=by
 unfold qdv;rw[qh (by omega) (by omega)];split<;>congr 1<;>omega
theorem qoj {N n:Nat} (hN:600000<N) (h2:n<=5) {D:Int} {t:Rat} (S:Sm D t) (h0:t≠0) {f:qj} (hf:IsF f t) {w:List Int} (hw: ∀c∈w,c≠0/\ -(n:Int)<c/\c<n) (hl:w.length<=12):
 ∀(K i:Nat) (M:Nat->Nat->Rat) (l17:List (List qj)),MR IsF n l17 M->(∀a b,Bd D (M a b) i)->i<=w.length->w.length<K+i-> ∃l,yA N w f K l17 (i:Int)=some l/\MR IsF n l ((w.drop i).foldl (fun M c=>qdh t c M) M)
 |0,i,M,l17,h,hb,hi,hK=>by omega
 |K+1,i,M,l17,h,hb,hi,hK=>by
  unfold yA;by_cases d:i<w.length
  ·have hm:=hw _ (List.getElem_mem d);obtain⟨r,r1,ra,rb,rc,rd⟩:=qoa hN S h0 hf w[i];obtain⟨l,l1,l2⟩:=qpy hN h2 S (c:=w[i]) (by omega) (by omega) (fun a b=>(hb a b).fit S.d1 S.d0 (by omega)) h.1 ra rb rc rd N 0 l17 (h.congr fun i' _=>by rw[if_neg (Nat.not_lt_zero _)]) (by omega) (by omega);rw[if_pos (by omega),ql,Ya d,ZB,qp9 (by omega) (by omega),ZB,r1,ZB,show(0:Int)=((0:Nat):Int)from rfl,l1,ZB,qJ (by omega),YG d,List.foldl_cons];exact qoj hN h2 S h0 hf hw hl K (i+1) _ l l2 (fun a b=>qic S _ _ (hb a) b) (by omega) (by omega)
  rw[if_neg (by omega),List.drop_eq_nil_of_le (by omega)];exact⟨_,rfl,h⟩
theorem qor {N n:Nat} (hN:600000<N) (h1:1<=n) (h2:n<=5) {D:Int} {t:Rat} (S:Sm D t) (h0:t≠0) {f:qj} (hf:IsF f t) {w:List Int} (hw: ∀c∈w,c≠0/\ -(n:Int)<c/\c<n) (hl:w.length<=12): ∃l,qbK N (n:Int) w f=some l/\MR IsF n l (runM t w):=by
 unfold qbK
 have hm:mk 24 (n:Int) ([]:List qj)=some (List.replicate n []):=by
  have:n=1\/n=2\/n=3\/n=4\/n=5:=by omega
  rcases this with rfl|rfl|rfl|rfl|rfl
  all_goals (show @Eq (Option _) _ _;kernel_rfl)
 obtain⟨l,l1,l2⟩:=qnH (N:=N) (n:=n) (w:=w) (l1:=List.replicate n []) (by omega) h1 h2 List.length_replicate N 0 (List.replicate n []) List.length_replicate (fun i' r hi'=>by omega) (by omega) (by omega);obtain⟨m,m1,m2⟩:=qoj hN h2 S h0 hf hw hl N 0 idM l l2 (fun a b=>qle D a b) (by omega) (by omega);rw[hm,ZB,show(0:Int)=((0:Nat):Int)from rfl,l1,ZB,m1,ZB];exact⟨_,rfl,m2⟩
end Go.Av
end
noncomputable section
namespace Go.Av
open Go.Proofs Go.RowKit
variable [Glob]
abbrev IsT:Str->Rat->Prop:=fun s q=>s=T q
theorem qpd:([49]:Str)=T 1:=by
 have h:([49]:Str)=Lib.itoa 1:=by kernel_rfl
 rw[show(1:Rat)=((1:Int):Rat)from rfl,qq8];exact h
theorem qpm:([48]:Str)=T 0:=(qjG.2 rfl).symm
theorem ql3 {n:Nat} (h2:n<=5): ∀(K i:Nat),i<=n->n<K+i->jm (n:Int) K (List.replicate i [48]) (i:Int)=some (List.replicate n [48])
 |0,i,hi,hK=>by omega
 |K+1,i,hi,hK=>by
  unfold jm;by_cases c:i<n
  ·rw[if_pos (by omega),qbX (by simp;omega) (by simp;omega),ZB,qJ (by omega),<-List.replicate_succ'];exact ql3 h2 K (i+1) (by omega) (by omega)
  rw[if_neg (by omega),show i=n by omega]
theorem qnv {N n:Nat} (hN:10<N) (h2:n<=5):qaf N (n:Int)=some (List.replicate n [48]):=by
 unfold qaf;have:=ql3 h2 N 0 (by omega) (by omega);rw[List.replicate_zero]at this;rw[show(0:Int)=((0:Nat):Int)from rfl,this,ZB]
theorem qou {N n:Nat} (hN:10<N) (h2:n<=5): ∀(K i:Nat) (l1:List (List Str)),l1.length=i->(∀i' r,l1[i']? =some r->qca IsT n r (idM i'))->i<=n->n<K+i-> ∃l,yl N (n:Int) K l1 (i:Int)=some l/\MR IsT n l idM
 |0,i,l1,e,hr,hi,hK=>by omega
 |K+1,i,l1,e,hr,hi,hK=>by
  unfold yl;by_cases c:i<n
  ·rw[if_pos (by omega),qnv hN h2,ZB,ql,Ya (by rw[List.length_replicate];omega),ZB,zP (by rw[List.length_replicate];omega),ZB,qbX (by simp;omega) (by simp;omega),ZB,qJ (by omega)];refine qou hN h2 K (i+1) _ (by simp;omega) (fun i' r hr'=>?_) (by omega) (by omega);by_cases d:i'<l1.length
   ·rw[Yf d]at hr';exact hr i' r hr'
   have hl:=(Yb.1 hr').1;simp only[Yq,Yr,List.length_nil]at hl
   have:i'=i:=by omega
   subst this;rw[Yo (by omega),e,Nat.sub_self]at hr';cases hr'
   exact row0 qpm qpd
  rw[if_neg (by omega)]
  have:i=n:=by omega
  subst this;exact⟨_,rfl,e,hr⟩
theorem qg1 {N:Nat} (hN:600000<N) {x y:Rat} (hx:Sml x 108) (hy:Sml y 108):xR N (T x) (T y)=some (T (x*y))/\Sml (x*y) (9*(12+12)):=⟨qma hN (k:=108) (by decide) (by decide) hx hy,qqQ (n:=12) (by decide) hx hy⟩
theorem qo4 {N n:Nat} (hN:600000<N) (h2:n<=5) {D:Int} {t:Rat} (S:Sm D t) (h0:t≠0) {M:Nat->Nat->Rat} {w:List Int} {m:Nat} {c:Int} (hw:w[m]? =some c) (hc:1<=c.natAbs) (hc2:c.natAbs<n) (hM: ∀i j,Sml (M i j) 108):
 ∀(K i:Nat) (l18:List (List Str)),MR IsT n l18 (fun i'=>if i'<i then qdh t c M i' else M i')->i<=n->n<K+i-> ∃l,vC N (n:Int) w (T t) (m:Int) (c.natAbs:Int) K l18 (i:Int)=some l/\MR IsT n l (qdh t c M)
 |0,i,l18,h,hi,hK=>by omega
 |K+1,i,l18,h,hi,hK=>by
  unfold vC;have st:Sml t 108:=(qbQ (S.ct.bd.fit S.d1 S.d0 (by decide)) (by decide)).mono (by decide);have su:Sml (1-t) 108:=(qbQ (S.cu.bd.fit S.d1 S.d0 (by decide)) (by decide)).mono (by decide);have si:Sml t⁻¹ 108:=(qbQ (S.ci.bd.fit S.d1 S.d0 (by decide)) (by decide)).mono (by decide);have sj:Sml (1-t⁻¹) 108:=(qbQ (S.cj.bd.fit S.d1 S.d0 (by decide)) (by decide)).mono (by decide);have s1:Sml 1 108:=(qbQ (S.c1.bd.fit S.d1 S.d0 (by decide)) (by decide)).mono (by decide);by_cases d:i<n
  ·obtain⟨r,e1,hr⟩:=h.get d;rw[if_neg (Nat.lt_irrefl _)]at hr;obtain⟨k,hk⟩: ∃k,c.natAbs=k+1:=⟨c.natAbs-1,by omega⟩
   have ek:w64 (((k+1:Nat):Int)-1)=(k:Int):=by rw[qgy (by omega) (by omega)];rfl
   obtain⟨x,x1,x2⟩:=hr.get (k:=k) (by omega);obtain⟨y,y1,y2⟩:=hr.get (k:=k+1) (by omega);have hlen:r.length=n:=hr.1;have hll:l18.length=n:=h.1
   have hset:l18.set i r=l18:=by
    apply List.ext_getElem?;intro j;by_cases g:j=i
    ·subst g;rw[List.getElem?_set_self (by omega),e1]
    rw[Yw (fun q=>g q.symm)]
   have hrc: ∀r' v,qca IsT n r' v->v=qdh t c M i-> ∃l,vC N (n:Int) w (T t) (m:Int) (c.natAbs:Int) K (l18.set i r') ((i+1:Nat):Int)=some l/\MR IsT n l (qdh t c M):=by
    intro r' v hv ev;refine qo4 hN h2 S h0 hw hc hc2 hM K (i+1) _ ((h.set hv i).congr fun i' hi'=>?_) (by omega) (by omega);unfold qe8;by_cases g:i'=i
    ·subst g;rw[if_pos rfl,if_pos (by omega)];exact ev
    rw[if_neg g];show(if i'<i then qdh t c M i' else M i')=_;by_cases g2:i'<i
    ·rw[if_pos g2,if_pos (by omega)]
    rw[if_neg g2,if_neg (by omega)]
   rw[if_pos (by omega),ql,e1,ZB,hk,ek,ql,x1,ZB,ql,y1,ZB,ql,hw,ZB,qcJ,hset,ql];rw[hk]at hrc;by_cases p:c>0
   ·have q1:=qg1 hN (hM i k) su;have q2:=qjm hN (p:=M i k*(1-t)) (q:=M i (k+1)) (k:=216) (by decide) (by decide) q1.2 ((hM i (k+1)).mono (by decide));have q3:=qg1 hN (hM i k) st;rw[if_pos p,e1,ZB,qpd,qmi hN (k:=108) (by decide) (by decide) s1 st,ZB,x2,q1.1,ZB,y2,q2,ZB,ql,x1,ZB,zP (by omega),ZB,qcJ,ql,List.getElem?_set_self (by omega),ZB,q3.1,ZB,ql,Ya (by rw[Yk];omega),ZB,zP (by rw[Yk];omega),ZB,qcJ,List.set_set,ZB,qJ (by omega)];refine hrc _ _ ((hr.set (R:=IsT) rfl k).set (R:=IsT) rfl (k+1)) ?_;show _=qfP (decide (c>0)) t (c.natAbs-1) (M i);rw[decide_eq_true p,hk,Nat.add_sub_cancel];unfold qfP;rw[if_pos rfl,Rat.mul_one,Rat.mul_zero,Rat.add_zero]
   have q1:=qg1 hN (hM i (k+1)) si;have q3:=qg1 hN (hM i (k+1)) sj;have q2:=qjm hN (p:=M i k) (q:=M i (k+1)*(1-t⁻¹)) (k:=216) (by decide) (by decide) ((hM i k).mono (by decide)) q3.2;have q4:=qpZ hN (p:=1) (q:=t) (k:=108) (by decide) (by decide) s1 st h0;rw[Rat.div_def,Rat.one_mul]at q4;rw[if_neg p,qpd,q4,ZB,e1,ZB,y2,q1.1,ZB,ql,x1,ZB,zP (by omega),ZB,qcJ,ql,List.getElem?_set_self (by omega),ZB,qmi hN (k:=108) (by decide) (by decide) s1 si,ZB,q3.1,ZB,x2,q2,ZB,ql,Ya (by rw[Yk];omega),ZB,zP (by rw[Yk];omega),ZB,qcJ,List.set_set,ZB,qJ (by omega)];refine hrc _ _ ((hr.set (R:=IsT) rfl k).set (R:=IsT) rfl (k+1)) ?_;show _=qfP (decide (c>0)) t (c.natAbs-1) (M i);rw[decide_eq_false p,hk,Nat.add_sub_cancel];unfold qfP;rw[if_neg Bool.false_ne_true,Rat.mul_one,Rat.mul_zero,Rat.zero_add]
  rw[if_neg (by omega)];exact⟨_,rfl,h.congr fun i' hi'=>by rw[if_pos (by omega)]⟩
theorem qn4 {c:Int} (h1: -100<c) (h2:c<100):qcv c=some (c.natAbs:Int):=by
 unfold qcv;rw[qh (by omega) (by omega)];split<;>congr 1<;>omega
theorem qoV {N n:Nat} (hN:600000<N) (h2:n<=5) {D:Int} {t:Rat} (S:Sm D t) (h0:t≠0) {w:List Int} (hw: ∀c∈w,c≠0/\ -(n:Int)<c/\c<n) (hl:w.length<=12):
 ∀(K i:Nat) (M:Nat->Nat->Rat) (l:List (List Str)),MR IsT n l M->(∀a b,Bd D (M a b) i)->i<=w.length->w.length<K+i-> ∃r,yw N (n:Int) w (T t) K l (i:Int)=some r/\MR IsT n r ((w.drop i).foldl (fun M c=>qdh t c M) M)
 |0,i,M,l,h,hb,hi,hK=>by omega
 |K+1,i,M,l,h,hb,hi,hK=>by
  unfold yw;by_cases d:i<w.length
  ·have hm:=hw _ (List.getElem_mem d);obtain⟨r,r1,r2⟩:=qo4 hN h2 S h0 (w:=w) (m:=i) (c:=w[i]) (Ya d) (by omega) (by omega) (fun a b=>((hb a b).sml S.d1 S.d0 (by omega)).mono (by decide)) N 0 l (h.congr fun i' _=>by rw[if_neg (Nat.not_lt_zero _)]) (by omega) (by omega);rw[if_pos (by omega),ql,Ya d,ZB,qn4 (by omega) (by omega),ZB,show(0:Int)=((0:Nat):Int)from rfl,r1,ZB,qJ (by omega),YG d,List.foldl_cons];exact qoV hN h2 S h0 hw hl K (i+1) _ r r2 (fun a b=>qic S _ _ (hb a) b) (by omega) (by omega)
  rw[if_neg (by omega),List.drop_eq_nil_of_le (by omega)];exact⟨_,rfl,h⟩
theorem qm2 {N n:Nat} (hN:600000<N) (h2:n<=5) {D:Int} {t:Rat} (S:Sm D t) (h0:t≠0) {w:List Int} (hw: ∀c∈w,c≠0/\ -(n:Int)<c/\c<n) (hl:w.length<=12): ∃l,qbN N (n:Int) w (T t)=some l/\MR IsT n l (runM t w):=by
 unfold qbN;obtain⟨l,l1,l2⟩:=qou (N:=N) (n:=n) (by omega) h2 N 0 [] rfl (fun i' r hi'=>by simp at hi') (by omega) (by omega);obtain⟨m,m1,m2⟩:=qoV hN h2 S h0 hw hl N 0 idM l l2 (fun a b=>qle D a b) (by omega) (by omega);rw[show(0:Int)=((0:Nat):Int)from rfl,l1,ZB,m1,ZB];exact⟨_,rfl,m2⟩
end Go.Av
end
noncomputable section
namespace Go.Av
open Go.Proofs Go.RowKit
variable [Glob]
def FM (M:Nat->Nat->Rat):Prop:= ∀i j,xI (M i j) 5
theorem FM.sml {M:Nat->Nat->Rat} (h:FM M) (i j:Nat):Sml (M i j) 600:=(qbQ (h i j) (by decide)).mono (by decide)
theorem qov {N n:Nat} (hN:600000<N) (h2:n<=5) {r:List qj} {v:Nat->Rat} (h:qca IsF n r v) (hv: ∀j,xI (v j) 5): ∀(K i:Nat),i<=n->n<K+i->qP N r K (i:Int)=some (.inl ())
 |0,i,hi,hK=>by omega
 |K+1,i,hi,hK=>by
  unfold qP;have hl:=h.1;by_cases c:i<n
  ·obtain⟨x,x1,x2⟩:=h.get c;rw[if_pos (by omega),ql,x1,ZB,qoT hN x2 ((hv i).mono (Ys rfl)),qkC ((qbQ (hv i) (by decide)).mono (by decide)),ZB,if_neg Bool.false_ne_true,qJ (by omega)];exact qov hN h2 h hv K (i+1) (by omega) (by omega)
  rw[if_neg (by omega)]
theorem qnn {N n:Nat} (hN:600000<N) (h2:n<=5) {r:List qj} {v:Nat->Rat} (h:qca IsF n r v) (hv: ∀j,xI (v j) 5):qar N r=some false:=by
 unfold qar jf jP;have:=qov hN h2 h hv N 0 (by omega) (by omega);rw[show(0:Int)=((0:Nat):Int)from rfl,this];rfl
theorem qnF {N n:Nat} (hN:600000<N) (h2:n<=5) {l:List (List qj)} {M:Nat->Nat->Rat} (h:MR IsF n l M) (hM:FM M): ∀(K i:Nat),i<=n->n<K+i->qO N l K (i:Int)=some (.inl ())
 |0,i,hi,hK=>by omega
 |K+1,i,hi,hK=>by
  unfold qO;have hl:=h.1;by_cases c:i<n
  ·obtain⟨x,x1,x2⟩:=h.get c;rw[if_pos (by omega),ql,x1,ZB,qnn hN h2 x2 (hM i),ZB,if_neg Bool.false_ne_true,qJ (by omega)];exact qnF hN h2 h hM K (i+1) (by omega) (by omega)
  rw[if_neg (by omega)]
theorem qmU {N n:Nat} (hN:600000<N) (h2:n<=5) {l:List (List qj)} {M:Nat->Nat->Rat} (h:MR IsF n l M) (hM:FM M):zm N l=some false:=by
 unfold zm jS;have:=qnF hN h2 h hM N 0 (by omega) (by omega);rw[show(0:Int)=((0:Nat):Int)from rfl,this];rfl
theorem qlM {N n:Nat} (hN:600000<N) (h2:n<=5) {r:List qj} {v:Nat->Rat} (h:qca IsF n r v) (hv: ∀j,xI (v j) 5): ∀(K i:Nat) (l:List Str),l.length=n->(∀j s,j<i->l[j]? =some s->s=T (v j))->i<=n->n<K+i-> ∃l',xD N r K l (i:Int)=some l'/\qca IsT n l' v
 |0,i,l,e,hs,hi,hK=>by omega
 |K+1,i,l,e,hs,hi,hK=>by
  unfold xD;have hl:=h.1;by_cases c:i<n
  ·obtain⟨x,x1,x2⟩:=h.get c;rw[if_pos (by omega),ql,x1,ZB,qqi hN x2 ((hv i).mono (Ys rfl)),ZB,ql,Ya (by omega),ZB,zP (by omega),ZB,qJ (by omega)];refine qlM hN h2 h hv K (i+1) _ (by rw[Yk];exact e) (fun j s hj hs'=>?_) (by omega) (by omega);by_cases g:j=i
   ·subst g;rw[List.getElem?_set_self (by omega)]at hs';cases hs';rfl
   rw[Yw (fun q=>g q.symm)]at hs';exact hs j s (by omega) hs'
  rw[if_neg (by omega)];refine⟨_,rfl,e,fun j s hs'=>hs j s ?_ hs'⟩;have:=(Yb.1 hs').1;omega
theorem qn6 {N n:Nat} (hN:600000<N) (h1:1<=n) (h2:n<=5) {r:List qj} {v:Nat->Rat} (h:qca IsF n r v) (hv: ∀j,xI (v j) 5): ∃l,qde N r=some l/\qca IsT n l v:=by
 unfold qde
 have hm:mk 16 (n:Int) ([]:Str)=some (List.replicate n []):=by
  have:n=1\/n=2\/n=3\/n=4\/n=5:=by omega
  rcases this with rfl|rfl|rfl|rfl|rfl
  all_goals (show @Eq (Option _) _ _;kernel_rfl)
 obtain⟨l,l1,l2⟩:=qlM hN h2 h hv N 0 (List.replicate n []) List.length_replicate (fun j s hj=>by omega) (by omega) (by omega);rw[h.1,hm,ZB,show(0:Int)=((0:Nat):Int)from rfl,l1,ZB];exact⟨_,rfl,l2⟩
theorem qnP {N n:Nat} (hN:600000<N) (h1:1<=n) (h2:n<=5) {a:List (List qj)} {M:Nat->Nat->Rat} (h:MR IsF n a M) (hM:FM M): ∀(K i:Nat) (l:List (List Str)),l.length=i->(∀j s,l[j]? =some s->qca IsT n s (M j))->i<=n->n<K+i-> ∃l',kz N a K l (i:Int)=some l'/\MR IsT n l' M
 |0,i,l,e,hs,hi,hK=>by omega
 |K+1,i,l,e,hs,hi,hK=>by
  unfold kz;have hl:=h.1;by_cases c:i<n
  ·obtain⟨x,x1,x2⟩:=h.get c;obtain⟨y,y1,y2⟩:=qn6 hN h1 h2 x2 (hM i);rw[if_pos (by omega),ql,x1,ZB,y1,ZB,qbX (by simp;omega) (by simp;omega),ZB,qJ (by omega)];refine qnP hN h1 h2 h hM K (i+1) _ (by simp;omega) (fun j s hs'=>?_) (by omega) (by omega);by_cases d:j<l.length
   ·rw[Yf d]at hs';exact hs j s hs'
   have hl:=(Yb.1 hs').1;simp only[Yq,Yr,List.length_nil]at hl
   have:j=i:=by omega
   subst this;rw[Yo (by omega),e,Nat.sub_self]at hs';cases hs'
   exact y2
  rw[if_neg (by omega)]
  have:i=n:=by omega
  subst this;exact⟨_,rfl,e,hs⟩
theorem qqB {N n:Nat} (hN:600000<N) (h1:1<=n) (h2:n<=5) {a:List (List qj)} {M:Nat->Nat->Rat} (h:MR IsF n a M) (hM:FM M): ∃l,vQ N a=some l/\MR IsT n l M:=by
 unfold vQ;obtain⟨l,l1,l2⟩:=qnP hN h1 h2 h hM N 0 [] rfl (fun j s hs=>by simp at hs) (by omega) (by omega);rw[show(0:Int)=((0:Nat):Int)from rfl,l1,ZB];exact⟨_,rfl,l2⟩
theorem qoS {N n:Nat} (hN:600000<N) (h2:n<=5) {r:List Str} {v:Nat->Rat} (h:qca IsT n r v) (hv: ∀j,Sml (v j) 600): ∀(K i:Nat),i<=n->n<K+i->jo N r K (i:Int)=some (.inl ())
 |0,i,hi,hK=>by omega
 |K+1,i,hi,hK=>by
  unfold jo;have hl:=h.1;by_cases c:i<n
  ·obtain⟨x,x1,x2⟩:=h.get c;rw[if_pos (by omega),ql,x1,ZB,x2,qp8 (by omega) (hv i) (by decide),qkC (hv i),ZB,if_neg Bool.false_ne_true,if_neg (by decide),qJ (by omega)];exact qoS hN h2 h hv K (i+1) (by omega) (by omega)
  rw[if_neg (by omega)]
theorem qpp {N n:Nat} (hN:600000<N) (h2:n<=5) {l:List (List Str)} {M:Nat->Nat->Rat} (h:MR IsT n l M) (hM:FM M): ∀(K i:Nat),i<=n->n<K+i->zB N l K (i:Int)=some (.inl ())
 |0,i,hi,hK=>by omega
 |K+1,i,hi,hK=>by
  unfold zB qa8;have hl:=h.1;by_cases c:i<n
  ·obtain⟨x,x1,x2⟩:=h.get c;have e:=qoS hN h2 x2 (hM.sml i) N 0 (by omega) (by omega);rw[if_pos (by omega),ql,x1,ZB,show(0:Int)=((0:Nat):Int)from rfl,e,ZB,ZB,if_neg (by decide),qJ (by omega)];exact qpp hN h2 h hM K (i+1) (by omega) (by omega)
  rw[if_neg (by omega)]
theorem qqm {N n:Nat} (hN:600000<N) (h2:n<=5) {l:List (List Str)} {M:Nat->Nat->Rat} (h:MR IsT n l M) (hM:FM M):yK N l=some 0:=by
 unfold yK;have:=qpp hN h2 h hM N 0 (by omega) (by omega);rw[show(0:Int)=((0:Nat):Int)from rfl,this];rfl
theorem qot {r:List Str} (hl:r.length<=5): ∀(K i:Nat),i<=r.length->r.length<K+i->jI r r K (i:Int)=some (.inl ())
 |0,i,hi,hK=>by omega
 |K+1,i,hi,hK=>by
  unfold jI;by_cases c:i<r.length
  ·rw[if_pos (by omega),ql,Ya c,ZB,ZB,if_neg (by simp),qJ (by omega)];exact qot hl K (i+1) (by omega) (by omega)
  rw[if_neg (by omega)]
theorem qpP {N:Nat} (hN:10<N) {r:List Str} (hl:r.length<=5):qaI N r r=some true:=by
 unfold qaI;have:=qot hl N 0 (by omega) (by omega);rw[decide_eq_true rfl,if_neg (by decide),show(0:Int)=((0:Nat):Int)from rfl,this];rfl
theorem qpK {N:Nat} (hN:10<N) {l:List (List Str)} (hl:l.length<=5) (hr: ∀r∈l,r.length<=5): ∀(K i:Nat),i<=l.length->l.length<K+i->zL N l l K (i:Int)=some (.inl ())
 |0,i,hi,hK=>by omega
 |K+1,i,hi,hK=>by
  unfold zL;by_cases c:i<l.length
  ·rw[if_pos (by omega),ql,Ya c,ZB,ZB,qpP hN (hr _ (List.getElem_mem c)),ZB,if_neg (by decide),qJ (by omega)];exact qpK hN hl hr K (i+1) (by omega) (by omega)
  rw[if_neg (by omega)]
theorem qql {N n:Nat} (hN:10<N) (h2:n<=5) {l l':List (List Str)} {M:Nat->Nat->Rat} (h:MR IsT n l M) (h':MR IsT n l' M):y8 N l l'=some true:=by
 obtain rfl:=h.ext h';have hl:=h.1
 have hr: ∀r∈l,r.length<=5:=fun r hr=>by
  obtain⟨i,hi⟩:=List.getElem?_of_mem hr;have:=(h.2 i r hi).1;omega
 unfold y8;have:=qpK hN (by omega) hr N 0 (by omega) (by omega);rw[decide_eq_true rfl,if_neg (by decide),show(0:Int)=((0:Nat):Int)from rfl,this];rfl
theorem l5two {N:Nat} (hN:10<N) (a b:Int):qa6 N [a,b]=some (if a=0 then b else a):=by
 rw[qmY (by simp) (by simp;omega)];unfold qnk;by_cases ha:a=0<;>by_cases hb:b=0<;>simp[List.find?,ha,hb]
theorem qnE {N:Nat} (hN:10<N) (a b c:Int):yP N [a,b,c]=some (if a=0 then(if b=0 then c else b)else a):=by
 rw[qmZ (by simp) (by simp;omega)];unfold qnk;by_cases ha:a=0<;>by_cases hb:b=0<;>by_cases hc:c=0<;>simp[List.find?,ha,hb,hc]
theorem qf5 {N:Nat} (hN:600000<N) (n:Int) (w:List Int) (t:Str):qaa N n w t=some true:=by
 unfold qaa awk;simp only[ZB,Bool.not_true,ZF,if_false];by_cases hw:(w.length:Int)>220
 ·rw[if_pos hw];rfl
 rw[if_neg hw];simp only[ZB];by_cases ht:(t.length:Int)>40
 ·rw[decide_eq_true ht];rfl
 rw[decide_eq_false ht];simp only[ZF,if_false];have rC:=qk4 (N:=N) (by omega) (n:=n) (w:=w) (by omega);have pC:=qmJ (N:=N) (by omega) (n:=n) (w:=w) (by omega);have rK:=qiN hN (s:=t) (by omega);have pK:=qmR hN (s:=t) (by omega);rw[rC,ZB,rK,ZB,l5two (by omega),ZB]
 have eB: ∀e:Int,(if qjb n w=0 then(if chk t=0 then(if(t==[48])=true then 6 else 0)else chk t)else qjb n w)=e->e≠0->qal N n w t=some ([],e):=by
  intro e he h0;unfold qal;rw[pC,ZB,pK,ZB,qeL,ZB,qnE (by omega),he,ZB,decide_eq_false h0,if_pos (show(!false)=true from rfl)]
 by_cases z:qjb n w=0
 ·rw[if_pos z]at eB⊢;by_cases y:chk t=0
  ·rw[if_pos y]at eB;rw[y,if_pos rfl,ZB];by_cases x:(t==[48])=true
   ·rw[if_pos x]at eB⊢;rw[ZB,if_neg (by decide),ZB,if_neg Bool.false_ne_true,eB 6 rfl (by decide)];rfl
   rw[if_neg x,ZB,if_pos rfl];by_cases h5:n>5
   ·rw[if_pos h5];rfl
   rw[if_neg h5];by_cases h12:(w.length:Int)>12
   ·rw[if_pos h12];rfl
   rw[if_neg h12];obtain⟨b,b1,b2⟩:=qrE hN (s:=t) (d:=3) (by decide) (by decide);rw[show(3:Int)=((3:Nat):Int)from rfl,b1,ZB,ZB];cases b
   ·rfl
   obtain⟨q,rfl,q1,q2⟩:=b2 rfl;obtain⟨k,rfl,W⟩:=qpV z
   have q0:q≠0:=fun e=>x (by rw[qjG.2 e];rfl)
   obtain⟨D,S⟩:=Sm.of q1 q0;have k1:=W.n1
   have k2:k<=5:=by omega
   obtain⟨f,f1,f2⟩:=qp5 hN (q1.mono (by decide));obtain⟨l,l1,l2⟩:=qor hN k1 k2 S q0 f2 W.let_ (by omega);obtain⟨m,m1,m2⟩:=qm2 hN k2 S q0 W.let_ (by omega)
   have hb:FM (runM q w):=fun i j=>(qlL S w idM 0 (fun a b=>qle D a b) i j).fit S.d1 S.d0 (by omega)
   obtain⟨s,s1,s2⟩:=qqB hN k1 k2 l2 hb
   have hB:qal N (k:Int) w (T q)=some (s,0):=by
    unfold qal;rw[pC,ZB,pK,ZB,qeL,ZB,qnE (by omega),if_pos z,if_pos y,if_neg x,ZB,if_neg (by decide),f1,ZB,l1,ZB,qmU hN k2 l2 hb,ZB,if_neg Bool.false_ne_true,s1,ZB]
   rw[if_neg (by decide),hB,ZB,if_neg (by decide),m1,ZB,qqm hN k2 m2 hb,ZB,if_neg (by decide),if_pos rfl,qql (by omega) k2 s2 m2];rfl
  rw[if_neg y]at eB;rw[if_neg y,ZB,if_neg Bool.false_ne_true,ZB,if_neg y,ZB,if_neg Bool.false_ne_true,eB _ rfl y,ZB,decide_eq_false y,if_pos (show(!false)=true from rfl)];dsimp only;rw[if_pos (show((([]:List (List Str)).length:Nat):Int)=0 from rfl),decide_eq_true rfl];rfl
 rw[if_neg z]at eB⊢;rw[if_neg z,ZB,if_neg Bool.false_ne_true,ZB,if_neg z,ZB,if_neg Bool.false_ne_true,eB _ rfl z,ZB,decide_eq_false z,if_pos (show(!false)=true from rfl)];dsimp only;rw[if_pos (show((([]:List (List Str)).length:Nat):Int)=0 from rfl),decide_eq_true rfl];rfl
end Go.Av
end
