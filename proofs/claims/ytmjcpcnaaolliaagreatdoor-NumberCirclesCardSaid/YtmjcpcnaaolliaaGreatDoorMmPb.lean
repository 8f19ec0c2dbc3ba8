/-
  The reference's numerals.
-/
import Derived.Test.YtmjcpcnaaolliaaGreatDoorMmPa
import Derived.Test.YtmjcpcnaaolliaaGreatDoorAvPt
import Derived.KernelRfl
noncomputable section
set_option linter.unusedVariables false
set_option linter.unusedSimpArgs false
set_option maxRecDepth 100000
section
namespace Go.Av
theorem qbg {a b:Str} (h:a.length+b.length<=1000000000):cat a b=some (a++b):=by
 unfold cat
 rw[if_pos (by omega)]
theorem dcut {d:Nat} (h:d<10):cut ([48,49,50,51,52,53,54,55,56,57]:Str) (d:Int) (w64 ((d:Int)+1))=some [dch d]:=by
 rw[zy (by omega)]
 rcases(show d=0\/d=1\/d=2\/d=3\/d=4\/d=5\/d=6\/d=7\/d=8\/d=9 by omega)with e|e|e|e|e|e|e|e|e|e<;>subst e<;>decide
theorem tm10 (n:Nat):(n:Int).tmod 10=((n%10:Nat):Int):=by rw[Int.tmod_eq_emod_of_nonneg (by omega)];omega
theorem td10 (n:Nat):(n:Int).tdiv 10=((n/10:Nat):Int):=by rw[YF (by omega)];omega
theorem qgx {least:Int} {K n:Nat} {s:Str} (hn:n<9223372036854775808) (hs:s.length<=1000) (h:0<n\/(s.length:Int)<least):qU least (K+1) (n:Int) s=qU least K ((n/10:Nat):Int) (dch (n%10)::s):=by
 have cond:(if(n:Int)>0 then some true else some (decide ((s.length:Int)<least)):Option Bool)=some true:=by
  by_cases c:(n:Int)>0
  ·rw[if_pos c]
  rw[if_neg c,decide_eq_true (by omega)]
 rw[qU,cond,ZB,if_pos rfl,tm10,td10,dcut (by omega),ZB,qbg (by simp;omega),ZB,qg (by omega) (by omega)]
 rfl
theorem qgg {least:Int} {K:Nat} {s:Str} (h: ¬(s.length:Int)<least):qU least (K+1) 0 s=some s:=by
 rw[qU,if_neg (by omega),decide_eq_false h,ZB,if_neg (by simp)]
theorem qlc: ∀(k K n:Nat) (s:Str),n<10^k->s.length+k=9->k<K->qU 9 K (n:Int) s=some (qeb k n++s)
 |k,0,n,s,_,_,h=>by omega
 |0,K+1,n,s,hn,hs,h=>by
  simp at hn
  subst hn
  exact qgg (by omega)
 |k+1,K+1,n,s,hn,hs,h=>by
  have h9:(10:Nat)^(k+1)<=10^9:=Nat.pow_le_pow_right (by omega) (by omega)
  rw[Nat.pow_succ]at hn
  rw[qgx (by rw[Nat.pow_succ]at h9;omega) (by omega) (.inr (by omega)),qlc k K (n/10) _ (by omega) (by simp;omega) (by omega),qeb,Yz]
  rfl
theorem qkP: ∀(k K n:Nat) (s:Str),0<n->n<10^k->n<9223372036854775808->s.length+k<=900->k<K->qU 1 K (n:Int) s=some (Lib.decDigits n++s)
 |k,0,n,s,_,_,_,_,h=>by omega
 |0,K+1,n,s,h0,hn,_,hs,h=>by simp at hn;omega
 |k+1,K+1,n,s,h0,hn,h63,hs,h=>by
  rw[Nat.pow_succ]at hn
  rw[qgx h63 (by omega) (.inl h0)]
  by_cases c:n<10
  ·obtain⟨K2,rfl⟩: ∃K2,K=K2+1:=⟨K-1,by omega⟩
   rw[show n/10=0 by omega,zJ c,show n%10=n by omega]
   exact qgg (by simp;omega)
  rw[qkP k K (n/10) _ (by omega) (by omega) (by omega) (by simp;omega) (by omega),qdS c,Yz]
  rfl
theorem qpq {N n:Nat} (hN:100<N) (h:n<1000000000):zM N (n:Int) 9=some (qeb 9 n):=by
 unfold zM
 rw[qlc 9 N n [] h rfl (by omega),ZB,YQ]
theorem qhn {N n:Nat} (hN:100<N) (h:n<9223372036854775808):zM N (n:Int) 1=some (Lib.decDigits n):=by
 unfold zM
 rcases Nat.eq_zero_or_pos n with e|e
 ·subst e
  obtain⟨K,rfl⟩: ∃K,N=K+1+1:=⟨N-2,by omega⟩
  have h1:=qgx (least:=1) (K:=K+1) (n:=0) (s:=[]) (by omega) (by simp) (.inr (by simp))
  rw[h1,Nat.zero_div]
  have h2:=qgg (least:=1) (K:=K) (s:=[dch (0%10)]) (by simp)
  have h2:qU 1 (K+1) ((0:Nat):Int) [dch (0%10)]=_:=h2
  rw[h2,ZB,zJ (by decide)]
 rw[qkP 19 N n [] e (by omega) h (by simp) (by omega),ZB,YQ]
theorem qhM: ∀k:Nat,E9^k=((10^(9*k):Nat):Int)
 |0=>rfl
 |k+1=>by
  rw[Int.pow_succ,qhM k,Nat.mul_succ,Nat.pow_add,Int.natCast_mul]
  rfl
def nv (w:List Int):Nat:=(dv E9 w).toNat
theorem qjN {w:List Int} (h:Dg E9 w):(nv w:Int)=dv E9 w:=by
 have:=qE E0 h
 unfold nv
 omega
theorem nv_lt {w:List Int} (h:Dg E9 w):nv w<10^(9*w.length):=by
 have h1:=yJ E0 h
 rw[qhM,<-qjN h]at h1
 omega
theorem qjd {w:List Int} (h:Dg E9 w):(Lib.decDigits (nv w)).length<=9*w.length+1:=by
 refine(xz (by omega)).2 ?_
 have:=nv_lt h
 rw[Nat.pow_succ]
 omega
theorem qmc {w:List Int} (h:Dg E9 w) {i:Nat} (hi:i<w.length):nv (w.drop i)=w[i].toNat+1000000000*nv (w.drop (i+1)):=by
 have h1:=qjN (h.drop i)
 have h2:=qjN (h.drop (i+1))
 have h3:=(h.at hi).1
 rw[qhK w hi]at h1
 have h4:E9*dv E9 (w.drop (i+1))=1000000000*dv E9 (w.drop (i+1)):=rfl
 omega
theorem qkG {N:Nat} (hN:100<N) {a:qJ} (ha:Dg E9 a.w) (hal:a.w.length<=100000): ∀(K i:Nat),i<=a.w.length->i<K->0<nv (a.w.drop i)->vT N a K (Lib.decDigits (nv (a.w.drop i))) ((i:Int)-1)=some (Lib.decDigits (nv a.w))
 |0,i,_,h,_=>by omega
 |K+1,0,_,_,_=>by
  rw[vT,if_neg (by omega),YR]
 |K+1,i+1,hi,h,hp=>by
  have hil:i<a.w.length:=by omega
  have ax:=ha.at hil
  have ax2:a.w[i]<1000000000:=ax.2
  have ei:((i+1:Nat):Int)-1=(i:Int):=by omega
  have ed:a.w[i]=(a.w[i].toNat:Int):=by omega
  have el:=qmc ha hil
  have ll:=qjd (ha.drop (i+1))
  rw[YJ]at ll
  rw[vT,ei,if_pos (by omega),qz,Ya hil,ZB]
  have e9:zM N a.w[i] 9=some (qeb 9 a.w[i].toNat):=by
   conv=>lhs;rw[ed]
   exact qpq hN (by omega)
  rw[e9,ZB,qbg (by rw[qhH];omega),ZB,qg (by omega) (by omega)]
  have e10:Lib.decDigits (nv (a.w.drop (i+1)))++qeb 9 a.w[i].toNat=Lib.decDigits (nv (a.w.drop i)):=by
   have h9:(10:Nat)^9=1000000000:=rfl
   have q:nv (a.w.drop i)/10^9=nv (a.w.drop (i+1)):=by rw[h9];omega
   have r:nv (a.w.drop i)%10^9=a.w[i].toNat:=by rw[h9];omega
   rw[qhN 9 (nv (a.w.drop i)) (by rw[q];exact hp),q,r]
  rw[e10]
  exact qkG hN ha hal K i (by omega) (by omega) (by omega)
theorem vW {z:Int} (h:z<0):Lib.itoa z=45::Lib.decDigits z.natAbs:=by unfold Lib.itoa;rw[if_pos h]
theorem jk {z:Int} (h: ¬z<0):Lib.itoa z=Lib.decDigits z.natAbs:=by
 unfold Lib.itoa
 rw[if_neg h,show z.toNat=z.natAbs by omega]
theorem qjO {N:Nat} (hN:60000<N) {z:Int} (h:jm z 50000):qaV N (rI z)=some (Lib.itoa z):=by
 obtain⟨c,e⟩:=qgl z
 have l:(rI z).w.length<=50000:=h.len
 have en:nv (rI z).w=z.natAbs:=by unfold nv;rw[e];omega
 have ng:(rI z).neg=decide (z<0):=rfl
 unfold qaV
 by_cases h0:(rI z).w.length=0
 ·have hz:z=0:=by
   rw[YL.1 h0,zn]at e
   omega
  rw[if_pos (by omega),hz]
  have:Lib.itoa 0=[48]:=by rw[jk (by decide)];exact zJ (by decide)
  rw[this]
 have hk:(rI z).w.length-1<(rI z).w.length:=by omega
 have ax:=c.1.at hk
 have ax2:(rI z).w[(rI z).w.length-1]<1000000000:=ax.2
 have an:(rI z).w[(rI z).w.length-1]≠0:=c.2 _ (by rw[List.getLast?_eq_getElem?];exact Ya hk)
 have ed:(rI z).w[(rI z).w.length-1]=((rI z).w[(rI z).w.length-1].toNat:Int):=by omega
 have e1:nv ((rI z).w.drop ((rI z).w.length-1))=(rI z).w[(rI z).w.length-1].toNat:=by
  rw[qmc c.1 hk,List.drop_of_length_le (by omega)]
  rfl
 have e2:zM N (rI z).w[(rI z).w.length-1] 1=some (Lib.decDigits (nv ((rI z).w.drop ((rI z).w.length-1)))):=by
  conv=>lhs;rw[ed]
  rw[e1]
  exact qhn (by omega) (by omega)
 have e3:=qkG (N:=N) (by omega) c.1 (by omega) N ((rI z).w.length-1) (by omega) (by omega) (by rw[e1];omega)
 have ll:=qjd c.1
 rw[if_neg (by omega),qjz (by omega) (by omega),qz,Ya hk,ZB,e2,ZB,show w64 (((rI z).w.length:Int)-2)=(((rI z).w.length-1:Nat):Int)-1 by rw[qg (by omega) (by omega)];omega,e3,ZB,ng]
 by_cases hz:z<0
 ·rw[decide_eq_true hz,if_pos rfl,qbg (by simp;omega),ZB,vW hz,en]
  rfl
 rw[decide_eq_false hz,if_neg (by simp),jk hz,en]
theorem qkh {s:Str} (hd:s.all vo=true) (hl:s.length<=18): ∀(K i:Nat),i<=s.length->s.length<K+i->vw s K ((qO 0 (s.take i):Nat):Int) (i:Int)=some ((qO 0 s:Nat):Int)
 |0,i,h,hK=>by omega
 |K+1,i,h,hK=>by
  rw[vw]
  by_cases hi:i<s.length
  ·have ht:s.take (i+1)=s.take i++[s[i]]:=List.take_succ_eq_append_getElem hi
   have hc:vo s[i]=true:=Yp.1 hd _ (List.getElem_mem hi)
   obtain⟨_,hc2⟩:=qmY hc
   have hc1:48<=s[i].toNat:=by
    unfold vo at hc
    rw[Bool.and_eq_true,decide_eq_true_eq]at hc
    exact hc.1
   have hv:=qdD (s.take i) 0 (Yp.2 fun x hx=>Yp.1 hd x (List.mem_of_mem_take hx))
   have hp:(10:Nat)^(s.take i).length<=10^17:=Nat.pow_le_pow_right (by omega) (by rw[Ym];omega)
   have hp2:(10:Nat)^17=100000000000000000:=rfl
   rw[if_pos (by omega),qz,Ya hi,ZB,qg (n:=10*((qO 0 (s.take i):Nat):Int)) (by omega) (by omega),qg (n:=(s[i].toNat:Int)) (by omega) (by omega),qg (n:=10*((qO 0 (s.take i):Nat):Int)+(s[i].toNat:Int)) (by omega) (by omega),qg (by omega) (by omega),zy (by omega)]
   have e:10*((qO 0 (s.take i):Nat):Int)+(s[i].toNat:Int)-48=((qO 0 (s.take (i+1)):Nat):Int):=by rw[ht,qeW];omega
   rw[e]
   exact qkh hd hl K (i+1) (by omega) (by omega)
  rw[if_neg (by omega),List.take_of_length_le (by omega)]
theorem qfW {N:Nat} (hN:100<N) {s:Str} (hd:s.all vo=true) (hl:s.length<=18):xq N s=some ((qO 0 s:Nat):Int):=by
 have e:=qkh hd hl N 0 (by omega) (by omega)
 have e:vw s N 0 0=_:=e
 unfold xq
 rw[e,ZB]
theorem qfE {s:Str} (h:s.all vo=true) (k:Nat):(s.take k).all vo=true:=Yp.2 fun x hx=>Yp.1 h x (List.mem_of_mem_take hx)
theorem qij {s:Str} (h:s.all vo=true) (k:Nat):(s.drop k).all vo=true:=Yp.2 fun x hx=>Yp.1 h x (List.mem_of_mem_drop hx)
theorem qka {N:Nat} (hN:100<N): ∀(K:Nat) (l:List Int) (s:Str),s.all vo=true->l.length+s.length<=90000->s.length<K->Dg E9 l->
 ∃l' s',yh N K l s=some (l',s')/\s'.length<=9/\s'.all vo=true/\Dg E9 l'/\l'.length<=90000/\dv E9 l'+E9^l'.length*(qO 0 s':Nat)=dv E9 l+E9^l.length*(qO 0 s:Nat)
 |0,l,s,_,_,h,_=>by omega
 |K+1,l,s,hd,hl,h,hg=>by
  rw[yh]
  by_cases c:s.length>9
  ·have lu:(s.drop (s.length-9)).length=9:=by rw[YJ];omega
   have hv:=qfW (N:=N) hN (qij hd (s.length-9)) (by omega)
   have hv2:=qdD _ 0 (qij hd (s.length-9))
   rw[lu]at hv2
   rw[if_pos (by omega),show w64 ((s.length:Int)-9)=((s.length-9:Nat):Int)by rw[qg (by omega) (by omega)];omega,xJ (by omega),ZB,hv,ZB,qa6 (by simp;omega) (by simp;omega),ZB,yz (by omega),ZB]
   obtain⟨l',s',f1,f2,f3,f4,f5,f6⟩:=qka hN K (l++[((qO 0 (s.drop (s.length-9)):Nat):Int)]) (s.take (s.length-9)) (qfE hd _) (by simp;omega) (by rw[Ym];omega) (hg.append (Dg.cons ⟨by omega,show((qO 0 (s.drop (s.length-9)):Nat):Int)<1000000000 by omega⟩ Dg.nil))
   refine⟨l',s',f1,f2,f3,f4,f5,?_⟩
   rw[f6,qe2,Yq,List.length_singleton,Int.pow_succ,Int.mul_assoc]
   have e:qO 0 s=qO 0 (s.take (s.length-9))*1000000000+qO 0 (s.drop (s.length-9)):=by
    have:=qcI (s.take (s.length-9)) (s.drop (s.length-9))
    rw[YS,lu]at this
    exact this
   have e2:((qO 0 s:Nat):Int)=((qO 0 (s.drop (s.length-9)):Nat):Int)+E9*((qO 0 (s.take (s.length-9)):Nat):Int):=by
    have h4:E9*((qO 0 (s.take (s.length-9)):Nat):Int)=1000000000*((qO 0 (s.take (s.length-9)):Nat):Int):=rfl
    omega
   rw[e2,Int.mul_add]
   omega
  rw[if_neg (by omega)]
  exact⟨l,s,rfl,by omega,hd,hg,by omega,rfl⟩
def sgn (s:Str):Bool:=decide (s[0]? =some 45)
def bdy (s:Str):Str:=if sgn s=true then s.drop 1 else s
theorem qfZ (s:Str):(if(s.length:Int)>0 then(idx s 0).bind fun c=>some (decide ((c.toNat:Int)=45))else some false:Option Bool)=some (sgn s):=by
 unfold sgn
 cases s with
 |nil=>rfl
 |cons c t=>
  rw[if_pos (by simp),xm]
  have e:((c.toNat:Int)=45)↔(some c=some (45:UInt8)):=⟨fun h=>congrArg some (UInt8.toNat_inj.1 (show c.toNat=45 by omega)),fun h=>by rw[Ye h];rfl⟩
  simp only[Yj,ZB]
  congr 1
  exact decide_eq_decide.2 e
theorem qll (s:Str):(if sgn s=true then(cut s 1 (s.length:Int)).bind fun x=>some x else some s:Option Str)=some (bdy s):=by
 unfold bdy
 cases h:sgn s with
 |false=>rw[if_neg (by simp),if_neg (by simp)]
 |true=>
  have hl:1<=s.length:=by
   cases s with
   |nil=>simp[sgn]at h
   |cons=>simp
  have:=xJ hl
  have e:cut s 1 (s.length:Int)=some (s.drop 1):=this
  rw[if_pos rfl,if_pos rfl,e,ZB]
def qjU (s:Str):Int:=if sgn s=true then-((qO 0 (bdy s):Nat):Int)else((qO 0 (bdy s):Nat):Int)
theorem qh4 {N:Nat} (hN:100000<N) {s:Str} (hd:(bdy s).all vo=true) (hl:(bdy s).length<=80000):qam N s=some (rI (qjU s)):=by
 unfold qam
 rw[qfZ,ZB,qll,ZB]
 obtain⟨l,t,f1,f2,f3,f4,f5,f6⟩:=qka (N:=N) (by omega) N [] (bdy s) hd (by simp;omega) (by omega) Dg.nil
 have hv:=qfW (N:=N) (by omega) f3 (by omega)
 have hv2:=qdD _ 0 f3
 have hp:(10:Nat)^t.length<=10^9:=Nat.pow_le_pow_right (by omega) f2
 rw[f1,ZB]
 simp only
 have hg:=f4.append (r:=[((qO 0 t:Nat):Int)]) (Dg.cons ⟨by omega,show((qO 0 t:Nat):Int)<1000000000 by omega⟩ Dg.nil)
 rw[hv,ZB,qa6 (by simp;omega) (by simp;omega),ZB,xW _ hg (by simp;omega) (by simp;omega),ZB,qe2,f6]
 simp only[zn,List.length_nil,Int.pow_zero,Int.one_mul,Int.zero_add]
 rfl
theorem qik (z:Int):sgn (Lib.itoa z)=decide (z<0):=by
 unfold sgn
 by_cases h:z<0
 ·rw[vW h,decide_eq_true h];rfl
 rw[jk h,decide_eq_false h]
 refine decide_eq_false fun e=>?_
 have hm:(45:UInt8)∈Lib.decDigits z.natAbs:=Yn e
 have:=Yp.1 (qa8 z.natAbs) _ hm
 exact absurd this (by decide)
theorem qcy (z:Int):bdy (Lib.itoa z)=Lib.decDigits z.natAbs:=by
 unfold bdy
 rw[qik]
 by_cases h:z<0
 ·rw[decide_eq_true h,if_pos rfl,vW h];rfl
 rw[decide_eq_false h,if_neg (by simp),jk h]
theorem qdm (z:Int):qjU (Lib.itoa z)=z:=by
 unfold qjU
 rw[qik,qcy,qcs]
 by_cases h:z<0
 ·rw[decide_eq_true h,if_pos rfl];omega
 rw[decide_eq_false h,if_neg (by simp)];omega
def slA:Str->Nat
 |[]=>0
 |c::s=>if c=47 then 0 else slA s+1
theorem qgn: ∀s:Str,slA s<=s.length
 |[]=>Nat.le_refl _
 |c::s=>by
  rw[slA,Yr]
  have:=qgn s
  split<;>omega
theorem qk5 {s:Str} (hl:s.length<=1000000): ∀(K i:Nat),i<=s.length->s.length<K+i->vg s K (i:Int)=some (if i+slA (s.drop i)<s.length then .inr ((i+slA (s.drop i):Nat):Int)else .inl ())
 |0,i,h,hK=>by omega
 |K+1,i,h,hK=>by
  rw[vg]
  by_cases hi:i<s.length
  ·have hd:s.drop i=s[i]::s.drop (i+1):=YG hi
   rw[if_pos (by omega),qz,Ya hi,ZB,hd,slA]
   by_cases c:s[i]=47
   ·rw[if_pos c,if_pos (by rw[c];rfl),Nat.add_zero,if_pos hi]
   rw[if_neg c,if_neg (fun e=>c (UInt8.toNat_inj.1 (show s[i].toNat=47 by omega))),zy (by omega),qk5 hl K (i+1) (by omega) (by omega),show i+1+slA (s.drop (i+1))=i+(slA (s.drop (i+1))+1)by omega]
  rw[if_neg (by omega),List.drop_of_length_le (by omega),if_neg (by omega)]
theorem qdg {N:Nat} {s:Str} (hl:s.length<=1000000) (hN:s.length<N):yw N s=some (slA s:Int):=by
 have e:=qk5 hl N 0 (by omega) (by omega)
 have e:vg s N 0=_:=e
 have h:=qgn s
 unfold yw
 rw[e,YR,Nat.zero_add]
 by_cases c:slA s<s.length
 ·rw[if_pos c];rfl
 rw[if_neg c]
 have:slA s=s.length:=by omega
 rw[this]
 rfl
theorem qjJ: ∀(s t:Str),(∀c∈s,c≠47)->slA (s++47::t)=s.length/\slA s=s.length
 |[],t,_=>⟨by simp[slA],rfl⟩
 |c::s,t,h=>by
  have h1:=qjJ s t fun x hx=>h x (List.mem_cons_of_mem _ hx)
  rw[List.cons_append,slA,slA,if_neg (h c (List.mem_cons_self ..)),if_neg (h c (List.mem_cons_self ..)),h1.1,h1.2]
  exact⟨rfl,rfl⟩
end Go.Av
end
section
namespace Go.Av
theorem and1 {n:Nat} (h:n<4611686018427387904):qB .i64 (n:Int) 1=((n%2:Nat):Int):=by
 show IntKind.wrap .i64 _=_
 have e:(BitVec.ofInt IntKind.i64.bits (n:Int)&&&BitVec.ofInt IntKind.i64.bits 1).toNat=n%2:=by
  rw[BitVec.toNat_and]
  show(BitVec.ofInt 64 (n:Int)).toNat&&&(BitVec.ofInt 64 1).toNat=_
  rw[qca (by omega) (by omega),qca (by omega) (by omega)]
  exact Nat.and_one_is_mod n
 rw[e]
 show w64 _=_
 exact qg (by omega) (by omega)
theorem shr1 (n:Nat):qx .i64 (n:Int) 1=((n/2:Nat):Int):=by
 show(n:Int).fdiv 2=_
 rw[Int.fdiv_eq_ediv_of_nonneg _ (by decide)]
 omega
theorem qn0 {N:Nat} (hN:11000<N): ∀(K n:Nat) (b acc:qm) (x y:Int) (mb ma:Nat),n<100000->n<K->IsZ b x->IsZ acc y->Fit x mb->Fit y ma->ma+mb*n<=3900->
 ∃r,vG N K b.s b.w acc.s acc.w (n:Int)=some (r.s,r.w)/\IsZ r (y*x^n)
 |0,n,_,_,_,_,_,_,_,h,_,_,_,_,_=>by omega
 |K+1,n,b,acc,x,y,mb,ma,hn,hK,hb,hacc,fx,fy,hm=>by
  rw[vG]
  by_cases h0:n=0
  ·subst h0
   rw[if_neg (by omega)]
   exact⟨acc,rfl,by simpa using hacc⟩
  have hmb:mb<=mb*n:=Nat.le_mul_of_pos_right _ (by omega)
  obtain⟨m,r,hr,hmr⟩: ∃m r,r<2/\n=2*m+r:=⟨n/2,n%2,by omega,by omega⟩
  have emb:mb*n=mb*m+mb*m+mb*r:=by rw[hmr,Nat.mul_add,<-Nat.mul_assoc,Nat.mul_comm mb 2,Nat.two_mul,Nat.add_mul]
  have S1: ∃(a2:qm) (m2:Nat),(if(qB .i64 (n:Int) 1)=1 then(qK N (⟨acc.s,acc.w⟩:qm) (⟨b.s,b.w⟩:qm)).bind fun r20=>some (r20.s,r20.w)else some (acc.s,acc.w):Option (Int×(List Int)))=some (a2.s,a2.w)/\IsZ a2 (y*x^r)/\Fit (y*x^r) m2/\m2=ma+mb*r:=by
   rw[and1 (by omega),show n%2=r by omega]
   rcases(show r=0\/r=1 by omega)with e|e<;>subst e
   ·rw[if_neg (by simp)]
    exact⟨acc,ma,rfl,by simpa using hacc,by simpa using fy,by simp⟩
   obtain⟨p,e1,h1⟩:=qdb hN hacc hb (fy.mono (by omega)) (fx.mono (by omega))
   have e1:qK N (⟨acc.s,acc.w⟩:qm) (⟨b.s,b.w⟩:qm)=some p:=e1
   rw[if_pos (by simp),e1,ZB]
   exact⟨p,ma+mb,rfl,by rw[Int.pow_one];exact h1,by rw[Int.pow_one];exact qbW fy fx,by simp⟩
  obtain⟨a2,m2,e1,h1,f1,em2⟩:=S1
  have S2: ∃(b2:qm) (x2:Int) (m3:Nat),(if(n:Int)>1 then(qK N (⟨b.s,b.w⟩:qm) (⟨b.s,b.w⟩:qm)).bind fun r22=>some (r22.s,r22.w,a2.s,a2.w)else some (b.s,b.w,a2.s,a2.w):Option (Int×(List Int)×Int×(List Int)))=some (b2.s,b2.w,a2.s,a2.w)/\IsZ b2 x2/\Fit x2 m3/\m3*m=mb*m+mb*m/\x2^m=(x*x)^m:=by
   by_cases c:(n:Int)>1
   ·have hm1:1<=m:=by omega
    have h3:mb<=mb*m:=Nat.le_mul_of_pos_right _ hm1
    obtain⟨p,e2,h2⟩:=qdb hN hb hb (fx.mono (by omega)) (fx.mono (by omega))
    have e2:qK N (⟨b.s,b.w⟩:qm) (⟨b.s,b.w⟩:qm)=some p:=e2
    rw[if_pos c,e2,ZB]
    exact⟨p,x*x,mb+mb,rfl,h2,qbW fx fx,Nat.add_mul _ _ _,rfl⟩
   have hm0:m=0:=by omega
   subst hm0
   rw[if_neg c]
   exact⟨b,x,mb,rfl,hb,fx,by simp,by simp⟩
  obtain⟨b2,x2,m3,e2,h2,f2,em3,ex⟩:=S2
  have S:((if(qB .i64 (n:Int) 1)=1 then(qK N (⟨acc.s,acc.w⟩:qm) (⟨b.s,b.w⟩:qm)).bind fun r20=>some (r20.s,r20.w)else some (acc.s,acc.w):Option (Int×(List Int)))).bind (fun(n16,l17)=>
   if(n:Int)>1 then(qK N (⟨b.s,b.w⟩:qm) (⟨b.s,b.w⟩:qm)).bind fun r22=>some (r22.s,r22.w,n16,l17)else some (b.s,b.w,n16,l17))=some (b2.s,b2.w,a2.s,a2.w):=by
   rw[e1,ZB]
   exact e2
  obtain⟨r',e3,h3⟩:=qn0 hN K m b2 a2 x2 (y*x^r) m3 m2 (by omega) (by omega) h2 h1 f2 f1 (by omega)
  rw[if_pos (by omega),S,ZB]
  simp only
  rw[shr1,show n/2=m by omega]
  refine⟨r',e3,?_⟩
  have hx2:x*x=x^2:=by rw[Int.pow_succ,Int.pow_succ,Int.pow_zero,Int.one_mul]
  rw[ex,Int.mul_assoc,hx2,<-Int.pow_mul,<-Int.pow_add,show r+2*m=n by omega]at h3
  exact h3
theorem qrd {N:Nat} (hN:110000<N) {b:qm} {x:Int} {n mb:Nat} (hn:n<100000) (hb:IsZ b x) (fx:Fit x mb) (hm:1+mb*n<=3900): ∃r,qbJ N b (n:Int)=some r/\IsZ r (x^n):=by
 obtain⟨r,e,h⟩:=qn0 (N:=N) (by omega) N n b ⟨1,[]⟩ x 1 mb 1 hn (by omega) hb (Ud (by decide) (by decide)) fx (F1 (by omega)) hm
 have e:vG N N b.s b.w 1 [] (n:Int)=some (r.s,r.w):=e
 unfold qbJ
 rw[qhU,ZB]
 simp only
 rw[e,ZB]
 exact⟨r,rfl,by rw[Int.one_mul]at h;exact h⟩
theorem qee {z:Int} {p n:Nat} (h:(z.natAbs:Int)<((10^p:Nat):Int)) (hp:p<=19*n):Fit z n:=by
 have h1:(10:Nat)^p<=10^(19*n):=Nat.pow_le_pow_right (by omega) hp
 have h2:((10^(19*n):Nat):Int)<=W^n:=by
  rw[Nat.pow_mul]
  have:=(qdj (x:=10000000000000000000) (y:=W) (by decide) (by decide) n).2
  rw[Int.natCast_pow]
  exact this
 unfold Fit
 omega
theorem qcl (s:Str):strings_HasPrefix s [45]=some (sgn s):=by
 unfold strings_HasPrefix stringslite_HasPrefix sgn
 cases s with
 |nil=>rfl
 |cons c t=>
  rw[if_pos (by simp;omega)]
  have e:cut (c::t) 0 (([45]:Str).length:Int)=some [c]:=yz (l:=c::t) (k:=1) (by simp)
  rw[e]
  simp only[ZB,Yj]
  congr 1
  rw[Bool.eq_iff_iff,beq_iff_eq,decide_eq_true_eq]
  constructor
  ·intro h;injection h with h;rw[h]
  intro h;rw[Ye h]
theorem qjE {s:Str} (h:sgn s=true):1<=s.length:=by
 cases s with
 |nil=>simp[sgn]at h
 |cons=>simp
theorem qfg (s:Str):strings_TrimPrefix s [45]=some (bdy s):=by
 unfold strings_TrimPrefix stringslite_TrimPrefix
 have e:stringslite_HasPrefix s [45]=some (sgn s):=by
  have:=qcl s
  unfold strings_HasPrefix at this
  cases h:stringslite_HasPrefix s [45]with
  |none=>rw[h]at this;cases this
  |some b=>rw[h]at this;exact this
 rw[e,ZB]
 unfold bdy
 cases h:sgn s with
 |false=>rw[if_neg (by simp),if_neg (by simp),ZB]
 |true=>
  have e2:cut s (([45]:Str).length:Int) (s.length:Int)=some (s.drop 1):=xJ (qjE h)
  rw[if_pos rfl,if_pos rfl,e2,ZB,ZB]
theorem qj1 (s:Str):strings_CutPrefix s [45]=some (bdy s,sgn s):=by
 unfold strings_CutPrefix stringslite_CutPrefix
 have e:stringslite_HasPrefix s [45]=some (sgn s):=by
  have:=qcl s
  unfold strings_HasPrefix at this
  cases h:stringslite_HasPrefix s [45]with
  |none=>rw[h]at this;cases this
  |some b=>rw[h]at this;exact this
 rw[e,ZB]
 unfold bdy
 cases h:sgn s with
 |false=>rw[if_pos (by simp),if_neg (by simp),ZB]
 |true=>
  have e2:cut s (([45]:Str).length:Int) (s.length:Int)=some (s.drop 1):=xJ (qjE h)
  rw[if_neg (by simp),if_pos rfl,e2,ZB,ZB]
theorem qmf {N:Nat} (hN:600000<N): ∀(K:Nat) (x:qm) (y:Int) (s:Str) (p:Nat),IsZ x y->0<=y->y<((10^p:Nat):Int)->p+s.length<=19000->s.all vo=true->s.length<K->
 ∃r,xh N K x.s x.w s=some (r.s,r.w)/\IsZ r (y*((10^s.length:Nat):Int)+(qO 0 s:Nat))
 |0,_,_,_,_,_,_,_,_,_,h=>by omega
 |K+1,x,y,s,p,hx,y0,y1,hp,hd,hK=>by
  rw[xh]
  by_cases h0:s.length=0
  ·rw[if_neg (by omega)]
   have:s=[]:=YL.1 h0
   subst this
   exact⟨x,rfl,by simpa[qcz]using hx⟩
  rw[if_pos (by omega)]
  obtain⟨g,hg,hg0,hgl,hg18⟩: ∃g:Nat,(if(s.length:Int)<18 then(s.length:Int)else 18)=(g:Int)/\0<g/\g<=s.length/\g<=18:=by
   by_cases c:(s.length:Int)<18
   ·exact⟨s.length,by rw[if_pos c],by omega,by omega,by omega⟩
   exact⟨18,by rw[if_neg c];rfl,by omega,by omega,by omega⟩
  have lt:(s.take g).length=g:=by rw[Ym];omega
  have ea:=qj4 (s:=s.take g) (by omega) (qfE hd g)
  have et:qkn (s.take g)=some (((qO 0 (s.take g):Nat):Int),()):=by
   unfold qkn
   rw[if_pos (by omega),ea]
   rfl
  have hv:=qdD (s.take g) 0 (qfE hd g)
  rw[lt]at hv
  have hp18:(10:Nat)^g<=10^18:=Nat.pow_le_pow_right (by omega) hg18
  have h18:(10:Nat)^18=1000000000000000000:=rfl
  rw[hg,yz hgl,ZB,et,ZB,qhU,ZB]
  obtain⟨r1,e1,h1⟩:=qrd (N:=N) (by omega) (b:=⟨10,[]⟩) (x:=10) (n:=g) (mb:=1) (by omega) (Ud (by decide) (by decide)) (qee (p:=2) (by decide) (by omega)) (by omega)
  have ep:(10:Int)^g=((10^g:Nat):Int):=by rw[Int.natCast_pow];rfl
  rw[ep]at h1
  have fg:Fit ((10^g:Nat):Int) 1000:=qee (p:=19) (by
   rw[Int.natAbs_natCast]
   have h19:(10:Nat)^19=10000000000000000000:=rfl
   omega) (by omega)
  have fy:Fit y 1000:=qee (p:=p) (by omega) (by omega)
  have hpos:0<10^g:=Nat.pow_pos (by decide)
  have yg0:0<=y*((10^g:Nat):Int):=Yv y0 (by omega)
  have yg1:(y+1)*((10^g:Nat):Int)<=((10^(p+g):Nat):Int):=by
   rw[Nat.pow_add,Int.natCast_mul]
   exact Int.mul_le_mul_of_nonneg_right (by omega) (by omega)
  rw[Int.add_mul,Int.one_mul]at yg1
  obtain⟨r2,e2,h2⟩:=qdb (N:=N) (by omega) hx h1 (fy.mono (by omega)) (fg.mono (by omega))
  have e2:qK N (⟨x.s,x.w⟩:qm) r1=some r2:=e2
  have hd2:IsZ ⟨((qO 0 (s.take g):Nat):Int),[]⟩ ((qO 0 (s.take g):Nat):Int):=Ud (by omega) (by omega)
  obtain⟨r3,e3,h3⟩:=qgt (N:=N) (by omega) h2 hd2 (qee (p:=p+g) (by omega) (by omega)) (qee (p:=19) (by
   rw[Int.natAbs_natCast]
   have h19:(10:Nat)^19=10000000000000000000:=rfl
   omega) (by omega))
  rw[e1,ZB,e2,ZB,qhU,ZB,e3,ZB,xJ hgl,ZB]
  have ld:(s.drop g).length=s.length-g:=by rw[YJ]
  obtain⟨r,e4,h4⟩:=qmf hN K r3 _ (s.drop g) (p+g) h3 (by omega) (by omega) (by omega) (qij hd g) (by omega)
  refine⟨r,e4,?_⟩
  have e5:=qcI (s.take g) (s.drop g)
  rw[YS]at e5
  have e6:(10:Nat)^s.length=10^g*10^(s.drop g).length:=by rw[<-Nat.pow_add,ld];congr 1;omega
  rw[e5,e6]
  rw[Int.add_mul]at h4
  rw[Int.natCast_mul,Int.natCast_add,Int.natCast_mul,<-Int.mul_assoc,<-Int.add_assoc]
  exact h4
theorem qeY {N:Nat} (hN:600000<N) {s:Str} (hd:(bdy s).all vo=true) (hl:(bdy s).length<=19000): ∃r,qaf N s=some r/\IsZ r (qjU s):=by
 obtain⟨r,e,h⟩:=qmf hN N ⟨0,[]⟩ 0 (bdy s) 0 (Ud (by decide) (by decide)) (by omega) (by decide) (by omega) hd (by omega)
 have e:xh N N 0 [] (bdy s)=some (r.s,r.w):=e
 rw[Int.zero_mul,Int.zero_add]at h
 unfold qaf
 rw[qcl,ZB,qfg,ZB,e,ZB]
 unfold qjU
 cases hs:sgn s with
 |false=>
  rw[if_neg (by simp)]
  exact⟨r,rfl,by simpa using h⟩
 |true=>
  obtain⟨r2,e2,h2⟩:=qiv h
  have e2:zU (⟨r.s,r.w⟩:qm)=some r2:=e2
  simp only[if_true]
  rw[e2]
  exact⟨r2,rfl,h2⟩
end Go.Av
end
section
namespace Go.Av
theorem qjH: ∀n:Nat,Lib.repeatL [48] n=List.replicate n 48
 |0=>rfl
 |n+1=>by rw[Lib.repeatL,qjH,List.replicate_succ];rfl
theorem qiL: ∀k:Nat,qeb k 0=List.replicate k 48
 |0=>rfl
 |k+1=>by
  rw[qeb,Nat.zero_div,qiL k,List.replicate_succ']
  rfl
theorem qlb: ∀(k n:Nat),n<10^(k+1)->qeb (k+1) n=List.replicate (k+1-(Lib.decDigits n).length) 48++Lib.decDigits n
 |0,n,h=>by
  have h:n<10:=by simpa using h
  rw[zJ h,qeb,qeb,Nat.mod_eq_of_lt h]
  rfl
 |k+1,n,h=>by
  rw[qeb]
  by_cases c:n<10
  ·rw[zJ c,Nat.div_eq_of_lt c,qiL,Nat.mod_eq_of_lt c]
   rfl
  rw[Nat.pow_succ]at h
  rw[qlb k (n/10) (by omega),qdS c,Yz,Yq,List.length_singleton,show k+1+1-((Lib.decDigits (n/10)).length+1)=k+1-(Lib.decDigits (n/10)).length by omega]
theorem qe5 (n:Nat):Lib.itoa (n:Int)=Lib.decDigits n:=by rw[jk (by omega),Int.natAbs_natCast]
theorem qoD {r:Nat} (h:r<1000000000000000000) (c: ¬r=0):dg W (r:Int)=[(r:Int)]:=by
 rw[qjp (by omega) (by unfold W;omega)]
theorem qop {r:Nat} (h:r<1000000000000000000):qhW (r:Int) 10=some (Lib.decDigits r):=by
 unfold qhW
 rw[if_pos ⟨by omega,by omega,rfl⟩,qe5]
theorem qof:(if((dg W ((0:Nat):Int)).length:Int)>0 then(idx (dg W ((0:Nat):Int)) 0).bind fun x13=>(qhW x13 10).bind fun r14=>some r14 else some [48]:Option Str)=some (Lib.decDigits 0):=by
 rw[show((0:Nat):Int)=0 from rfl,qdF,if_neg (by simp),zJ (by decide)]
 rfl
theorem qqx {r:Nat} (h:r<1000000000000000000):(if((dg W (r:Int)).length:Int)>0 then(idx (dg W (r:Int)) 0).bind fun x13=>(qhW x13 10).bind fun r14=>some r14 else some [48]:Option Str)=some (Lib.decDigits r):=by
 by_cases c:r=0
 ·rw[c]
  exact qof
 rw[qoD h c,if_pos (show((([(r:Int)]:List Int).length:Nat):Int)>0 from by rw[List.length_singleton];decide),xm,Yj,ZB,qop h]
 rfl
theorem p18:(10:Nat)^18=1000000000000000000:=rfl
theorem qp0 {q r:Nat} (h:r<1000000000000000000): ∃t:Str,(if((dg W (q:Int)).length:Int)>0 then(qbV [48] (w64 (18-((Lib.decDigits r).length:Int)))).bind fun r18=>(cat r18 (Lib.decDigits r)).bind fun s19=>some s19 else some (Lib.decDigits r):Option Str)=some t/\0<t.length/\Lib.decDigits (1000000000000000000*q+r)=(if q=0 then[]else Lib.decDigits q)++t:=by
 have hr:r<10^18:=by rw[p18];exact h
 have lD:(Lib.decDigits r).length<=18:=(xz (by decide)).2 hr
 have lD0:=qh0 r
 by_cases c:q=0
 ·subst c
  rw[show((0:Nat):Int)=0 from rfl,qdF,if_neg (by simp),if_pos rfl,Nat.mul_zero,Nat.zero_add]
  exact⟨_,rfl,lD0,rfl⟩
 have hne:dg W (q:Int)≠[]:=fun e=>by have:=(qh5 W1 (by omega)).1 e;omega
 have hlen:0<(dg W (q:Int)).length:=List.length_pos_iff.2 hne
 have et:qbV [48] (w64 (18-((Lib.decDigits r).length:Int)))=some (List.replicate (18-(Lib.decDigits r).length) 48):=by
  rw[qg (by omega) (by omega)]
  unfold qbV
  rw[if_pos ⟨by omega,by omega,by simp;omega⟩,qjH]
  congr 2
  omega
 have hp:=qlb 17 r hr
 have hl:(qeb (17+1) r).length=18:=qhH _ _
 have hs:=qhN 18 (1000000000000000000*q+r)
 rw[p18,Nat.mul_add_div (by omega),Nat.div_eq_of_lt h,Nat.add_zero,Nat.mul_add_mod,Nat.mod_eq_of_lt h]at hs
 rw[if_pos (by omega),et,ZB,qbg (by simp;omega),ZB,<-hp,if_neg c]
 exact⟨_,rfl,by omega,hs (by omega)⟩
theorem qqM {N:Nat} (hN:600000<N) (B:Nat) (hB:B<=3900) (K:Nat): ∀(k m:Nat) (l:List Str),m<10^(18*k)->k<K->k+l.length<=100000->Fit (m:Int) B->(∀t∈l,0<t.length)->
 ∃l',jr N K l (dg W (m:Int))=some l'/\(∀t∈l',0<t.length)/\l'.length<=k+l.length/\l'.reverse.flatten=(if m=0 then[]else Lib.decDigits m)++l.reverse.flatten:=by
 induction K with
 |zero=>intro k m l _ h;omega
 |succ K ih=>
  intro k m l hm hK hl fm hp
  rw[jr]
  by_cases h0:m=0
  ·subst h0
   rw[show((0:Nat):Int)=0 from rfl,qdF,if_neg (by simp),if_pos rfl]
   exact⟨l,rfl,hp,by omega,rfl⟩
  obtain⟨j,hj⟩: ∃j,k=j+1:=⟨k-1,by
   rcases Nat.eq_zero_or_pos k with e|e
   ·subst e;simp at hm;omega
   omega⟩
  rw[hj]at hm hK hl
  have hm0:(0:Int)<=(m:Int):=by omega
  have hne:dg W (m:Int)≠[]:=fun e=>by have:=(qh5 W1 hm0).1 e;omega
  have hlen:0<(dg W (m:Int)).length:=List.length_pos_iff.2 hne
  have ln:(dg W (m:Int)).length<=3900:=Nat.le_trans fm.len hB
  have cB:Can W [1000000000000000000]:=by
   have:=jh W1 (show(0:Int)<=1000000000000000000 by decide)
   rw[qjp (by decide) (by decide)]at this
   exact this
  have vB:dv W [1000000000000000000]=1000000000000000000:=by rw[zC,zn,Int.mul_zero,Int.add_zero]
  have ed:=qiI (N:=N) (by omega) (jh W1 hm0) cB (by omega) (by rw[vB];decide)
  rw[vB,vz W1 hm0]at ed
  obtain⟨q,r,hq,hr⟩: ∃q r,m=1000000000000000000*q+r/\r<1000000000000000000:=⟨m/1000000000000000000,m%1000000000000000000,by omega,by omega⟩
  have eq:(m:Int)/1000000000000000000=(q:Int):=by omega
  have er:(m:Int)%1000000000000000000=(r:Int):=by omega
  rw[eq,er]at ed
  obtain⟨t,et,t0,eD⟩:=qp0 (q:=q) hr
  rw[<-hq]at eD
  rw[if_pos (by omega),ed,ZB]
  simp only
  rw[qqx hr,ZB,et,ZB,qa6 (by simp;omega) (by simp;omega),ZB]
  have hk:q<10^(18*j):=by
   rw[Nat.mul_succ,Nat.pow_add,p18,Nat.mul_comm]at hm
   refine Nat.lt_of_mul_lt_mul_left (a:=1000000000000000000) ?_
   omega
  obtain⟨l',f1,f2,f3,f4⟩:=ih j q (l++[t]) hk (by omega) (by simp;omega) (qbz (by omega) fm) (fun u hu=>by
   rcases List.mem_append.1 hu with hu|hu
   ·exact hp u hu
   rw[List.mem_singleton.1 hu];exact t0)
  refine⟨l',f1,f2,by simp at f3;omega,?_⟩
  rw[f4,if_neg h0,eD,List.reverse_append,List.flatten_append,Yz]
  simp
def byN (s:Str):List Int:=s.map fun x=>(x.toNat:Int)
theorem qgW (s:Str):(byN s).length=s.length:=by unfold byN;rw[List.length_map]
theorem qoT {l:List Str} (hp: ∀t∈l,0<t.length) (hl:l.length<=100000): ∀(K i:Nat) (o:Option (List Int)),i<=l.length->i<K->(hof o).length+(l.take i).flatten.length<=1000000000->
 ∃o',zA l K o.isSome o ((i:Int)-1)=some (o'.isSome,o')/\hof o'=hof o++byN (l.take i).reverse.flatten
 |0,i,o,_,h,_=>by omega
 |K+1,0,o,hi,h,hb=>by
  rw[zA,if_neg (by omega)]
  exact⟨o,rfl,by simp[byN]⟩
 |K+1,i+1,o,hi,h,hb=>by
  have hil:i<l.length:=by omega
  have ei:((i+1:Nat):Int)-1=(i:Int):=by omega
  have ht:l.take (i+1)=l.take i++[l[i]]:=List.take_succ_eq_append_getElem hil
  have h1:=hp l[i] (List.getElem_mem hil)
  rw[ht,List.flatten_append,Yq]at hb
  simp only[List.flatten_cons,List.flatten_nil,YQ]at hb
  have ew:bWr o.isSome o l[i]=some (hof o++byN l[i]):=by
   unfold bWr
   rw[if_pos ⟨rfl,by omega,h1⟩]
   rfl
  rw[zA,ei,if_pos (by omega),qz,Ya hil,ZB,ew,ZB,qg (by omega) (by omega)]
  obtain⟨o',f1,f2⟩:=qoT hp hl K i (some (hof o++byN l[i])) (by omega) (by omega) (by
   show(hof o++byN l[i]).length+_<=_
   rw[Yq,qgW];omega)
  refine⟨o',f1,?_⟩
  rw[f2,ht,List.reverse_append,List.flatten_append]
  show hof o++byN l[i]++_=_
  rw[Yz]
  unfold byN
  simp
theorem qpI (s:Str):(byN s).map (fun n=>UInt8.ofNat n.toNat)=s:=by
 unfold byN
 rw[List.map_map]
 conv=>rhs;rw[<-List.map_id s]
 refine List.map_congr_left fun x _=>?_
 show UInt8.ofNat ((x.toNat:Int)).toNat=x
 rw[Int.toNat_natCast,UInt8.ofNat_toNat]
theorem qqd (s:Str):(byN s).all (fun n=>decide (0<=n)&&decide (n<256))=true:=by
 unfold byN
 rw[List.all_map,Yp]
 intro x _
 have:x.toNat<256:=x.toNat_lt
 simp
 omega
theorem qjo: ∀l:List Str,l.reverse.flatten.length=l.flatten.length:=fun l=>by
 rw[List.length_flatten,List.length_flatten,List.map_reverse,List.sum_reverse]
theorem qe6 {N:Nat} (hN:600000<N) {x:qm} {z:Int} (h:IsZ x z) (fz:Fit z 3900):jZ N x=some (Lib.itoa z):=by
 unfold jZ
 cases e:x.w.isEmpty with
 |true=>
  obtain⟨h1,h2,h3⟩:=h.emp e
  rw[if_pos rfl,h1]
  unfold qmd
  rw[if_pos ⟨h2,h3⟩,ZB]
 |false=>
  have hz:z.natAbs≠0:=by
   rcases h with⟨hw,_⟩|⟨_,_,h1,_⟩
   ·rw[hw]at e;cases e
   omega
  obtain⟨B8,hB8⟩: ∃B8:Nat,B8=8000:=⟨_,rfl⟩
  have pw:((10^(18*B8):Nat):Int)=(1000000000000000000:Int)^B8:=by
   rw[Nat.pow_mul,Int.natCast_pow]
   rfl
  have hm:z.natAbs<10^(18*B8):=by
   have h1:W^3900<=(1000000000000000000:Int)^B8:=by
    have a1:(1000000000000000000:Int)^B8=((1000000000000000000:Int)^2)^4000:=by rw[<-Int.pow_mul,hB8]
    have a2:W^4000<=((1000000000000000000:Int)^2)^4000:=(qdj (by decide) (by decide) 4000).2
    have a3:W^3900<=W^4000:=yA (by decide) (by decide)
    rw[a1]
    exact Int.le_trans a3 a2
   rw[<-pw]at h1
   unfold Fit at fz
   omega
  obtain⟨l,f1,f2,f3,f4⟩:=qqM hN 3900 (Nat.le_refl _) N B8 z.natAbs [] hm (by omega) (by simp;omega) (by unfold Fit;rw[Int.natAbs_natCast];exact fz) (fun t ht=>by cases ht)
  rw[if_neg hz]at f4
  simp only[List.reverse_nil,List.flatten_nil,YQ,List.length_nil,Nat.add_zero]at f3 f4
  have lD:(Lib.decDigits z.natAbs).length<=18*B8:=(xz (by omega)).2 hm
  have lf:l.flatten.length<=18*B8:=by rw[<-qjo,f4];exact lD
  have lpos:=qh0 z.natAbs
  rw[if_neg (by simp),parts_eq h,ZB]
  simp only
  rw[f1,ZB]
  have el:w64 ((l.length:Int)-1)=(l.length:Int)-1:=qg (by omega) (by omega)
  have fin: ∀(o:Option (List Int)) (pre:Str),hof o=byN pre->pre.length<=10->((zA l N o.isSome o (w64 ((l.length:Int)-1))).bind fun(ok30,o31)=>(qnv ok30 o31).bind fun t38=>some t38)=some (pre++Lib.decDigits z.natAbs):=by
   intro o pre ho hpre
   obtain⟨o',g1,g2⟩:=qoT f2 (by omega) N l.length o (Nat.le_refl _) (by omega) (by rw[ho,qgW,List.take_of_length_le (Nat.le_refl _)];omega)
   rw[List.take_of_length_le (Nat.le_refl _),f4,ho]at g2
   have g3:hof o'=byN (pre++Lib.decDigits z.natAbs):=by
    rw[g2]
    unfold byN
    rw[List.map_append]
   have hs:o'.isSome=true:=by
    cases o' with
    |none=>
     have:=congrArg List.length g3
     rw[qgW,Yq]at this
     simp at this
     omega
    |some q=>rfl
   rw[el,g1,ZB]
   simp only
   unfold qnv
   rw[if_pos ⟨hs,by rw[g3,qgW,Yq];omega,by rw[g3];exact qqd _⟩,g3,qpI,ZB]
  by_cases c:z<0
  ·have eb:bWr false (none:Option (List Int)) [45]=some [45]:=rfl
   rw[decide_eq_true c,if_pos rfl,eb,ZB,ZB]
   simp only
   have:=fin (some [45]) [45] rfl (by simp)
   rw[vW c]
   exact this
  rw[decide_eq_false c,if_neg (by simp),ZB]
  simp only
  have:=fin none [] rfl (by simp)
  rw[jk c]
  exact this
end Go.Av
end
section
namespace Go.Av
theorem qpX {x:qm} {z:Int} (h:IsZ x z) (fz:Fit z 3900): ∃b:Nat,qbc x=some (b:Int)/\(z.natAbs:Int)<2^b:=by
 unfold qbc
 rw[parts_eq h,ZB]
 simp only
 have hz:(0:Int)<=(z.natAbs:Int):=by omega
 have cc:=jh W1 hz
 have vv:=vz W1 hz
 have ll:=fz.len
 generalize dg W (z.natAbs:Int)=w at*
 by_cases h0:w.length=0
 ·rw[if_pos (by omega)]
  rw[YL.1 h0,zn]at vv
  exact⟨0,rfl,by rw[<-vv];decide⟩
 have hk:w.length-1<w.length:=by omega
 have ax:=cc.1.at hk
 obtain⟨l,e,hl⟩:=qk6 ax.1 ax.2
 have hl0:0<=l/\l<=64:=by
  rcases hl with⟨_,h⟩|⟨h1,h2,_⟩<;>omega
 have hl2:w[w.length-1]<2^l.toNat:=by
  rcases hl with⟨h1,h2⟩|⟨_,_,_,h⟩
  ·rw[h1,h2];decide
  exact h
 rw[if_neg (by omega),qjz (by omega) (by omega),qz,Ya hk,ZB,e,ZB,qg (n:=64*((w.length-1:Nat):Int)) (by omega) (by omega),qg (by omega) (by omega)]
 refine⟨64*(w.length-1)+l.toNat,by congr 1;omega,?_⟩
 have e1:=qp W w (w.length-1) hk
 rw[List.take_of_length_le (by omega),vv]at e1
 have h1:=yJ W0 (cc.1.take (w.length-1))
 rw[Ym,Nat.min_eq_left (by omega)]at h1
 have e2:(2:Int)^(64*(w.length-1)+l.toNat)=W^(w.length-1)*2^l.toNat:=by
  rw[Int.pow_add,Int.pow_mul]
  rfl
 have h2:W^(w.length-1)*(w[w.length-1]+1)<=W^(w.length-1)*2^l.toNat:=Yc (by omega) (Int.le_of_lt (pow_pos W0 _))
 rw[Int.mul_add,Int.mul_one]at h2
 rw[e2]
 omega
theorem pow8: ∀n:Nat,(8:Int)^(n+1)<((10^(n+1):Nat):Int)
 |0=>by decide
 |n+1=>by
  have ih:=pow8 n
  have a1:=pow_pos (show(0:Int)<8 by decide) (n+1)
  rw[Int.pow_succ,Nat.pow_succ,Int.natCast_mul]
  omega
theorem qq8 (n:Nat):(2:Int)^(3*n)=(8:Int)^n:=by
 rw[Int.pow_mul]
 rfl
theorem qpY {n m:Nat} (hm:m=3*(n+1)):(2:Int)^m<((10^(n+1):Nat):Int):=by
 rw[hm,qq8]
 exact pow8 n
def lng (z:Int):Bool:=decide (600<(Lib.decDigits z.natAbs).length)
theorem qmy {N:Nat} (hN:600000<N) {x:qm} {z:Int} (h:IsZ x z) (fz:Fit z 3900):qdn N x=some (lng z):=by
 obtain⟨b,e,hb⟩:=qpX h fz
 unfold qdn
 rw[e,ZB]
 by_cases c:(b:Int)>1800
 ·rw[if_pos c,qe6 hN h fz,ZB,qfg,qcy,ZB,ZB]
  congr 1
  exact decide_eq_decide.2 (by omega)
 rw[if_neg c,ZB]
 congr 1
 obtain⟨m,hm⟩: ∃m:Nat,m=3*(599+1):=⟨_,rfl⟩
 have h1:(2:Int)^b<=2^m:=yA (by decide) (by omega)
 have h2:=qpY hm
 have h3:z.natAbs<10^(599+1):=by omega
 have:=(xz (n:=z.natAbs) (k:=599+1) (by decide)).2 h3
 unfold lng
 rw[decide_eq_false (by omega)]
def qjY (q:Rat):Bool:=lng q.num||lng q.den
theorem qj8 {N:Nat} (hN:600000<N) {f:qo} {q:Rat} (h:IsF f q) (fq:qaz q 3900):yS N f=some (qjY q):=by
 unfold yS qjY
 rw[qmy hN h.1 fq.1,ZB]
 cases lng q.num with
 |true=>rw[if_pos rfl,ZB,Bool.true_or]
 |false=>rw[if_neg (by simp),qmy hN h.2 fq.2,ZB,ZB,Bool.false_or]
def T (q:Rat):Str:=Lib.itoa q.num++(if q.den=1 then[]else 47::Lib.decDigits q.den)
theorem Fit.itoaLen {z:Int} (h:Fit z 3900):(Lib.itoa z).length<=200001:=by
 have h1:(Lib.decDigits z.natAbs).length<=20*10000:=by
  refine(xz (by decide)).2 ?_
  obtain⟨B,hB⟩: ∃B:Nat,B=10000:=⟨_,rfl⟩
  rw[<-hB]
  have h2:W^3900<=W^B:=yA (by decide) (by omega)
  have h3:W^B<=(100000000000000000000:Int)^B:=(qdj (by decide) (by decide) B).2
  have h4:((10^(20*B):Nat):Int)=(100000000000000000000:Int)^B:=by
   rw[Nat.pow_mul,Int.natCast_pow]
   rfl
  unfold Fit at h
  generalize W^3900=p at*
  omega
 by_cases c:z<0
 ·rw[vW c,Yr];omega
 rw[jk c];omega
theorem qma {N:Nat} (hN:600000<N) {f:qo} {q:Rat} (h:IsF f q) (fq:qaz q 3900):xV N f=some (T q):=by
 unfold xV T
 rw[qfw h,ZB]
 by_cases c:q.den=1
 ·rw[decide_eq_true c,if_pos rfl,qe6 hN h.1 fq.1,ZB,if_pos c,YQ]
 have l1:=Fit.itoaLen fq.1
 have l2:=Fit.itoaLen fq.2
 rw[decide_eq_false c,if_neg (by simp),qe6 hN h.1 fq.1,ZB,qbg (by simp;omega),ZB,qe6 hN h.2 fq.2,ZB,qbg (by simp;omega),ZB,if_neg c,qe5,Yz]
 rfl
theorem qpQ {α:Type} {b:Bool} {x y:α}:zR b x y=if b=true then x else y:=by cases b<;>rfl
theorem qkF: ∀(s:Str) (j:Nat),qiy 47 s j=if slA s<s.length then((j+slA s:Nat):Int)else-1
 |[],j=>rfl
 |c::s,j=>by
  show zR (Nat.beq c.toNat 47) (Int.ofNat j) (qiy 47 s (j+1))=_
  rw[qpQ,qkF s (j+1),slA,Yr]
  by_cases h:c=47
  ·subst h
   rw[if_pos (by decide),if_pos rfl,if_pos (by omega)]
   rfl
  have h2:c.toNat≠47:=fun e=>h (UInt8.toNat_inj.1 (by rw[e];rfl))
  rw[if_neg (by rw[qcL h2];simp),if_neg h]
  by_cases c2:slA s<s.length
  ·rw[if_pos c2,if_pos (by omega)]
   congr 1
   omega
  rw[if_neg c2,if_neg (by omega)]
theorem qow {s:Str}:stringslite_Index s [47]=some (qiy 47 s 0):=by
 unfold stringslite_Index stringslite_IndexByte qjA
 have h0: ¬(([47]:Str).length:Int)=0:=by simp
 have h1:(([47]:Str).length:Int)=1:=by simp
 rw[if_neg h0]
 simp only[ZB]
 by_cases hs:(([47]:Str)==s)=true
 ·have:s=[47]:=(beq_iff_eq.1 hs).symm
  subst this
  rfl
 rw[if_neg hs,if_pos h1,xm,show([47]:Str)[0]? =some 47 from rfl,ZB,if_pos (by decide)]
 rfl
theorem qn1 {s:Str} (hl:s.length<=1000000):strings_Cut s [47]=some (if slA s<s.length then(s.take (slA s),s.drop (slA s+1),true)else(s,[],false)):=by
 have h:=qgn s
 unfold strings_Cut stringslite_Cut
 rw[qow,qkF,ZB]
 by_cases c:slA s<s.length
 ·rw[if_pos c,if_pos (by omega),if_pos c,Nat.zero_add,yz h,ZB,show w64 ((slA s:Int)+(([47]:Str).length:Int))=((slA s+1:Nat):Int)from zy (by omega),xJ (by omega),ZB,ZB]
 rw[if_neg c,if_neg (by omega),if_neg c,ZB]
theorem qf3 {s:Str} (hl:s.length<=1000000):jP s=some (decide (Dec s)):=by
 have hT:qkk s [48,49,50,51,52,53,54,55,56,57]=some (Lib.trimS s [48,49,50,51,52,53,54,55,56,57]):=by
  unfold qkk
  rw[if_pos ⟨hl,by decide,by decide⟩]
 unfold jP
 rw[hT]
 simp only[ZB,qnp]
 cases s with
 |nil=>rfl
 |cons c t=>
  rw[if_pos (by rfl),xm]
  simp only[Yj,ZB]
  cases hd:(c::t).all vo with
  |false=>
   rw[if_neg (by simp),ZB,decide_eq_false fun h=>by rw[h.2.1]at hd;cases hd]
  |true=>
   rw[if_pos rfl]
   by_cases h:c=48
   ·subst h
    rw[if_neg (by decide),ZB]
    congr 1
    rw[Bool.eq_iff_iff,beq_iff_eq,decide_eq_true_eq]
    exact⟨fun e=>by rw[e];exact ql9 (by decide),fun h=>h.2.2 rfl⟩
   rw[if_pos (by simp[ne48 h]),ZB,decide_eq_true (show Dec (c::t)from⟨by simp,hd,fun e=>absurd (Ye e) h⟩)]
theorem qhd {s:Str} (hl:s.length<=1000000): ∀(K i:Nat),i<=s.length->s.length<K+i->jL s K (i:Int)=some (if(s.drop i).all vo=true then .inl ()else .inr false)
 |0,i,h,hK=>by omega
 |K+1,i,h,hK=>by
  rw[jL]
  by_cases hi:i<s.length
  ·have hd:s.drop i=s[i]::s.drop (i+1):=YG hi
   rw[if_pos (by omega),qz,Ya hi,ZB,hd,List.all_cons]
   generalize s[i]=c
   have e:(if(c.toNat:Int)<48 then some true else some (decide ((c.toNat:Int)>57)):Option Bool)=some (!vo c):=by
    by_cases h1:(c.toNat:Int)<48
    ·rw[if_pos h1]
     congr 1
     unfold vo
     rw[decide_eq_false (by omega)]
     rfl
    rw[if_neg h1]
    congr 1
    unfold vo
    rw[decide_eq_true (p:=48<=c.toNat) (by omega),Bool.true_and,<-decide_not]
    exact decide_eq_decide.2 (by omega)
   rw[e,ZB]
   cases hc:vo c with
   |true=>rw[if_neg (by simp),zy (by omega),qhd hl K (i+1) (by omega) (by omega),Bool.true_and]
   |false=>rw[if_pos (by simp),Bool.false_and,if_neg (by simp)]
  rw[if_neg (by omega),List.drop_of_length_le (by omega)]
  rfl
theorem qia {N:Nat} {s:Str} (hl:s.length<=1000000) (hN:s.length<N):jA N s=some (decide (Dec s)):=by
 have e:=qhd hl N 0 (by omega) (by omega)
 have e:jL s N 0=_:=e
 have ed:qbe N s=some (s.all vo):=by
  unfold qbe
  rw[e,YR]
  cases s.all vo<;>rfl
 unfold jA
 cases s with
 |nil=>rfl
 |cons c t=>
  rw[if_neg (by simp;omega)]
  by_cases h1:((c::t).length:Int)>1
  ·rw[if_pos h1,xm]
   simp only[Yj,ZB]
   by_cases h:c=48
   ·subst h
    rw[if_pos (by decide),decide_eq_false fun hD=>?_]
    have:=congrArg List.length (hD.2.2 rfl)
    rw[List.length_singleton]at this
    omega
   rw[if_neg (by simp[ne48 h]),ed,ZB]
   congr 1
   rw[Bool.eq_iff_iff,decide_eq_true_eq]
   exact⟨fun hd=>⟨by simp,hd,fun e=>absurd (Ye e) h⟩,fun hD=>hD.2.1⟩
  rw[if_neg h1,ZB,if_neg (by simp),ed,ZB]
  have ht:t=[]:=YL.1 (by simp at h1;omega)
  subst ht
  congr 1
  rw[Bool.eq_iff_iff,decide_eq_true_eq]
  exact⟨fun hd=>ql9 (by simpa using hd),fun hD=>hD.2.1⟩
end Go.Av
end
section
namespace Go.Av
theorem qjr {z:Int} {p n:Nat} (h:(z.natAbs:Int)<((10^p:Nat):Int)) (hp:p<=9*n):jm z n:=by
 have h1:(10:Nat)^p<=10^(9*n):=Nat.pow_le_pow_right (by omega) hp
 unfold jm
 rw[qhM]
 omega
theorem qha {N:Nat} (hN:10<N) (a b:Int):jV N [a,b]=some (if a=0 then b else a):=by
 obtain⟨K,rfl⟩: ∃K,N=K+1+1+1:=⟨N-3,by omega⟩
 unfold jV
 by_cases ha:a=0
 ·by_cases hb:b=0
  ·subst ha;subst hb
   rfl
  have h1:zL [a,b] (K+1+1+1) 0=some (.inr b):=by
   rw[zL,if_pos (by simp),xm]
   simp only[Yj,ZB]
   rw[if_neg (by simp[ha]),zL,show w64 ((0:Int)+1)=1 from rfl,if_pos (by simp),idx_1]
   simp only[YK,Yj,ZB]
   rw[if_pos (by simp[hb])]
  rw[h1,if_pos ha]
  rfl
 have h1:zL [a,b] (K+1+1+1) 0=some (.inr a):=by
  rw[zL,if_pos (by simp),xm]
  simp only[Yj,ZB]
  rw[if_pos (by simp[ha])]
 rw[h1,if_neg ha]
 rfl
def okF (s:Str):Bool:=decide (Dec ((bdy s).take (slA (bdy s)))/\ ¬(sgn s=true/\(bdy s).take (slA (bdy s))=[48]))
def qiu (s:Str):Bool:=decide (slA (bdy s)<(bdy s).length/\ ¬(Dec ((bdy s).drop (slA (bdy s)+1))/\(bdy s).drop (slA (bdy s)+1)≠[48]/\(bdy s).drop (slA (bdy s)+1)≠[49]))
def chk (s:Str):Int:=
 if okF s=false\/qiu s=true then 1
 else if 600<((bdy s).take (slA (bdy s))).length\/600<((bdy s).drop (slA (bdy s)+1)).length then 4
 else if slA (bdy s)<(bdy s).length/\Nat.gcd (qO 0 ((bdy s).take (slA (bdy s)))) (qO 0 ((bdy s).drop (slA (bdy s)+1)))≠1 then 1
 else 0
theorem qaP {s:Str} (h:s.all vo=true):sgn s=false/\bdy s=s:=by
 have e:sgn s=false:=decide_eq_false fun e=>by
  have hm:(45:UInt8)∈s:=Yn e
  exact absurd (Yp.1 h _ hm) (by decide)
 exact⟨e,by unfold bdy;rw[e];rfl⟩
theorem qbP {s:Str} (h:s.all vo=true):qjU s=(qO 0 s:Nat):=by
 obtain⟨h1,h2⟩:=qaP h
 unfold qjU
 rw[h1,h2]
 rfl
theorem qfT (s:Str):(bdy s).length<=s.length:=by
 unfold bdy
 split
 ·rw[YJ];omega
 exact Nat.le_refl _
theorem qeV {s:Str} {k:Nat} (h:Dec s) (hk:s.length<=k):((qO 0 s:Nat):Int).natAbs<10^k:=by
 have h1:=qdD s 0 h.2.1
 have h2:(10:Nat)^s.length<=10^k:=Nat.pow_le_pow_right (by omega) hk
 omega
theorem qfY {s:Str} (h:Dec s) (h0:s≠[48]):0<qO 0 s:=by
 rcases Nat.eq_zero_or_pos (qO 0 s)with e|e
 ·have:=h.eq
  rw[e,zJ (by decide)]at this
  exact absurd this h0
 exact e
theorem qiK {N:Nat} (hN:600000<N) {s:Str} (hl:s.length<=10000):qbi N s=some (chk s):=by
 have hb:=qfT s
 have hk:=qgn (bdy s)
 have lt:((bdy s).take (slA (bdy s))).length=slA (bdy s):=by rw[Ym];omega
 have ld:((bdy s).drop (slA (bdy s)+1)).length=(bdy s).length-(slA (bdy s)+1):=by rw[YJ]
 unfold qbi
 rw[qj1,ZB]
 simp only
 have C:strings_Cut (bdy s) [47]=some ((bdy s).take (slA (bdy s)),(bdy s).drop (slA (bdy s)+1),decide (slA (bdy s)<(bdy s).length)):=by
  rw[qn1 (by omega)]
  by_cases c:slA (bdy s)<(bdy s).length
  ·rw[if_pos c,decide_eq_true c]
  rw[if_neg c,decide_eq_false c,List.take_of_length_le (by omega),List.drop_of_length_le (by omega)]
 rw[C,ZB]
 unfold chk okF qiu
 generalize hn:(bdy s).take (slA (bdy s))=n at*
 generalize hd:(bdy s).drop (slA (bdy s)+1)=d at*
 generalize slA (bdy s)=k at*
 generalize (bdy s).length=m at*
 simp only
 rw[qf3 (by omega),ZB]
 have B6:(if decide (Dec n)=true then if(!sgn s)=true then some true else some (!(n==[48]))else some false:Option Bool)=some (decide (Dec n/\ ¬(sgn s=true/\n=[48]))):=by
  by_cases h1:Dec n
  ·cases h2:sgn s with
   |false=>simp[h1]
   |true=>
    by_cases h3:n=[48]<;>simp[h1,h3]
  simp[h1]
 rw[B6,ZB]
 generalize hf:decide (Dec n/\ ¬(sgn s=true/\n=[48]))=ok at*
 have B8:(if decide (k<m)=true then(if ok=true then(jP d).bind fun r12=>if r12=true then if(!(d==[48]))=true then some (!(d==[49]))else some false else some false else some false:Option Bool).bind fun b15=>some b15 else some ok:Option Bool)=some (ok&&!decide (k<m/\ ¬(Dec d/\d≠[48]/\d≠[49]))):=by
  by_cases h1:k<m
  ·cases ok with
   |false=>simp[h1]
   |true=>
    rw[qf3 (by omega)]
    by_cases h2:Dec d
    ·by_cases h3:d=[48]
     ·simp[h1,h2,h3]
     by_cases h4:d=[49]<;>simp[h1,h2,h3,h4]
    simp[h1,h2]
  simp[h1]
 rw[B8,ZB]
 generalize hg:decide (k<m/\ ¬(Dec d/\d≠[48]/\d≠[49]))=bd at*
 have B:((ze (!(ok&&!bd)) 1).bind fun r17=>if(n.length:Int)>600 then(ze true 4).bind fun r19=>(jV N ([r17,r19]:List Int)).bind fun r20=>some (r17,r19,r20)else(ze (decide ((d.length:Int)>600)) 4).bind fun r21=>(jV N ([r17,r21]:List Int)).bind fun r22=>some (r17,r21,r22):Option (Int×Int×Int))=some (if ok=false\/bd=true then 1 else 0,if 600<n.length\/600<d.length then 4 else 0,if ok=false\/bd=true then 1 else if 600<n.length\/600<d.length then 4 else 0):=by
  have w1:ze (!(ok&&!bd)) 1=some (if ok=false\/bd=true then 1 else 0):=by
   unfold ze
   cases ok<;>cases bd<;>rfl
  rw[w1,ZB]
  by_cases c:(n.length:Int)>600
  ·rw[if_pos c,show ze true 4=some 4 from rfl,ZB,qha (by omega),ZB,if_pos (show 600<n.length\/600<d.length from .inl (by omega))]
   by_cases c2:ok=false\/bd=true
   ·simp only[if_pos c2];rfl
   simp only[if_neg c2];rfl
  have w2:ze (decide ((d.length:Int)>600)) 4=some (if 600<n.length\/600<d.length then 4 else 0):=by
   unfold ze
   by_cases c2:(d.length:Int)>600
   ·rw[decide_eq_true c2,if_pos rfl,if_pos (.inr (by omega))]
   rw[decide_eq_false c2,if_neg (by simp),if_neg (by omega)]
  rw[if_neg c,w2,ZB,qha (by omega),ZB]
  by_cases c2:ok=false\/bd=true
  ·simp only[if_pos c2];rfl
  simp only[if_neg c2];rfl
 rw[B,ZB]
 simp only
 by_cases c1:ok=false\/bd=true
 ·simp only[if_pos c1];rfl
 simp only[if_neg c1]
 by_cases c2:600<n.length\/600<d.length
 ·simp only[if_pos c2];rfl
 simp only[if_neg c2]
 rw[if_neg (show¬((!decide True)=true)by decide)]
 have ho:ok=true:=by cases ok<;>simp at c1⊢
 have hbd:bd=false:=by cases bd<;>simp at c1⊢
 have hDn:=(of_decide_eq_true (hf.trans ho)).1
 by_cases c3:k<m
 ·have hDd:Dec d/\d≠[48]/\d≠[49]:=Classical.byContradiction fun hc=>of_decide_eq_false (hg.trans hbd) ⟨c3,hc⟩
  obtain⟨r1,e1,h1⟩:=qeY hN (s:=n) (by rw[(qaP hDn.2.1).2];exact hDn.2.1) (by rw[(qaP hDn.2.1).2];omega)
  obtain⟨r2,e2,h2⟩:=qeY hN (s:=d) (by rw[(qaP hDd.1.2.1).2];exact hDd.1.2.1) (by rw[(qaP hDd.1.2.1).2];omega)
  rw[qbP hDn.2.1]at h1
  rw[qbP hDd.1.2.1]at h2
  have f1:Fit ((qO 0 n:Nat):Int) 40:=qee (p:=600) (by have:=qeV hDn (k:=600) (by omega);omega) (by omega)
  have f2:Fit ((qO 0 d:Nat):Int) 40:=qee (p:=600) (by have:=qeV hDd.1 (k:=600) (by omega);omega) (by omega)
  obtain⟨g,e3,h3⟩:=qnP hN h1 h2 (f1.mono (by omega)) (f2.mono (by omega))
  have eg:Int.gcd ((qO 0 n:Nat):Int) ((qO 0 d:Nat):Int)=Nat.gcd (qO 0 n) (qO 0 d):=rfl
  rw[eg]at h3
  have hgp:0<Nat.gcd (qO 0 n) (qO 0 d):=Nat.gcd_pos_of_pos_right _ (qfY hDd.1 hDd.2.1)
  have fg:Fit ((Nat.gcd (qO 0 n) (qO 0 d):Nat):Int) 40:=qbz (by
   have:=Nat.le_of_dvd (qfY hDd.1 hDd.2.1) (Nat.gcd_dvd_right (qO 0 n) (qO 0 d))
   omega) f2
  have e4:=qnD (N:=N) (by omega) h3 (Ud (z:=1) (by decide) (by decide)) (fg.mono (by omega)) (F1 (by omega))
  rw[decide_eq_true c3,if_pos rfl,e1,ZB,e2,ZB,e3,ZB,qhU,ZB,e4,ZB,ZB]
  unfold ze
  by_cases c4:Nat.gcd (qO 0 n) (qO 0 d)=1
  ·rw[if_neg (show¬((Nat.gcd (qO 0 n) (qO 0 d):Nat):Int)<1 by omega),if_pos (show((Nat.gcd (qO 0 n) (qO 0 d):Nat):Int)=1 by omega),if_neg (show¬(k<m/\Nat.gcd (qO 0 n) (qO 0 d)≠1)from fun h=>h.2 c4)]
   rfl
  have: ¬((Nat.gcd (qO 0 n) (qO 0 d):Nat):Int)<1:=by omega
  rw[if_neg this,if_neg (show¬(((Nat.gcd (qO 0 n) (qO 0 d):Nat):Int)=1)by omega),if_pos (show k<m/\Nat.gcd (qO 0 n) (qO 0 d)≠1 from⟨c3,c4⟩)]
  rfl
 rw[decide_eq_false c3,if_neg (by simp),ZB,if_neg (by omega)]
 rfl
end Go.Av
end
section
namespace Go.Av
theorem qoB:dg E9 1=[1]:=qjp (by decide) (by decide)
theorem qqN {N:Nat} (hN:100<N):vR N 1=some (rI 1):=by
 obtain⟨K,rfl⟩: ∃K,N=K+1+1:=⟨N-2,by omega⟩
 have h:ja (K+1+1) [] 1=some [1]:=by
  rw[ja,if_pos (by decide),if_neg (by decide),ZB,qa6 (by simp) (by simp),ZB,show w64 ((1:Int).tdiv 1000000000)=0 from rfl,ja,if_neg (by decide)]
  rfl
 unfold vR
 rw[h,ZB,decide_eq_false (by decide),xW false (w:=[1]) (Dg.cons ⟨by decide,by decide⟩ Dg.nil) (by simp) (by simp),ZB]
 rfl
theorem qiN {N:Nat} (hN:600000<N) {s:Str} (hl:s.length<=10000) (hk:slA s<s.length) (h1:(bdy (s.take (slA s))).all vo=true) (h2:(bdy (s.drop (slA s+1))).all vo=true):jK N s=some (rI (qjU (s.take (slA s))),rI (qjU (s.drop (slA s+1)))):=by
 have b1:=qfT (s.take (slA s))
 have b2:=qfT (s.drop (slA s+1))
 rw[Ym]at b1
 rw[YJ]at b2
 unfold jK
 rw[qdg (by omega) (by omega),ZB,if_neg (by omega),yz (by omega),ZB,qh4 (by omega) h1 (by omega),ZB,zy (by omega),xJ (by omega),ZB,qh4 (by omega) h2 (by omega),ZB]
theorem qgs {N:Nat} (hN:600000<N) {s:Str} (hl:s.length<=10000):qaZ N s=some (chk s):=by
 have hb:=qfT s
 have hk:=qgn (bdy s)
 have lt:((bdy s).take (slA (bdy s))).length=slA (bdy s):=by rw[Ym];omega
 have ld:((bdy s).drop (slA (bdy s)+1)).length=(bdy s).length-(slA (bdy s)+1):=by rw[YJ]
 unfold qaZ
 rw[qfZ,ZB,qll,ZB,qdg (by omega) (by omega),ZB,yz hk,ZB,qia (by omega) (by omega),ZB]
 have I:Dec ((bdy s).take (slA (bdy s)))->((idx s 0).bind fun c13=>if(c13.toNat:Int)=45 then(some ((bdy s).take (slA (bdy s)))).bind fun s15=>some (s15==[48])else some false:Option Bool)=some (sgn s&&((bdy s).take (slA (bdy s))==[48])):=by
  intro hD
  have h1:=hD.1
  have hs:=qfZ s
  rw[if_pos (by omega)]at hs
  rw[xm]at hs⊢
  cases e:s[0]? with
  |none=>rw[e]at hs;cases hs
  |some c=>
   rw[e,ZB]at hs
   rw[ZB,<-Ye hs]
   by_cases c2:(c.toNat:Int)=45
   ·rw[if_pos c2,decide_eq_true c2,ZB,Bool.true_and]
   rw[if_neg c2,decide_eq_false c2,Bool.false_and]
 have S16:(if(!decide (Dec ((bdy s).take (slA (bdy s)))))=true then some true else(idx s 0).bind fun c13=>if(c13.toNat:Int)=45 then(some ((bdy s).take (slA (bdy s)))).bind fun s15=>some (s15==[48])else some false:Option Bool)=some (!okF s):=by
  unfold okF
  by_cases hD:Dec ((bdy s).take (slA (bdy s)))
  ·rw[if_neg (by simp[hD]),I hD]
   congr 1
   rw[Bool.eq_iff_iff]
   simp[hD]
  rw[if_pos (by simp[hD])]
  simp[hD]
 rw[S16,ZB]
 have S26:(if(slA (bdy s):Int)<((bdy s).length:Int)then(cut (bdy s) (w64 ((slA (bdy s):Int)+1)) ((bdy s).length:Int)).bind fun s20=>(jA N s20).bind fun r21=>if(!r21)=true then some true else(cut (bdy s) (w64 ((slA (bdy s):Int)+1)) ((bdy s).length:Int)).bind fun s23=>if(s23==[48])=true then some true else(cut (bdy s) (w64 ((slA (bdy s):Int)+1)) ((bdy s).length:Int)).bind fun s25=>some (s25==[49])else some false:Option Bool)=some (qiu s):=by
  unfold qiu
  by_cases c:slA (bdy s)<(bdy s).length
  ·rw[if_pos (by omega),zy (by omega),xJ (by omega),ZB,qia (by omega) (by omega),ZB]
   by_cases hD:Dec ((bdy s).drop (slA (bdy s)+1))
   ·rw[if_neg (by simp[hD]),ZB]
    by_cases h3:(bdy s).drop (slA (bdy s)+1)=[48]
    ·rw[if_pos (by simp[h3])]
     simp[c,h3]
    rw[if_neg (by simp[h3]),ZB]
    congr 1
    rw[Bool.eq_iff_iff]
    simp[c,h3,hD]
   rw[if_pos (by simp[hD])]
   simp[c,hD]
  rw[if_neg (by omega)]
  simp[c]
 have S30:(if(slA (bdy s):Int)>600 then some true else some (decide ((w64 ((w64 (((bdy s).length:Int)-(slA (bdy s):Int)))-1))>600)):Option Bool)=some (decide (600<((bdy s).take (slA (bdy s))).length\/600<((bdy s).drop (slA (bdy s)+1)).length)):=by
  rw[lt,ld]
  by_cases c:(slA (bdy s):Int)>600
  ·rw[if_pos c,decide_eq_true (.inl (by omega))]
  rw[if_neg c,qg (n:=((bdy s).length:Int)-(slA (bdy s):Int)) (by omega) (by omega),qg (by omega) (by omega)]
  congr 1
  exact decide_eq_decide.2 (by omega)
 unfold chk
 by_cases h1:okF s=true
 ·rw[h1,if_neg (by simp),S26,ZB]
  by_cases h2:qiu s=true
  ·rw[h2,if_pos rfl,if_pos (.inr rfl)]
  have h2':qiu s=false:=by simpa using h2
  rw[h2',if_neg (by simp),S30,ZB,if_neg (show¬(true=false\/false=true)by simp)]
  by_cases h3:600<((bdy s).take (slA (bdy s))).length\/600<((bdy s).drop (slA (bdy s)+1)).length
  ·rw[decide_eq_true h3,if_pos rfl,if_pos h3]
  rw[decide_eq_false h3,if_neg (by simp),if_neg h3]
  by_cases c:slA (bdy s)<(bdy s).length
  ·have hDn:=(of_decide_eq_true h1).1
   have hDd:Dec ((bdy s).drop (slA (bdy s)+1))/\(bdy s).drop (slA (bdy s)+1)≠[48]/\(bdy s).drop (slA (bdy s)+1)≠[49]:=Classical.byContradiction fun hc=>of_decide_eq_false h2' ⟨c,hc⟩
   have ep:=qiN hN (s:=bdy s) (by omega) c (by rw[(qaP hDn.2.1).2];exact hDn.2.1) (by rw[(qaP hDd.1.2.1).2];exact hDd.1.2.1)
   rw[qbP hDn.2.1,qbP hDd.1.2.1]at ep
   rw[if_pos (by omega),ep,ZB]
   simp only
   have v1:=qeV hDn (k:=600) (by omega)
   have v2:=qeV hDd.1 (k:=600) (by omega)
   have v3:=qfY hDd.1 hDd.2.1
   generalize qO 0 ((bdy s).take (slA (bdy s)))=n at*
   generalize qO 0 ((bdy s).drop (slA (bdy s)+1))=d at*
   have f1:jm ((n:Nat):Int) 8000:=(qjr (p:=600) (n:=70) (by omega) (by omega)).mono (by omega)
   have f2:jm ((d:Nat):Int) 8000:=(qjr (p:=600) (n:=70) (by omega) (by omega)).mono (by omega)
   have e1:(rI ((n:Nat):Int)).w=dg E9 ((n:Nat):Int):=by
    show dg E9 (((n:Nat):Int).natAbs:Int)=_
    rw[Int.natAbs_natCast]
   have e2:(rI ((d:Nat):Int)).w=dg E9 ((d:Nat):Int):=by
    show dg E9 (((d:Nat):Int).natAbs:Int)=_
    rw[Int.natAbs_natCast]
   have ec:=qiR (N:=N) hN (a:=((n:Nat):Int)) (b:=((d:Nat):Int)) (by omega) (by omega) f1 f2
   have eg:Int.gcd ((n:Nat):Int) ((d:Nat):Int)=Nat.gcd n d:=rfl
   rw[eg]at ec
   rw[e1,e2,ec,ZB]
   have hg:0<Nat.gcd n d:=Nat.gcd_pos_of_pos_right _ v3
   have cc:=jh E1 (show(0:Int)<=((Nat.gcd n d:Nat):Int)by omega)
   have vv:=vz E1 (show(0:Int)<=((Nat.gcd n d:Nat):Int)by omega)
   by_cases h4:Nat.gcd n d=1
   ·have:dg E9 ((Nat.gcd n d:Nat):Int)=[1]:=by rw[show((Nat.gcd n d:Nat):Int)=1 by omega];exact qoB
    rw[this,if_neg (by simp),xm,if_neg (fun h=>h.2 h4)]
    rfl
   rw[if_pos (show slA (bdy s)<(bdy s).length/\Nat.gcd n d≠1 from⟨c,h4⟩)]
   by_cases h5:(dg E9 ((Nat.gcd n d:Nat):Int)).length=1
   ·obtain⟨x,hx⟩:=List.length_eq_one_iff.1 h5
    rw[hx,zC,zn,Int.mul_zero,Int.add_zero]at vv
    have hx1:x≠1:=by omega
    rw[hx,if_neg (by simp),xm]
    simp only[Yj,ZB,decide_eq_false hx1]
    rfl
   rw[if_pos (by simp;omega)]
   rfl
  rw[if_neg (by omega),if_neg (by omega)]
  rfl
 have h1':okF s=false:=by simpa using h1
 rw[h1',if_pos (by simp),if_pos (.inl rfl)]
end Go.Av
end
section
namespace Go.Av
def tl (q:Rat):Str:=if q.den=1 then[]else 47::Lib.decDigits q.den
theorem qm6 (q:Rat):T q=Lib.itoa q.num++tl q:=rfl
theorem no47 {s:Str} (h:s.all vo=true): ∀c∈s,c≠47:=fun c hc e=>by
 have:=Yp.1 h c hc
 rw[e]at this
 exact absurd this (by decide)
theorem qkt: ∀{s:Str},(∀c∈s,c≠47)->slA s=s.length:=fun {s} h=>(qjJ s [] h).2
theorem qhw {s:Str} (h: ∀c∈s,c≠47) (q:Rat):slA (s++tl q)=s.length:=by
 unfold tl
 by_cases c:q.den=1
 ·rw[if_pos c,YQ]
  exact qkt h
 rw[if_neg c]
 exact(qjJ s _ h).1
theorem qeU (z:Int): ∀c∈Lib.itoa z,c≠47:=by
 by_cases h:z<0
 ·rw[vW h]
  intro c hc
  rcases List.mem_cons.1 hc with e|e
  ·rw[e];decide
  exact no47 (qa8 _) c e
 rw[jk h]
 exact no47 (qa8 _)
theorem qqt {s t:Str} (h:0<s.length):sgn (s++t)=sgn s:=by
 unfold sgn
 rw[Yf h]
theorem qo8 (z:Int):0<(Lib.itoa z).length:=by
 by_cases h:z<0
 ·rw[vW h];simp
 rw[jk h];exact qh0 _
theorem qkT (q:Rat):sgn (T q)=decide (q.num<0):=by rw[qm6,qqt (qo8 _),qik]
theorem qkZ (q:Rat):bdy (T q)=Lib.decDigits q.num.natAbs++tl q:=by
 unfold bdy
 rw[qkT,qm6]
 by_cases h:q.num<0
 ·rw[decide_eq_true h,if_pos rfl,vW h]
  rfl
 rw[decide_eq_false h,if_neg (by simp),jk h]
theorem qoJ {p q:Rat} (h:T p=T q):p=q:=by
 have h1:=congrArg slA h
 have e1:slA (T p)=(Lib.itoa p.num).length:=qhw (qeU _) p
 have e2:slA (T q)=(Lib.itoa q.num).length:=qhw (qeU _) q
 rw[e1,e2]at h1
 rw[qm6,qm6]at h
 obtain⟨h2,h3⟩:=List.append_inj h h1
 have n1:p.num=q.num:=by rw[<-qdm p.num,h2,qdm]
 have n2:p.den=q.den:=by
  unfold tl at h3
  by_cases c:p.den=1
  ·by_cases d:q.den=1
   ·rw[c,d]
   rw[if_pos c,if_neg d]at h3;cases h3
  by_cases d:q.den=1
  ·rw[if_neg c,if_pos d]at h3;cases h3
  rw[if_neg c,if_neg d]at h3
  injection h3 with _ h3
  exact qlV h3
 exact Rat.ext n1 n2
theorem ql8: ∀{s:Str},slA s<s.length->s=s.take (slA s)++47::s.drop (slA s+1)
 |[],h=>by simp at h
 |c::s,h=>by
  rw[slA]at h⊢
  by_cases e:c=47
  ·rw[if_pos e,e]
   rfl
  rw[if_neg e,Yr]at h
  rw[if_neg e,List.take_succ_cons,List.drop_succ_cons,List.cons_append,<-ql8 (show slA s<s.length by omega)]
theorem qqu (s:Str):s=if sgn s=true then 45::bdy s else bdy s:=by
 unfold bdy
 cases h:sgn s with
 |false=>rw[if_neg (by simp),if_neg (by simp)]
 |true=>
  rw[if_pos rfl,if_pos rfl]
  cases s with
  |nil=>cases h
  |cons c t=>
   have e:=of_decide_eq_true h
   simp only[Yj]at e
   rw[Ye e]
   rfl
theorem qeN {s:Str} (h:chk s=0): ∃q:Rat,s=T q/\(Lib.decDigits q.num.natAbs).length<=600/\(Lib.decDigits q.den).length<=600:=by
 have hk:=qgn (bdy s)
 have lt:((bdy s).take (slA (bdy s))).length=slA (bdy s):=by rw[Ym];omega
 have hs:=qqu s
 have hsp:=@ql8 (bdy s)
 unfold chk at h
 by_cases h1:okF s=false\/qiu s=true
 ·rw[if_pos h1]at h;cases h
 rw[if_neg h1]at h
 by_cases h2:600<((bdy s).take (slA (bdy s))).length\/600<((bdy s).drop (slA (bdy s)+1)).length
 ·rw[if_pos h2]at h;cases h
 rw[if_neg h2]at h
 by_cases h3:slA (bdy s)<(bdy s).length/\Nat.gcd (qO 0 ((bdy s).take (slA (bdy s)))) (qO 0 ((bdy s).drop (slA (bdy s)+1)))≠1
 ·rw[if_pos h3]at h;cases h
 have ho:okF s=true:=by cases e:okF s with|true=>rfl|false=>exact absurd (.inl e) h1
 have hb:qiu s=false:=by cases e:qiu s with|false=>rfl|true=>exact absurd (.inr e) h1
 obtain⟨hDn,hng⟩:=of_decide_eq_true ho
 have en:=hDn.eq
 obtain⟨z,hz1,hz2⟩: ∃z:Int,z.natAbs=qO 0 ((bdy s).take (slA (bdy s)))/\(z<0↔sgn s=true):=by
  cases e:sgn s with
  |false=>exact⟨((qO 0 ((bdy s).take (slA (bdy s))):Nat):Int),by omega,by simp⟩
  |true=>
   have:=qfY hDn fun c=>hng ⟨e,c⟩
   exact⟨-((qO 0 ((bdy s).take (slA (bdy s))):Nat):Int),by omega,by simp;omega⟩
 have hT: ∀t:Str,bdy s=(bdy s).take (slA (bdy s))++t->s=Lib.itoa z++t:=by
  intro t ht
  rw[hs]
  by_cases c:z<0
  ·rw[if_pos (hz2.1 c),vW c,hz1,<-en,List.cons_append,<-ht]
  rw[if_neg fun e=>c (hz2.2 e),jk c,hz1,<-en,<-ht]
 by_cases c:slA (bdy s)<(bdy s).length
 ·have hDd:Dec ((bdy s).drop (slA (bdy s)+1))/\(bdy s).drop (slA (bdy s)+1)≠[48]/\(bdy s).drop (slA (bdy s)+1)≠[49]:=Classical.byContradiction fun hc=>of_decide_eq_false hb ⟨c,hc⟩
  have ed:=hDd.1.eq
  have hd0:=qfY hDd.1 hDd.2.1
  have hd1:qO 0 ((bdy s).drop (slA (bdy s)+1))≠1:=fun e=>by
   rw[e,zJ (by decide)]at ed
   exact hDd.2.2 ed
  have hg:Nat.gcd z.natAbs (qO 0 ((bdy s).drop (slA (bdy s)+1)))=1:=by
   rw[hz1]
   exact Classical.byContradiction fun e=>h3 ⟨c,e⟩
  refine⟨⟨z,qO 0 ((bdy s).drop (slA (bdy s)+1)),by omega,hg⟩,?_,?_,?_⟩
  ·have:=hT _ (hsp c)
   unfold T
   rw[if_neg hd1]
   show s=Lib.itoa z++47::Lib.decDigits (qO 0 ((bdy s).drop (slA (bdy s)+1)))
   rw[<-ed]
   exact this
  ·show(Lib.decDigits z.natAbs).length<=600
   rw[hz1,<-en]
   omega
  show(Lib.decDigits (qO 0 ((bdy s).drop (slA (bdy s)+1)))).length<=600
  rw[<-ed]
  omega
 refine⟨(z:Rat),?_,?_,?_⟩
 ·have:=hT [] (by rw[YQ,List.take_of_length_le (by omega)])
  unfold T
  rw[Rat.den_intCast,if_pos rfl,Rat.num_intCast]
  exact this
 ·rw[Rat.num_intCast,hz1,<-en]
  omega
 rw[Rat.den_intCast,zJ (by decide)]
 simp
end Go.Av
end
section
namespace Go.Av
def Sml (q:Rat) (k:Nat):Prop:=(Lib.decDigits q.num.natAbs).length<=k/\(Lib.decDigits q.den).length<=k
theorem qg1 (z:Int):(Lib.itoa z).length<=(Lib.decDigits z.natAbs).length+1:=by
 by_cases h:z<0
 ·rw[vW h];simp
 rw[jk h];omega
theorem qgU (q:Rat) (h:q.den≠1):slA (T q)<(T q).length/\(T q).take (slA (T q))=Lib.itoa q.num/\(T q).drop (slA (T q)+1)=Lib.decDigits q.den:=by
 have e:slA (T q)=(Lib.itoa q.num).length:=qhw (qeU _) q
 have ht:T q=Lib.itoa q.num++47::Lib.decDigits q.den:=by unfold T;rw[if_neg h]
 rw[e,ht]
 refine⟨by rw[Yq,Yr];omega,?_,?_⟩
 ·rw[List.take_append_of_le_length (Nat.le_refl _),List.take_of_length_le (Nat.le_refl _)]
 rw[List.drop_append,List.drop_of_length_le (by omega),show(Lib.itoa q.num).length+1-(Lib.itoa q.num).length=1 by omega]
 rfl
theorem qf7 (q:Rat) (h:q.den=1):T q=Lib.itoa q.num/\slA (T q)=(T q).length:=by
 have ht:T q=Lib.itoa q.num:=by unfold T;rw[if_pos h,YQ]
 refine⟨ht,?_⟩
 rw[ht]
 exact qkt (qeU _)
theorem qbM {q:Rat} {k:Nat} (h:Sml q k):(T q).length<=2*k+2:=by
 have h1:=qg1 q.num
 have h2:=h.1
 have h3:=h.2
 unfold T
 rw[Yq]
 split
 ·simp;omega
 rw[Yr];omega
theorem qg7 {N:Nat} (hN:600000<N) {q:Rat} (h:Sml q 9000): ∃f,qbb N (T q)=some f/\IsF f q:=by
 have hl:=qbM h
 have h1:=h.1
 have h2:=h.2
 unfold qbb
 rw[qn1 (by omega),ZB]
 obtain⟨r1,e1,i1⟩:=qeY hN (s:=Lib.itoa q.num) (by rw[qcy];exact qa8 _) (by rw[qcy];omega)
 rw[qdm]at i1
 by_cases c:q.den=1
 ·obtain⟨t1,t2⟩:=qf7 q c
  rw[if_neg (show¬slA (T q)<(T q).length by omega)]
  obtain⟨f,e2,i2⟩:=qkJ i1
  rw[if_pos (by rfl),t1,e1,ZB,e2,ZB]
  refine⟨f,rfl,?_⟩
  have:(q.num:Rat)=q:=Rat.ext (by simp) (by simp[c])
  rw[this]at i2
  exact i2
 obtain⟨t1,t2,t3⟩:=qgU q c
 rw[if_pos t1]
 have hd:=qa8 q.den
 obtain⟨r2,e2,i2⟩:=qeY hN (s:=Lib.decDigits q.den) (by rw[(qaP hd).2];exact hd) (by rw[(qaP hd).2];omega)
 rw[qbP hd,qcs]at i2
 rw[if_neg (by simp),t2,t3,e1,ZB,e2,ZB]
 exact⟨⟨r1,r2⟩,rfl,i1,i2⟩
theorem qde {N:Nat} (hN:600000<N) {q:Rat} (h:Sml q 4000):jK N (T q)=some (rI q.num,rI (q.den:Int)):=by
 have hl:=qbM h
 have h1:=h.1
 have h2:=h.2
 by_cases c:q.den=1
 ·obtain⟨t1,t2⟩:=qf7 q c
  unfold jK
  rw[qdg (by omega) (by omega),ZB,t2,if_pos rfl,t1,qh4 (by omega) (by rw[qcy];exact qa8 _) (by rw[qcy];omega),ZB,qqN (by omega),ZB,qdm,c]
  rfl
 obtain⟨t1,t2,t3⟩:=qgU q c
 have hd:=qa8 q.den
 rw[qiN hN (by omega) t1 (by rw[t2,qcy];exact qa8 _) (by rw[t3,(qaP hd).2];exact hd),t2,t3,qdm,qbP hd,qcs]
end Go.Av
end
section
namespace Go.Av
theorem qm8 {n:Nat} (h:0<n):(if((dg E9 (n:Int)).length:Int)=1 then(idx (dg E9 (n:Int)) 0).bind fun x15=>some (decide (x15=1))else some false:Option Bool)=some (decide (n=1)):=by
 have vv:=vz E1 (show(0:Int)<=(n:Int)by omega)
 by_cases h4:n=1
 ·rw[show(n:Int)=1 by omega,qoB,if_pos (by simp),xm,h4]
  rfl
 rw[decide_eq_false h4]
 by_cases h5:(dg E9 (n:Int)).length=1
 ·obtain⟨x,hx⟩:=List.length_eq_one_iff.1 h5
  rw[hx,zC,zn,Int.mul_zero,Int.add_zero]at vv
  have hx1:x≠1:=by omega
  rw[hx,if_pos (by simp),xm]
  simp only[Yj,ZB,decide_eq_false hx1]
 rw[if_neg (by omega)]
theorem jm.abs {z:Int} {n:Nat} (h:jm z n):jm (z.natAbs:Int) n:=by
 unfold jm at h⊢
 rw[Int.natAbs_natCast]
 exact h
theorem jm.le {a b:Int} {n:Nat} (h:(a.natAbs:Int)<=(b.natAbs:Int)) (k:jm b n):jm a n:=Int.lt_of_le_of_lt h k
theorem jm.itoaLen {z:Int} {n:Nat} (h:jm z n) (hn:0<n):(Lib.itoa z).length<=9*n+1:=by
 have h2:z.natAbs<10^(9*n):=by
  have h:(z.natAbs:Int)<E9^n:=h
  rw[qhM]at h
  exact Int.ofNat_lt.1 h
 have h3:=(xz (show 0<9*n by omega)).2 h2
 have h4:=qg1 z
 omega
theorem ql6 {N:Nat} (hN:60000<N) {x y:Int} (hx:0<=x) (hy:0<y) {B:Nat} (hB:B<=8000) (fx:jm x B):jJ N (dg E9 x) (dg E9 y)=some (dg E9 (x/y),dg E9 (x%y)):=by
 have l:=fx.len
 rw[show(x.natAbs:Int)=x by omega]at l
 rw[qdy hN (jh E1 hx) (jh E1 (by omega)) (by omega) (by rw[vz E1 (by omega)];exact hy),vz E1 hx,vz E1 (by omega)]
theorem den_pos (q:Rat):0<q.den:=Nat.pos_of_ne_zero q.den_nz
theorem qhD {a b:Int} (hb:b≠0):(b.sign*a).natAbs=a.natAbs:=by rw[Int.natAbs_mul,Int.natAbs_sign_of_ne_zero hb,Nat.one_mul]
theorem qmN (a b:Int):Int.gcd (a.natAbs:Int) (b.natAbs:Int)=Int.gcd b a:=by
 rw[Int.gcd_comm]
 rfl
theorem qdV {N:Nat} (hN:600000<N) {B:Nat} (hB0:0<B) (hB:B<=8000) {a b:Int} (fa:jm a B) (fb:jm b B) (hb:b≠0):vD N (rI a) (rI b)=some (T (Rat.divInt a b)):=by
 have hg:0<Int.gcd b a:=Int.gcd_pos_of_ne_zero_left _ hb
 have ea:=qhD (a:=a) hb
 have S:(if(rI b).neg=true then(xn N (rI a)).bind fun r7=>(xn N (rI b)).bind fun r8=>some (r7.neg,r7.w,r8.neg,r8.w)else some ((rI a).neg,(rI a).w,(rI b).neg,(rI b).w):Option (Bool×(List Int)×Bool×(List Int)))=some (decide (b.sign*a<0),dg E9 (a.natAbs:Int),false,dg E9 (b.natAbs:Int)):=by
  by_cases h:b<0
  ·rw[if_pos (show(rI b).neg=true from decide_eq_true h),qkA (by omega) (fa.mono (by omega)),ZB,qkA (by omega) (fb.mono (by omega)),ZB,Int.sign_eq_neg_one_of_neg h,Int.neg_mul,Int.one_mul]
   show some (decide (-a<0),dg E9 (((-a).natAbs:Nat):Int),decide (-b<0),dg E9 (((-b).natAbs:Nat):Int))=_
   rw[decide_eq_false (show¬ -b<0 by omega),Int.natAbs_neg,Int.natAbs_neg]
  rw[if_neg (show¬(rI b).neg=true from fun c=>h (of_decide_eq_true c)),Int.sign_eq_one_of_pos (by omega),Int.one_mul]
  show some (decide (a<0),dg E9 ((a.natAbs:Nat):Int),decide (b<0),dg E9 ((b.natAbs:Nat):Int))=_
  rw[decide_eq_false h]
 have en:(Rat.divInt a b).num=b.sign*a/(Int.gcd b a:Int):=Rat.num_divInt ..
 have ed:(b.natAbs:Int)/(Int.gcd b a:Int)=((Rat.divInt a b).den:Int):=by rw[Rat.den_divInt,if_neg hb,Int.natCast_ediv]
 have hd:=den_pos (Rat.divInt a b)
 have dvd:(Int.gcd b a:Int)∣b.sign*a:=Int.dvd_mul_of_dvd_right (Int.gcd_dvd_right ..)
 have fn:jm (Rat.divInt a b).num B:=by
  rw[en]
  exact jm.le (Int.le_trans (xE _ (by omega)) (by rw[ea];exact Int.le_refl _)) fa
 have fd:jm ((Rat.divInt a b).den:Int) B:=by
  rw[<-ed]
  exact jm.le (Int.le_trans (xE _ (by omega)) (Int.le_refl _)) fb.abs
 have vn:(if decide (b.sign*a<0)=true then-dv E9 (dg E9 ((a.natAbs:Int)/(Int.gcd b a:Int)))else dv E9 (dg E9 ((a.natAbs:Int)/(Int.gcd b a:Int))))=(Rat.divInt a b).num:=by
  have p0:0<=(a.natAbs:Int)/(Int.gcd b a:Int):=Int.ediv_nonneg (by omega) (by omega)
  rw[vz E1 p0,en]
  by_cases c:b.sign*a<0
  ·rw[if_pos (decide_eq_true c),show(a.natAbs:Int)= -(b.sign*a)by omega,Int.neg_ediv_of_dvd dvd,Int.neg_neg]
  rw[if_neg (fun h=>c (of_decide_eq_true h)),show(a.natAbs:Int)=b.sign*a by omega]
 unfold vD
 rw[S,ZB]
 simp only
 rw[qiR hN (by omega) (by omega) (fa.abs.mono hB) (fb.abs.mono hB),ZB,qmN,ql6 (by omega) (by omega) (by omega) hB fa.abs,ZB,ql6 (by omega) (by omega) (by omega) hB fb.abs,ZB]
 simp only
 have p0:0<=(a.natAbs:Int)/(Int.gcd b a:Int):=Int.ediv_nonneg (by omega) (by omega)
 have ln:(dg E9 ((a.natAbs:Int)/(Int.gcd b a:Int))).length<=B:=by
  have:=(jm.le (Int.le_trans (xE _ (by omega)) (Int.le_refl _)) fa.abs:jm ((a.natAbs:Int)/(Int.gcd b a:Int)) B).len
  rw[show(((a.natAbs:Int)/(Int.gcd b a:Int)).natAbs:Int)=(a.natAbs:Int)/(Int.gcd b a:Int)by omega]at this
  exact this
 have ld:(dg E9 ((Rat.divInt a b).den:Int)).length<=B:=by
  have:=fd.len
  rw[Int.natAbs_natCast]at this
  exact this
 rw[xW _ (jh E1 p0).1 (by omega) (by omega),ZB,vn,qjO (by omega) (fn.mono (by omega)),ZB,ed,qm8 hd,ZB]
 have l1:=fn.itoaLen hB0
 have l2:=fd.itoaLen hB0
 unfold T
 by_cases c:(Rat.divInt a b).den=1
 ·rw[if_pos (decide_eq_true c),if_pos c,YQ]
 rw[if_neg (fun h=>c (of_decide_eq_true h)),if_neg c,qbg (by simp;omega),ZB,xW _ (jh E1 (by omega)).1 (by omega) (by omega),ZB,if_neg (by simp),vz E1 (by omega),qjO (by omega) (fd.mono (by omega)),ZB,qbg (by simp;omega),ZB,qe5,Yz]
 rfl
theorem qqE {a b:Int} (ha:0<=a) (hb:0<b):qeA .i64 a b=some (a%b):=by
 unfold qeA
 rw[if_neg (by omega),Int.tmod_eq_emod_of_nonneg ha]
theorem qqJ {a b:Int} (hb:0<b) (h1: -4000000000000000000<=a) (h2:a<=4000000000000000000) (hd:b∣a):qcf .i64 a b=some (a/b):=by
 have:=xE a hb
 unfold qcf
 rw[if_neg (by omega),Int.tdiv_eq_ediv_of_dvd hd]
 show some (w64 _)=_
 rw[qg (by omega) (by omega)]
theorem qmr: ∀(k K:Nat) (a b:Int),0<=a->0<=b->b<2^k->2*k+2<=K->jW K a b=some (Int.gcd a b:Int)
 |k,0,a,b,_,_,_,hK=>by omega
 |k,K+1,a,b,ha,hb,hk,hK=>by
  have na:(a.natAbs:Int)=a:=by omega
  have nb:(b.natAbs:Int)=b:=by omega
  rcases(show b=0\/0<b by omega)with h0|h0
  ·rw[h0,jW,if_neg (by omega),Int.gcd_zero,na]
  match k,hk,hK with
  |0,hk,hK=>simp at hk;omega
  |k+1,hk,hK=>
   have m0:=Int.emod_nonneg a (show b≠0 by omega)
   have m1:=Int.emod_lt_of_pos a h0
   rw[jW,if_pos (by omega),qqE ha h0,ZB,qdu ha hb]
   match K,hK with
   |0,hK=>omega
   |K+1,hK=>
    rcases(show a%b=0\/0<a%b by omega)with g0|g0
    ·rw[g0,jW,if_neg (by omega),Int.gcd_zero,nb]
    have n0:=Int.emod_nonneg b (show a%b≠0 by omega)
    have n1:=Int.emod_lt_of_pos b g0
    have hhalf:b%(a%b)<2^k:=by
     have d1:=Int.mul_ediv_add_emod b (a%b)
     have d2:1<=b/(a%b):=by
      rw[Int.le_ediv_iff_mul_le g0]
      omega
     have d3:a%b*1<=a%b*(b/(a%b)):=Yc d2 (by omega)
     rw[Int.pow_succ]at hk
     omega
    rw[jW,if_pos (by omega),qqE hb g0,ZB,qdu hb m0]
    exact qmr k K (a%b) (b%(a%b)) m0 n0 hhalf (by omega)
theorem qpS {N:Nat} (hN:200<N) {a b:Int} (ha:0<=a) (hb:0<=b) (h:b<9223372036854775808):qdo N a b=some (Int.gcd a b:Int):=by
 unfold qdo
 rw[qmr 63 N a b ha hb h (by omega),ZB]
theorem rabs {z:Int} (h1: -9223372036854775807<=z) (h2:z<=9223372036854775807):(if w64 (0-z)>z then w64 (0-z)else z)=(z.natAbs:Int):=by
 rw[qg (by omega) (by omega)]
 split<;>omega
theorem qqK {n:Nat} (h:n<=4000000000000000000):(Lib.decDigits n).length<=19:=(xz (by decide)).2 (by omega)
theorem qlW {N:Nat} (hN:1000<N) {a b:Int} (a1: -4000000000000000000<=a) (a2:a<=4000000000000000000) (b1: -4000000000000000000<=b) (b2:b<=4000000000000000000) (hb:b≠0):qcj N a b=some (T (Rat.divInt a b)):=by
 have hg:0<Int.gcd b a:=Int.gcd_pos_of_ne_zero_left _ hb
 have ea:=qhD (a:=a) hb
 have S:(if b<0 then some (w64 (0-a),w64 (0-b))else some (a,b):Option (Int×Int))=some (b.sign*a,(b.natAbs:Int)):=by
  by_cases h:b<0
  ·rw[if_pos h,qg (by omega) (by omega),qg (by omega) (by omega),Int.sign_eq_neg_one_of_neg h,show(-1:Int)*a=0-a by omega,show(b.natAbs:Int)=0-b by omega]
  rw[if_neg h,Int.sign_eq_one_of_pos (by omega),Int.one_mul,show(b.natAbs:Int)=b by omega]
 have en:(Rat.divInt a b).num=b.sign*a/(Int.gcd b a:Int):=Rat.num_divInt ..
 have ed:(b.natAbs:Int)/(Int.gcd b a:Int)=((Rat.divInt a b).den:Int):=by rw[Rat.den_divInt,if_neg hb,Int.natCast_ediv]
 have hd:=den_pos (Rat.divInt a b)
 have dvd:(Int.gcd b a:Int)∣b.sign*a:=Int.dvd_mul_of_dvd_right (Int.gcd_dvd_right ..)
 have dvb:(Int.gcd b a:Int)∣(b.natAbs:Int):=by
  rw[Int.dvd_natAbs]
  exact Int.gcd_dvd_left ..
 have n1:=xE (b.sign*a) (show(0:Int)<(Int.gcd b a:Int)by omega)
 have n2:=xE (b.natAbs:Int) (show(0:Int)<(Int.gcd b a:Int)by omega)
 rw[<-en,ea]at n1
 rw[ed,Int.natAbs_natCast,Int.natAbs_natCast]at n2
 unfold qcj
 rw[if_neg (show¬a< -4000000000000000000 by omega),if_neg (show¬a>4000000000000000000 by omega),if_neg (show¬b< -4000000000000000000 by omega),decide_eq_false (show¬b>4000000000000000000 by omega),ZB,if_neg (by simp),S,ZB]
 simp only
 rw[rabs (by omega) (by omega),ea,qpS (by omega) (by omega) (by omega) (by omega),ZB,qmN,qqJ (by omega) (by omega) (by omega) dvd,ZB,qqJ (by omega) (by omega) (by omega) dvb,ZB,<-en,ed,rabs (by omega) (by omega),qhn (by omega) (by omega),qhn (by omega) (by omega)]
 generalize Rat.divInt a b=q at*
 have l1:=qqK (n:=q.num.natAbs) (by omega)
 have l2:=qqK (n:=q.den) (by omega)
 have S2:((if q.num<0 then some [45]else some []:Option Str).bind fun s17=>(some (Lib.decDigits q.num.natAbs)).bind fun r20=>(cat s17 r20).bind fun s21=>(if(q.den:Int)>1 then(cat s21 [47]).bind fun s25=>(some (Lib.decDigits q.den)).bind fun r26=>(cat s25 r26).bind fun s27=>some s27 else some s21:Option Str).bind fun s22=>some s22)=some (T q):=by
  have li:(Lib.itoa q.num).length<=20:=by have:=qg1 q.num;omega
  have I:((if q.num<0 then some [45]else some []:Option Str).bind fun s17=>(some (Lib.decDigits q.num.natAbs)).bind fun r20=>(cat s17 r20).bind fun s21=>(if(q.den:Int)>1 then(cat s21 [47]).bind fun s25=>(some (Lib.decDigits q.den)).bind fun r26=>(cat s25 r26).bind fun s27=>some s27 else some s21:Option Str).bind fun s22=>some s22)=((if(q.den:Int)>1 then(cat (Lib.itoa q.num) [47]).bind fun s25=>(some (Lib.decDigits q.den)).bind fun r26=>(cat s25 r26).bind fun s27=>some s27 else some (Lib.itoa q.num):Option Str).bind fun s22=>some s22):=by
   by_cases c:q.num<0
   ·rw[if_pos c,ZB,ZB,qbg (by simp;omega),ZB,vW c]
    rfl
   rw[if_neg c,ZB,ZB,qbg (by simp;omega),ZB,jk c]
   rfl
  rw[I]
  unfold T
  by_cases c:q.den=1
  ·rw[if_neg (by omega),if_pos c,ZB,YQ]
  rw[if_pos (by omega),if_neg c,qbg (by simp;omega),ZB,ZB,qbg (by simp;omega),ZB,ZB,Yz]
  rfl
 exact S2
end Go.Av
end
section
namespace Go.Av
theorem Sml.mono {q:Rat} {m n:Nat} (h:Sml q m) (hn:m<=n):Sml q n:=⟨Nat.le_trans h.1 hn,Nat.le_trans h.2 hn⟩
theorem qb4 {q:Rat} {k n:Nat} (h:Sml q k) (hk:0<k) (hn:k<=9*n):jm q.num n:=qjr (p:=k) (Int.ofNat_lt.2 ((xz hk).1 h.1)) hn
theorem qb1 {q:Rat} {k n:Nat} (h:Sml q k) (hk:0<k) (hn:k<=9*n):jm (q.den:Int) n:=qjr (p:=k) (by rw[Int.natAbs_natCast];exact Int.ofNat_lt.2 ((xz hk).1 h.2)) hn
theorem xR {q:Rat} {k n:Nat} (h:Sml q k) (hk:0<k) (hn:k<=19*n):qaz q n:=⟨qee (p:=k) (Int.ofNat_lt.2 ((xz hk).1 h.1)) hn,qee (p:=k) (by rw[Int.natAbs_natCast];exact Int.ofNat_lt.2 ((xz hk).1 h.2)) hn⟩
theorem ql2 {z:Int} {n:Nat} (h:jm z n) (hn:0<n):(Lib.decDigits z.natAbs).length<=9*n:=by
 refine(xz (by omega)).2 ?_
 have h:(z.natAbs:Int)<E9^n:=h
 rw[qhM]at h
 exact Int.ofNat_lt.1 h
theorem qix {q:Rat} {n:Nat} (h1:jm q.num n) (h2:jm (q.den:Int) n) (hn:0<n):Sml q (9*n):=by
 have h3:=ql2 h2 hn
 rw[Int.natAbs_natCast]at h3
 exact⟨ql2 h1 hn,h3⟩
theorem qgE {a b:Int} {n:Nat} (hb:b≠0) (fa:jm a n) (fb:jm b n):jm (Rat.divInt a b).num n/\jm ((Rat.divInt a b).den:Int) n:=by
 have hg:0<Int.gcd b a:=Int.gcd_pos_of_ne_zero_left _ hb
 constructor
 ·rw[Rat.num_divInt]
  exact jm.le (Int.le_trans (xE _ (by omega)) (by rw[qhD hb];exact Int.le_refl _)) fa
 rw[Rat.den_divInt,if_neg hb,Int.natCast_ediv]
 exact jm.le (Int.le_trans (xE _ (by omega)) (Int.le_refl _)) fb.abs
theorem xK {a b:Int} {m n:Nat} (ha:jm a m) (hb:jm b n):jm (a*b) (m+n):=by
 unfold jm at*
 rw[Int.natAbs_mul,Int.natCast_mul,Int.pow_add]
 have h1:(a.natAbs:Int)*(b.natAbs:Int)<=(a.natAbs:Int)*E9^n:=Yc (Int.le_of_lt hb) (by omega)
 have h2:(a.natAbs:Int)*E9^n<E9^m*E9^n:=YH ha (pow_pos E0 n)
 omega
theorem qky {a b:Int} {n:Nat} (ha:jm a n) (hb:jm b n):jm (a+b) (n+1):=by
 unfold jm at*
 rw[Int.pow_succ]
 have hp:=pow_pos E0 n
 have:((a+b).natAbs:Int)<=(a.natAbs:Int)+(b.natAbs:Int):=by omega
 unfold E9 at*
 omega
theorem qdf {q:Rat} (h:Sml q 600):qjY q=false:=by
 have h1:=h.1
 have h2:=h.2
 unfold qjY lng
 rw[Int.natAbs_natCast,decide_eq_false (by omega),decide_eq_false (by omega)]
 rfl
theorem qpO (s:Str):xG s=some (if s=[48]then 0 else if sgn s=true then-1 else 1):=by
 unfold xG
 by_cases c:s=[48]
 ·rw[if_pos (by simp[c]),if_pos c]
 rw[if_neg (by simp[c]),qfZ,ZB,if_neg c]
 cases sgn s<;>rfl
theorem itoa0:Lib.itoa 0=[48]:=by
 rw[jk (by decide),show(0:Int).natAbs=0 from rfl,zJ (by decide)]
 rfl
theorem T0:T 0=[48]:=by
 rw[(qf7 0 rfl).1]
 exact itoa0
theorem qnH {q:Rat}:T q=[48]↔q=0:=by
 constructor
 ·intro h
  exact qoJ (h.trans T0.symm)
 intro h
 rw[h]
 exact T0
theorem qlX (q:Rat):xG (T q)=some (if q.num<0 then-1 else if q.num=0 then 0 else 1):=by
 rw[qpO,qkT]
 by_cases c:q=0
 ·rw[if_pos (qnH.2 c),c]
  rfl
 rw[if_neg (fun h=>c (qnH.1 h)),if_neg (show¬q.num=0 from fun h=>c (Rat.num_eq_zero.1 h))]
 by_cases d:q.num<0
 ·rw[decide_eq_true d,if_pos rfl,if_pos d]
 rw[decide_eq_false d,if_neg (by simp),if_neg d]
theorem qrs (q:Rat):tl (-q)=tl q:=by
 unfold tl
 rw[Rat.neg_den]
theorem qqD {N:Nat} {q:Rat} (h:(T q).length<=100000):qbx (T q)=some (T (-q)):=by
 unfold qbx
 rw[qlX,ZB]
 have e:T (-q)=Lib.itoa (-q.num)++tl q:=by rw[qm6,qrs,Rat.neg_num]
 by_cases c:q.num<0
 ·have hs:sgn (T q)=true:=by rw[qkT];exact decide_eq_true c
  have hb:(T q).drop 1=bdy (T q):=by unfold bdy;rw[if_pos hs]
  have h1:=qjE hs
  rw[if_pos c,if_pos (by decide),show(1:Int)=((1:Nat):Int)from rfl,xJ h1,ZB,hb,qkZ,e,jk (by omega),Int.natAbs_neg]
 rw[if_neg c,if_neg (by split<;>decide),ZB]
 by_cases d:q.num=0
 ·rw[if_pos d,if_pos rfl,Rat.num_eq_zero.1 d]
  rfl
 rw[if_neg d,if_neg (by decide),qbg (by simp;omega),ZB,e,vW (by omega),Int.natAbs_neg,qm6,jk c]
 rfl
theorem qii {N:Nat} (hN:100000<N) {q:Rat} {k:Nat} (h:Sml q k) (hk:k<=9000):ve N (T q)=some (0,0,false)\/(ve N (T q)=some (q.num,(q.den:Int),true)/\q.num.natAbs<1000000000/\q.den<1000000000):=by
 have hl:=qbM h
 have hb:=qfT (T q)
 have eb:=qkZ q
 have es:slA (Lib.decDigits q.num.natAbs++tl q)=(Lib.decDigits q.num.natAbs).length:=qhw (no47 (qa8 _)) q
 have lt:(Lib.decDigits q.num.natAbs++tl q).length=(Lib.decDigits q.num.natAbs).length+(tl q).length:=Yq
 rw[eb]at hb
 unfold ve
 by_cases c:((T q).length:Int)>20
 ·left
  rw[if_pos c]
 rw[if_neg c,qfZ,ZB,qll,ZB,eb,qdg (by omega) (by omega),ZB,es,qkT]
 by_cases c1:(Lib.decDigits q.num.natAbs).length>9
 ·left
  rw[if_pos (by omega),ZB,if_pos rfl]
 rw[if_neg (by omega),qg (by omega) (by omega)]
 by_cases c2:(tl q).length>10
 ·left
  rw[decide_eq_true (by omega),ZB,if_pos rfl]
 right
 rw[decide_eq_false (by omega),ZB,if_neg (by simp),yz (by omega),ZB,List.take_left',qfW (by omega) (qa8 _) (by omega),ZB,qcs]
 ·have hn:q.num.natAbs<1000000000:=(xz (show 0<9 by decide)).1 (by omega)
  have sg:(if decide (q.num<0)=true then some (w64 (0-(q.num.natAbs:Int)))else some (q.num.natAbs:Int):Option Int)=some q.num:=by
   by_cases d:q.num<0
   ·rw[if_pos (decide_eq_true d),qg (by omega) (by omega)]
    congr 1
    omega
   rw[if_neg (fun h=>d (of_decide_eq_true h))]
   congr 1
   omega
  by_cases d:q.den=1
  ·have ht:tl q=[]:=by unfold tl;rw[if_pos d]
   rw[ht]at lt
   rw[List.length_nil]at lt
   rw[ht,if_neg (by omega),ZB,sg,ZB,d]
   exact⟨rfl,hn,by decide⟩
  have ht:tl q=47::Lib.decDigits q.den:=by unfold tl;rw[if_neg d]
  rw[ht,Yr]at lt c2
  have hd:q.den<1000000000:=(xz (show 0<9 by decide)).1 (by omega)
  rw[ht,if_pos (by omega),zy (by omega),xJ (by omega),ZB,List.drop_append,List.drop_of_length_le (by omega),show(Lib.decDigits q.num.natAbs).length+1-(Lib.decDigits q.num.natAbs).length=1 by omega,List.nil_append,List.drop_succ_cons,YR,qfW (by omega) (qa8 _) (by omega),ZB,ZB,sg,ZB,qcs]
  exact⟨rfl,hn,hd⟩
 rfl
theorem qmR {N:Nat} (hN:100000<N) {p q:Rat} {k:Nat} (hk:k<=9000) (hp:Sml p k) (hq:Sml q k) {Fq:(Int×Int×Bool)->(Int×Int×Bool)->Option Str} {slow:Option Str} {t:Str}
 (h1:p.num.natAbs<1000000000->p.den<1000000000->q.num.natAbs<1000000000->q.den<1000000000->Fq (p.num,(p.den:Int),true) (q.num,(q.den:Int),true)=some t) (h2:slow=some t):
 ((ve N (T p)).bind fun r1=>(ve N (T q)).bind fun r2=>(if r1.2.2=true then some r2.2.2 else some false:Option Bool).bind fun b4=>if b4=true then(Fq r1 r2).bind fun r7=>some r7 else slow)=some t:=by
 rcases qii hN hp hk with e1|⟨e1,a1,a2⟩
 ·rcases qii hN hq hk with e2|⟨e2,b1,b2⟩
  ·rw[e1,ZB,e2,ZB]
   exact h2
  rw[e1,ZB,e2,ZB]
  exact h2
 rcases qii hN hq hk with e2|⟨e2,b1,b2⟩
 ·rw[e1,ZB,e2,ZB]
  exact h2
 rw[e1,ZB,e2,ZB]
 show((Fq (p.num,(p.den:Int),true) (q.num,(q.den:Int),true)).bind fun r7=>some r7)=some t
 rw[h1 a1 a2 b1 b2,ZB]
theorem qnI {a b:Int} (ha:a.natAbs<1000000000) (hb:b.natAbs<1000000000): -1000000000000000000<=a*b/\a*b<=1000000000000000000:=by
 have h:(a*b).natAbs<=1000000000*1000000000:=by
  rw[Int.natAbs_mul]
  exact Nat.mul_le_mul (by omega) (by omega)
 omega
theorem qmU {N:Nat} (hN:600000<N) {p q:Rat} {k:Nat} (hk0:0<k) (hk:k<=4000) (hp:Sml p k) (hq:Sml q k):qb7 N (T p) (T q)=some (T (p+q)):=by
 unfold qb7
 obtain⟨n,hn⟩: ∃n:Nat,n=500:=⟨_,rfl⟩
 have p1:=qb4 (n:=n) hp hk0 (by omega)
 have p2:=qb1 (n:=n) hp hk0 (by omega)
 have q1:=qb4 (n:=n) hq hk0 (by omega)
 have q2:=qb1 (n:=n) hq hk0 (by omega)
 refine qmR (N:=N) (by omega) (show k<=9000 by omega) hp hq (fun a1 a2 b1 b2=>?_) ?_
 ·have m1:=qnI a1 (show((q.den:Int)).natAbs<1000000000 by omega)
  have m2:=qnI b1 (show((p.den:Int)).natAbs<1000000000 by omega)
  have m3:=qnI (show((p.den:Int)).natAbs<1000000000 by omega) (show((q.den:Int)).natAbs<1000000000 by omega)
  have:=qdR p q
  simp only
  rw[qg (n:=p.num*(q.den:Int)) (by omega) (by omega),qg (n:=q.num*(p.den:Int)) (by omega) (by omega),qg (n:=(p.den:Int)*(q.den:Int)) (by omega) (by omega),qg (by omega) (by omega),qlW (by omega) (by omega) (by omega) (by omega) (by omega) (qdR p q),<-qdM]
 rw[qde hN (hp.mono (by omega)),ZB,qde hN (hq.mono (by omega)),ZB]
 simp only
 rw[qeI (by omega) (p1.mono (by omega)) (q2.mono (by omega)),ZB,qeI (by omega) (q1.mono (by omega)) (p2.mono (by omega)),ZB,qqn (by omega) ((xK p1 q2).mono (by omega)) ((xK q1 p2).mono (by omega)),ZB,qeI (by omega) (p2.mono (by omega)) (q2.mono (by omega)),ZB,qdV hN (B:=n+n+1) (by omega) (by omega) (qky (xK p1 q2) (xK q1 p2)) ((xK p2 q2).mono (by omega)) (qdR p q),ZB,<-qdM]
theorem qcH {N:Nat} (hN:600000<N) {p q:Rat} {k:Nat} (hk0:0<k) (hk:k<=4000) (hp:Sml p k) (hq:Sml q k):yU N (T p) (T q)=some (T (p*q)):=by
 unfold yU
 obtain⟨n,hn⟩: ∃n:Nat,n=500:=⟨_,rfl⟩
 have p1:=qb4 (n:=n) hp hk0 (by omega)
 have p2:=qb1 (n:=n) hp hk0 (by omega)
 have q1:=qb4 (n:=n) hq hk0 (by omega)
 have q2:=qb1 (n:=n) hq hk0 (by omega)
 refine qmR (N:=N) (by omega) (show k<=9000 by omega) hp hq (fun a1 a2 b1 b2=>?_) ?_
 ·have m1:=qnI a1 b1
  have m3:=qnI (show((p.den:Int)).natAbs<1000000000 by omega) (show((q.den:Int)).natAbs<1000000000 by omega)
  simp only
  rw[qg (n:=p.num*q.num) (by omega) (by omega),qg (n:=(p.den:Int)*(q.den:Int)) (by omega) (by omega),qlW (by omega) (by omega) (by omega) (by omega) (by omega) (qdR p q),<-qdz]
 rw[qde hN (hp.mono (by omega)),ZB,qde hN (hq.mono (by omega)),ZB]
 simp only
 rw[qeI (by omega) (p1.mono (by omega)) (q1.mono (by omega)),ZB,qeI (by omega) (p2.mono (by omega)) (q2.mono (by omega)),ZB,qdV hN (B:=n+n) (by omega) (by omega) (xK p1 q1) (xK p2 q2) (qdR p q),ZB,<-qdz]
theorem qjP {p q:Rat} {n:Nat} (hn:0<n) (hp:Sml p (9*n)) (hq:Sml q (9*n)):Sml (p+q) (9*(n+n+1)):=by
 have p1:=qb4 (n:=n) hp (by omega) (by omega)
 have p2:=qb1 (n:=n) hp (by omega) (by omega)
 have q1:=qb4 (n:=n) hq (by omega) (by omega)
 have q2:=qb1 (n:=n) hq (by omega) (by omega)
 rw[qdM]
 obtain⟨f1,f2⟩:=qgE (qdR p q) (qky (xK p1 q2) (xK q1 p2)) ((xK p2 q2).mono (show n+n<=n+n+1 by omega))
 exact qix f1 f2 (by omega)
theorem qcP {p q:Rat} {n:Nat} (hn:0<n) (hp:Sml p (9*n)) (hq:Sml q (9*n)):Sml (p*q) (9*(n+n)):=by
 have p1:=qb4 (n:=n) hp (by omega) (by omega)
 have p2:=qb1 (n:=n) hp (by omega) (by omega)
 have q1:=qb4 (n:=n) hq (by omega) (by omega)
 have q2:=qb1 (n:=n) hq (by omega) (by omega)
 rw[qdz]
 obtain⟨f1,f2⟩:=qgE (qdR p q) (xK p1 q1) (xK p2 q2)
 exact qix f1 f2 (by omega)
theorem qjj {p:Rat} {k:Nat} (h:Sml p k):Sml (-p) k:=by
 unfold Sml
 rw[Rat.neg_num,Rat.neg_den,Int.natAbs_neg]
 exact h
theorem qp9 {p:Rat} {k:Nat} (h:Sml p k) (h0:p≠0):Sml p⁻¹ k:=by
 have hn:p.num≠0:=fun c=>h0 (Rat.num_eq_zero.1 c)
 unfold Sml
 rw[Rat.num_inv,Rat.den_inv,if_neg hn,Int.natAbs_mul,Int.natAbs_sign_of_ne_zero hn,Nat.one_mul,Int.natAbs_natCast]
 exact⟨h.2,h.1⟩
theorem qfI {N:Nat} (hN:600000<N) {p q:Rat} {k:Nat} (hk0:0<k) (hk:k<=4000) (hp:Sml p k) (hq:Sml q k):xY N (T p) (T q)=some (T (p-q)):=by
 have hl:=qbM hq
 unfold xY
 rw[qqD (N:=N) (by omega),ZB,qmU hN hk0 hk hp (qjj hq),ZB,Rat.sub_eq_add_neg]
theorem qcG {N:Nat} (hN:600000<N) {p q:Rat} {k:Nat} (hk0:0<k) (hk:k<=4000) (hp:Sml p k) (hq:Sml q k):ym N (T p) (T q)=some (if p<q then-1 else if p=q then 0 else 1):=by
 unfold ym
 rw[qfI hN hk0 hk hp hq,ZB,qlX,ZB]
 have a1:((p-q).num<0)=(p<q):=by
  apply propext
  rw[<-Rat.not_le,Rat.le_iff_sub_nonneg q p,<-Rat.num_nonneg]
  omega
 have a2:((p-q).num=0)=(p=q):=by
  apply propext
  rw[Rat.num_eq_zero]
  constructor
  ·intro h
   have:p-q+q=p:=Rat.sub_add_cancel
   rw[h,Rat.zero_add]at this
   exact this.symm
  intro h
  rw[h,Rat.sub_self]
 simp only[a1,a2]
theorem qqe {N:Nat} (hN:600000<N) {p:Rat} {k:Nat} (hk0:0<k) (hk:k<=4000) (hp:Sml p k) (h0:p≠0):yQ N (T p)=some (T p⁻¹):=by
 obtain⟨n,hn⟩: ∃n:Nat,n=500:=⟨_,rfl⟩
 have p1:=qb4 (n:=n) hp hk0 (by omega)
 have p2:=qb1 (n:=n) hp hk0 (by omega)
 unfold yQ
 rw[qde hN (hp.mono (by omega)),ZB]
 simp only
 rw[qdV hN (B:=n) (by omega) (by omega) p2 p1 (fun c=>h0 (Rat.num_eq_zero.1 c)),ZB,<-Rat.inv_def]
theorem qjR {N:Nat} (hN:600000<N) {p q:Rat} {k:Nat} (hk0:0<k) (hk:k<=4000) (hp:Sml p k) (hq:Sml q k) (h0:q≠0):qbB N (T p) (T q)=some (T (p/q)):=by
 unfold qbB
 rw[qqe hN hk0 hk hq h0,ZB,qcH hN hk0 hk hp (qp9 hq h0),ZB,<-Rat.div_def]
end Go.Av
end
section
namespace Go.Av
theorem qnt {N:Nat} (hN:600000<N) {a b:Str} (ha:a.length<=10000) (hb:b.length<=10000):xS N [a,b]=some (if chk a=0 then chk b else chk a):=by
 have e1:=qiK hN ha
 have e2:=qiK hN hb
 unfold xS
 obtain⟨K,hK⟩: ∃K,N=K+1+1+1:=⟨N-3,by omega⟩
 have L:qW N [a,b] (K+1+1+1) 0=some (if chk a=0 then(if chk b=0 then .inl ()else .inr (chk b))else .inr (chk a)):=by
  rw[qW,if_pos (by simp),xm]
  simp only[Yj,ZB]
  rw[e1,ZB]
  by_cases c:chk a=0
  ·rw[if_neg (by simp[c]),if_pos c,show w64 (0+1)=((1:Nat):Int)from rfl,qW,if_pos (by simp),qz]
   simp only[YK,Yj,ZB]
   rw[e2,ZB]
   by_cases d:chk b=0
   ·rw[if_neg (by simp[d]),if_pos d,show w64 (((1:Nat):Int)+1)=2 from rfl,qW,if_neg (by simp)]
   rw[if_pos (by simp[d]),if_neg d]
  rw[if_pos (by simp[c]),if_neg c]
 rw[show qW N [a,b] N 0=qW N [a,b] (K+1+1+1) 0 by rw[<-hK],L,ZB]
 by_cases c:chk a=0
 ·by_cases d:chk b=0
  ·rw[if_pos c,if_pos d,if_pos c,d]
  rw[if_pos c,if_neg d,if_pos c]
 rw[if_neg c,if_neg c]
def res (q:Rat):Str×Int:=if qjY q=true then([],4)else(T q,0)
section ops
variable {N:Nat} (hN:600000<N)
include hN
variable {p q:Rat} (hp:Sml p 600) (hq:Sml q 600) (cp:chk (T p)=0) (cq:chk (T q)=0)
include hp hq cp cq
end ops
end Go.Av
end
section
namespace Go.Av
end Go.Av
end
section
namespace Go.Av
end Go.Av
end
section
namespace Go.Av
open Classical
theorem rrow2 {N:Nat} (hN:600000<N) {a b:Str} (ha:a.length<=10000) (hb:b.length<=10000):qas N [a,b]=some (if chk a=0 then chk b else chk a):=by
 have e1:=qgs hN ha
 have e2:=qgs hN hb
 unfold qas
 obtain⟨K,hK⟩: ∃K,N=K+1+1+1:=⟨N-3,by omega⟩
 have L:ko N [a,b] (K+1+1+1) 0=some (if chk a=0 then(if chk b=0 then .inl ()else .inr (chk b))else .inr (chk a)):=by
  rw[ko,if_pos (by simp),xm]
  simp only[Yj,ZB]
  rw[e1,ZB]
  by_cases c:chk a=0
  ·rw[if_neg (by simp[c]),if_pos c,show w64 (0+1)=((1:Nat):Int)from rfl,ko,if_pos (by simp),qz]
   simp only[YK,Yj,ZB]
   rw[e2,ZB]
   by_cases d:chk b=0
   ·rw[if_neg (by simp[d]),if_pos d,show w64 (((1:Nat):Int)+1)=2 from rfl,ko,if_neg (by simp)]
   rw[if_pos (by simp[d]),if_neg d]
  rw[if_pos (by simp[c]),if_neg c]
 rw[show ko N [a,b] N 0=ko N [a,b] (K+1+1+1) 0 by rw[<-hK],L,ZB]
 by_cases c:chk a=0
 ·by_cases d:chk b=0
  ·rw[if_pos c,if_pos d,if_pos c,d]
  rw[if_pos c,if_neg d,if_pos c]
 rw[if_neg c,if_neg c]
noncomputable def qke (s:qC):Int:=if chk s.Low=0 then(if chk s.High=0 then(if∃p q:Rat,s.Low=T p/\s.High=T q/\q<p then 11 else 0)else chk s.High)else chk s.Low
theorem qep {p q:Rat} (hp:chk (T p)=0) (hq:chk (T q)=0):qke ⟨T p,T q⟩=if q<p then 11 else 0:=by
 unfold qke
 rw[if_pos hp,if_pos hq]
 by_cases h:q<p
 ·rw[if_pos h,if_pos ⟨p,q,rfl,rfl,h⟩]
 rw[if_neg h,if_neg]
 rintro⟨p',q',e1,e2,h'⟩
 rw[qoJ e1,qoJ e2]at h
 exact h h'
theorem ncmp {N:Nat} (hN:600000<N) {p q:Rat} (hp:Sml p 600) (hq:Sml q 600): ∃f g,qbb N (T p)=some f/\qbb N (T q)=some g/\jR N f g=some (if p<q then-1 else if p=q then 0 else 1):=by
 have f1:=xR (n:=32) hp (by omega) (by omega)
 have f2:=xR (n:=32) hq (by omega) (by omega)
 obtain⟨f,e1,i1⟩:=qg7 hN (hp.mono (show 600<=9000 by omega))
 obtain⟨g,e2,i2⟩:=qg7 hN (hq.mono (show 600<=9000 by omega))
 exact⟨f,g,e1,e2,qjg hN i1 i2 (n:=32) (by omega) f1 f2⟩
theorem qaQ {p q:Rat}:((if p<q then-1 else if p=q then 0 else 1:Int)>0)↔q<p:=by
 by_cases h:p<q
 ·rw[if_pos h]
  exact⟨fun c=>absurd c (by decide),fun c=>absurd c (Rat.not_lt.2 (Rat.le_of_lt h))⟩
 rw[if_neg h]
 by_cases e:p=q
 ·rw[if_pos e]
  exact⟨fun c=>absurd c (by decide),fun c=>absurd (e▸c) Rat.lt_irrefl⟩
 rw[if_neg e]
 refine⟨fun _=>?_,fun _=>by decide⟩
 exact Rat.lt_of_le_of_ne (Rat.not_lt.1 h) (Ne.symm e)
theorem qjw {p q:Rat}:((if p<q then-1 else if p=q then 0 else 1:Int)<0)↔p<q:=by
 by_cases h:p<q
 ·rw[if_pos h]
  exact⟨fun _=>h,fun _=>by decide⟩
 rw[if_neg h]
 refine⟨fun c=>?_,fun c=>absurd c h⟩
 by_cases e:p=q
 ·rw[if_pos e]at c
  exact absurd c (by decide)
 rw[if_neg e]at c
 exact absurd c (by decide)
theorem qjQ {p q:Rat}:((if p<q then-1 else if p=q then 0 else 1:Int)<=0)↔p<=q:=by
 rw[<-Int.not_lt,<-Rat.not_lt]
 exact not_congr qaQ
theorem qog {p q:Rat}:((if p<q then-1 else if p=q then 0 else 1:Int)>=0)↔q<=p:=by
 rw[ge_iff_le,<-Int.not_lt,<-Rat.not_lt]
 exact not_congr qjw
theorem qbD {N:Nat} (hN:600000<N) {s:qC} (h1:s.Low.length<=10000) (h2:s.High.length<=10000):zt N s=some (qke s):=by
 obtain⟨a,b⟩:=s
 unfold zt ze
 simp only at h1 h2
 rw[qnt hN h1 h2,ZB]
 by_cases c:chk a=0
 ·rw[if_pos c]
  by_cases d:chk b=0
  ·obtain⟨p,rfl,p1,p2⟩:=qeN c
   obtain⟨q,rfl,q1,q2⟩:=qeN d
   obtain⟨f,g,e1,e2,e3⟩:=ncmp hN (p:=p) (q:=q) ⟨p1,p2⟩ ⟨q1,q2⟩
   rw[if_neg (by simp[d]),e1,ZB,e2,ZB,e3,ZB,qep c d]
   by_cases h:q<p
   ·rw[if_pos (decide_eq_true (qaQ.2 h)),if_pos h,ZB]
   rw[if_neg (fun x=>h (qaQ.1 (of_decide_eq_true x))),if_neg h,ZB]
  rw[if_pos (by simp[d])]
  unfold qke
  rw[if_pos c,if_neg d]
 rw[if_neg c,if_pos (by simp[c])]
 unfold qke
 rw[if_neg c]
theorem qe9 {N:Nat} (hN:600000<N) {s:qC} (h1:s.Low.length<=10000) (h2:s.High.length<=10000):ky N s=some (qke s):=by
 obtain⟨a,b⟩:=s
 unfold ky
 simp only at h1 h2
 rw[rrow2 hN h1 h2,ZB]
 by_cases c:chk a=0
 ·rw[if_pos c]
  by_cases d:chk b=0
  ·obtain⟨p,rfl,p1,p2⟩:=qeN c
   obtain⟨q,rfl,q1,q2⟩:=qeN d
   rw[if_pos d,qcG hN (k:=600) (by omega) (by omega) ⟨p1,p2⟩ ⟨q1,q2⟩,ZB,ZB,qep c d]
   by_cases h:q<p
   ·rw[if_pos (decide_eq_true (qaQ.2 h)),if_pos h,ZB]
   rw[if_neg (fun x=>h (qaQ.1 (of_decide_eq_true x))),if_neg h,d,ZB]
  rw[if_neg d,ZB,if_neg (by simp),ZB]
  unfold qke
  rw[if_pos c,if_neg d]
 rw[if_neg c,if_neg c,ZB,if_neg (by simp),ZB]
 unfold qke
 rw[if_neg c]
def mnL:Rat->List Rat->Rat
 |m,[]=>m
 |m,x::xs=>mnL (if x<m then x else m) xs
def mxL:Rat->List Rat->Rat
 |m,[]=>m
 |m,x::xs=>mxL (if m<x then x else m) xs
def IsL:List qo->List Rat->Prop
 |[],[]=>True
 |f::l,q::r=>IsF f q/\IsL l r
 |_,_=>False
theorem IsL.get: ∀{l:List qo} {r:List Rat},IsL l r->l.length=r.length/\ ∀(i:Nat) (q:Rat),r[i]? =some q-> ∃f,l[i]? =some f/\IsF f q
 |[],[],_=>⟨rfl,fun i q h=>by simp at h⟩
 |f::l,q::r,h=>by
  obtain⟨h1,h2⟩:=h
  obtain⟨a,b⟩:=IsL.get h2
  refine⟨by simp[a],fun i x hx=>?_⟩
  match i,hx with
  |0,hx=>
   simp at hx
   exact⟨f,rfl,hx▸h1⟩
  |i+1,hx=>
   rw[YK]at hx⊢
   exact b i x hx
 |[],_::_,h=>h.elim
 |_::_,[],h=>h.elim
theorem qlZ {N:Nat} (hN:600000<N) {l:List qo} {r:List Rat} (hl:IsL l r) {n:Nat} (hn:n<=1900) (hr:r.length<=1000) (hf: ∀x∈r,qaz x n): ∀(K i:Nat) (g:qo) (m:Rat),i<=r.length->r.length<K+i->IsF g m->qaz m n->
 ∃h:qo,qZ N l K g.Num.s g.Num.w g.Den.s g.Den.w (i:Int)=some (h.Num.s,h.Num.w,h.Den.s,h.Den.w)/\IsF h (mnL m (r.drop i))
 |0,i,g,m,hi,hK,_,_=>by omega
 |K+1,i,g,m,hi,hK,ig,fm=>by
  obtain⟨ll,lg⟩:=hl.get
  rw[qZ]
  by_cases h:i<r.length
  ·obtain⟨x,e,ix⟩:=lg i r[i] (Ya h)
   have fx:=hf r[i] (List.getElem_mem h)
   rw[if_pos (by omega),qz,e,ZB,YG h,mnL,zy (by omega)]
   have ec:jR N x ⟨⟨g.Num.s,g.Num.w⟩,⟨g.Den.s,g.Den.w⟩⟩=some (if r[i]<m then-1 else if r[i]=m then 0 else 1):=qjg hN ix ig hn fx fm
   rw[ec,ZB]
   by_cases c:r[i]<m
   ·rw[if_pos (qjw.2 c),if_pos c]
    exact qlZ hN hl hn hr hf K (i+1) x r[i] (by omega) (by omega) ix fx
   rw[if_neg (fun y=>c (qjw.1 y)),if_neg c]
   exact qlZ hN hl hn hr hf K (i+1) g m (by omega) (by omega) ig fm
  rw[if_neg (by omega),List.drop_eq_nil_of_le (by omega)]
  exact⟨g,rfl,ig⟩
theorem qhI {N:Nat} (hN:600000<N) {f:qo} {q:Rat} {l:List qo} {r:List Rat} (hl:IsL (f::l) (q::r)) {n:Nat} (hn:n<=1900) (hr:r.length<=900) (hf: ∀x∈q::r,qaz x n): ∃h,zO N (f::l)=some h/\IsF h (mnL q r):=by
 obtain⟨h,e,i⟩:=qlZ hN hl hn (by simp;omega) hf N 1 f q (by simp) (by simp;omega) hl.1 (hf q (by simp))
 refine⟨h,?_,i⟩
 unfold zO
 rw[if_neg (by simp;omega),ZB,xm,Yj,ZB]
 have e':=e
 rw[show((1:Nat):Int)=1 from rfl]at e'
 rw[e',ZB]
theorem qlJ {N:Nat} (hN:600000<N) {l:List qo} {r:List Rat} (hl:IsL l r) {n:Nat} (hn:n<=1900) (hr:r.length<=1000) (hf: ∀x∈r,qaz x n): ∀(K i:Nat) (g:qo) (m:Rat),i<=r.length->r.length<K+i->IsF g m->qaz m n->
 ∃h:qo,kg N l K g.Num.s g.Num.w g.Den.s g.Den.w (i:Int)=some (h.Num.s,h.Num.w,h.Den.s,h.Den.w)/\IsF h (mxL m (r.drop i))
 |0,i,g,m,hi,hK,_,_=>by omega
 |K+1,i,g,m,hi,hK,ig,fm=>by
  obtain⟨ll,lg⟩:=hl.get
  rw[kg]
  by_cases h:i<r.length
  ·obtain⟨x,e,ix⟩:=lg i r[i] (Ya h)
   have fx:=hf r[i] (List.getElem_mem h)
   rw[if_pos (by omega),qz,e,ZB,YG h,mxL,zy (by omega)]
   have ec:jR N x ⟨⟨g.Num.s,g.Num.w⟩,⟨g.Den.s,g.Den.w⟩⟩=some (if r[i]<m then-1 else if r[i]=m then 0 else 1):=qjg hN ix ig hn fx fm
   rw[ec,ZB]
   by_cases c:m<r[i]
   ·rw[if_pos (qaQ.2 c),if_pos c]
    exact qlJ hN hl hn hr hf K (i+1) x r[i] (by omega) (by omega) ix fx
   rw[if_neg (fun y=>c (qaQ.1 y)),if_neg c]
   exact qlJ hN hl hn hr hf K (i+1) g m (by omega) (by omega) ig fm
  rw[if_neg (by omega),List.drop_eq_nil_of_le (by omega)]
  exact⟨g,rfl,ig⟩
theorem qis {N:Nat} (hN:600000<N) {f:qo} {q:Rat} {l:List qo} {r:List Rat} (hl:IsL (f::l) (q::r)) {n:Nat} (hn:n<=1900) (hr:r.length<=900) (hf: ∀x∈q::r,qaz x n): ∃h,zQ N (f::l)=some h/\IsF h (mxL q r):=by
 obtain⟨h,e,i⟩:=qlJ hN hl hn (by simp;omega) hf N 1 f q (by simp) (by simp;omega) hl.1 (hf q (by simp))
 refine⟨h,?_,i⟩
 unfold zQ
 rw[if_neg (by simp;omega),ZB,xm,Yj,ZB]
 have e':=e
 rw[show((1:Nat):Int)=1 from rfl]at e'
 rw[e',ZB]
theorem qmn {N:Nat} (hN:600000<N) {p q:Rat} {k:Nat} (hk0:0<k) (hk:k<=4000) (hp:Sml p k) (hq:Sml q k):qcc N (T p) (T q)=some (T (if q<p then q else p)):=by
 unfold qcc
 rw[qcG hN hk0 hk hp hq,ZB]
 by_cases h:q<p
 ·rw[if_neg (fun c=>absurd h (Rat.not_lt.2 (qjQ.1 c))),if_pos h]
 rw[if_pos (qjQ.2 (Rat.not_lt.1 h)),if_neg h]
theorem ql7 {N:Nat} (hN:600000<N) {p q:Rat} {k:Nat} (hk0:0<k) (hk:k<=4000) (hp:Sml p k) (hq:Sml q k):qb6 N (T p) (T q)=some (T (if p<q then q else p)):=by
 unfold qb6
 rw[qcG hN hk0 hk hp hq,ZB]
 by_cases h:p<q
 ·rw[if_neg (fun c=>absurd h (Rat.not_lt.2 (qog.1 c))),if_pos h]
 rw[if_pos (qog.2 (Rat.not_lt.1 h)),if_neg h]
theorem qmE {N:Nat} (hN:600000<N) {r:List Rat} (hr:r.length<=1000) {k:Nat} (hk0:0<k) (hk:k<=4000) (hf: ∀x∈r,Sml x k): ∀(K i:Nat) (a b:Rat),i<=r.length->r.length<K+i->Sml a k->Sml b k->
 yF N (r.map T) K (T a) (T b) (i:Int)=some (T (mnL a (r.drop i)),T (mxL b (r.drop i)))
 |0,i,a,b,hi,hK,_,_=>by omega
 |K+1,i,a,b,hi,hK,ha,hb=>by
  rw[yF]
  by_cases h:i<r.length
  ·have fx:=hf r[i] (List.getElem_mem h)
   rw[if_pos (by rw[List.length_map];omega),qz,YA,Ya h,ZM,ZB,qmn hN hk0 hk ha fx,ZB,ql7 hN hk0 hk hb fx,ZB,YG h,mnL,mxL,zy (by omega)]
   exact qmE hN hr hk0 hk hf K (i+1) _ _ (by omega) (by omega) (by split<;>assumption) (by split<;>assumption)
  rw[if_neg (by rw[List.length_map];omega),List.drop_eq_nil_of_le (by omega)]
  rfl
theorem qp1 {N:Nat} (hN:600000<N) {q:Rat} {r:List Rat} (hr:r.length<=900) {k:Nat} (hk0:0<k) (hk:k<=4000) (hf: ∀x∈q::r,Sml x k):qco N ((q::r).map T)=some ⟨T (mnL q r),T (mxL q r)⟩:=by
 have e:=qmE hN (r:=q::r) (by simp;omega) hk0 hk hf N 1 q q (by simp) (by simp;omega) (hf q (by simp)) (hf q (by simp))
 rw[show((1:Nat):Int)=1 from rfl]at e
 unfold qco
 rw[xm,List.map_cons,Yj,ZB,<-List.map_cons,e,ZB]
 rfl
theorem qd1 {N:Nat} (hN:600000<N) {p q:Rat} (hp:Sml p 9000) (hq:Sml q 9000): ∃f g,xc N [T p,T q]=some [f,g]/\IsF f p/\IsF g q:=by
 obtain⟨f,e1,i1⟩:=qg7 hN hp
 obtain⟨g,e2,i2⟩:=qg7 hN hq
 refine⟨f,g,?_,i1,i2⟩
 obtain⟨K,hK⟩: ∃K,N=K+1+1+1:=⟨N-3,by omega⟩
 unfold xc
 rw[show mk 64 (([T p,T q].length:Nat):Int) (⟨⟨0,[]⟩,⟨0,[]⟩⟩:qo)=some [⟨⟨0,[]⟩,⟨0,[]⟩⟩,⟨⟨0,[]⟩,⟨0,[]⟩⟩]by unfold mk;rw[if_pos (by simp)];rfl,ZB]
 have L:zK N [T p,T q] (K+1+1+1) [⟨⟨0,[]⟩,⟨0,[]⟩⟩,⟨⟨0,[]⟩,⟨0,[]⟩⟩] 0=some [f,g]:=by
  rw[zK,if_pos (by simp),xm,Yj,ZB,e1,ZB,xm,Yj,ZB,show(0:Int)=((0:Nat):Int)from rfl,vM (by simp),ZB,List.set_cons_zero,zy (by omega),zK,if_pos (by simp),qz,YK,Yj,ZB,e2,ZB,qz,YK,Yj,ZB,vM (by simp),ZB,List.set_cons_succ,List.set_cons_zero,zy (by omega),zK,if_neg (by simp)]
 rw[show zK N [T p,T q] N [⟨⟨0,[]⟩,⟨0,[]⟩⟩,⟨⟨0,[]⟩,⟨0,[]⟩⟩] 0=zK N [T p,T q] (K+1+1+1) [⟨⟨0,[]⟩,⟨0,[]⟩⟩,⟨⟨0,[]⟩,⟨0,[]⟩⟩] 0 by rw[<-hK],L,ZB]
theorem qjL {N:Nat} (hN:600000<N) {f g:qo} {p q:Rat} (hf:IsF f p) (hg:IsF g q) (fp:qaz p 3900) (fq:qaz q 3900):qal N f g=some (if qjY p=true\/qjY q=true then(⟨[],[]⟩,4)else(⟨T p,T q⟩,0)):=by
 unfold qal
 rw[qj8 hN hf fp,ZB,qj8 hN hg fq]
 cases h1:qjY p with
 |true=>rw[if_pos rfl,ZB,if_pos rfl,if_pos (.inl rfl)]
 |false=>
  rw[if_neg (by simp),ZB,ZB]
  cases h2:qjY q with
  |true=>rw[if_pos rfl,if_pos (.inr rfl)]
  |false=>rw[if_neg (by simp),qma hN hf fp,ZB,qma hN hg fq,ZB,if_neg (by simp)]
theorem qjZ: ∀(r:List Rat) (m:Rat),mnL m r=m\/mnL m r∈r
 |[],m=> .inl rfl
 |x::r,m=>by
  rw[mnL]
  by_cases h:x<m
  ·rw[if_pos h]
   rcases qjZ r x with e|e
   ·rw[e];simp
   exact .inr (List.mem_cons_of_mem _ e)
  rw[if_neg h]
  rcases qjZ r m with e|e
  ·exact .inl e
  exact .inr (List.mem_cons_of_mem _ e)
theorem qjC: ∀(r:List Rat) (m:Rat),mxL m r=m\/mxL m r∈r
 |[],m=> .inl rfl
 |x::r,m=>by
  rw[mxL]
  by_cases h:m<x
  ·rw[if_pos h]
   rcases qjC r x with e|e
   ·rw[e];simp
   exact .inr (List.mem_cons_of_mem _ e)
  rw[if_neg h]
  rcases qjC r m with e|e
  ·exact .inl e
  exact .inr (List.mem_cons_of_mem _ e)
theorem qcR {P:Rat->Prop} {m:Rat} {r:List Rat} (h: ∀x∈m::r,P x):P (mnL m r):=by
 rcases qjZ r m with e|e
 ·rw[e];exact h m (by simp)
 exact h _ (List.mem_cons_of_mem _ e)
theorem qcK {P:Rat->Prop} {m:Rat} {r:List Rat} (h: ∀x∈m::r,P x):P (mxL m r):=by
 rcases qjC r m with e|e
 ·rw[e];exact h m (by simp)
 exact h _ (List.mem_cons_of_mem _ e)
def qfb (F:Rat->Rat->Rat) (p p' q q':Rat):qC:=⟨T (mnL (F p q) [F p q',F p' q,F p' q']),T (mxL (F p q) [F p q',F p' q,F p' q'])⟩
theorem qp3 {N:Nat} (hN:600000<N) {p p' q q':Rat} (hp:Sml p 600) (hp':Sml p' 600) (hq:Sml q 600) (hq':Sml q' 600) (l1: ∀x∈[p+q,p+q',p'+q,p'+q'],Sml x 600):
 yo N ⟨T p,T p'⟩ ⟨T q,T q'⟩=some (qfb (fun x y=>x+y) p p' q q',0):=by
 have fp:=(xR (n:=64) hp (by omega) (by omega))
 have fp':=(xR (n:=64) hp' (by omega) (by omega))
 have fq:=(xR (n:=64) hq (by omega) (by omega))
 have fq':=(xR (n:=64) hq' (by omega) (by omega))
 obtain⟨f,f',e1,i,i'⟩:=qd1 hN (hp.mono (show 600<=9000 by omega)) (hp'.mono (show 600<=9000 by omega))
 obtain⟨g,g',e2,j,j'⟩:=qd1 hN (hq.mono (show 600<=9000 by omega)) (hq'.mono (show 600<=9000 by omega))
 obtain⟨a,ea,ia⟩:=qgX hN i j (n:=64) (by omega) fp fq
 obtain⟨b,eb,ib⟩:=qgX hN i j' (n:=64) (by omega) fp fq'
 obtain⟨c,ec,ic⟩:=qgX hN i' j (n:=64) (by omega) fp' fq
 obtain⟨d,ed,id⟩:=qgX hN i' j' (n:=64) (by omega) fp' fq'
 obtain⟨K,hK⟩: ∃K,N=K+1+1+1:=⟨N-3,by omega⟩
 have L1: ∀(x y z:qo) (l:List qo),l.length<=10->xH N x g=some y->xH N x g'=some z->qG N x [g,g'] N l 0=some (l++[y]++[z]):=by
  intro x y z l hl h1 h2
  have:qG N x [g,g'] (K+1+1+1) l 0=some (l++[y]++[z]):=by
   rw[qG,if_pos (by simp),xm,Yj,ZB,h1,ZB,qa6 (by simp;omega) (by simp;omega),ZB,show w64 (0+1)=((1:Nat):Int)from rfl,qG,if_pos (by simp),qz,YK,Yj,ZB,h2,ZB,qa6 (by simp;omega) (by simp;omega),ZB,show w64 (((1:Nat):Int)+1)=2 from rfl,qG,if_neg (by simp)]
  rw[show qG N x [g,g'] N l 0=qG N x [g,g'] (K+1+1+1) l 0 by rw[<-hK],this]
 have L0:qI N ⟨T q,T q'⟩ [f,f'] N [] 0=some [a,b,c,d]:=by
  have:qI N ⟨T q,T q'⟩ [f,f'] (K+1+1+1) [] 0=some [a,b,c,d]:=by
   rw[qI,if_pos (by simp),xm,Yj,ZB,e2,ZB,L1 f a b [] (by simp) ea eb,ZB,show w64 (0+1)=((1:Nat):Int)from rfl,qI,if_pos (by simp),qz,YK,Yj,ZB,e2,ZB,L1 f' c d _ (by simp) ec ed,ZB,show w64 (((1:Nat):Int)+1)=2 from rfl,qI,if_neg (by simp)]
   rfl
  rw[show qI N ⟨T q,T q'⟩ [f,f'] N [] 0=qI N ⟨T q,T q'⟩ [f,f'] (K+1+1+1) [] 0 by rw[<-hK],this]
 have hl:IsL [a,b,c,d] [p+q,p+q',p'+q,p'+q']:=⟨ia,ib,ic,id,trivial⟩
 have hf: ∀x∈[p+q,p+q',p'+q,p'+q'],qaz x 64:=fun x hx=>xR (l1 x hx) (by omega) (by omega)
 obtain⟨m,em,im⟩:=qhI hN hl (n:=64) (by omega) (by simp) hf
 obtain⟨w,ew,iw⟩:=qis hN hl (n:=64) (by omega) (by simp) hf
 unfold yo
 rw[e1,ZB,L0,ZB,em,ZB,ew,ZB,qjL hN im iw ((qcR hf).mono (by omega)) ((qcK hf).mono (by omega)),ZB,if_neg]
 ·rfl
 rw[qdf (qcR l1),qdf (qcK l1)]
 simp
theorem qpT {N:Nat} (hN:600000<N) {p p' q q':Rat} (hp:Sml p 600) (hp':Sml p' 600) (hq:Sml q 600) (hq':Sml q' 600) (l1: ∀x∈[p*q,p*q',p'*q,p'*q'],Sml x 600):
 yu N ⟨T p,T p'⟩ ⟨T q,T q'⟩=some (qfb (fun x y=>x*y) p p' q q',0):=by
 have fp:=(xR (n:=64) hp (by omega) (by omega))
 have fp':=(xR (n:=64) hp' (by omega) (by omega))
 have fq:=(xR (n:=64) hq (by omega) (by omega))
 have fq':=(xR (n:=64) hq' (by omega) (by omega))
 obtain⟨f,f',e1,i,i'⟩:=qd1 hN (hp.mono (show 600<=9000 by omega)) (hp'.mono (show 600<=9000 by omega))
 obtain⟨g,g',e2,j,j'⟩:=qd1 hN (hq.mono (show 600<=9000 by omega)) (hq'.mono (show 600<=9000 by omega))
 obtain⟨a,ea,ia⟩:=qgV hN i j (n:=64) (by omega) fp fq
 obtain⟨b,eb,ib⟩:=qgV hN i j' (n:=64) (by omega) fp fq'
 obtain⟨c,ec,ic⟩:=qgV hN i' j (n:=64) (by omega) fp' fq
 obtain⟨d,ed,id⟩:=qgV hN i' j' (n:=64) (by omega) fp' fq'
 obtain⟨K,hK⟩: ∃K,N=K+1+1+1:=⟨N-3,by omega⟩
 have L1: ∀(x y z:qo) (l:List qo),l.length<=10->xI N x g=some y->xI N x g'=some z->qF N x [g,g'] N l 0=some (l++[y]++[z]):=by
  intro x y z l hl h1 h2
  have:qF N x [g,g'] (K+1+1+1) l 0=some (l++[y]++[z]):=by
   rw[qF,if_pos (by simp),xm,Yj,ZB,h1,ZB,qa6 (by simp;omega) (by simp;omega),ZB,show w64 (0+1)=((1:Nat):Int)from rfl,qF,if_pos (by simp),qz,YK,Yj,ZB,h2,ZB,qa6 (by simp;omega) (by simp;omega),ZB,show w64 (((1:Nat):Int)+1)=2 from rfl,qF,if_neg (by simp)]
  rw[show qF N x [g,g'] N l 0=qF N x [g,g'] (K+1+1+1) l 0 by rw[<-hK],this]
 have L0:qH N ⟨T q,T q'⟩ [f,f'] N [] 0=some [a,b,c,d]:=by
  have:qH N ⟨T q,T q'⟩ [f,f'] (K+1+1+1) [] 0=some [a,b,c,d]:=by
   rw[qH,if_pos (by simp),xm,Yj,ZB,e2,ZB,L1 f a b [] (by simp) ea eb,ZB,show w64 (0+1)=((1:Nat):Int)from rfl,qH,if_pos (by simp),qz,YK,Yj,ZB,e2,ZB,L1 f' c d _ (by simp) ec ed,ZB,show w64 (((1:Nat):Int)+1)=2 from rfl,qH,if_neg (by simp)]
   rfl
  rw[show qH N ⟨T q,T q'⟩ [f,f'] N [] 0=qH N ⟨T q,T q'⟩ [f,f'] (K+1+1+1) [] 0 by rw[<-hK],this]
 have hl:IsL [a,b,c,d] [p*q,p*q',p'*q,p'*q']:=⟨ia,ib,ic,id,trivial⟩
 have hf: ∀x∈[p*q,p*q',p'*q,p'*q'],qaz x 64:=fun x hx=>xR (l1 x hx) (by omega) (by omega)
 obtain⟨m,em,im⟩:=qhI hN hl (n:=64) (by omega) (by simp) hf
 obtain⟨w,ew,iw⟩:=qis hN hl (n:=64) (by omega) (by simp) hf
 unfold yu
 rw[e1,ZB,L0,ZB,em,ZB,ew,ZB,qjL hN im iw ((qcR hf).mono (by omega)) ((qcK hf).mono (by omega)),ZB,if_neg]
 ·rfl
 rw[qdf (qcR l1),qdf (qcK l1)]
 simp
end Go.Av
end
section
namespace Go.Av
theorem qh2: ∀(r:List Rat) (m:Rat),∀x∈m::r,mnL m r<=x
 |[],m=>by simp[mnL]
 |y::r,m=>by
  intro x hx
  rw[mnL]
  by_cases h:y<m
  ·rw[if_pos h]
   have ih:=qh2 r y
   rcases List.mem_cons.1 hx with e|e
   ·rw[e]
    exact Rat.le_trans (ih y (by simp)) (Rat.le_of_lt h)
   exact ih x e
  rw[if_neg h]
  have ih:=qh2 r m
  rcases List.mem_cons.1 hx with e|e
  ·rw[e]
   exact ih m (by simp)
  rcases List.mem_cons.1 e with e|e
  ·rw[e]
   exact Rat.le_trans (ih m (by simp)) (Rat.not_lt.1 h)
  exact ih x (List.mem_cons_of_mem _ e)
theorem qhz: ∀(r:List Rat) (m:Rat),∀x∈m::r,x<=mxL m r
 |[],m=>by simp[mxL]
 |y::r,m=>by
  intro x hx
  rw[mxL]
  by_cases h:m<y
  ·rw[if_pos h]
   have ih:=qhz r y
   rcases List.mem_cons.1 hx with e|e
   ·rw[e]
    exact Rat.le_trans (Rat.le_of_lt h) (ih y (by simp))
   exact ih x e
  rw[if_neg h]
  have ih:=qhz r m
  rcases List.mem_cons.1 hx with e|e
  ·rw[e]
   exact ih m (by simp)
  rcases List.mem_cons.1 e with e|e
  ·rw[e]
   exact Rat.le_trans (Rat.not_lt.1 h) (ih m (by simp))
  exact ih x (List.mem_cons_of_mem _ e)
theorem qoH {m v:Rat} {r:List Rat} (h: ∀x∈m::r,v<=x) (hv:v∈m::r):mnL m r=v:=Rat.le_antisymm (qh2 r m v hv) (qcR h)
theorem qnY {m v:Rat} {r:List Rat} (h: ∀x∈m::r,x<=v) (hv:v∈m::r):mxL m r=v:=Rat.le_antisymm (qcK h) (qhz r m v hv)
theorem qo4 {p p' q q':Rat} (h:p<=p') (k:q<=q'):qfb (fun x y=>x+y) p p' q q'=⟨T (p+q),T (p'+q')⟩:=by
 have a1:p+q<=p+q':=Rat.add_le_add_left.2 k
 have a2:p'+q<=p'+q':=Rat.add_le_add_left.2 k
 have a3:p+q<=p'+q:=Rat.add_le_add_right.2 h
 have a4:p+q'<=p'+q':=Rat.add_le_add_right.2 h
 unfold qfb
 rw[qoH (v:=p+q) (by simp only[List.mem_cons,List.not_mem_nil,or_false,forall_eq_or_imp,forall_eq];exact⟨Rat.le_refl,a1,a3,Rat.le_trans a1 a4⟩) (by simp),qnY (v:=p'+q') (by simp only[List.mem_cons,List.not_mem_nil,or_false,forall_eq_or_imp,forall_eq];exact⟨Rat.le_trans a1 a4,a4,a2,Rat.le_refl⟩) (by simp)]
section ops
variable {N:Nat} (hN:600000<N)
include hN
variable {p p' q q':Rat} (hp:Sml p 60) (hp':Sml p' 60) (hq:Sml q 60) (hq':Sml q' 60) (cp:chk (T p)=0) (cp':chk (T p')=0) (cq:chk (T q)=0) (cq':chk (T q')=0) (hpp:p<=p') (hqq:q<=q')
include hp hp' hq hq' cp cp' cq cq' hpp hqq
theorem qqi:zt N ⟨T p,T p'⟩=some 0/\zt N ⟨T q,T q'⟩=some 0:=by
 have l1:=qbM hp
 have l2:=qbM hp'
 have l3:=qbM hq
 have l4:=qbM hq'
 rw[qbD hN (by simp only;omega) (by simp only;omega),qbD hN (by simp only;omega) (by simp only;omega),qep cp cp',qep cq cq',if_neg (Rat.not_lt.2 hpp),if_neg (Rat.not_lt.2 hqq)]
 exact⟨rfl,rfl⟩
theorem qmH:qaB N ⟨T p,T p'⟩ ⟨T q,T q'⟩=some (qfb (fun x y=>x*y) p p' q q',0):=by
 obtain⟨e1,e2⟩:=qqi hN hp hp' hq hq' cp cp' cq cq' hpp hqq
 have S: ∀a b:Rat,Sml a 60->Sml b 60->Sml (a*b) 600:=fun a b hA hB=>(qcP (n:=7) (by omega) (hA.mono (by omega)) (hB.mono (by omega))).mono (by omega)
 unfold qaB vN
 rw[e1,ZB,e2,ZB,qha (by omega),if_pos rfl,ZB,if_neg (by simp),qpT hN (hp.mono (by omega)) (hp'.mono (by omega)) (hq.mono (by omega)) (hq'.mono (by omega)) (by simp only[List.mem_cons,List.not_mem_nil,or_false,forall_eq_or_imp,forall_eq];exact⟨S _ _ hp hq,S _ _ hp hq',S _ _ hp' hq,S _ _ hp' hq'⟩)]
 rfl
end ops
end Go.Av
end
section
namespace Go.Av
theorem tdm {n:Int}:((n.tdiv 1000000000).natAbs:Int)=(n.natAbs:Int)/1000000000/\((n.tmod 1000000000).natAbs:Int)=(n.natAbs:Int)%1000000000/\(n.tmod 1000000000<0->n<0):=by
 rcases Int.lt_or_le n 0 with h|h
 ·obtain⟨m,rfl⟩: ∃m,n= -m:=⟨-n,by omega⟩
  rw[Int.neg_tdiv,Int.neg_tmod,YF (by omega),Int.tmod_eq_emod_of_nonneg (by omega)]
  omega
 rw[YF h,Int.tmod_eq_emod_of_nonneg h]
 omega
theorem qkM: ∀(k K:Nat) (l:List Int) (n:Int),(n.natAbs:Int)<E9^k->k<=3->k<K-> -9223372036854775808<=n->n<=9223372036854775807->l.length+k<=1000-> ∃w,ja K l n=some (l++w)/\Dg E9 w/\dv E9 w=(n.natAbs:Int)/\w.length<=k
 |k,0,l,n,_,_,hK,_,_,_=>by omega
 |k,K+1,l,n,hn,hk,hK,h1,h2,hl=>by
  rw[ja]
  by_cases h0:n=0
  ·rw[if_neg (by simp[h0]),h0]
   exact⟨[],by simp,Dg.nil,rfl,by simp⟩
  match k,hn,hk,hK with
  |0,hn,hk,hK=>
   rw[Int.pow_zero]at hn
   omega
  |k+1,hn,hk,hK=>
   obtain⟨t1,t2,t3⟩:=tdm (n:=n)
   have ed:(if n.tmod 1000000000<0 then some (w64 (0-n.tmod 1000000000))else some (n.tmod 1000000000):Option Int)=some ((n.natAbs:Int)%1000000000):=by
    by_cases c:n.tmod 1000000000<0
    ·rw[if_pos c,qg (by omega) (by omega)]
     congr 1
     omega
    rw[if_neg c]
    congr 1
    omega
   have e9:E9^(k+1)=E9^k*E9:=Int.pow_succ ..
   have hq:((n.tdiv 1000000000).natAbs:Int)<E9^k:=by
    rw[t1]
    exact Int.ediv_lt_of_lt_mul (by decide) (by rw[<-e9];exact hn)
   rw[if_pos (by simp[h0]),ed,ZB,qa6 (by simp;omega) (by simp;omega),ZB,qg (by omega) (by omega)]
   obtain⟨w,e,d1,d2,d3⟩:=qkM k K (l++[(n.natAbs:Int)%1000000000]) (n.tdiv 1000000000) hq (by omega) (by omega) (by omega) (by omega) (by simp;omega)
   refine⟨(n.natAbs:Int)%1000000000::w,by rw[e,Yz];rfl,Dg.cons ⟨by omega,by show _<(1000000000:Int);omega⟩ d1,?_,by simp;omega⟩
   rw[zC,d2,t1]
   show(n.natAbs:Int)%1000000000+1000000000*((n.natAbs:Int)/1000000000)=_
   omega
theorem qoF {N:Nat} (hN:100<N) {n:Int} (h1: -9223372036854775808<=n) (h2:n<=9223372036854775807):vR N n=some (rI n):=by
 obtain⟨w,e,d1,d2,d3⟩:=qkM 3 N [] n (by show _<(1000000000:Int)^3;omega) (by omega) (by omega) h1 h2 (by simp)
 unfold vR
 rw[e,ZB,List.nil_append,xW _ d1 (by omega) (by omega),ZB,d2]
 congr 2
 by_cases c:n<0
 ·rw[if_pos (decide_eq_true c)]
  omega
 rw[if_neg (fun h=>c (of_decide_eq_true h))]
 omega
theorem qnV (n:Int):T (n:Rat)=Lib.itoa n:=by
 unfold T
 rw[Rat.num_intCast,Rat.den_intCast,if_pos rfl,YQ]
theorem qoI {n:Int} (h1: -9223372036854775808<=n) (h2:n<=9223372036854775807):jm n 3:=by
 show(n.natAbs:Int)<(1000000000:Int)^3
 omega
theorem qhX {N:Nat} (hN:60000<N) {n:Int} (h1: -9223372036854775808<=n) (h2:n<=9223372036854775807):xZ N n=some (T (n:Rat)):=by
 unfold xZ
 rw[qoF (by omega) h1 h2,ZB,qjO hN ((qoI h1 h2).mono (by omega)),ZB,qnV]
theorem qms {n:Int} (h1: -9223372036854775808<=n) (h2:n<=9223372036854775807):Sml (n:Rat) 27:=by
 refine qix (n:=3) ?_ ?_ (by omega)
 ·rw[Rat.num_intCast]
  exact qoI h1 h2
 rw[Rat.den_intCast]
 exact qoI (by decide) (by decide)
def bst (x b y:Rat):Rat:=if(x-y).abs<(x-b).abs then y else b
def cnd (x:Rat) (i:Nat):Rat:=Rat.divInt ((x*((i/2:Nat):Rat)).floor+((i%2:Nat):Int)) ((i/2:Nat):Int)
def Fst (x b:Rat) (n:Nat):Prop:= ∃i,2<=i/\i<n/\b=cnd x i/\ ∀j,2<=j->j<n->(x-b).abs<(x-cnd x j).abs\/((x-b).abs=(x-cnd x j).abs/\i<=j)
theorem Fst.step {x b:Rat} {n:Nat} (h:Fst x b n):Fst x (bst x b (cnd x n)) (n+1):=by
 obtain⟨i,h1,h2,h3,h4⟩:=h
 unfold bst
 by_cases c:(x-cnd x n).abs<(x-b).abs
 ·rw[if_pos c]
  refine⟨n,by omega,by omega,rfl,fun j j1 j2=>?_⟩
  by_cases e:j=n
  ·exact .inr ⟨by rw[e],by omega⟩
  rcases h4 j j1 (by omega)with k|⟨k,_⟩
  ·exact .inl (qqG c k)
  exact .inl (k▸c)
 rw[if_neg c]
 refine⟨i,h1,by omega,h3,fun j j1 j2=>?_⟩
 by_cases e:j=n
 ·rw[e]
  rcases Rat.le_iff_lt_or_eq.1 (Rat.not_lt.1 c)with k|k
  ·exact .inl k
  exact .inr ⟨k,by omega⟩
 exact h4 j j1 (by omega)
end Go.Av
end
section
namespace Go.Av
theorem qo7 {n:Nat}:Lib.decDigits n=[48]↔n=0:=by
 constructor
 ·intro h
  exact qlV (h.trans (by rw[zJ (by decide)];rfl))
 rintro rfl
 rw[zJ (by decide)]
 rfl
theorem qpu {n:Nat}:Lib.decDigits n=[49]↔n=1:=by
 constructor
 ·intro h
  exact qlV (h.trans (by rw[zJ (by decide)];rfl))
 rintro rfl
 rw[zJ (by decide)]
 rfl
theorem qd9 {q:Rat} (h:Sml q 600):chk (T q)=0:=by
 have n47:=no47 (qa8 q.num.natAbs)
 have es:=qhw n47 q
 have et:(bdy (T q)).take (slA (bdy (T q)))=Lib.decDigits q.num.natAbs:=by
  rw[qkZ,es,List.take_append_of_le_length (Nat.le_refl _),List.take_length]
 have hd:=den_pos q
 have ed:slA (bdy (T q))<(bdy (T q)).length↔q.den≠1:=by
  rw[qkZ,es,Yq]
  unfold tl
  by_cases c:q.den=1
  ·rw[if_pos c]
   simp[c]
  rw[if_neg c]
  simp[c]
 have er:(bdy (T q)).drop (slA (bdy (T q))+1)=if q.den=1 then[]else Lib.decDigits q.den:=by
  rw[qkZ,es]
  unfold tl
  by_cases c:q.den=1
  ·rw[if_pos c,if_pos c,YQ,List.drop_of_length_le (by omega)]
  rw[if_neg c,if_neg c,List.drop_append,List.drop_of_length_le (by omega),List.nil_append,show(Lib.decDigits q.num.natAbs).length+1-(Lib.decDigits q.num.natAbs).length=1 by omega]
  rfl
 have hok:okF (T q)=true:=by
  unfold okF
  rw[et,qkT]
  refine decide_eq_true ⟨qn3 _,?_⟩
  rintro⟨h1,h2⟩
  have h1:=of_decide_eq_true h1
  have:=qo7.1 h2
  omega
 have hbad:qiu (T q)=false:=by
  unfold qiu
  refine decide_eq_false ?_
  rintro⟨h1,h2⟩
  have c:=ed.1 h1
  rw[er,if_neg c]at h2
  exact h2 ⟨qn3 _,fun e=>by have:=qo7.1 e;omega,fun e=>c (qpu.1 e)⟩
 unfold chk
 rw[if_neg (by rw[hok,hbad];simp),et,er,if_neg,if_neg]
 ·rintro⟨h1,h2⟩
  have c:=ed.1 h1
  rw[if_neg c,qcs,qcs]at h2
  exact h2 q.reduced
 have h1:=h.1
 have h2:=h.2
 split<;>simp<;>omega
theorem Num_T {N:Nat} (hN:100000<N) {q:Rat} (hl:(T q).length<=50000):qdw N (T q)=some (Lib.itoa q.num):=by
 have hs:=qdg (N:=N) (s:=T q) (by omega) (by omega)
 unfold qdw
 rw[hs,ZB]
 by_cases c:q.den=1
 ·obtain⟨t1,t2⟩:=qf7 q c
  rw[yz (by omega),ZB,t2,List.take_length,t1]
 obtain⟨t1,t2,t3⟩:=qgU q c
 rw[yz (by omega),ZB,t2]
theorem Den_T {N:Nat} (hN:100000<N) {q:Rat} (hl:(T q).length<=50000):qdl N (T q)=some (Lib.decDigits q.den):=by
 have hs:=qdg (N:=N) (s:=T q) (by omega) (by omega)
 unfold qdl
 rw[hs,ZB]
 by_cases c:q.den=1
 ·obtain⟨t1,t2⟩:=qf7 q c
  rw[if_pos (by omega),c,zJ (by decide)]
  rfl
 obtain⟨t1,t2,t3⟩:=qgU q c
 rw[if_neg (by omega),zy (by omega),xJ (by omega),ZB,t3]
theorem qnw {z:Int} (hl:(Lib.itoa z).length<=50000):qdq (Lib.itoa z)=some (Lib.decDigits z.natAbs):=by
 have hs:=qlX (z:Rat)
 rw[qnV,Rat.num_intCast]at hs
 unfold qdq
 rw[hs,ZB]
 by_cases c:z<0
 ·have h1:=xJ (l:=(45:UInt8)::Lib.decDigits z.natAbs) (k:=1) (by simp)
  rw[if_pos c,if_pos (by decide),vW c,show(1:Int)=((1:Nat):Int)from rfl,h1]
  rfl
 rw[if_neg c,if_neg (by split<;>decide),jk (by omega)]
theorem qmZ (n:Nat):Lib.decDigits n=T ((n:Int):Rat):=by rw[qnV,qe5]
theorem qnZ {N:Nat} (hN:600000<N) {s:Str} {d:Nat} (hd:0<d) (hd2:d<=1000): ∃b,qb5 N s (d:Int)=some b/\(b=true-> ∃q:Rat,s=T q/\Sml q d/\chk (T q)=0):=by
 unfold qb5
 rw[qg (n:=2*(d:Int)) (by omega) (by omega),qg (n:=2*(d:Int)+2) (by omega) (by omega)]
 by_cases c:(s.length:Int)<=2*(d:Int)+2
 ·rw[if_pos c,qgs hN (by omega),ZB]
  by_cases hc:chk s=0
  ·obtain⟨q,rfl,q1,q2⟩:=qeN hc
   have li:=qg1 q.num
   rw[if_pos hc,Num_T (by omega) (by omega),ZB,qnw (by omega),ZB,Den_T (by omega) (by omega),ZB]
   by_cases e:(Lib.decDigits q.num.natAbs).length<=d
   ·rw[if_pos (by omega),ZB]
    exact⟨_,rfl,fun h=>⟨q,rfl,⟨e,by have:=of_decide_eq_true h;omega⟩,hc⟩⟩
   rw[if_neg (by omega),ZB]
   exact⟨_,rfl,fun h=>by cases h⟩
  rw[if_neg hc,ZB]
  exact⟨_,rfl,fun h=>by cases h⟩
 rw[if_neg c,ZB]
 exact⟨_,rfl,fun h=>by cases h⟩
end Go.Av
end
section
namespace Go.Av
end Go.Av
end
section
namespace Go.Av
end Go.Av
end
section
namespace Go.Av
theorem qjV {z:Int} {k:Nat} (h0:0<=z) (hk:0<k) (h:z<((10^k:Nat):Int)):Sml (z:Rat) k:=by
 constructor
 ·rw[Rat.num_intCast]
  exact(xz hk).2 (by omega)
 rw[Rat.den_intCast]
 exact(xz hk).2 (Nat.one_lt_pow (by omega) (by decide))
theorem T_1:([49]:Str)=T ((1:Int):Rat):=by
 rw[show((1:Int):Rat)=(((1:Nat):Int):Rat)from rfl,<-qmZ]
 exact(qpu.2 rfl).symm
theorem qnC {m n:Nat} (h:m<=n):((10^m:Nat):Int)<=((10^n:Nat):Int):=Int.ofNat_le.2 (Nat.pow_le_pow_right (by decide) h)
end Go.Av
end
section
namespace Go.Av
theorem qmI {p x p' y:Rat} (h:p<=x) (h':x<=p'):p*y<=x*y\/p'*y<=x*y:=by
 rcases Rat.le_total (a:=0) (b:=y)with c|c
 ·exact .inl (Rat.mul_le_mul_of_nonneg_right h c)
 right
 have:=Rat.mul_le_mul_of_nonneg_right h' (show 0<= -y by grind)
 grind
theorem qmG {p x p' y:Rat} (h:p<=x) (h':x<=p'):x*y<=p*y\/x*y<=p'*y:=by
 rcases Rat.le_total (a:=0) (b:=y)with c|c
 ·exact .inr (Rat.mul_le_mul_of_nonneg_right h' c)
 left
 have:=Rat.mul_le_mul_of_nonneg_right h (show 0<= -y by grind)
 grind
theorem qre {p x p' q y q':Rat} (h:p<=x) (h':x<=p') (k:q<=y) (k':y<=q'): ∃z∈[p*q,p*q',p'*q,p'*q'],z<=x*y:=by
 have half: ∀e:Rat,e*q<=e*y\/e*q'<=e*y:=fun e=>by
  have:=qmI (y:=e) k k'
  rw[Rat.mul_comm q e,Rat.mul_comm q' e,Rat.mul_comm y e]at this
  exact this
 rcases qmI (y:=y) h h' with c|c
 ·rcases half p with d|d
  ·exact⟨_,by simp,Rat.le_trans d c⟩
  exact⟨p*q',by simp,Rat.le_trans d c⟩
 rcases half p' with d|d
 ·exact⟨p'*q,by simp,Rat.le_trans d c⟩
 exact⟨p'*q',by simp,Rat.le_trans d c⟩
theorem qqR {p x p' q y q':Rat} (h:p<=x) (h':x<=p') (k:q<=y) (k':y<=q'): ∃z∈[p*q,p*q',p'*q,p'*q'],x*y<=z:=by
 have half: ∀e:Rat,e*y<=e*q\/e*y<=e*q':=fun e=>by
  have:=qmG (y:=e) k k'
  rw[Rat.mul_comm q e,Rat.mul_comm q' e,Rat.mul_comm y e]at this
  exact this
 rcases qmG (y:=y) h h' with c|c
 ·rcases half p with d|d
  ·exact⟨p*q,by simp,Rat.le_trans c d⟩
  exact⟨p*q',by simp,Rat.le_trans c d⟩
 rcases half p' with d|d
 ·exact⟨p'*q,by simp,Rat.le_trans c d⟩
 exact⟨p'*q',by simp,Rat.le_trans c d⟩
theorem qpn {m x:Rat} {r:List Rat} (lo: ∃z∈m::r,z<=x) (hi: ∃z∈m::r,x<=z):mnL m r<=x/\x<=mxL m r:=by
 obtain⟨a,a1,a2⟩:=lo
 obtain⟨b,b1,b2⟩:=hi
 exact⟨Rat.le_trans (qh2 r m a a1) a2,Rat.le_trans b2 (qhz r m b b1)⟩
theorem qk0 (m:Rat) (r:List Rat):mnL m r<=mxL m r:=Rat.le_trans (qh2 r m m (by simp)) (qhz r m m (by simp))
end Go.Av
end
section
namespace Go.Av
end Go.Av
end
section
namespace Go.Av
end Go.Av
end
section
namespace Go.Av
theorem qk3 (r:Rat):r-(r.floor:Rat)=Rat.divInt (r.num%(r.den:Int)) (r.den:Int):=by
 have h:((r.den:Int):Rat)≠0:=by
  rw[Ne,Rat.intCast_eq_zero_iff]
  have:=r.den_pos
  omega
 have e:(r-(r.floor:Rat))*((r.den:Int):Rat)=((r.num%(r.den:Int):Int):Rat):=by
  rw[Rat.sub_eq_add_neg,Rat.add_mul,qqj,Rat.floor_def,Int.emod_def,Rat.intCast_sub,Rat.intCast_mul]
  grind
 rw[Rat.divInt_eq_div,<-e,Rat.mul_div_cancel h]
theorem qng {r:Rat} {n:Nat} (h:qaz r n):qaz (r-(r.floor:Rat)) n:=by
 rw[qk3]
 have hd:=r.den_pos
 refine qft (by omega) ?_ h.2
 refine qbz ?_ h.2
 have:=Int.emod_nonneg r.num (show(r.den:Int)≠0 by omega)
 have:=Int.emod_lt_of_pos r.num (show(0:Int)<(r.den:Int)by omega)
 omega
theorem qlG {x:Rat} {n:Nat} (h:qaz x n):x<=((W^n:Int):Rat)/\ -((W^n:Int):Rat)<=x:=by
 have hd:=x.den_pos
 have h1:(x.num.natAbs:Int)<W^n:=h.1
 have hp:(0:Int)<=W^n:=by omega
 have hm:W^n*1<=W^n*(x.den:Int):=Yc (by omega) hp
 rw[<-Rat.intCast_neg]
 constructor
 ·rw[Rat.le_iff,Rat.num_intCast,Rat.den_intCast]
  omega
 rw[Rat.le_iff,Rat.num_intCast,Rat.den_intCast,Int.neg_mul]
 omega
theorem qo2 {x:Rat} {n m:Nat} (hx:qaz x n) {c d:Int} (h0:0<=d) (hd:d<=m) (hm:m<=1000) (h1:(c:Rat)-x*(d:Rat)<=1) (h2: -1<=(c:Rat)-x*(d:Rat)):Fit c (n+1):=by
 obtain⟨b1,b2⟩:=qlG hx
 have hd':(0:Rat)<=(d:Rat):=Rat.intCast_nonneg.2 h0
 have hW:(1:Int)<=W^n:=pow_pos (show(0:Int)<W by decide) n
 have m1:=Rat.mul_le_mul_of_nonneg_right b1 hd'
 have m2:=Rat.mul_le_mul_of_nonneg_right b2 hd'
 have u1:(c:Rat)<=((W^n*d+1:Int):Rat):=by
  rw[Rat.intCast_add,Rat.intCast_mul,show((1:Int):Rat)=1 from rfl]
  grind
 have u2:((-(W^n*d+1):Int):Rat)<=(c:Rat):=by
  rw[Rat.intCast_neg,Rat.intCast_add,Rat.intCast_mul,show((1:Int):Rat)=1 from rfl]
  grind
 rw[Rat.intCast_le_intCast]at u1 u2
 have m3:W^n*d<=W^n*1000:=Yc (by omega) (by omega)
 have e:W^(n+1)=W^n*W:=Int.pow_succ ..
 have m4:W^n*1001<W^n*W:=Int.mul_lt_mul_of_pos_left (by decide) (by omega)
 unfold Fit
 omega
structure Cvg (x:Rat) (m:Nat) (a b c d:Int) (r:Rat):Prop where
 b0:0<=b
 d0:0<=d
 bm:b<=m
 dm:d<=m
 st:(b=1/\d=0)\/(1<=d/\1<r)
 fr:qaz r 4
 za:Fit a 5
 zc:Fit c 5
 eq:x*((d:Rat)*r+(b:Rat))=(c:Rat)*r+(a:Rat)
 det:c*b-d*a=1\/c*b-d*a= -1
theorem qnc {r:Rat} (h:1<r):1<=r.floor:=by
 rw[Rat.le_floor_iff]
 exact Rat.le_of_lt h
theorem Cvg.next {x:Rat} {m:Nat} {a b c d:Int} {r:Rat} (h:Cvg x m a b c d r) (hm1:1<=m) (hm:m<=1000) (fx:qaz x 4) (hd:d*r.floor+b<=m) (hr:r≠(r.floor:Rat)):
 Cvg x m c d (c*r.floor+a) (d*r.floor+b) (r-(r.floor:Rat))⁻¹/\1<=d*r.floor+b/\b+d+1<=d+(d*r.floor+b)+(if d=0 then 1 else 0):=by
 have hpos:0<r-(r.floor:Rat):=by
  rw[<-Rat.lt_iff_sub_pos]
  exact Rat.lt_of_le_of_ne (Rat.floor_le _) (Ne.symm hr)
 have hlt:r-(r.floor:Rat)<1:=by
  have:=Rat.lt_floor_add_one r
  rw[Rat.intCast_add,show((1:Int):Rat)=1 from rfl]at this
  grind
 have hne:r-(r.floor:Rat)≠0:=Rat.ne_of_gt hpos
 have k1:1<=d*r.floor+b/\b+d+1<=d+(d*r.floor+b)+(if d=0 then 1 else 0):=by
  rcases h.st with⟨e1,e2⟩|⟨e1,e2⟩
  ·rw[e1,e2]
   simp
  have f1:=qnc e2
  have:=Yc f1 h.d0
  have:=h.b0
  rw[if_neg (by omega)]
  omega
 have hinv:=Rat.mul_inv_cancel _ hne
 have hs:(1:Rat)<(r-(r.floor:Rat))⁻¹:=by
  have p:=Rat.inv_pos.2 hpos
  have:=Rat.mul_lt_mul_of_pos_right hlt p
  rw[hinv,Rat.one_mul]at this
  exact this
 generalize hg:(r-(r.floor:Rat))⁻¹=s at*
 have er:r=(r.floor:Rat)+s⁻¹:=by
  rw[<-hg,Rat.inv_inv]
  grind
 generalize hk:r.floor=k at*
 have es:(r-(k:Rat))*s=1:=hinv
 have e2:x*(((d*k+b:Int):Rat)*s+(d:Rat))=((c*k+a:Int):Rat)*s+(c:Rat):=by
  have h1:=h.eq
  rw[Rat.intCast_add,Rat.intCast_mul,Rat.intCast_add,Rat.intCast_mul]
  have h2:x*((d:Rat)*r+(b:Rat))*s=((c:Rat)*r+(a:Rat))*s:=by rw[h1]
  have h3:r*s=1+(k:Rat)*s:=by grind
  have h4:x*((d:Rat)*(r*s)+(b:Rat)*s)=(c:Rat)*(r*s)+(a:Rat)*s:=by grind
  rw[h3]at h4
  grind
 have dt:(c*k+a)*d-(d*k+b)*c=1\/(c*k+a)*d-(d*k+b)*c= -1:=by
  have:(c*k+a)*d-(d*k+b)*c= -(c*b-d*a):=by grind
  rcases h.det with e|e
  ·right;rw[this,e]
  left;rw[this,e];rfl
 refine⟨?_,k1⟩
 have D1:(1:Rat)<=((d*k+b:Int):Rat)*s+(d:Rat):=by
  have a1:(1:Rat)<=((d*k+b:Int):Rat):=by
   have:=Rat.intCast_le_intCast.2 k1.1
   exact this
  have a2:(0:Rat)<=(d:Rat):=Rat.intCast_nonneg.2 h.d0
  have a3:=Rat.mul_le_mul_of_nonneg_right a1 (show(0:Rat)<=s from Rat.le_trans (by decide) (Rat.le_of_lt hs))
  rw[Rat.one_mul]at a3
  have:=Rat.le_of_lt hs
  grind
 have zz:(((c*k+a:Int):Rat)-x*((d*k+b:Int):Rat))*(((d*k+b:Int):Rat)*s+(d:Rat))=(((c*k+a)*d-(d*k+b)*c:Int):Rat):=by
  rw[Rat.intCast_sub,Rat.intCast_mul,Rat.intCast_mul]
  generalize ((c*k+a:Int):Rat)=C at*
  generalize ((d*k+b:Int):Rat)=E at*
  generalize (c:Rat)=c' at*
  generalize (d:Rat)=d' at*
  have:(C-x*E)*(E*s+d')=C*(E*s+d')-E*(x*(E*s+d')):=by grind
  rw[this,e2]
  grind
 have hz:((c*k+a:Int):Rat)-x*((d*k+b:Int):Rat)<=1/\ -1<=((c*k+a:Int):Rat)-x*((d*k+b:Int):Rat):=by
  generalize ((c*k+a:Int):Rat)-x*((d*k+b:Int):Rat)=z at*
  generalize ((d*k+b:Int):Rat)*s+(d:Rat)=D at*
  have hD0:(0:Rat)<=D:=Rat.le_trans (by decide) D1
  have hb:z*D=1\/z*D= -1:=by
   rw[zz]
   rcases dt with e|e
   ·left;rw[e];rfl
   right;rw[e];rfl
  constructor
  ·rw[<-Rat.not_lt]
   intro hc
   have:=Rat.mul_lt_mul_of_pos_right hc (show(0:Rat)<D by grind)
   rw[Rat.one_mul]at this
   grind
  rw[<-Rat.not_lt]
  intro hc
  have:=Rat.mul_lt_mul_of_pos_right hc (show(0:Rat)<D by grind)
  grind
 exact {b0:=h.d0,d0:=by omega,bm:=h.dm,dm:=hd,st:= .inr ⟨k1.1,hs⟩,fr:=by rw[<-hg];exact qoA (by rw[<-hk];exact qng h.fr) (by omega),za:=h.zc,zc:=qo2 fx (by omega) hd hm hz.1 hz.2,eq:=e2,det:=dt}
end Go.Av
end
section
namespace Go.Av
theorem qgP {p q:Rat}:((if p<q then-1 else if p=q then 0 else 1:Int)=0)↔p=q:=by
 by_cases h:p<q
 ·rw[if_pos h]
  exact⟨fun c=>absurd c (by decide),fun c=>absurd (c▸h) Rat.lt_irrefl⟩
 rw[if_neg h]
 by_cases e:p=q
 ·rw[if_pos e]
  exact⟨fun _=>e,fun _=>rfl⟩
 rw[if_neg e]
 exact⟨fun c=>absurd c (by decide),fun c=>absurd c e⟩
end Go.Av
end
section
namespace Go.Av
theorem pick {x L M:Rat} {d f:Int} (nL:(L.den:Int)=d) (nM:(M.den:Int)=f) {c:Int}
 (hc:c=if(if(x-L).abs<(x-M).abs then-1 else if(x-L).abs=(x-M).abs then 0 else 1:Int)=0 then(if(if(d:Rat)<(f:Rat)then-1 else if(d:Rat)=(f:Rat)then 0 else 1:Int)=0 then(if L<M then-1 else if L=M then 0 else 1)else(if(d:Rat)<(f:Rat)then-1 else if(d:Rat)=(f:Rat)then 0 else 1))else(if(x-L).abs<(x-M).abs then-1 else if(x-L).abs=(x-M).abs then 0 else 1)):
 (¬c>0->le3 x L M)/\(c>0->le3 x M L):=by
 by_cases h1:(x-L).abs=(x-M).abs
 ·rw[if_pos (qgP.2 h1)]at hc
  by_cases h2:(d:Rat)=(f:Rat)
  ·rw[if_pos (qgP.2 h2)]at hc
   have h2:=Rat.intCast_inj.1 h2
   constructor
   ·intro h
    rw[hc]at h
    exact .inr ⟨h1,.inr ⟨by omega,Rat.not_lt.1 fun k=>h (qaQ.2 k)⟩⟩
   intro h
   rw[hc]at h
   exact .inr ⟨h1.symm,.inr ⟨by omega,Rat.le_of_lt (qaQ.1 h)⟩⟩
  rw[if_neg (fun k=>h2 (qgP.1 k))]at hc
  constructor
  ·intro h
   rw[hc]at h
   have h:=Rat.not_lt.1 (fun k=>h (qaQ.2 k))
   have h3:d≠f:=fun k=>h2 (by rw[k])
   have:=Rat.intCast_le_intCast.1 h
   exact .inr ⟨h1,.inl (by omega)⟩
  intro h
  rw[hc]at h
  have:=Rat.intCast_lt_intCast.1 (qaQ.1 h)
  exact .inr ⟨h1.symm,.inl (by omega)⟩
 rw[if_neg (fun k=>h1 (qgP.1 k))]at hc
 constructor
 ·intro h
  rw[hc]at h
  have h:=Rat.not_lt.1 (fun k=>h (qaQ.2 k))
  exact .inl (Rat.lt_of_le_of_ne h h1)
 intro h
 rw[hc]at h
 exact .inl (qaQ.1 h)
theorem qom {z:Int} {n:Nat} (h:Fit z n) (hn:0<n):(Lib.decDigits z.natAbs).length<=20*n:=by
 refine(xz (by omega)).2 ?_
 have h1:(z.natAbs:Int)<W^n:=h
 have h2:=(qdj (x:=W) (y:=100000000000000000000) (by decide) (by decide) n).2
 have h3:(100000000000000000000:Int)^n=((10^(20*n):Nat):Int):=by
  rw[Nat.pow_mul,Int.natCast_pow]
  rfl
 omega
theorem qkE {q:Rat} {n:Nat} (h:qaz q n) (hn:0<n):Sml q (20*n):=by
 have:=qom h.2 hn
 rw[Int.natAbs_natCast]at this
 exact⟨qom h.1 hn,this⟩
end Go.Av
end
section
namespace Go.Av
def piD:Str:=[51,49,52,49,53,57,50,54,53,51,53,56,57,55,57,51,50,51,56,52,54,50,54,52,51,51,56,51,50,55,57]
def piN (k:Nat):Nat:=qO 0 (piD.take (k+1))
def tp (k:Nat):Int:=((10^k:Nat):Int)
theorem qgh (m n:Nat):tp m*tp n=tp (m+n):=by
 unfold tp
 rw[Nat.pow_add]
 exact(Int.natCast_mul ..).symm
theorem qbQ (k:Nat):0<tp k:=by
 have:=Nat.pow_pos (n:=k) (show 0<10 by decide)
 unfold tp
 omega
theorem qoj {m n:Nat} (h:m<=n):tp m<=tp n:=qnC h
theorem ql0 {m k:Nat} (h:m<k):Sml ((tp m:Int):Rat) k:=by
 refine qjV (Int.le_of_lt (qbQ m)) (by omega) ?_
 have h1:tp (m+1)<=((10^k:Nat):Int):=qnC h
 have h2:tp m*tp 1=tp (m+1):=qgh m 1
 have h3:tp 1=10:=rfl
 have:=qbQ m
 rw[h3]at h2
 omega
theorem qo5 (k:Nat):Dec (piD.take (k+1)):=by
 refine⟨?_,qfE (by decide) _,fun h=>?_⟩
 ·rw[Ym]
  have:piD.length=31:=rfl
  omega
 exfalso
 rw[show piD=51::piD.drop 1 from rfl,List.take_succ_cons]at h
 simp at h
theorem pi_lt {k:Nat} (hk:k<=30):((piN k:Nat):Int)<tp (k+1):=by
 have h:=qdD (piD.take (k+1)) 0 (qo5 k).2.1
 rw[Ym,show piD.length=31 from rfl,Nat.min_eq_left (by omega),Nat.zero_add,Nat.one_mul]at h
 unfold tp piN
 exact Int.ofNat_lt.2 h
theorem qja: ∀k:Nat,qO 0 (List.replicate k 48)=0
 |0=>rfl
 |k+1=>by
  rw[List.replicate_succ,qa3]
  exact qja k
theorem qm4 (k:Nat):qO 0 ([49]++List.replicate k 48)=10^k:=by
 rw[qcI,qja,List.length_replicate]
 show qO 0 [49]*10^k+0=_
 rw[show qO 0 [49]=1 from rfl]
 omega
theorem qiZ: ∀k:Nat,(List.replicate k (48:UInt8)).all vo=true
 |0=>rfl
 |k+1=>by
  rw[List.replicate_succ,List.all_cons,qiZ k]
  rfl
theorem qok {N:Nat} (hN:600000<N) {k:Nat} (h1:1<=k) (h2:k<=30):qcd N (k:Int)=some (⟨T (Rat.divInt (piN k) (tp k)),T (Rat.divInt ((piN k:Int)+1) (tp k))⟩,0)/\Sml (Rat.divInt (piN k) (tp k)) 60/\Sml (Rat.divInt ((piN k:Int)+1) (tp k)) 60:=by
 have hl:=pi_lt h2
 have d1:=qo5 k
 obtain⟨g1,g2⟩:=qaP d1.2.1
 obtain⟨r,e1,i1⟩:=qeY hN (s:=piD.take (k+1)) (by rw[g2];exact d1.2.1) (by rw[g2,Ym];omega)
 rw[qbP d1.2.1]at i1
 have z1:([49]++List.replicate k 48:Str).all vo=true:=by
  rw[List.all_append,qiZ]
  rfl
 obtain⟨g3,g4⟩:=qaP z1
 obtain⟨u,e2,i2⟩:=qeY hN (s:=[49]++List.replicate k 48) (by rw[g4];exact z1) (by rw[g4];simp;omega)
 rw[qbP z1,qm4]at i2
 have i1:IsZ r (piN k:Int):=i1
 have i2:IsZ u (tp k):=i2
 have ht:=qoj (show k+1<=32 by omega)
 have ht0:=qoj (show k<=32 by omega)
 have hp:=qbQ k
 have e10:tp k*tp 1=tp (k+1):=qgh k 1
 have h10:tp 1=10:=rfl
 rw[h10]at e10
 have fd:Fit (piN k:Int) 2:=qee (p:=32) (by show _<tp 32;omega) (by omega)
 have ft:Fit (tp k) 2:=qee (p:=31) (by have:=qoj (show k+1<=31 by omega);show _<tp 31;omega) (by omega)
 have fd1:Fit ((piN k:Int)+1) 3:=qmA fd (F1 (by omega))
 obtain⟨f,e3,i3⟩:=qg4 hN i1 i2 (fd.mono (by omega)) (ft.mono (by omega)) (by omega)
 obtain⟨w,e4,i4⟩:=qgt (N:=N) (by omega) i1 (Ud (z:=1) (by decide) (by decide)) (fd.mono (by omega)) ((F1 (n:=2) (by omega)).mono (by omega))
 obtain⟨g,e5,i5⟩:=qg4 hN i4 i2 (fd1.mono (by omega)) (ft.mono (by omega)) (by omega)
 have fl:qaz (Rat.divInt (piN k) (tp k)) 3:=qft (by omega) (fd.mono (by omega)) (ft.mono (by omega))
 have fh:qaz (Rat.divInt ((piN k:Int)+1) (tp k)) 3:=qft (by omega) fd1 (ft.mono (by omega))
 have sl:Sml (Rat.divInt (piN k) (tp k)) 60:=qkE fl (by omega)
 have sh:Sml (Rat.divInt ((piN k:Int)+1) (tp k)) 60:=qkE fh (by omega)
 refine⟨?_,sl,sh⟩
 have R:qbV [48] (k:Int)=some (List.replicate k 48):=by
  unfold qbV
  rw[if_pos (by simp;omega),Int.toNat_natCast,qjH]
 have C:cat [49] (List.replicate k 48)=some ([49]++List.replicate k 48):=qbg (by simp;omega)
 unfold qcd
 rw[if_neg (by omega),decide_eq_false (by omega),ZB,if_neg (by simp),zy (by omega)]
 rw[show cut [51,49,52,49,53,57,50,54,53,51,53,56,57,55,57,51,50,51,56,52,54,50,54,52,51,51,56,51,50,55,57] 0 ((k+1:Nat):Int)=some (piD.take (k+1))from yz (by show k+1<=31;omega),ZB,e1,ZB,R,ZB,C,ZB,e2,ZB,e3,ZB,qhU,ZB,e4,ZB,e5,ZB,qjL hN i3 i5 (fl.mono (by omega)) (fh.mono (by omega)),qdf (sl.mono (by omega)),qdf (sh.mono (by omega)),if_neg (by simp),ZB]
theorem qj2 {N:Nat} (hN:600000<N): ∀(K n m j:Nat),n<K->n<=30->j+m*n<=30->m<=60->xC N K (T ((tp m:Int):Rat)) (n:Int) (T ((tp j:Int):Rat))=some (T ((tp (j+m*n):Int):Rat))
 |0,n,m,j,hK,_,_,_=>by omega
 |K+1,n,m,j,hK,hn,h1,h2=>by
  rw[xC]
  by_cases c:n=0
  ·rw[if_neg (by omega),c,Nat.mul_zero,Nat.add_zero]
  have hmn:m*1<=m*n:=Nat.mul_le_mul_left m (by omega)
  have sm:Sml ((tp m:Int):Rat) 61:=ql0 (by omega)
  have sj:Sml ((tp j:Int):Rat) 61:=ql0 (by omega)
  have ediv:w64 ((n:Int).tdiv 2)=((n/2:Nat):Int):=by
   rw[YF (by omega),qg (by omega) (by omega)]
   omega
  have emod:(n:Int).tmod 2=((n%2:Nat):Int):=by
   rw[Int.tmod_eq_emod_of_nonneg (by omega)]
   omega
  have hdm:m*n=m*(n%2)+(m+m)*(n/2):=by
   have:=Nat.div_add_mod n 2
   conv=>lhs;rw[<-this]
   rw[Nat.mul_add,Nat.add_mul,Nat.mul_comm 2,<-Nat.mul_assoc]
   omega
  rw[if_pos (by omega),emod,ediv]
  by_cases d:n%2=1
  ·rw[d,Nat.mul_one]at hdm
   rw[if_pos (by omega),qcH hN (k:=61) (by omega) (by omega) sj sm,ZB,ZB,qcH hN (k:=61) (by omega) (by omega) sm sm,ZB,<-Rat.intCast_mul,<-Rat.intCast_mul,qgh,qgh,qj2 hN K (n/2) (m+m) (j+m) (by omega) (by omega) (by omega) (by omega),hdm,<-Nat.add_assoc]
  have d0:n%2=0:=by omega
  rw[d0,Nat.mul_zero,Nat.zero_add]at hdm
  rw[if_neg (by omega),ZB,qcH hN (k:=61) (by omega) (by omega) sm sm,ZB,<-Rat.intCast_mul,qgh,qj2 hN K (n/2) (m+m) j (by omega) (by omega) (by omega) (by omega),hdm]
theorem T_10:([49,48]:Str)=T ((tp 1:Int):Rat):=by
 rw[show((tp 1:Int):Rat)=(((10:Nat):Int):Rat)from rfl,<-qmZ,qdS (by decide),zJ (by decide)]
 rfl
theorem qoQ {N:Nat} (hN:600000<N) {k:Nat} (h2:k<=30):qds N [49,48] (k:Int)=some (T ((tp k:Int):Rat)):=by
 unfold qds
 rw[if_neg (by omega),T_10,T_1,show((1:Int):Rat)=((tp 0:Int):Rat)from rfl,qj2 hN N k 1 0 (by omega) (by omega) (by omega) (by omega),ZB,Nat.zero_add,Nat.one_mul]
end Go.Av
end
section
namespace Go.Av
end Go.Av
end
section
namespace Go.Av
def qaK (b:Int):Nat->Rat×Rat×Rat
 |0=>(0,Rat.divInt 1 b,0)
 |i+1=>((qaK b i).1+(if i%2=1 then-((qaK b i).2.1/((2*i+1:Nat):Int))else(qaK b i).2.1/((2*i+1:Nat):Int)),(qaK b i).2.1/(b*b:Int),(qaK b i).1)
def okR (q:Rat):Bool:=Nat.blt q.num.natAbs (10^120)&&Nat.blt q.den (10^120)
def okA (b:Int) (n:Nat):Bool:=(List.range n).all fun i=>okR (qaK b i).1&&okR (qaK b i).2.1&&okR ((qaK b i).2.1/((2*i+1:Nat):Int))
def qhC (b:Int) (n:Nat):Rat:=if(qaK b n).1<(qaK b n).2.2 then(qaK b n).1 else(qaK b n).2.2
def qeF (b:Int) (n:Nat):Rat:=if(qaK b n).2.2<(qaK b n).1 then(qaK b n).1 else(qaK b n).2.2
def qlt (k:Nat):Bool:=
 decide (Rat.divInt (piN k) (tp k)<=16*qeF 5 (k+3)-4*qhC 239 (k+1))&&decide (16*qhC 5 (k+3)-4*qeF 239 (k+1)<=Rat.divInt ((piN k:Int)+1) (tp k))&&
 decide ((16*qeF 5 (k+3)-4*qhC 239 (k+1))-(16*qhC 5 (k+3)-4*qeF 239 (k+1))<=Rat.divInt ((piN k:Int)+1) (tp k)-Rat.divInt (piN k) (tp k))
theorem okA5:okA 5 16=true:=by kernel_rfl
theorem qq0:okA 239 14=true:=by kernel_rfl
theorem ql1:((List.range 12).all fun k=>qlt (k+1))=true:=by kernel_rfl
end Go.Av
end
section
namespace Go.Av
theorem qjs {q:Rat} (h:okR q=true):Sml q 120:=by
 unfold okR at h
 rw[Bool.and_eq_true]at h
 have h1:q.num.natAbs<10^120:=Ys h.1
 have h2:q.den<10^120:=Ys h.2
 exact⟨(xz (by decide)).2 h1,(xz (by decide)).2 h2⟩
theorem qlS {b:Int} {n:Nat} (h:okA b n=true) {i:Nat} (hi:i<n):Sml (qaK b i).1 120/\Sml (qaK b i).2.1 120/\Sml ((qaK b i).2.1/((2*i+1:Nat):Int)) 120:=by
 have:=Yp.1 h i (List.mem_range.2 hi)
 simp only[Bool.and_eq_true]at this
 exact⟨qjs this.1.1,qjs this.1.2,qjs this.2⟩
theorem qn7 {N:Nat} (hN:600000<N) {b:Int} (b1:2<=b) (b2:b<=1000) {m n:Nat} (hm:m<=1000) (hmn:m<n) (ok:okA b n=true): ∀(K i:Nat),i<=m+1->m+1<K+i->
 jI N b (m:Int) K (T (qaK b i).1) (T (qaK b i).2.1) (T (qaK b i).2.2) (i:Int)=some (T (qaK b (m+1)).1,T (qaK b (m+1)).2.2)
 |0,i,h,hK=>by omega
 |K+1,i,h,hK=>by
  rw[jI]
  by_cases c:i<=m
  ·obtain⟨s1,s2,s3⟩:=qlS ok (i:=i) (by omega)
   have l3:=qbM s3
   have si:=qms (n:=((2*i+1:Nat):Int)) (by omega) (by omega)
   have bb:4<=b*b/\b*b<=1000000:=by
    have:=Int.mul_le_mul b1 b1 (by decide) (by omega)
    have:=Int.mul_le_mul b2 b2 (by omega) (by decide)
    omega
   have sb:=qms (n:=b*b) (by omega) (by omega)
   have ine:(((2*i+1:Nat):Int):Rat)≠0:=by
    rw[Ne,Rat.intCast_eq_zero_iff]
    omega
   have bne:((b*b:Int):Rat)≠0:=by
    rw[Ne,Rat.intCast_eq_zero_iff]
    omega
   have ei:w64 (w64 (2*(i:Int))+1)=((2*i+1:Nat):Int):=by
    rw[qg (n:=2*(i:Int)) (by omega) (by omega),qg (by omega) (by omega)]
    omega
   have em:(i:Int).tmod 2=((i%2:Nat):Int):=by
    rw[Int.tmod_eq_emod_of_nonneg (by omega)]
    omega
   have S:(if(i:Int).tmod 2=1 then(qbx (T ((qaK b i).2.1/(((2*i+1:Nat):Int):Rat)))).bind fun r15=>some r15 else some (T ((qaK b i).2.1/(((2*i+1:Nat):Int):Rat))):Option Str)=some (T (if i%2=1 then-((qaK b i).2.1/(((2*i+1:Nat):Int):Rat))else(qaK b i).2.1/(((2*i+1:Nat):Int):Rat))):=by
    rw[em]
    by_cases d:i%2=1
    ·rw[if_pos (by omega),if_pos d,qqD (N:=N) (by omega),ZB]
    rw[if_neg (by omega),if_neg d]
   have st:Sml (if i%2=1 then-((qaK b i).2.1/(((2*i+1:Nat):Int):Rat))else(qaK b i).2.1/(((2*i+1:Nat):Int):Rat)) 120:=by
    split
    ·exact qjj s3
    exact s3
   rw[if_pos (by omega),ei,qhX (by omega) (by omega) (by omega),ZB,qjR hN (k:=120) (by omega) (by omega) s2 (si.mono (by omega)) ine,ZB,S,ZB,qmU hN (k:=120) (by omega) (by omega) s1 st,ZB,qg (n:=b*b) (by omega) (by omega),qhX (by omega) (by omega) (by omega),ZB,qjR hN (k:=120) (by omega) (by omega) s2 (sb.mono (by omega)) bne,ZB,zy (by omega)]
   exact qn7 hN b1 b2 hm hmn ok K (i+1) (by omega) (by omega)
  rw[if_neg (by omega),show i=m+1 by omega]
theorem qi9 {N:Nat} (hN:600000<N) {b:Int} (b1:2<=b) (b2:b<=1000) {m n:Nat} (hm:m<=1000) (hmn:m+1<n) (ok:okA b n=true):qaF N b (m:Int)=some ⟨T (qhC b (m+1)),T (qeF b (m+1))⟩/\Sml (qhC b (m+1)) 120/\Sml (qeF b (m+1)) 120/\qhC b (m+1)<=qeF b (m+1):=by
 have e:=qn7 hN b1 b2 hm (by omega) ok N 0 (by omega) (by omega)
 have s1:=(qlS ok (i:=m+1) hmn).1
 have s2:Sml (qaK b (m+1)).2.2 120:=(qlS ok (i:=m) (by omega)).1
 refine⟨?_,?_,?_,?_⟩
 ·unfold qaF qdQ
  rw[qlW (by omega) (by decide) (by decide) (by omega) (by omega) (by omega),ZB,<-T0]
  rw[show jI N b (m:Int) N (T 0) (T (Rat.divInt 1 b)) (T 0) 0=_ from e,ZB]
  simp only
  rw[qmn hN (k:=120) (by omega) (by omega) s2 s1,ZB,ql7 hN (k:=120) (by omega) (by omega) s2 s1,ZB,ZB]
  rfl
 ·unfold qhC
  split<;>assumption
 ·unfold qeF
  split<;>assumption
 unfold qhC qeF
 generalize (qaK b (m+1)).1=u
 generalize (qaK b (m+1)).2.2=v
 by_cases c:u<v
 ·rw[if_pos c]
  split
  ·exact Rat.le_refl
  exact Rat.le_of_lt c
 rw[if_neg c]
 split
 ·exact Rat.not_lt.1 c
 exact Rat.le_refl
theorem qi4 {N:Nat} (hN:600000<N) {p p' q q':Rat} (hp:Sml p 180) (hp':Sml p' 180) (hq:Sml q 180) (hq':Sml q' 180):qa1 N ⟨T p,T p'⟩ ⟨T q,T q'⟩=some (qfb (fun x y=>x*y) p p' q q'):=by
 have M: ∀{a b:Rat},Sml a 180->Sml b 180->Sml (a*b) 600:=fun {a b} h k=>(qcP (n:=20) (by omega) h k).mono (by omega)
 have lT: ∀x∈[p*q,p*q',p'*q,p'*q'],Sml x 600:=by
  simp only[List.mem_cons,List.not_mem_nil,or_false,forall_eq_or_imp,forall_eq]
  exact⟨M hp hq,M hp hq',M hp' hq,M hp' hq'⟩
 unfold qa1
 simp only
 rw[qcH hN (k:=180) (by omega) (by omega) hp hq,ZB,qcH hN (k:=180) (by omega) (by omega) hp hq',ZB,qcH hN (k:=180) (by omega) (by omega) hp' hq,ZB,qcH hN (k:=180) (by omega) (by omega) hp' hq',ZB]
 have:=qp1 hN (q:=p*q) (r:=[p*q',p'*q,p'*q']) (by simp) (k:=600) (by omega) (by omega) lT
 simp only[List.map_cons,List.map_nil]at this
 rw[this]
 rfl
theorem qhk {c q q':Rat} (hc:0<=c) (h:q<=q'):qfb (fun x y=>x*y) c c q q'=⟨T (c*q),T (c*q')⟩:=by
 have a:=Rat.mul_le_mul_of_nonneg_left h hc
 unfold qfb
 rw[qoH (v:=c*q) (by simp only[List.mem_cons,List.not_mem_nil,or_false,forall_eq_or_imp,forall_eq];exact⟨Rat.le_refl,a,Rat.le_refl,a⟩) (by simp),qnY (v:=c*q') (by simp only[List.mem_cons,List.not_mem_nil,or_false,forall_eq_or_imp,forall_eq];exact⟨a,Rat.le_refl,a,Rat.le_refl⟩) (by simp)]
theorem qko {N:Nat} (hN:600000<N) {p p' q q':Rat} (hp:Sml p 250) (hp':Sml p' 250) (hq:Sml q 250) (hq':Sml q' 250) (hpp:p<=p') (hqq:q<=q'):qa0 N ⟨T p,T p'⟩ ⟨T q,T q'⟩=some (⟨T (p+q),T (p'+q')⟩,0):=by
 have l1:=qbM hp
 have l2:=qbM hp'
 have l3:=qbM hq
 have l4:=qbM hq'
 have S: ∀{a b:Rat},Sml a 250->Sml b 250->Sml (a+b) 600:=fun {a b} h k=>(qjP (n:=28) (by omega) (h.mono (by omega)) (k.mono (by omega))).mono (by omega)
 unfold qa0 vO
 rw[qbD hN (by simp only;omega) (by simp only;omega),qep (qd9 (hp.mono (by omega))) (qd9 (hp'.mono (by omega))),if_neg (Rat.not_lt.2 hpp),ZB,qbD hN (by simp only;omega) (by simp only;omega),qep (qd9 (hq.mono (by omega))) (qd9 (hq'.mono (by omega))),if_neg (Rat.not_lt.2 hqq),ZB,qha (by omega),if_pos rfl,ZB,if_neg (by simp),qp3 hN (hp.mono (by omega)) (hp'.mono (by omega)) (hq.mono (by omega)) (hq'.mono (by omega)) (by simp only[List.mem_cons,List.not_mem_nil,or_false,forall_eq_or_imp,forall_eq];exact⟨S hp hq,S hp hq',S hp' hq,S hp' hq'⟩),qo4 hpp hqq]
 rfl
end Go.Av
end
section
namespace Go.Av
end Go.Av
end
section
namespace Go.Av
theorem qih (n:Int) (k:Nat):Rat.divInt n (tp k)*((tp k:Int):Rat)=(n:Rat):=by
 rw[Rat.divInt_eq_div]
 refine Rat.div_mul_cancel ?_
 rw[Ne,Rat.intCast_eq_zero_iff]
 have:=qbQ k
 omega
theorem qkB {a b:Int} {j k:Nat}:Rat.divInt a (tp j)<=Rat.divInt b (tp k)↔a*tp k<=b*tp j:=qoc (qbQ j) (qbQ k) (qih a j) (qih b k)
theorem qoE {k:Nat} (hk:k<=29): ∃d:Nat,d<=9/\piN (k+1)=piN k*10+d:=by
 have hl:k+1<piD.length:=by
  show k+1<31
  omega
 have e:piD.take (k+1+1)=piD.take (k+1)++[piD[k+1]]:=by
  rw[List.take_add_one,Ya hl]
  rfl
 have hd:vo piD[k+1]=true:=Yp.1 (show piD.all vo=true by decide) _ (List.getElem_mem hl)
 unfold vo at hd
 rw[Bool.and_eq_true]at hd
 have h1:=of_decide_eq_true hd.1
 have h2:=of_decide_eq_true hd.2
 refine⟨piD[k+1].toNat-48,by omega,?_⟩
 unfold piN
 rw[e,qeW]
theorem qqy {k:Nat} (hk:k<=29):Rat.divInt (piN k) (tp k)<=Rat.divInt (piN (k+1)) (tp (k+1))/\Rat.divInt ((piN (k+1):Int)+1) (tp (k+1))<=Rat.divInt ((piN k:Int)+1) (tp k):=by
 obtain⟨d,h1,h2⟩:=qoE hk
 have e:tp (k+1)=tp k*10:=(qgh k 1).symm
 have hp:=qbQ k
 have hd:(d:Int)*tp k<=9*tp k:=Int.mul_le_mul_of_nonneg_right (by omega) (by omega)
 have hd0:0<=(d:Int)*tp k:=Yv (by omega) (by omega)
 rw[qkB,qkB,e,h2]
 have c1:((piN k*10+d:Nat):Int)=(piN k:Int)*10+d:=by omega
 rw[c1]
 constructor
 ·have:((piN k:Int)*10+d)*tp k=(piN k:Int)*(tp k*10)+d*tp k:=by grind
  omega
 have a1:((piN k:Int)*10+d+1)*tp k=(piN k:Int)*(tp k*10)+d*tp k+tp k:=by grind
 have a2:((piN k:Int)+1)*(tp k*10)=(piN k:Int)*(tp k*10)+10*tp k:=by grind
 omega
theorem qmL (k:Nat):Rat.divInt ((piN k:Int)+1) (tp k)-Rat.divInt (piN k) (tp k)=Rat.divInt 1 (tp k):=by
 have h1:=qih ((piN k:Int)+1) k
 have h2:=qih (piN k) k
 have h3:=qih 1 k
 have hp:(0:Rat)<((tp k:Int):Rat):=Rat.intCast_pos.2 (qbQ k)
 rw[Rat.intCast_add]at h1
 have e:(Rat.divInt ((piN k:Int)+1) (tp k)-Rat.divInt (piN k) (tp k))*((tp k:Int):Rat)=Rat.divInt 1 (tp k)*((tp k:Int):Rat):=by
  generalize Rat.divInt ((piN k:Int)+1) (tp k)=u at*
  generalize Rat.divInt (piN k) (tp k)=v at*
  generalize Rat.divInt 1 (tp k)=w at*
  generalize ((tp k:Int):Rat)=t at*
  grind
 exact Rat.le_antisymm (Rat.le_of_mul_le_mul_right (by rw[e];exact Rat.le_refl) hp) (Rat.le_of_mul_le_mul_right (by rw[e];exact Rat.le_refl) hp)
theorem T_16:([49,54]:Str)=T ((16:Int):Rat):=by
 rw[show((16:Int):Rat)=(((16:Nat):Int):Rat)from rfl,<-qmZ,qdS (by decide),zJ (by decide)]
 rfl
theorem T_4:([52]:Str)=T ((4:Int):Rat):=by
 rw[show((4:Int):Rat)=(((4:Nat):Int):Rat)from rfl,<-qmZ,zJ (by decide)]
 rfl
theorem qfB {N:Nat} (hN:600000<N) {p p' q q':Rat} (hp:Sml p 600) (hp':Sml p' 600) (hq:Sml q 600) (hq':Sml q' 600) (h1:q<=p) (h2:p'<=q'):xB N ⟨T p,T p'⟩ ⟨T q,T q'⟩=some true:=by
 unfold xB
 simp only
 rw[qcG hN (k:=600) (by omega) (by omega) hq hp,ZB,if_pos (qjQ.2 h1),qcG hN (k:=600) (by omega) (by omega) hp' hq',ZB,decide_eq_true (qjQ.2 h2),ZB]
theorem qo0 {N:Nat} (hN:600000<N) (s:qC): ∃b,qaM N s 4=some b/\(b=true-> ∃p p':Rat,s=⟨T p,T p'⟩/\p<=p'/\Sml p 4/\Sml p' 4):=by
 obtain⟨lo,hi⟩:=s
 obtain⟨b1,e1,f1⟩:=qnZ hN (s:=lo) (d:=4) (by omega) (by omega)
 obtain⟨b2,e2,f2⟩:=qnZ hN (s:=hi) (d:=4) (by omega) (by omega)
 unfold qaM
 simp only
 rw[show(4:Int)=((4:Nat):Int)from rfl,e1,ZB]
 cases b1 with
 |false=>exact⟨false,rfl,fun h=>by cases h⟩
 |true=>
  rw[if_pos rfl,e2,ZB]
  cases b2 with
  |false=>exact⟨false,rfl,fun h=>by cases h⟩
  |true=>
   obtain⟨p,rfl,sp,cp⟩:=f1 rfl
   obtain⟨p',rfl,sp',cp'⟩:=f2 rfl
   have l1:=qbM sp
   have l2:=qbM sp'
   rw[if_pos rfl,qe9 hN (by simp only;omega) (by simp only;omega),qep cp cp',ZB]
   refine⟨_,rfl,fun h=>⟨p,p',rfl,?_,sp,sp'⟩⟩
   have h:=of_decide_eq_true h
   rw[<-Rat.not_lt]
   intro c
   rw[if_pos c]at h
   exact absurd h (by decide)
theorem qe7 {N:Nat} (hN:600000<N) (k:Int) (s:qC):yN N k s=some true:=by
 obtain⟨v,hv,fv⟩:=qo0 hN s
 unfold yN
 rw[show awk=some true from rfl,ZB,if_neg (by simp)]
 by_cases c1:k<1
 ·rw[if_pos c1,ZB,if_pos rfl,ZB]
 rw[if_neg c1]
 by_cases c2:k>12
 ·rw[if_pos c2,ZB,if_pos rfl,ZB]
 rw[if_neg c2,hv,ZB,ZB]
 cases v with
 |false=>rw[if_pos (show(!false)=true from rfl),ZB]
 |true=>
  obtain⟨u,u',rfl,huu,su,su'⟩:=fv rfl
  obtain⟨m,rfl⟩: ∃m:Nat,k=(m:Int):=⟨k.toNat,by omega⟩
  obtain⟨p1,p2,p3⟩:=qok hN (k:=m) (by omega) (by omega)
  obtain⟨q1,q2,q3⟩:=qok hN (k:=m+1) (by omega) (by omega)
  obtain⟨n1,n2⟩:=qqy (k:=m) (by omega)
  have wd:=qmL m
  have mach:qlt m=true:=by
   have:=Yp.1 ql1 (m-1) (List.mem_range.2 (by omega))
   rw[show m-1+1=m by omega]at this
   exact this
  unfold qlt at mach
  simp only[Bool.and_eq_true,decide_eq_true_eq]at mach
  obtain⟨⟨mc1,mc2⟩,mc3⟩:=mach
  have hp0:0<=Rat.divInt (piN m) (tp m):=Rat.divInt_nonneg (by omega) (Int.le_of_lt (qbQ m))
  have dp0:0<=Rat.divInt 1 (tp m):=Rat.divInt_nonneg (by omega) (Int.le_of_lt (qbQ m))
  have dq0:0<=Rat.divInt 1 (tp (m+1)):=Rat.divInt_nonneg (by omega) (Int.le_of_lt (qbQ (m+1)))
  have wq:=qmL (m+1)
  have eD:Rat.divInt 1 (tp m)=((1:Int):Rat)/((tp m:Int):Rat):=Rat.divInt_eq_div ..
  have st:Sml ((tp m:Int):Rat) 60:=ql0 (by omega)
  have s1:Sml ((1:Int):Rat) 60:=qjV (by decide) (by omega) (by decide)
  have t0:((tp m:Int):Rat)≠0:=by
   rw[Ne,Rat.intCast_eq_zero_iff]
   have:=qbQ m
   omega
  obtain⟨a1,a2,a3,a4⟩:=qi9 hN (b:=5) (m:=m+2) (n:=16) (by decide) (by decide) (by omega) (by omega) okA5
  obtain⟨b1,b2,b3,b4⟩:=qi9 hN (b:=239) (m:=m) (n:=14) (by decide) (by decide) (by omega) (by omega) qq0
  rw[show m+2+1=m+3 from rfl]at a1 a2 a3 a4
  rw[if_neg (by simp),p1,ZB,zy (by omega),q1,ZB]
  generalize Rat.divInt (piN m) (tp m)=p at*
  generalize Rat.divInt ((piN m:Int)+1) (tp m)=p' at*
  generalize Rat.divInt (piN (m+1)) (tp (m+1))=q at*
  generalize Rat.divInt ((piN (m+1):Nat)+1) (tp (m+1))=q' at*
  generalize qhC 5 (m+3)=l5 at*
  generalize qeF 5 (m+3)=h5 at*
  generalize qhC 239 (m+1)=l2 at*
  generalize qeF 239 (m+1)=h2 at*
  have hpp:p<=p':=by grind
  have hqq:q<=q':=by grind
  have spanChk: ∀{l h:Rat},Sml l 600->Sml h 600->l<=h->ky N ⟨T l,T h⟩=some 0:=fun {l h} s1 s2 hl=>by
   have l1:=qbM s1
   have l2:=qbM s2
   rw[qe9 hN (by simp only;omega) (by simp only;omega),qep (qd9 s1) (qd9 s2),if_neg (Rat.not_lt.2 hl)]
  have sd: ∀{x y:Rat} {n:Nat},0<n->Sml x (9*n)->Sml y (9*n)->Sml (x-y) (9*(n+n+1)):=fun {x y n} hn hx hy=>by
   rw[Rat.sub_eq_add_neg]
   exact qjP hn hx (qjj hy)
  have sdp:Sml (p'-p) 150:=(sd (n:=7) (by omega) (p3.mono (by omega)) (p2.mono (by omega))).mono (by omega)
  have eqT:(T (p'-p)==T (((1:Int):Rat)/((tp m:Int):Rat)))=true:=by
   rw[wd,eD]
   simp
  have s16:Sml ((16:Int):Rat) 126:=qjV (by decide) (by omega) (by decide)
  have s4:Sml ((4:Int):Rat) 126:=qjV (by decide) (by omega) (by decide)
  have m1:Sml (((16:Int):Rat)*l5) 252:=(qcP (n:=14) (by omega) s16 (a2.mono (by omega))).mono (by omega)
  have m2:Sml (((16:Int):Rat)*h5) 252:=(qcP (n:=14) (by omega) s16 (a3.mono (by omega))).mono (by omega)
  have m3:Sml (((4:Int):Rat)*l2) 252:=(qcP (n:=14) (by omega) s4 (b2.mono (by omega))).mono (by omega)
  have m4:Sml (((4:Int):Rat)*h2) 252:=(qcP (n:=14) (by omega) s4 (b3.mono (by omega))).mono (by omega)
  have sL:Sml (((16:Int):Rat)*l5-((4:Int):Rat)*h2) 513:=sd (n:=28) (by omega) m1 m4
  have sH:Sml (((16:Int):Rat)*h5-((4:Int):Rat)*l2) 513:=sd (n:=28) (by omega) m2 m3
  have sHL:Sml ((((16:Int):Rat)*h5-((4:Int):Rat)*l2)-(((16:Int):Rat)*l5-((4:Int):Rat)*h2)) 1035:=sd (n:=57) (by omega) sH sL
  have e16:((16:Int):Rat)=16:=rfl
  have e4:((4:Int):Rat)=4:=rfl
  have mc1:p<=((16:Int):Rat)*h5-((4:Int):Rat)*l2:=mc1
  have mc2:((16:Int):Rat)*l5-((4:Int):Rat)*h2<=p':=mc2
  have mc3:(((16:Int):Rat)*h5-((4:Int):Rat)*l2)-(((16:Int):Rat)*l5-((4:Int):Rat)*h2)<=p'-p:=mc3
  simp only
  rw[if_neg (show¬(!decide (w64 (0+0)=0))=true by decide),spanChk (p2.mono (by omega)) (p3.mono (by omega)) hpp,ZB,if_neg (by decide),spanChk (q2.mono (by omega)) (q3.mono (by omega)) hqq,ZB,if_neg (by decide),qfB hN (q2.mono (by omega)) (q3.mono (by omega)) (p2.mono (by omega)) (p3.mono (by omega)) n1 n2,ZB,if_neg (by decide),qfI hN (k:=60) (by omega) (by omega) p3 p2,ZB,qoQ hN (by omega),ZB,T_1,qjR hN (k:=60) (by omega) (by omega) s1 st t0,ZB,eqT,ZB,if_neg (by decide)]
  unfold qbO
  rw[ZB,qg (n:=(m:Int)+2) (by omega) (by omega),show(m:Int)+2=((m+2:Nat):Int)by omega,a1,ZB,T_16,qi4 hN (s16.mono (by omega)) (s16.mono (by omega)) (a2.mono (by omega)) (a3.mono (by omega)),qhk (by decide) a4,ZB,ZB,b1,ZB,T_4,qi4 hN (s4.mono (by omega)) (s4.mono (by omega)) (b2.mono (by omega)) (b3.mono (by omega)),qhk (by decide) b4,ZB]
  unfold qcO
  simp only
  rw[qfI hN (k:=252) (by omega) (by omega) m1 m4,ZB,qfI hN (k:=252) (by omega) (by omega) m2 m3,ZB,ZB]
  simp only
  rw[qcG hN (k:=513) (by omega) (by omega) sH (p2.mono (by omega)),ZB,if_neg (fun c=>absurd (qjw.1 c) (Rat.not_lt.2 mc1)),qcG hN (k:=513) (by omega) (by omega) sL (p3.mono (by omega)),ZB,if_neg (fun c=>absurd (qaQ.1 c) (Rat.not_lt.2 mc2)),qfI hN (k:=513) (by omega) (by omega) sH sL,ZB,ZB,qcG hN (k:=1035) (by omega) (by omega) sHL (sdp.mono (by omega)),ZB,decide_eq_false (fun c=>absurd (qaQ.1 c) (Rat.not_lt.2 mc3)),ZB,if_neg (by decide)]
  have ku:Sml u 60:=su.mono (by omega)
  have ku':Sml u' 60:=su'.mono (by omega)
  have lP: ∀x∈[u*p,u*p',u'*p,u'*p'],Sml x 126:=by
   simp only[List.mem_cons,List.not_mem_nil,or_false,forall_eq_or_imp,forall_eq]
   have M: ∀{a b:Rat},Sml a 60->Sml b 60->Sml (a*b) 126:=fun {a b} h k=>(qcP (n:=7) (by omega) (h.mono (by omega)) (k.mono (by omega))).mono (by omega)
   exact⟨M ku p2,M ku p3,M ku' p2,M ku' p3⟩
  have lQ: ∀x∈[u*q,u*q',u'*q,u'*q'],Sml x 126:=by
   simp only[List.mem_cons,List.not_mem_nil,or_false,forall_eq_or_imp,forall_eq]
   have M: ∀{a b:Rat},Sml a 60->Sml b 60->Sml (a*b) 126:=fun {a b} h k=>(qcP (n:=7) (by omega) (h.mono (by omega)) (k.mono (by omega))).mono (by omega)
   exact⟨M ku q2,M ku q3,M ku' q2,M ku' q3⟩
  have cu:=qd9 (ku.mono (show 60<=600 by omega))
  have cu':=qd9 (ku'.mono (show 60<=600 by omega))
  have cp:=qd9 (p2.mono (show 60<=600 by omega))
  have cp':=qd9 (p3.mono (show 60<=600 by omega))
  have cq:=qd9 (q2.mono (show 60<=600 by omega))
  have cq':=qd9 (q3.mono (show 60<=600 by omega))
  have inside: ∀z∈[u*q,u*q',u'*q,u'*q'],mnL (u*p) [u*p',u'*p,u'*p']<=z/\z<=mxL (u*p) [u*p',u'*p,u'*p']:=by
   have I: ∀{x y:Rat},u<=x->x<=u'->p<=y->y<=p'->mnL (u*p) [u*p',u'*p,u'*p']<=x*y/\x*y<=mxL (u*p) [u*p',u'*p,u'*p']:=fun h1 h2 h3 h4=>qpn (qre h1 h2 h3 h4) (qqR h1 h2 h3 h4)
   have r1:p<=q':=Rat.le_trans n1 hqq
   have r2:q<=p':=Rat.le_trans hqq n2
   simp only[List.mem_cons,List.not_mem_nil,or_false,forall_eq_or_imp,forall_eq]
   exact⟨I Rat.le_refl huu n1 r2,I Rat.le_refl huu r1 n2,I huu Rat.le_refl n1 r2,I huu Rat.le_refl r1 n2⟩
  have i1:=qcR (P:=fun z=>mnL (u*p) [u*p',u'*p,u'*p']<=z) (fun z hz=>(inside z hz).1)
  have i2:=qcK (P:=fun z=>z<=mxL (u*p) [u*p',u'*p,u'*p']) (fun z hz=>(inside z hz).2)
  have oP:=qk0 (u*p) [u*p',u'*p,u'*p']
  have oQ:=qk0 (u*q) [u*q',u'*q,u'*q']
  have sP1:=qcR lP
  have sP2:=qcK lP
  have sQ1:=qcR lQ
  have sQ2:=qcK lQ
  rw[qmH hN ku ku' p2 p3 cu cu' cp cp' huu hpp,ZB,qmH hN ku ku' q2 q3 cu cu' cq cq' huu hqq,ZB]
  have hP:qfb (fun x y=>x*y) u u' p p'=⟨T (mnL (u*p) [u*p',u'*p,u'*p']),T (mxL (u*p) [u*p',u'*p,u'*p'])⟩:=rfl
  have hQ:qfb (fun x y=>x*y) u u' q q'=⟨T (mnL (u*q) [u*q',u'*q,u'*q']),T (mxL (u*q) [u*q',u'*q,u'*q'])⟩:=rfl
  rw[hP,hQ]
  generalize mnL (u*p) [u*p',u'*p,u'*p']=x at*
  generalize mxL (u*p) [u*p',u'*p,u'*p']=x' at*
  generalize mnL (u*q) [u*q',u'*q,u'*q']=y at*
  generalize mxL (u*q) [u*q',u'*q,u'*q']=y' at*
  have A: ∀{a b:Rat},Sml a 126->Sml b 60->Sml (a+b) 600:=fun {a b} h k=>(qjP (n:=14) (by omega) h (k.mono (by omega))).mono (by omega)
  simp only
  rw[qko hN (sP1.mono (by omega)) (sP2.mono (by omega)) (p2.mono (by omega)) (p3.mono (by omega)) oP hpp,ZB,qko hN (sQ1.mono (by omega)) (sQ2.mono (by omega)) (q2.mono (by omega)) (q3.mono (by omega)) oQ hqq,ZB]
  simp only
  rw[if_pos (show w64 (w64 (w64 (0+0)+0)+0)=0 by decide),spanChk (sP1.mono (by omega)) (sP2.mono (by omega)) oP,ZB,if_pos rfl,spanChk (sQ1.mono (by omega)) (sQ2.mono (by omega)) oQ,ZB,if_pos rfl,spanChk (A sP1 p2) (A sP2 p3) (by grind),ZB,if_pos rfl,spanChk (A sQ1 q2) (A sQ2 q3) (by grind),ZB,if_pos rfl,qfB hN (sQ1.mono (by omega)) (sQ2.mono (by omega)) (sP1.mono (by omega)) (sP2.mono (by omega)) i1 i2,ZB,if_pos rfl,qfB hN (A sQ1 q2) (A sQ2 q3) (A sP1 p2) (A sP2 p3) (by grind) (by grind),ZB,ZB]
end Go.Av
end
