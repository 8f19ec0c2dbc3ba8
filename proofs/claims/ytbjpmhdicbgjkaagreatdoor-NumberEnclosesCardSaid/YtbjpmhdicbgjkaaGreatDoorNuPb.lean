/-
  The reference's numerals.
-/
import Derived.Test.YtbjpmhdicbgjkaaGreatDoorNuPa
import Derived.Test.YtbjpmhdicbgjkaaGreatDoorAvPt
noncomputable section
set_option linter.unusedVariables false
set_option linter.unusedSimpArgs false
set_option maxRecDepth 100000
section
namespace Go.Av
theorem qbx {a b:Str} (h:a.length+b.length<=1000000000):cat a b=some (a++b):=by
 unfold cat
 rw[if_pos (by omega)]
theorem dcut {d:Nat} (h:d<10):cut ([48,49,50,51,52,53,54,55,56,57]:Str) (d:Int) (w64 ((d:Int)+1))=some [dch d]:=by
 rw[zT (by omega)]
 rcases(show d=0\/d=1\/d=2\/d=3\/d=4\/d=5\/d=6\/d=7\/d=8\/d=9 by omega)with e|e|e|e|e|e|e|e|e|e<;>subst e<;>decide
theorem tm10 (n:Nat):(n:Int).tmod 10=((n%10:Nat):Int):=by rw[Int.tmod_eq_emod_of_nonneg (by omega)];omega
theorem td10 (n:Nat):(n:Int).tdiv 10=((n/10:Nat):Int):=by rw[YF (by omega)];omega
theorem qgx {least:Int} {K n:Nat} {s:Str} (u:n<9223372036854775808) (hs:s.length<=1000) (h:0<n\/(s.length:Int)<least):kg least (K+1) (n:Int) s=kg least K ((n/10:Nat):Int) (dch (n%10)::s):=by
 have j:(if(n:Int)>0 then some true else some (decide ((s.length:Int)<least)):Option Bool)=some true:=by
  by_cases c:(n:Int)>0
  ·rw[if_pos c]
  rw[if_neg c,decide_eq_true (by omega)]
 rw[kg,j,ZB,if_pos rfl,tm10,td10,dcut (by omega),ZB,qbx (by simp;omega),ZB,ql (by omega) (by omega)]
 rfl
theorem qgv {least:Int} {K:Nat} {s:Str} (h: ¬(s.length:Int)<least):kg least (K+1) 0 s=some s:=by
 rw[kg,if_neg (by omega),decide_eq_false h,ZB,if_neg (by simp)]
theorem qkl: ∀(k K n:Nat) (s:Str),n<10^k->s.length+k=9->k<K->kg 9 K (n:Int) s=some (qeb k n++s)
 |k,0,n,s,_,_,h=>by omega
 |0,K+1,n,s,hn,hs,h=>by
  simp at hn
  subst hn
  exact qgv (by omega)
 |k+1,K+1,n,s,hn,hs,h=>by
  have j:(10:Nat)^(k+1)<=10^9:=Nat.pow_le_pow_right (by omega) (by omega)
  rw[Nat.pow_succ]at hn
  rw[qgx (by rw[Nat.pow_succ]at j;omega) (by omega) (.inr (by omega)),qkl k K (n/10) _ (by omega) (by simp;omega) (by omega),qeb,Yz]
  rfl
theorem qkV: ∀(k K n:Nat) (s:Str),0<n->n<10^k->n<9223372036854775808->s.length+k<=900->k<K->kg 1 K (n:Int) s=some (Lib.decDigits n++s)
 |k,0,n,s,_,_,_,_,h=>by omega
 |0,K+1,n,s,h0,hn,_,hs,h=>by simp at hn;omega
 |k+1,K+1,n,s,h0,hn,h63,hs,h=>by
  rw[Nat.pow_succ]at hn
  rw[qgx h63 (by omega) (.inl h0)]
  by_cases c:n<10
  ·obtain⟨K2,rfl⟩: ∃K2,K=K2+1:=⟨K-1,by omega⟩
   rw[show n/10=0 by omega,jo c,show n%10=n by omega]
   exact qgv (by simp;omega)
  rw[qkV k K (n/10) _ (by omega) (by omega) (by omega) (by simp;omega) (by omega),qfD c,Yz]
  rfl
theorem qn4 {N n:Nat} (hN:100<N) (h:n<1000000000):zO N (n:Int) 9=some (qeb 9 n):=by
 unfold zO
 rw[qkl 9 N n [] h rfl (by omega),ZB,YQ]
theorem qij {N n:Nat} (hN:100<N) (h:n<9223372036854775808):zO N (n:Int) 1=some (Lib.decDigits n):=by
 unfold zO
 rcases Nat.eq_zero_or_pos n with e|e
 ·subst e
  obtain⟨K,rfl⟩: ∃K,N=K+1+1:=⟨N-2,by omega⟩
  have u:=qgx (least:=1) (K:=K+1) (n:=0) (s:=[]) (by omega) (by simp) (.inr (by simp))
  rw[u,Nat.zero_div]
  have j:=qgv (least:=1) (K:=K) (s:=[dch (0%10)]) (by simp)
  have j:kg 1 (K+1) ((0:Nat):Int) [dch (0%10)]=_:=j
  rw[j,ZB,jo (by decide)]
 rw[qkV 19 N n [] e (by omega) h (by simp) (by omega),ZB,YQ]
theorem qhJ: ∀k:Nat,E9^k=((10^(9*k):Nat):Int)
 |0=>rfl
 |k+1=>by
  rw[Int.pow_succ,qhJ k,Nat.mul_succ,Nat.pow_add,Int.natCast_mul]
  rfl
def nv (w:List Int):Nat:=(dv E9 w).toNat
theorem qjT {w:List Int} (h:Dg E9 w):(nv w:Int)=dv E9 w:=by
 have:=qE E0 h
 unfold nv
 omega
theorem nv_lt {w:List Int} (h:Dg E9 w):nv w<10^(9*w.length):=by
 have j:=yY E0 h
 rw[qhJ,<-qjT h]at j
 omega
theorem qiX {w:List Int} (h:Dg E9 w):(Lib.decDigits (nv w)).length<=9*w.length+1:=by
 refine(qaL (by omega)).2 ?_
 have:=nv_lt h
 rw[Nat.pow_succ]
 omega
theorem qmg {w:List Int} (h:Dg E9 w) {i:Nat} (hi:i<w.length):nv (w.drop i)=w[i].toNat+1000000000*nv (w.drop (i+1)):=by
 have j:=qjT (h.drop i)
 have u:=qjT (h.drop (i+1))
 have h3:=(h.at hi).1
 rw[qhK w hi]at j
 have h4:E9*dv E9 (w.drop (i+1))=1000000000*dv E9 (w.drop (i+1)):=rfl
 omega
theorem qj9 {N:Nat} (hN:100<N) {a:qO} (u:Dg E9 a.w) (a0:a.w.length<=100000): ∀(K i:Nat),i<=a.w.length->i<K->0<nv (a.w.drop i)->yf N a K (Lib.decDigits (nv (a.w.drop i))) ((i:Int)-1)=some (Lib.decDigits (nv a.w))
 |0,i,_,h,_=>by omega
 |K+1,0,_,_,_=>by
  rw[yf,if_neg (by omega),YR]
 |K+1,i+1,hi,h,hp=>by
  have j:i<a.w.length:=by omega
  have ax:=u.at j
  have ax2:a.w[i]<1000000000:=ax.2
  have ei:((i+1:Nat):Int)-1=(i:Int):=by omega
  have ed:a.w[i]=(a.w[i].toNat:Int):=by omega
  have el:=qmg u j
  have ll:=qiX (u.drop (i+1))
  rw[YJ]at ll
  rw[yf,ei,if_pos (by omega),qy,Ya j,ZB]
  have e9:zO N a.w[i] 9=some (qeb 9 a.w[i].toNat):=by
   conv=>lhs;rw[ed]
   exact qn4 hN (by omega)
  rw[e9,ZB,qbx (by rw[qh2];omega),ZB,ql (by omega) (by omega)]
  have a1:Lib.decDigits (nv (a.w.drop (i+1)))++qeb 9 a.w[i].toNat=Lib.decDigits (nv (a.w.drop i)):=by
   have h9:(10:Nat)^9=1000000000:=rfl
   have q:nv (a.w.drop i)/10^9=nv (a.w.drop (i+1)):=by rw[h9];omega
   have r:nv (a.w.drop i)%10^9=a.w[i].toNat:=by rw[h9];omega
   rw[qiz 9 (nv (a.w.drop i)) (by rw[q];exact hp),q,r]
  rw[a1]
  exact qj9 hN u a0 K i (by omega) (by omega) (by omega)
theorem yg {z:Int} (h:z<0):Lib.itoa z=45::Lib.decDigits z.natAbs:=by unfold Lib.itoa;rw[if_pos h]
theorem jl {z:Int} (h: ¬z<0):Lib.itoa z=Lib.decDigits z.natAbs:=by
 unfold Lib.itoa
 rw[if_neg h,show z.toNat=z.natAbs by omega]
theorem qmo {N:Nat} (hN:60000<N) {z:Int} (h:jv z 50000):qby N (rI z)=some (Lib.itoa z):=by
 obtain⟨c,e⟩:=qgl z
 have l:(rI z).w.length<=50000:=h.len
 have en:nv (rI z).w=z.natAbs:=by unfold nv;rw[e];omega
 have ng:(rI z).neg=decide (z<0):=rfl
 unfold qby
 by_cases h0:(rI z).w.length=0
 ·have j:z=0:=by
   rw[YL.1 h0,zu]at e
   omega
  rw[if_pos (by omega),j]
  have:Lib.itoa 0=[48]:=by rw[jl (by decide)];exact jo (by decide)
  rw[this]
 have u:(rI z).w.length-1<(rI z).w.length:=by omega
 have ax:=c.1.at u
 have ax2:(rI z).w[(rI z).w.length-1]<1000000000:=ax.2
 have an:(rI z).w[(rI z).w.length-1]≠0:=c.2 _ (by rw[List.getLast?_eq_getElem?];exact Ya u)
 have ed:(rI z).w[(rI z).w.length-1]=((rI z).w[(rI z).w.length-1].toNat:Int):=by omega
 have e1:nv ((rI z).w.drop ((rI z).w.length-1))=(rI z).w[(rI z).w.length-1].toNat:=by
  rw[qmg c.1 u,List.drop_of_length_le (by omega)]
  rfl
 have e2:zO N (rI z).w[(rI z).w.length-1] 1=some (Lib.decDigits (nv ((rI z).w.drop ((rI z).w.length-1)))):=by
  conv=>lhs;rw[ed]
  rw[e1]
  exact qij (by omega) (by omega)
 have e3:=qj9 (N:=N) (by omega) c.1 (by omega) N ((rI z).w.length-1) (by omega) (by omega) (by rw[e1];omega)
 have ll:=qiX c.1
 rw[if_neg (by omega),qje (by omega) (by omega),qy,Ya u,ZB,e2,ZB,show w64 (((rI z).w.length:Int)-2)=(((rI z).w.length-1:Nat):Int)-1 by rw[ql (by omega) (by omega)];omega,e3,ZB,ng]
 by_cases j:z<0
 ·rw[decide_eq_true j,if_pos rfl,qbx (by simp;omega),ZB,yg j,en]
  rfl
 rw[decide_eq_false j,if_neg (by simp),jl j,en]
theorem qkg {s:Str} (u:s.all yh=true) (hl:s.length<=18): ∀(K i:Nat),i<=s.length->s.length<K+i->vF s K ((qY 0 (s.take i):Nat):Int) (i:Int)=some ((qY 0 s:Nat):Int)
 |0,i,h,hK=>by omega
 |K+1,i,h,hK=>by
  rw[vF]
  by_cases hi:i<s.length
  ·have ht:s.take (i+1)=s.take i++[s[i]]:=List.take_succ_eq_append_getElem hi
   have j:yh s[i]=true:=Yp.1 u _ (List.getElem_mem hi)
   obtain⟨_,hc2⟩:=qlY j
   have hc1:48<=s[i].toNat:=by
    unfold yh at j
    rw[Bool.and_eq_true,decide_eq_true_eq]at j
    exact j.1
   have hv:=qe3 (s.take i) 0 (Yp.2 fun x hx=>Yp.1 u x (List.mem_of_mem_take hx))
   have hp:(10:Nat)^(s.take i).length<=10^17:=Nat.pow_le_pow_right (by omega) (by rw[Ym];omega)
   have hp2:(10:Nat)^17=100000000000000000:=rfl
   rw[if_pos (by omega),qy,Ya hi,ZB,ql (n:=10*((qY 0 (s.take i):Nat):Int)) (by omega) (by omega),ql (n:=(s[i].toNat:Int)) (by omega) (by omega),ql (n:=10*((qY 0 (s.take i):Nat):Int)+(s[i].toNat:Int)) (by omega) (by omega),ql (by omega) (by omega),zT (by omega)]
   have e:10*((qY 0 (s.take i):Nat):Int)+(s[i].toNat:Int)-48=((qY 0 (s.take (i+1)):Nat):Int):=by rw[ht,qgy];omega
   rw[e]
   exact qkg u hl K (i+1) (by omega) (by omega)
  rw[if_neg (by omega),List.take_of_length_le (by omega)]
theorem qgg {N:Nat} (hN:100<N) {s:Str} (h:s.all yh=true) (j:s.length<=18):xE N s=some ((qY 0 s:Nat):Int):=by
 have e:=qkg h j N 0 (by omega) (by omega)
 have e:vF s N 0 0=_:=e
 unfold xE
 rw[e,ZB]
theorem qid {s:Str} (h:s.all yh=true) (k:Nat):(s.take k).all yh=true:=Yp.2 fun x hx=>Yp.1 h x (List.mem_of_mem_take hx)
theorem qhZ {s:Str} (h:s.all yh=true) (k:Nat):(s.drop k).all yh=true:=Yp.2 fun x hx=>Yp.1 h x (List.mem_of_mem_drop hx)
theorem qkS {N:Nat} (hN:100<N): ∀(K:Nat) (l:List Int) (s:Str),s.all yh=true->l.length+s.length<=90000->s.length<K->Dg E9 l->
 ∃j s',yl N K l s=some (j,s')/\s'.length<=9/\s'.all yh=true/\Dg E9 j/\j.length<=90000/\dv E9 j+E9^j.length*(qY 0 s':Nat)=dv E9 l+E9^l.length*(qY 0 s:Nat)
 |0,l,s,_,_,h,_=>by omega
 |K+1,l,s,hd,hl,h,hg=>by
  rw[yl]
  by_cases c:s.length>9
  ·have lu:(s.drop (s.length-9)).length=9:=by rw[YJ];omega
   have hv:=qgg (N:=N) hN (qhZ hd (s.length-9)) (by omega)
   have u:=qe3 _ 0 (qhZ hd (s.length-9))
   rw[lu]at u
   rw[if_pos (by omega),show w64 ((s.length:Int)-9)=((s.length-9:Nat):Int)by rw[ql (by omega) (by omega)];omega,xR (by omega),ZB,hv,ZB,qax (by simp;omega) (by simp;omega),ZB,xx (by omega),ZB]
   obtain⟨j,s',f1,f2,f3,f4,f5,f6⟩:=qkS hN K (l++[((qY 0 (s.drop (s.length-9)):Nat):Int)]) (s.take (s.length-9)) (qid hd _) (by simp;omega) (by rw[Ym];omega) (hg.append (Dg.cons ⟨by omega,show((qY 0 (s.drop (s.length-9)):Nat):Int)<1000000000 by omega⟩ Dg.nil))
   refine⟨j,s',f1,f2,f3,f4,f5,?_⟩
   rw[f6,qe0,Yq,List.length_singleton,Int.pow_succ,Int.mul_assoc]
   have e:qY 0 s=qY 0 (s.take (s.length-9))*1000000000+qY 0 (s.drop (s.length-9)):=by
    have:=qeg (s.take (s.length-9)) (s.drop (s.length-9))
    rw[YS,lu]at this
    exact this
   have e2:((qY 0 s:Nat):Int)=((qY 0 (s.drop (s.length-9)):Nat):Int)+E9*((qY 0 (s.take (s.length-9)):Nat):Int):=by
    have h4:E9*((qY 0 (s.take (s.length-9)):Nat):Int)=1000000000*((qY 0 (s.take (s.length-9)):Nat):Int):=rfl
    omega
   rw[e2,Int.mul_add]
   omega
  rw[if_neg (by omega)]
  exact⟨l,s,rfl,by omega,hd,hg,by omega,rfl⟩
def sgn (s:Str):Bool:=decide (s[0]? =some 45)
def bdy (s:Str):Str:=if sgn s=true then s.drop 1 else s
theorem qgf (s:Str):(if(s.length:Int)>0 then(idx s 0).bind fun c=>some (decide ((c.toNat:Int)=45))else some false:Option Bool)=some (sgn s):=by
 unfold sgn
 cases s with
 |nil=>rfl
 |cons c t=>
  rw[if_pos (by simp),yQ]
  have e:((c.toNat:Int)=45)↔(some c=some (45:UInt8)):=⟨fun h=>congrArg some (UInt8.toNat_inj.1 (show c.toNat=45 by omega)),fun h=>by rw[Ye h];rfl⟩
  simp only[Yj,ZB]
  congr 1
  exact decide_eq_decide.2 e
theorem qlj (s:Str):(if sgn s=true then(cut s 1 (s.length:Int)).bind fun x=>some x else some s:Option Str)=some (bdy s):=by
 unfold bdy
 cases h:sgn s with
 |false=>rw[if_neg (by simp),if_neg (by simp)]
 |true=>
  have j:1<=s.length:=by
   cases s with
   |nil=>simp[sgn]at h
   |cons=>simp
  have:=xR j
  have e:cut s 1 (s.length:Int)=some (s.drop 1):=this
  rw[if_pos rfl,if_pos rfl,e,ZB]
def qjp (s:Str):Int:=if sgn s=true then-((qY 0 (bdy s):Nat):Int)else((qY 0 (bdy s):Nat):Int)
theorem qiy {N:Nat} (hN:100000<N) {s:Str} (u:(bdy s).all yh=true) (hl:(bdy s).length<=80000):qat N s=some (rI (qjp s)):=by
 unfold qat
 rw[qgf,ZB,qlj,ZB]
 obtain⟨l,t,f1,f2,h,f4,f5,f6⟩:=qkS (N:=N) (by omega) N [] (bdy s) u (by simp;omega) (by omega) Dg.nil
 have hv:=qgg (N:=N) (by omega) h (by omega)
 have j:=qe3 _ 0 h
 have hp:(10:Nat)^t.length<=10^9:=Nat.pow_le_pow_right (by omega) f2
 rw[f1,ZB]
 simp only
 have hg:=f4.append (r:=[((qY 0 t:Nat):Int)]) (Dg.cons ⟨by omega,show((qY 0 t:Nat):Int)<1000000000 by omega⟩ Dg.nil)
 rw[hv,ZB,qax (by simp;omega) (by simp;omega),ZB,qaJ _ hg (by simp;omega) (by simp;omega),ZB,qe0,f6]
 simp only[zu,List.length_nil,Int.pow_zero,Int.one_mul,Int.zero_add]
 rfl
theorem qio (z:Int):sgn (Lib.itoa z)=decide (z<0):=by
 unfold sgn
 by_cases h:z<0
 ·rw[yg h,decide_eq_true h];rfl
 rw[jl h,decide_eq_false h]
 refine decide_eq_false fun e=>?_
 have j:(45:UInt8)∈Lib.decDigits z.natAbs:=Yn e
 have:=Yp.1 (qa9 z.natAbs) _ j
 exact absurd this (by decide)
theorem qcu (z:Int):bdy (Lib.itoa z)=Lib.decDigits z.natAbs:=by
 unfold bdy
 rw[qio]
 by_cases h:z<0
 ·rw[decide_eq_true h,if_pos rfl,yg h];rfl
 rw[decide_eq_false h,if_neg (by simp),jl h]
theorem qdi (z:Int):qjp (Lib.itoa z)=z:=by
 unfold qjp
 rw[qio,qcu,qcy]
 by_cases h:z<0
 ·rw[decide_eq_true h,if_pos rfl];omega
 rw[decide_eq_false h,if_neg (by simp)];omega
def slA:Str->Nat
 |[]=>0
 |c::s=>if c=47 then 0 else slA s+1
theorem qgn: ∀s:Str,slA s<=s.length
 |[]=>Nat.le_refl _
 |c::s=>by
  rw[slA,Yr]
  have:=qgn s
  split<;>omega
theorem qko {s:Str} (u:s.length<=1000000): ∀(K i:Nat),i<=s.length->s.length<K+i->vJ s K (i:Int)=some (if i+slA (s.drop i)<s.length then .inr ((i+slA (s.drop i):Nat):Int)else .inl ())
 |0,i,h,hK=>by omega
 |K+1,i,h,hK=>by
  rw[vJ]
  by_cases hi:i<s.length
  ·have j:s.drop i=s[i]::s.drop (i+1):=YG hi
   rw[if_pos (by omega),qy,Ya hi,ZB,j,slA]
   by_cases c:s[i]=47
   ·rw[if_pos c,if_pos (by rw[c];rfl),Nat.add_zero,if_pos hi]
   rw[if_neg c,if_neg (fun e=>c (UInt8.toNat_inj.1 (show s[i].toNat=47 by omega))),zT (by omega),qko u K (i+1) (by omega) (by omega),show i+1+slA (s.drop (i+1))=i+(slA (s.drop (i+1))+1)by omega]
  rw[if_neg (by omega),List.drop_of_length_le (by omega),if_neg (by omega)]
theorem qdr {N:Nat} {s:Str} (j:s.length<=1000000) (hN:s.length<N):yO N s=some (slA s:Int):=by
 have e:=qko j N 0 (by omega) (by omega)
 have e:vJ s N 0=_:=e
 have h:=qgn s
 unfold yO
 rw[e,YR,Nat.zero_add]
 by_cases c:slA s<s.length
 ·rw[if_pos c];rfl
 rw[if_neg c]
 have:slA s=s.length:=by omega
 rw[this]
 rfl
theorem qjR: ∀(s t:Str),(∀c∈s,c≠47)->slA (s++47::t)=s.length/\slA s=s.length
 |[],t,_=>⟨by simp[slA],rfl⟩
 |c::s,t,h=>by
  have j:=qjR s t fun x hx=>h x (List.mem_cons_of_mem _ hx)
  rw[List.cons_append,slA,slA,if_neg (h c (List.mem_cons_self ..)),if_neg (h c (List.mem_cons_self ..)),j.1,j.2]
  exact⟨rfl,rfl⟩
end Go.Av
end
section
namespace Go.Av
theorem and1 {n:Nat} (h:n<4611686018427387904):qD .i64 (n:Int) 1=((n%2:Nat):Int):=by
 show IntKind.wrap .i64 _=_
 have e:(BitVec.ofInt IntKind.i64.bits (n:Int)&&&BitVec.ofInt IntKind.i64.bits 1).toNat=n%2:=by
  rw[BitVec.toNat_and]
  show(BitVec.ofInt 64 (n:Int)).toNat&&&(BitVec.ofInt 64 1).toNat=_
  rw[qcc (by omega) (by omega),qcc (by omega) (by omega)]
  exact Nat.and_one_is_mod n
 rw[e]
 show w64 _=_
 exact ql (by omega) (by omega)
theorem shr1 (n:Nat):qz .i64 (n:Int) 1=((n/2:Nat):Int):=by
 show(n:Int).fdiv 2=_
 rw[Int.fdiv_eq_ediv_of_nonneg _ (by decide)]
 omega
theorem qoy {N:Nat} (hN:11000<N): ∀(K n:Nat) (b j:qo) (x y:Int) (mb ma:Nat),n<100000->n<K->IsZ b x->IsZ j y->Fit x mb->Fit y ma->ma+mb*n<=3900->
 ∃r,vC N K b.s b.w j.s j.w (n:Int)=some (r.s,r.w)/\IsZ r (y*x^n)
 |0,n,_,_,_,_,_,_,_,h,_,_,_,_,_=>by omega
 |K+1,n,b,j,x,y,mb,ma,hn,hK,hb,hacc,fx,fy,hm=>by
  rw[vC]
  by_cases h0:n=0
  ·subst h0
   rw[if_neg (by omega)]
   exact⟨j,rfl,by simpa using hacc⟩
  have hmb:mb<=mb*n:=Nat.le_mul_of_pos_right _ (by omega)
  obtain⟨m,r,hr,hmr⟩: ∃m r,r<2/\n=2*m+r:=⟨n/2,n%2,by omega,by omega⟩
  have emb:mb*n=mb*m+mb*m+mb*r:=by rw[hmr,Nat.mul_add,<-Nat.mul_assoc,Nat.mul_comm mb 2,Nat.two_mul,Nat.add_mul]
  have S1: ∃(u:qo) (m2:Nat),(if(qD .i64 (n:Int) 1)=1 then(qP N (⟨j.s,j.w⟩:qo) (⟨b.s,b.w⟩:qo)).bind fun r20=>some (r20.s,r20.w)else some (j.s,j.w):Option (Int×(List Int)))=some (u.s,u.w)/\IsZ u (y*x^r)/\Fit (y*x^r) m2/\m2=ma+mb*r:=by
   rw[and1 (by omega),show n%2=r by omega]
   rcases(show r=0\/r=1 by omega)with e|e<;>subst e
   ·rw[if_neg (by simp)]
    exact⟨j,ma,rfl,by simpa using hacc,by simpa using fy,by simp⟩
   obtain⟨p,e1,h1⟩:=qcX hN hacc hb (fy.mono (by omega)) (fx.mono (by omega))
   have e1:qP N (⟨j.s,j.w⟩:qo) (⟨b.s,b.w⟩:qo)=some p:=e1
   rw[if_pos (by simp),e1,ZB]
   exact⟨p,ma+mb,rfl,by rw[Int.pow_one];exact h1,by rw[Int.pow_one];exact qb7 fy fx,by simp⟩
  obtain⟨u,m2,e1,h1,f1,em2⟩:=S1
  have S2: ∃(b2:qo) (x2:Int) (m3:Nat),(if(n:Int)>1 then(qP N (⟨b.s,b.w⟩:qo) (⟨b.s,b.w⟩:qo)).bind fun r22=>some (r22.s,r22.w,u.s,u.w)else some (b.s,b.w,u.s,u.w):Option (Int×(List Int)×Int×(List Int)))=some (b2.s,b2.w,u.s,u.w)/\IsZ b2 x2/\Fit x2 m3/\m3*m=mb*m+mb*m/\x2^m=(x*x)^m:=by
   by_cases c:(n:Int)>1
   ·have hm1:1<=m:=by omega
    have h3:mb<=mb*m:=Nat.le_mul_of_pos_right _ hm1
    obtain⟨p,e2,h2⟩:=qcX hN hb hb (fx.mono (by omega)) (fx.mono (by omega))
    have e2:qP N (⟨b.s,b.w⟩:qo) (⟨b.s,b.w⟩:qo)=some p:=e2
    rw[if_pos c,e2,ZB]
    exact⟨p,x*x,mb+mb,rfl,h2,qb7 fx fx,Nat.add_mul _ _ _,rfl⟩
   have hm0:m=0:=by omega
   subst hm0
   rw[if_neg c]
   exact⟨b,x,mb,rfl,hb,fx,by simp,by simp⟩
  obtain⟨b2,x2,m3,e2,h2,f2,em3,ex⟩:=S2
  have S:((if(qD .i64 (n:Int) 1)=1 then(qP N (⟨j.s,j.w⟩:qo) (⟨b.s,b.w⟩:qo)).bind fun r20=>some (r20.s,r20.w)else some (j.s,j.w):Option (Int×(List Int)))).bind (fun(n16,l17)=>
   if(n:Int)>1 then(qP N (⟨b.s,b.w⟩:qo) (⟨b.s,b.w⟩:qo)).bind fun r22=>some (r22.s,r22.w,n16,l17)else some (b.s,b.w,n16,l17))=some (b2.s,b2.w,u.s,u.w):=by
   rw[e1,ZB]
   exact e2
  obtain⟨r',e3,h3⟩:=qoy hN K m b2 u x2 (y*x^r) m3 m2 (by omega) (by omega) h2 h1 f2 f1 (by omega)
  rw[if_pos (by omega),S,ZB]
  simp only
  rw[shr1,show n/2=m by omega]
  refine⟨r',e3,?_⟩
  have hx2:x*x=x^2:=by rw[Int.pow_succ,Int.pow_succ,Int.pow_zero,Int.one_mul]
  rw[ex,Int.mul_assoc,hx2,<-Int.pow_mul,<-Int.pow_add,show r+2*m=n by omega]at h3
  exact h3
theorem qq5 {N:Nat} (hN:110000<N) {b:qo} {x:Int} {n mb:Nat} (u:n<100000) (hb:IsZ b x) (j:Fit x mb) (hm:1+mb*n<=3900): ∃r,qbQ N b (n:Int)=some r/\IsZ r (x^n):=by
 obtain⟨r,e,h⟩:=qoy (N:=N) (by omega) N n b ⟨1,[]⟩ x 1 mb 1 u (by omega) hb (Ue (by decide) (by decide)) j (F1 (by omega)) hm
 have e:vC N N b.s b.w 1 [] (n:Int)=some (r.s,r.w):=e
 unfold qbQ
 rw[qiL,ZB]
 simp only
 rw[e,ZB]
 exact⟨r,rfl,by rw[Int.one_mul]at h;exact h⟩
theorem qfJ {z:Int} {p n:Nat} (h:(z.natAbs:Int)<((10^p:Nat):Int)) (hp:p<=19*n):Fit z n:=by
 have u:(10:Nat)^p<=10^(19*n):=Nat.pow_le_pow_right (by omega) hp
 have j:((10^(19*n):Nat):Int)<=W^n:=by
  rw[Nat.pow_mul]
  have:=(qeH (x:=10000000000000000000) (y:=W) (by decide) (by decide) n).2
  rw[Int.natCast_pow]
  exact this
 unfold Fit
 omega
theorem qcm (s:Str):strings_HasPrefix s [45]=some (sgn s):=by
 unfold strings_HasPrefix stringslite_HasPrefix sgn
 cases s with
 |nil=>rfl
 |cons c t=>
  rw[if_pos (by simp;omega)]
  have e:cut (c::t) 0 (([45]:Str).length:Int)=some [c]:=xx (l:=c::t) (k:=1) (by simp)
  rw[e]
  simp only[ZB,Yj]
  congr 1
  rw[Bool.eq_iff_iff,beq_iff_eq,decide_eq_true_eq]
  constructor
  ·intro h;injection h with h;rw[h]
  intro h;rw[Ye h]
theorem qjt {s:Str} (h:sgn s=true):1<=s.length:=by
 cases s with
 |nil=>simp[sgn]at h
 |cons=>simp
theorem qfl (s:Str):strings_TrimPrefix s [45]=some (bdy s):=by
 unfold strings_TrimPrefix stringslite_TrimPrefix
 have e:stringslite_HasPrefix s [45]=some (sgn s):=by
  have:=qcm s
  unfold strings_HasPrefix at this
  cases h:stringslite_HasPrefix s [45]with
  |none=>rw[h]at this;cases this
  |some b=>rw[h]at this;exact this
 rw[e,ZB]
 unfold bdy
 cases h:sgn s with
 |false=>rw[if_neg (by simp),if_neg (by simp),ZB]
 |true=>
  have j:cut s (([45]:Str).length:Int) (s.length:Int)=some (s.drop 1):=xR (qjt h)
  rw[if_pos rfl,if_pos rfl,j,ZB,ZB]
theorem qjg (s:Str):strings_CutPrefix s [45]=some (bdy s,sgn s):=by
 unfold strings_CutPrefix stringslite_CutPrefix
 have e:stringslite_HasPrefix s [45]=some (sgn s):=by
  have:=qcm s
  unfold strings_HasPrefix at this
  cases h:stringslite_HasPrefix s [45]with
  |none=>rw[h]at this;cases this
  |some b=>rw[h]at this;exact this
 rw[e,ZB]
 unfold bdy
 cases h:sgn s with
 |false=>rw[if_pos (by simp),if_neg (by simp),ZB]
 |true=>
  have j:cut s (([45]:Str).length:Int) (s.length:Int)=some (s.drop 1):=xR (qjt h)
  rw[if_neg (by simp),if_pos rfl,j,ZB,ZB]
theorem qlV {N:Nat} (hN:600000<N): ∀(K:Nat) (x:qo) (y:Int) (s:Str) (p:Nat),IsZ x y->0<=y->y<((10^p:Nat):Int)->p+s.length<=19000->s.all yh=true->s.length<K->
 ∃r,xA N K x.s x.w s=some (r.s,r.w)/\IsZ r (y*((10^s.length:Nat):Int)+(qY 0 s:Nat))
 |0,_,_,_,_,_,_,_,_,_,h=>by omega
 |K+1,x,y,s,p,hx,y0,y1,hp,hd,hK=>by
  rw[xA]
  by_cases h0:s.length=0
  ·rw[if_neg (by omega)]
   have:s=[]:=YL.1 h0
   subst this
   exact⟨x,rfl,by simpa[qcj]using hx⟩
  rw[if_pos (by omega)]
  obtain⟨g,hg,hg0,hgl,hg18⟩: ∃g:Nat,(if(s.length:Int)<18 then(s.length:Int)else 18)=(g:Int)/\0<g/\g<=s.length/\g<=18:=by
   by_cases c:(s.length:Int)<18
   ·exact⟨s.length,by rw[if_pos c],by omega,by omega,by omega⟩
   exact⟨18,by rw[if_neg c];rfl,by omega,by omega,by omega⟩
  have lt:(s.take g).length=g:=by rw[Ym];omega
  have ea:=qks (s:=s.take g) (by omega) (qid hd g)
  have et:qk6 (s.take g)=some (((qY 0 (s.take g):Nat):Int),()):=by
   unfold qk6
   rw[if_pos (by omega),ea]
   rfl
  have hv:=qe3 (s.take g) 0 (qid hd g)
  rw[lt]at hv
  have hp18:(10:Nat)^g<=10^18:=Nat.pow_le_pow_right (by omega) hg18
  have h18:(10:Nat)^18=1000000000000000000:=rfl
  rw[hg,xx hgl,ZB,et,ZB,qiL,ZB]
  obtain⟨r1,e1,h1⟩:=qq5 (N:=N) (by omega) (b:=⟨10,[]⟩) (x:=10) (n:=g) (mb:=1) (by omega) (Ue (by decide) (by decide)) (qfJ (p:=2) (by decide) (by omega)) (by omega)
  have ep:(10:Int)^g=((10^g:Nat):Int):=by rw[Int.natCast_pow];rfl
  rw[ep]at h1
  have fg:Fit ((10^g:Nat):Int) 1000:=qfJ (p:=19) (by
   rw[Int.natAbs_natCast]
   have j:(10:Nat)^19=10000000000000000000:=rfl
   omega) (by omega)
  have fy:Fit y 1000:=qfJ (p:=p) (by omega) (by omega)
  have hpos:0<10^g:=Nat.pow_pos (by decide)
  have yg0:0<=y*((10^g:Nat):Int):=Yv y0 (by omega)
  have u:(y+1)*((10^g:Nat):Int)<=((10^(p+g):Nat):Int):=by
   rw[Nat.pow_add,Int.natCast_mul]
   exact Int.mul_le_mul_of_nonneg_right (by omega) (by omega)
  rw[Int.add_mul,Int.one_mul]at u
  obtain⟨r2,e2,h2⟩:=qcX (N:=N) (by omega) hx h1 (fy.mono (by omega)) (fg.mono (by omega))
  have e2:qP N (⟨x.s,x.w⟩:qo) r1=some r2:=e2
  have a0:IsZ ⟨((qY 0 (s.take g):Nat):Int),[]⟩ ((qY 0 (s.take g):Nat):Int):=Ue (by omega) (by omega)
  obtain⟨r3,e3,h3⟩:=qhv (N:=N) (by omega) h2 a0 (qfJ (p:=p+g) (by omega) (by omega)) (qfJ (p:=19) (by
   rw[Int.natAbs_natCast]
   have j:(10:Nat)^19=10000000000000000000:=rfl
   omega) (by omega))
  rw[e1,ZB,e2,ZB,qiL,ZB,e3,ZB,xR hgl,ZB]
  have ld:(s.drop g).length=s.length-g:=by rw[YJ]
  obtain⟨r,e4,h4⟩:=qlV hN K r3 _ (s.drop g) (p+g) h3 (by omega) (by omega) (by omega) (qhZ hd g) (by omega)
  refine⟨r,e4,?_⟩
  have e5:=qeg (s.take g) (s.drop g)
  rw[YS]at e5
  have e6:(10:Nat)^s.length=10^g*10^(s.drop g).length:=by rw[<-Nat.pow_add,ld];congr 1;omega
  rw[e5,e6]
  rw[Int.add_mul]at h4
  rw[Int.natCast_mul,Int.natCast_add,Int.natCast_mul,<-Int.mul_assoc,<-Int.add_assoc]
  exact h4
theorem qhf {N:Nat} (hN:600000<N) {s:Str} (hd:(bdy s).all yh=true) (hl:(bdy s).length<=19000): ∃r,qa3 N s=some r/\IsZ r (qjp s):=by
 obtain⟨r,e,h⟩:=qlV hN N ⟨0,[]⟩ 0 (bdy s) 0 (Ue (by decide) (by decide)) (by omega) (by decide) (by omega) hd (by omega)
 have e:xA N N 0 [] (bdy s)=some (r.s,r.w):=e
 rw[Int.zero_mul,Int.zero_add]at h
 unfold qa3
 rw[qcm,ZB,qfl,ZB,e,ZB]
 unfold qjp
 cases hs:sgn s with
 |false=>
  rw[if_neg (by simp)]
  exact⟨r,rfl,by simpa using h⟩
 |true=>
  obtain⟨u,j,h2⟩:=qgq h
  have j:zI (⟨r.s,r.w⟩:qo)=some u:=j
  simp only[if_true]
  rw[j]
  exact⟨u,rfl,h2⟩
end Go.Av
end
section
namespace Go.Av
theorem qlO: ∀n:Nat,Lib.repeatL [48] n=List.replicate n 48
 |0=>rfl
 |n+1=>by rw[Lib.repeatL,qlO,List.replicate_succ];rfl
theorem qi6: ∀k:Nat,qeb k 0=List.replicate k 48
 |0=>rfl
 |k+1=>by
  rw[qeb,Nat.zero_div,qi6 k,List.replicate_succ']
  rfl
theorem qkE: ∀(k n:Nat),n<10^(k+1)->qeb (k+1) n=List.replicate (k+1-(Lib.decDigits n).length) 48++Lib.decDigits n
 |0,n,h=>by
  have h:n<10:=by simpa using h
  rw[jo h,qeb,qeb,Nat.mod_eq_of_lt h]
  rfl
 |k+1,n,h=>by
  rw[qeb]
  by_cases c:n<10
  ·rw[jo c,Nat.div_eq_of_lt c,qi6,Nat.mod_eq_of_lt c]
   rfl
  rw[Nat.pow_succ]at h
  rw[qkE k (n/10) (by omega),qfD c,Yz,Yq,List.length_singleton,show k+1+1-((Lib.decDigits (n/10)).length+1)=k+1-(Lib.decDigits (n/10)).length by omega]
theorem qgk (n:Nat):Lib.itoa (n:Int)=Lib.decDigits n:=by rw[jl (by omega),Int.natAbs_natCast]
theorem qoX {r:Nat} (h:r<1000000000000000000) (c: ¬r=0):dg W (r:Int)=[(r:Int)]:=by
 rw[qjx (by omega) (by unfold W;omega)]
theorem qoT {r:Nat} (h:r<1000000000000000000):qif (r:Int) 10=some (Lib.decDigits r):=by
 unfold qif
 rw[if_pos ⟨by omega,by omega,rfl⟩,qgk]
theorem qnU:(if((dg W ((0:Nat):Int)).length:Int)>0 then(idx (dg W ((0:Nat):Int)) 0).bind fun x13=>(qif x13 10).bind fun r14=>some r14 else some [48]:Option Str)=some (Lib.decDigits 0):=by
 rw[show((0:Nat):Int)=0 from rfl,qdR,if_neg (by simp),jo (by decide)]
 rfl
theorem qp7 {r:Nat} (h:r<1000000000000000000):(if((dg W (r:Int)).length:Int)>0 then(idx (dg W (r:Int)) 0).bind fun x13=>(qif x13 10).bind fun r14=>some r14 else some [48]:Option Str)=some (Lib.decDigits r):=by
 by_cases c:r=0
 ·rw[c]
  exact qnU
 rw[qoX h c,if_pos (show((([(r:Int)]:List Int).length:Nat):Int)>0 from by rw[List.length_singleton];decide),yQ,Yj,ZB,qoT h]
 rfl
theorem p18:(10:Nat)^18=1000000000000000000:=rfl
theorem qp9 {q r:Nat} (h:r<1000000000000000000): ∃t:Str,(if((dg W (q:Int)).length:Int)>0 then(qe5 [48] (w64 (18-((Lib.decDigits r).length:Int)))).bind fun r18=>(cat r18 (Lib.decDigits r)).bind fun s19=>some s19 else some (Lib.decDigits r):Option Str)=some t/\0<t.length/\Lib.decDigits (1000000000000000000*q+r)=(if q=0 then[]else Lib.decDigits q)++t:=by
 have hr:r<10^18:=by rw[p18];exact h
 have lD:(Lib.decDigits r).length<=18:=(qaL (by decide)).2 hr
 have u:=qis r
 by_cases c:q=0
 ·subst c
  rw[show((0:Nat):Int)=0 from rfl,qdR,if_neg (by simp),if_pos rfl,Nat.mul_zero,Nat.zero_add]
  exact⟨_,rfl,u,rfl⟩
 have j:dg W (q:Int)≠[]:=fun e=>by have:=(qht W1 (by omega)).1 e;omega
 have hlen:0<(dg W (q:Int)).length:=List.length_pos_iff.2 j
 have et:qe5 [48] (w64 (18-((Lib.decDigits r).length:Int)))=some (List.replicate (18-(Lib.decDigits r).length) 48):=by
  rw[ql (by omega) (by omega)]
  unfold qe5
  rw[if_pos ⟨by omega,by omega,by simp;omega⟩,qlO]
  congr 2
  omega
 have hp:=qkE 17 r hr
 have hl:(qeb (17+1) r).length=18:=qh2 _ _
 have hs:=qiz 18 (1000000000000000000*q+r)
 rw[p18,Nat.mul_add_div (by omega),Nat.div_eq_of_lt h,Nat.add_zero,Nat.mul_add_mod,Nat.mod_eq_of_lt h]at hs
 rw[if_pos (by omega),et,ZB,qbx (by simp;omega),ZB,<-hp,if_neg c]
 exact⟨_,rfl,by omega,hs (by omega)⟩
theorem qq6 {N:Nat} (hN:600000<N) (B:Nat) (hB:B<=3900) (K:Nat): ∀(k m:Nat) (l:List Str),m<10^(18*k)->k<K->k+l.length<=100000->Fit (m:Int) B->(∀t∈l,0<t.length)->
 ∃l',jw N K l (dg W (m:Int))=some l'/\(∀t∈l',0<t.length)/\l'.length<=k+l.length/\l'.reverse.flatten=(if m=0 then[]else Lib.decDigits m)++l.reverse.flatten:=by
 induction K with
 |zero=>intro k m l _ h;omega
 |succ K ih=>
  intro k m l hm hK hl fm hp
  rw[jw]
  by_cases h0:m=0
  ·subst h0
   rw[show((0:Nat):Int)=0 from rfl,qdR,if_neg (by simp),if_pos rfl]
   exact⟨l,rfl,hp,by omega,rfl⟩
  obtain⟨j,hj⟩: ∃j,k=j+1:=⟨k-1,by
   rcases Nat.eq_zero_or_pos k with e|e
   ·subst e;simp at hm;omega
   omega⟩
  rw[hj]at hm hK hl
  have a0:(0:Int)<=(m:Int):=by omega
  have hne:dg W (m:Int)≠[]:=fun e=>by have:=(qht W1 a0).1 e;omega
  have hlen:0<(dg W (m:Int)).length:=List.length_pos_iff.2 hne
  have ln:(dg W (m:Int)).length<=3900:=Nat.le_trans fm.len hB
  have cB:Can W [1000000000000000000]:=by
   have:=ji W1 (show(0:Int)<=1000000000000000000 by decide)
   rw[qjx (by decide) (by decide)]at this
   exact this
  have vB:dv W [1000000000000000000]=1000000000000000000:=by rw[zF,zu,Int.mul_zero,Int.add_zero]
  have ed:=qi7 (N:=N) (by omega) (ji W1 a0) cB (by omega) (by rw[vB];decide)
  rw[vB,jY W1 a0]at ed
  obtain⟨q,r,hq,hr⟩: ∃q r,m=1000000000000000000*q+r/\r<1000000000000000000:=⟨m/1000000000000000000,m%1000000000000000000,by omega,by omega⟩
  have eq:(m:Int)/1000000000000000000=(q:Int):=by omega
  have er:(m:Int)%1000000000000000000=(r:Int):=by omega
  rw[eq,er]at ed
  obtain⟨t,et,t0,eD⟩:=qp9 (q:=q) hr
  rw[<-hq]at eD
  rw[if_pos (by omega),ed,ZB]
  simp only
  rw[qp7 hr,ZB,et,ZB,qax (by simp;omega) (by simp;omega),ZB]
  have hk:q<10^(18*j):=by
   rw[Nat.mul_succ,Nat.pow_add,p18,Nat.mul_comm]at hm
   refine Nat.lt_of_mul_lt_mul_left (a:=1000000000000000000) ?_
   omega
  obtain⟨l',f1,f2,f3,f4⟩:=ih j q (l++[t]) hk (by omega) (by simp;omega) (qcT (by omega) fm) (fun u hu=>by
   rcases List.mem_append.1 hu with hu|hu
   ·exact hp u hu
   rw[List.mem_singleton.1 hu];exact t0)
  refine⟨l',f1,f2,by simp at f3;omega,?_⟩
  rw[f4,if_neg h0,eD,List.reverse_append,List.flatten_append,Yz]
  simp
def byN (s:Str):List Int:=s.map fun x=>(x.toNat:Int)
theorem qgZ (s:Str):(byN s).length=s.length:=by unfold byN;rw[List.length_map]
theorem qnq {l:List Str} (hp: ∀t∈l,0<t.length) (hl:l.length<=100000): ∀(K i:Nat) (o:Option (List Int)),i<=l.length->i<K->(hof o).length+(l.take i).flatten.length<=1000000000->
 ∃u,zA l K o.isSome o ((i:Int)-1)=some (u.isSome,u)/\hof u=hof o++byN (l.take i).reverse.flatten
 |0,i,o,_,h,_=>by omega
 |K+1,0,o,hi,h,hb=>by
  rw[zA,if_neg (by omega)]
  exact⟨o,rfl,by simp[byN]⟩
 |K+1,i+1,o,hi,h,hb=>by
  have j:i<l.length:=by omega
  have ei:((i+1:Nat):Int)-1=(i:Int):=by omega
  have ht:l.take (i+1)=l.take i++[l[i]]:=List.take_succ_eq_append_getElem j
  have h1:=hp l[i] (List.getElem_mem j)
  rw[ht,List.flatten_append,Yq]at hb
  simp only[List.flatten_cons,List.flatten_nil,YQ]at hb
  have ew:bWr o.isSome o l[i]=some (hof o++byN l[i]):=by
   unfold bWr
   rw[if_pos ⟨rfl,by omega,h1⟩]
   rfl
  rw[zA,ei,if_pos (by omega),qy,Ya j,ZB,ew,ZB,ql (by omega) (by omega)]
  obtain⟨u,f1,f2⟩:=qnq hp hl K i (some (hof o++byN l[i])) (by omega) (by omega) (by
   show(hof o++byN l[i]).length+_<=_
   rw[Yq,qgZ];omega)
  refine⟨u,f1,?_⟩
  rw[f2,ht,List.reverse_append,List.flatten_append]
  show hof o++byN l[i]++_=_
  rw[Yz]
  unfold byN
  simp
theorem qnn (s:Str):(byN s).map (fun n=>UInt8.ofNat n.toNat)=s:=by
 unfold byN
 rw[List.map_map]
 conv=>rhs;rw[<-List.map_id s]
 refine List.map_congr_left fun x _=>?_
 show UInt8.ofNat ((x.toNat:Int)).toNat=x
 rw[Int.toNat_natCast,UInt8.ofNat_toNat]
theorem qpv (s:Str):(byN s).all (fun n=>decide (0<=n)&&decide (n<256))=true:=by
 unfold byN
 rw[List.all_map,Yp]
 intro x _
 have:x.toNat<256:=x.toNat_lt
 simp
 omega
theorem qjU: ∀l:List Str,l.reverse.flatten.length=l.flatten.length:=fun l=>by
 rw[List.length_flatten,List.length_flatten,List.map_reverse,List.sum_reverse]
theorem qeY {N:Nat} (hN:600000<N) {x:qo} {z:Int} (h:IsZ x z) (fz:Fit z 3900):vz N x=some (Lib.itoa z):=by
 unfold vz
 cases e:x.w.isEmpty with
 |true=>
  obtain⟨h1,h2,h3⟩:=h.emp e
  rw[if_pos rfl,h1]
  unfold qmB
  rw[if_pos ⟨h2,h3⟩,ZB]
 |false=>
  have hz:z.natAbs≠0:=by
   rcases h with⟨hw,_⟩|⟨_,_,h1,_⟩
   ·rw[hw]at e;cases e
   omega
  obtain⟨B8,hB8⟩: ∃B8:Nat,B8=8000:=⟨_,rfl⟩
  have pw:((10^(18*B8):Nat):Int)=(1000000000000000000:Int)^B8:=by
   rw[Nat.pow_mul,Int.natCast_pow]
   rfl
  have hm:z.natAbs<10^(18*B8):=by
   have h1:W^3900<=(1000000000000000000:Int)^B8:=by
    have a1:(1000000000000000000:Int)^B8=((1000000000000000000:Int)^2)^4000:=by rw[<-Int.pow_mul,hB8]
    have a2:W^4000<=((1000000000000000000:Int)^2)^4000:=(qeH (by decide) (by decide) 4000).2
    have a3:W^3900<=W^4000:=yK (by decide) (by decide)
    rw[a1]
    exact Int.le_trans a3 a2
   rw[<-pw]at h1
   unfold Fit at fz
   omega
  obtain⟨l,f1,f2,f3,u⟩:=qq6 hN 3900 (Nat.le_refl _) N B8 z.natAbs [] hm (by omega) (by simp;omega) (by unfold Fit;rw[Int.natAbs_natCast];exact fz) (fun t ht=>by cases ht)
  rw[if_neg hz]at u
  simp only[List.reverse_nil,List.flatten_nil,YQ,List.length_nil,Nat.add_zero]at f3 u
  have lD:(Lib.decDigits z.natAbs).length<=18*B8:=(qaL (by omega)).2 hm
  have lf:l.flatten.length<=18*B8:=by rw[<-qjU,u];exact lD
  have lpos:=qis z.natAbs
  rw[if_neg (by simp),parts_eq h,ZB]
  simp only
  rw[f1,ZB]
  have el:w64 ((l.length:Int)-1)=(l.length:Int)-1:=ql (by omega) (by omega)
  have j: ∀(o:Option (List Int)) (pre:Str),hof o=byN pre->pre.length<=10->((zA l N o.isSome o (w64 ((l.length:Int)-1))).bind fun(ok30,o31)=>(qm0 ok30 o31).bind fun t38=>some t38)=some (pre++Lib.decDigits z.natAbs):=by
   intro o pre ho hpre
   obtain⟨o',g1,g2⟩:=qnq f2 (by omega) N l.length o (Nat.le_refl _) (by omega) (by rw[ho,qgZ,List.take_of_length_le (Nat.le_refl _)];omega)
   rw[List.take_of_length_le (Nat.le_refl _),u,ho]at g2
   have g3:hof o'=byN (pre++Lib.decDigits z.natAbs):=by
    rw[g2]
    unfold byN
    rw[List.map_append]
   have hs:o'.isSome=true:=by
    cases o' with
    |none=>
     have:=congrArg List.length g3
     rw[qgZ,Yq]at this
     simp at this
     omega
    |some q=>rfl
   rw[el,g1,ZB]
   simp only
   unfold qm0
   rw[if_pos ⟨hs,by rw[g3,qgZ,Yq];omega,by rw[g3];exact qpv _⟩,g3,qnn,ZB]
  by_cases c:z<0
  ·have eb:bWr false (none:Option (List Int)) [45]=some [45]:=rfl
   rw[decide_eq_true c,if_pos rfl,eb,ZB,ZB]
   simp only
   have:=j (some [45]) [45] rfl (by simp)
   rw[yg c]
   exact this
  rw[decide_eq_false c,if_neg (by simp),ZB]
  simp only
  have:=j none [] rfl (by simp)
  rw[jl c]
  exact this
end Go.Av
end
section
namespace Go.Av
theorem qp2 {x:qo} {z:Int} (h:IsZ x z) (fz:Fit z 3900): ∃b:Nat,qa5 x=some (b:Int)/\(z.natAbs:Int)<2^b:=by
 unfold qa5
 rw[parts_eq h,ZB]
 simp only
 have hz:(0:Int)<=(z.natAbs:Int):=by omega
 have cc:=ji W1 hz
 have vv:=jY W1 hz
 have ll:=fz.len
 generalize dg W (z.natAbs:Int)=w at*
 by_cases h0:w.length=0
 ·rw[if_pos (by omega)]
  rw[YL.1 h0,zu]at vv
  exact⟨0,rfl,by rw[<-vv];decide⟩
 have hk:w.length-1<w.length:=by omega
 have ax:=cc.1.at hk
 obtain⟨l,e,hl⟩:=qkK ax.1 ax.2
 have hl0:0<=l/\l<=64:=by
  rcases hl with⟨_,h⟩|⟨u,j,_⟩<;>omega
 have hl2:w[w.length-1]<2^l.toNat:=by
  rcases hl with⟨u,j⟩|⟨_,_,_,h⟩
  ·rw[u,j];decide
  exact h
 rw[if_neg (by omega),qje (by omega) (by omega),qy,Ya hk,ZB,e,ZB,ql (n:=64*((w.length-1:Nat):Int)) (by omega) (by omega),ql (by omega) (by omega)]
 refine⟨64*(w.length-1)+l.toNat,by congr 1;omega,?_⟩
 have e1:=qx W w (w.length-1) hk
 rw[List.take_of_length_le (by omega),vv]at e1
 have u:=yY W0 (cc.1.take (w.length-1))
 rw[Ym,Nat.min_eq_left (by omega)]at u
 have e2:(2:Int)^(64*(w.length-1)+l.toNat)=W^(w.length-1)*2^l.toNat:=by
  rw[Int.pow_add,Int.pow_mul]
  rfl
 have j:W^(w.length-1)*(w[w.length-1]+1)<=W^(w.length-1)*2^l.toNat:=Yc (by omega) (Int.le_of_lt (pow_pos W0 _))
 rw[Int.mul_add,Int.mul_one]at j
 rw[e2]
 omega
theorem pow8: ∀n:Nat,(8:Int)^(n+1)<((10^(n+1):Nat):Int)
 |0=>by decide
 |n+1=>by
  have j:=pow8 n
  have h:=pow_pos (show(0:Int)<8 by decide) (n+1)
  rw[Int.pow_succ,Nat.pow_succ,Int.natCast_mul]
  omega
theorem qqZ (n:Nat):(2:Int)^(3*n)=(8:Int)^n:=by
 rw[Int.pow_mul]
 rfl
theorem qpo {n m:Nat} (h:m=3*(n+1)):(2:Int)^m<((10^(n+1):Nat):Int):=by
 rw[h,qqZ]
 exact pow8 n
def lng (z:Int):Bool:=decide (600<(Lib.decDigits z.natAbs).length)
theorem qlT {N:Nat} (hN:600000<N) {x:qo} {z:Int} (h:IsZ x z) (fz:Fit z 3900):qda N x=some (lng z):=by
 obtain⟨b,e,hb⟩:=qp2 h fz
 unfold qda
 rw[e,ZB]
 by_cases c:(b:Int)>1800
 ·rw[if_pos c,qeY hN h fz,ZB,qfl,qcu,ZB,ZB]
  congr 1
  exact decide_eq_decide.2 (by omega)
 rw[if_neg c,ZB]
 congr 1
 obtain⟨m,hm⟩: ∃m:Nat,m=3*(599+1):=⟨_,rfl⟩
 have h1:(2:Int)^b<=2^m:=yK (by decide) (by omega)
 have u:=qpo hm
 have j:z.natAbs<10^(599+1):=by omega
 have:=(qaL (n:=z.natAbs) (k:=599+1) (by decide)).2 j
 unfold lng
 rw[decide_eq_false (by omega)]
def qjk (q:Rat):Bool:=lng q.num||lng q.den
theorem qkQ {N:Nat} (hN:600000<N) {f:qh} {q:Rat} (h:IsF f q) (j:qaN q 3900):xk N f=some (qjk q):=by
 unfold xk qjk
 rw[qlT hN h.1 j.1,ZB]
 cases lng q.num with
 |true=>rw[if_pos rfl,ZB,Bool.true_or]
 |false=>rw[if_neg (by simp),qlT hN h.2 j.2,ZB,ZB,Bool.false_or]
def T (q:Rat):Str:=Lib.itoa q.num++(if q.den=1 then[]else 47::Lib.decDigits q.den)
theorem Fit.itoaLen {z:Int} (h:Fit z 3900):(Lib.itoa z).length<=200001:=by
 have h1:(Lib.decDigits z.natAbs).length<=20*10000:=by
  refine(qaL (by decide)).2 ?_
  obtain⟨B,hB⟩: ∃B:Nat,B=10000:=⟨_,rfl⟩
  rw[<-hB]
  have j:W^3900<=W^B:=yK (by decide) (by omega)
  have h3:W^B<=(100000000000000000000:Int)^B:=(qeH (by decide) (by decide) B).2
  have u:((10^(20*B):Nat):Int)=(100000000000000000000:Int)^B:=by
   rw[Nat.pow_mul,Int.natCast_pow]
   rfl
  unfold Fit at h
  generalize W^3900=p at*
  omega
 by_cases c:z<0
 ·rw[yg c,Yr];omega
 rw[jl c];omega
theorem qmF {N:Nat} (hN:600000<N) {f:qh} {q:Rat} (h:IsF f q) (j:qaN q 3900):xX N f=some (T q):=by
 unfold xX T
 rw[qfr h,ZB]
 by_cases c:q.den=1
 ·rw[decide_eq_true c,if_pos rfl,qeY hN h.1 j.1,ZB,if_pos c,YQ]
 have u:=Fit.itoaLen j.1
 have l2:=Fit.itoaLen j.2
 rw[decide_eq_false c,if_neg (by simp),qeY hN h.1 j.1,ZB,qbx (by simp;omega),ZB,qeY hN h.2 j.2,ZB,qbx (by simp;omega),ZB,if_neg c,qgk,Yz]
 rfl
theorem qpr {α:Type} {b:Bool} {x y:α}:zU b x y=if b=true then x else y:=by cases b<;>rfl
theorem qkr: ∀(s:Str) (j:Nat),qiE 47 s j=if slA s<s.length then((j+slA s:Nat):Int)else-1
 |[],j=>rfl
 |c::s,j=>by
  show zU (Nat.beq c.toNat 47) (Int.ofNat j) (qiE 47 s (j+1))=_
  rw[qpr,qkr s (j+1),slA,Yr]
  by_cases h:c=47
  ·subst h
   rw[if_pos (by decide),if_pos rfl,if_pos (by omega)]
   rfl
  have u:c.toNat≠47:=fun e=>h (UInt8.toNat_inj.1 (by rw[e];rfl))
  rw[if_neg (by rw[qcG u];simp),if_neg h]
  by_cases c2:slA s<s.length
  ·rw[if_pos c2,if_pos (by omega)]
   congr 1
   omega
  rw[if_neg c2,if_neg (by omega)]
theorem qnA {s:Str}:stringslite_Index s [47]=some (qiE 47 s 0):=by
 unfold stringslite_Index stringslite_IndexByte qjC
 have h: ¬(([47]:Str).length:Int)=0:=by simp
 have j:(([47]:Str).length:Int)=1:=by simp
 rw[if_neg h]
 simp only[ZB]
 by_cases hs:(([47]:Str)==s)=true
 ·have:s=[47]:=(beq_iff_eq.1 hs).symm
  subst this
  rfl
 rw[if_neg hs,if_pos j,yQ,show([47]:Str)[0]? =some 47 from rfl,ZB,if_pos (by decide)]
 rfl
theorem qoj {s:Str} (j:s.length<=1000000):strings_Cut s [47]=some (if slA s<s.length then(s.take (slA s),s.drop (slA s+1),true)else(s,[],false)):=by
 have h:=qgn s
 unfold strings_Cut stringslite_Cut
 rw[qnA,qkr,ZB]
 by_cases c:slA s<s.length
 ·rw[if_pos c,if_pos (by omega),if_pos c,Nat.zero_add,xx h,ZB,show w64 ((slA s:Int)+(([47]:Str).length:Int))=((slA s+1:Nat):Int)from zT (by omega),xR (by omega),ZB,ZB]
 rw[if_neg c,if_neg (by omega),if_neg c,ZB]
theorem qfR {s:Str} (j:s.length<=1000000):jR s=some (decide (Dec s)):=by
 have u:qkC s [48,49,50,51,52,53,54,55,56,57]=some (Lib.trimS s [48,49,50,51,52,53,54,55,56,57]):=by
  unfold qkC
  rw[if_pos ⟨j,by decide,by decide⟩]
 unfold jR
 rw[u]
 simp only[ZB,qm8]
 cases s with
 |nil=>rfl
 |cons c t=>
  rw[if_pos (by rfl),yQ]
  simp only[Yj,ZB]
  cases hd:(c::t).all yh with
  |false=>
   rw[if_neg (by simp),ZB,decide_eq_false fun h=>by rw[h.2.1]at hd;cases hd]
  |true=>
   rw[if_pos rfl]
   by_cases h:c=48
   ·subst h
    rw[if_neg (by decide),ZB]
    congr 1
    rw[Bool.eq_iff_iff,beq_iff_eq,decide_eq_true_eq]
    exact⟨fun e=>by rw[e];exact qmv (by decide),fun h=>h.2.2 rfl⟩
   rw[if_pos (by simp[ne48 h]),ZB,decide_eq_true (show Dec (c::t)from⟨by simp,hd,fun e=>absurd (Ye e) h⟩)]
theorem qh7 {s:Str} (u:s.length<=1000000): ∀(K i:Nat),i<=s.length->s.length<K+i->jG s K (i:Int)=some (if(s.drop i).all yh=true then .inl ()else .inr false)
 |0,i,h,hK=>by omega
 |K+1,i,h,hK=>by
  rw[jG]
  by_cases hi:i<s.length
  ·have j:s.drop i=s[i]::s.drop (i+1):=YG hi
   rw[if_pos (by omega),qy,Ya hi,ZB,j,List.all_cons]
   generalize s[i]=c
   have e:(if(c.toNat:Int)<48 then some true else some (decide ((c.toNat:Int)>57)):Option Bool)=some (!yh c):=by
    by_cases h1:(c.toNat:Int)<48
    ·rw[if_pos h1]
     congr 1
     unfold yh
     rw[decide_eq_false (by omega)]
     rfl
    rw[if_neg h1]
    congr 1
    unfold yh
    rw[decide_eq_true (p:=48<=c.toNat) (by omega),Bool.true_and,<-decide_not]
    exact decide_eq_decide.2 (by omega)
   rw[e,ZB]
   cases hc:yh c with
   |true=>rw[if_neg (by simp),zT (by omega),qh7 u K (i+1) (by omega) (by omega),Bool.true_and]
   |false=>rw[if_pos (by simp),Bool.false_and,if_neg (by simp)]
  rw[if_neg (by omega),List.drop_of_length_le (by omega)]
  rfl
theorem qhF {N:Nat} {s:Str} (hl:s.length<=1000000) (hN:s.length<N):jA N s=some (decide (Dec s)):=by
 have e:=qh7 hl N 0 (by omega) (by omega)
 have e:jG s N 0=_:=e
 have j:qbl N s=some (s.all yh):=by
  unfold qbl
  rw[e,YR]
  cases s.all yh<;>rfl
 unfold jA
 cases s with
 |nil=>rfl
 |cons c t=>
  rw[if_neg (by simp;omega)]
  by_cases h1:((c::t).length:Int)>1
  ·rw[if_pos h1,yQ]
   simp only[Yj,ZB]
   by_cases h:c=48
   ·subst h
    rw[if_pos (by decide),decide_eq_false fun hD=>?_]
    have:=congrArg List.length (hD.2.2 rfl)
    rw[List.length_singleton]at this
    omega
   rw[if_neg (by simp[ne48 h]),j,ZB]
   congr 1
   rw[Bool.eq_iff_iff,decide_eq_true_eq]
   exact⟨fun hd=>⟨by simp,hd,fun e=>absurd (Ye e) h⟩,fun hD=>hD.2.1⟩
  rw[if_neg h1,ZB,if_neg (by simp),j,ZB]
  have u:t=[]:=YL.1 (by simp at h1;omega)
  subst u
  congr 1
  rw[Bool.eq_iff_iff,decide_eq_true_eq]
  exact⟨fun hd=>qmv (by simpa using hd),fun hD=>hD.2.1⟩
end Go.Av
end
section
namespace Go.Av
theorem qjP {z:Int} {p n:Nat} (h:(z.natAbs:Int)<((10^p:Nat):Int)) (hp:p<=9*n):jv z n:=by
 have j:(10:Nat)^p<=10^(9*n):=Nat.pow_le_pow_right (by omega) hp
 unfold jv
 rw[qhJ]
 omega
theorem qdz {N:Nat} (hN:10<N) (a b:Int):zQ N [a,b]=some (if a=0 then b else a):=by
 obtain⟨K,rfl⟩: ∃K,N=K+1+1+1:=⟨N-3,by omega⟩
 unfold zQ
 by_cases ha:a=0
 ·by_cases hb:b=0
  ·subst ha;subst hb
   rfl
  have h:zN [a,b] (K+1+1+1) 0=some (.inr b):=by
   rw[zN,if_pos (by simp),yQ]
   simp only[Yj,ZB]
   rw[if_neg (by simp[ha]),zN,show w64 ((0:Int)+1)=1 from rfl,if_pos (by simp),idx_1]
   simp only[YK,Yj,ZB]
   rw[if_pos (by simp[hb])]
  rw[h,if_pos ha]
  rfl
 have h:zN [a,b] (K+1+1+1) 0=some (.inr a):=by
  rw[zN,if_pos (by simp),yQ]
  simp only[Yj,ZB]
  rw[if_pos (by simp[ha])]
 rw[h,if_neg ha]
 rfl
def okF (s:Str):Bool:=decide (Dec ((bdy s).take (slA (bdy s)))/\ ¬(sgn s=true/\(bdy s).take (slA (bdy s))=[48]))
def qhw (s:Str):Bool:=decide (slA (bdy s)<(bdy s).length/\ ¬(Dec ((bdy s).drop (slA (bdy s)+1))/\(bdy s).drop (slA (bdy s)+1)≠[48]/\(bdy s).drop (slA (bdy s)+1)≠[49]))
def chk (s:Str):Int:=
 if okF s=false\/qhw s=true then 1
 else if 600<((bdy s).take (slA (bdy s))).length\/600<((bdy s).drop (slA (bdy s)+1)).length then 4
 else if slA (bdy s)<(bdy s).length/\Nat.gcd (qY 0 ((bdy s).take (slA (bdy s)))) (qY 0 ((bdy s).drop (slA (bdy s)+1)))≠1 then 1
 else 0
theorem qbJ {s:Str} (h:s.all yh=true):sgn s=false/\bdy s=s:=by
 have e:sgn s=false:=decide_eq_false fun e=>by
  have j:(45:UInt8)∈s:=Yn e
  exact absurd (Yp.1 h _ j) (by decide)
 exact⟨e,by unfold bdy;rw[e];rfl⟩
theorem qdb {s:Str} (h:s.all yh=true):qjp s=(qY 0 s:Nat):=by
 obtain⟨u,j⟩:=qbJ h
 unfold qjp
 rw[u,j]
 rfl
theorem qf1 (s:Str):(bdy s).length<=s.length:=by
 unfold bdy
 split
 ·rw[YJ];omega
 exact Nat.le_refl _
theorem qe7 {s:Str} {k:Nat} (h:Dec s) (j:s.length<=k):((qY 0 s:Nat):Int).natAbs<10^k:=by
 have h1:=qe3 s 0 h.2.1
 have u:(10:Nat)^s.length<=10^k:=Nat.pow_le_pow_right (by omega) j
 omega
theorem qfU {s:Str} (h:Dec s) (j:s≠[48]):0<qY 0 s:=by
 rcases Nat.eq_zero_or_pos (qY 0 s)with e|e
 ·have:=h.eq
  rw[e,jo (by decide)]at this
  exact absurd this j
 exact e
theorem qiY {N:Nat} (hN:600000<N) {s:Str} (hl:s.length<=10000):qbo N s=some (chk s):=by
 have hb:=qf1 s
 have hk:=qgn (bdy s)
 have lt:((bdy s).take (slA (bdy s))).length=slA (bdy s):=by rw[Ym];omega
 have ld:((bdy s).drop (slA (bdy s)+1)).length=(bdy s).length-(slA (bdy s)+1):=by rw[YJ]
 unfold qbo
 rw[qjg,ZB]
 simp only
 have C:strings_Cut (bdy s) [47]=some ((bdy s).take (slA (bdy s)),(bdy s).drop (slA (bdy s)+1),decide (slA (bdy s)<(bdy s).length)):=by
  rw[qoj (by omega)]
  by_cases c:slA (bdy s)<(bdy s).length
  ·rw[if_pos c,decide_eq_true c]
  rw[if_neg c,decide_eq_false c,List.take_of_length_le (by omega),List.drop_of_length_le (by omega)]
 rw[C,ZB]
 unfold chk okF qhw
 generalize hn:(bdy s).take (slA (bdy s))=n at*
 generalize hd:(bdy s).drop (slA (bdy s)+1)=d at*
 generalize slA (bdy s)=k at*
 generalize (bdy s).length=m at*
 simp only
 rw[qfR (by omega),ZB]
 have B6:(if decide (Dec n)=true then if(!sgn s)=true then some true else some (!(n==[48]))else some false:Option Bool)=some (decide (Dec n/\ ¬(sgn s=true/\n=[48]))):=by
  by_cases u:Dec n
  ·cases h2:sgn s with
   |false=>simp[u]
   |true=>
    by_cases h3:n=[48]<;>simp[u,h3]
  simp[u]
 rw[B6,ZB]
 generalize hf:decide (Dec n/\ ¬(sgn s=true/\n=[48]))=ok at*
 have B8:(if decide (k<m)=true then(if ok=true then(jR d).bind fun r12=>if r12=true then if(!(d==[48]))=true then some (!(d==[49]))else some false else some false else some false:Option Bool).bind fun b15=>some b15 else some ok:Option Bool)=some (ok&&!decide (k<m/\ ¬(Dec d/\d≠[48]/\d≠[49]))):=by
  by_cases u:k<m
  ·cases ok with
   |false=>simp[u]
   |true=>
    rw[qfR (by omega)]
    by_cases h2:Dec d
    ·by_cases h3:d=[48]
     ·simp[u,h2,h3]
     by_cases h4:d=[49]<;>simp[u,h2,h3,h4]
    simp[u,h2]
  simp[u]
 rw[B8,ZB]
 generalize hg:decide (k<m/\ ¬(Dec d/\d≠[48]/\d≠[49]))=bd at*
 have B:((zk (!(ok&&!bd)) 1).bind fun r17=>if(n.length:Int)>600 then(zk true 4).bind fun r19=>(zQ N ([r17,r19]:List Int)).bind fun r20=>some (r17,r19,r20)else(zk (decide ((d.length:Int)>600)) 4).bind fun r21=>(zQ N ([r17,r21]:List Int)).bind fun r22=>some (r17,r21,r22):Option (Int×Int×Int))=some (if ok=false\/bd=true then 1 else 0,if 600<n.length\/600<d.length then 4 else 0,if ok=false\/bd=true then 1 else if 600<n.length\/600<d.length then 4 else 0):=by
  have w1:zk (!(ok&&!bd)) 1=some (if ok=false\/bd=true then 1 else 0):=by
   unfold zk
   cases ok<;>cases bd<;>rfl
  rw[w1,ZB]
  by_cases c:(n.length:Int)>600
  ·rw[if_pos c,show zk true 4=some 4 from rfl,ZB,qdz (by omega),ZB,if_pos (show 600<n.length\/600<d.length from .inl (by omega))]
   by_cases c2:ok=false\/bd=true
   ·simp only[if_pos c2];rfl
   simp only[if_neg c2];rfl
  have w2:zk (decide ((d.length:Int)>600)) 4=some (if 600<n.length\/600<d.length then 4 else 0):=by
   unfold zk
   by_cases c2:(d.length:Int)>600
   ·rw[decide_eq_true c2,if_pos rfl,if_pos (.inr (by omega))]
   rw[decide_eq_false c2,if_neg (by simp),if_neg (by omega)]
  rw[if_neg c,w2,ZB,qdz (by omega),ZB]
  by_cases c2:ok=false\/bd=true
  ·simp only[if_pos c2];rfl
  simp only[if_neg c2];rfl
 rw[B,ZB]
 simp only
 by_cases c1:ok=false\/bd=true
 ·simp only[if_pos c1];rfl
 simp only[if_neg c1]
 by_cases c2:600<n.length\/600<d.length
 ·simp only[if_pos c2];rfl
 simp only[if_neg c2]
 rw[if_neg (show¬((!decide True)=true)by decide)]
 have ho:ok=true:=by cases ok<;>simp at c1⊢
 have hbd:bd=false:=by cases bd<;>simp at c1⊢
 have a0:=(of_decide_eq_true (hf.trans ho)).1
 by_cases c3:k<m
 ·have j:Dec d/\d≠[48]/\d≠[49]:=Classical.byContradiction fun hc=>of_decide_eq_false (hg.trans hbd) ⟨c3,hc⟩
  obtain⟨r1,e1,u⟩:=qhf hN (s:=n) (by rw[(qbJ a0.2.1).2];exact a0.2.1) (by rw[(qbJ a0.2.1).2];omega)
  obtain⟨r2,e2,h2⟩:=qhf hN (s:=d) (by rw[(qbJ j.1.2.1).2];exact j.1.2.1) (by rw[(qbJ j.1.2.1).2];omega)
  rw[qdb a0.2.1]at u
  rw[qdb j.1.2.1]at h2
  have f1:Fit ((qY 0 n:Nat):Int) 40:=qfJ (p:=600) (by have:=qe7 a0 (k:=600) (by omega);omega) (by omega)
  have f2:Fit ((qY 0 d:Nat):Int) 40:=qfJ (p:=600) (by have:=qe7 j.1 (k:=600) (by omega);omega) (by omega)
  obtain⟨g,e3,h3⟩:=qot hN u h2 (f1.mono (by omega)) (f2.mono (by omega))
  have eg:Int.gcd ((qY 0 n:Nat):Int) ((qY 0 d:Nat):Int)=Nat.gcd (qY 0 n) (qY 0 d):=rfl
  rw[eg]at h3
  have hgp:0<Nat.gcd (qY 0 n) (qY 0 d):=Nat.gcd_pos_of_pos_right _ (qfU j.1 j.2.1)
  have fg:Fit ((Nat.gcd (qY 0 n) (qY 0 d):Nat):Int) 40:=qcT (by
   have:=Nat.le_of_dvd (qfU j.1 j.2.1) (Nat.gcd_dvd_right (qY 0 n) (qY 0 d))
   omega) f2
  have e4:=qpa (N:=N) (by omega) h3 (Ue (z:=1) (by decide) (by decide)) (fg.mono (by omega)) (F1 (by omega))
  rw[decide_eq_true c3,if_pos rfl,e1,ZB,e2,ZB,e3,ZB,qiL,ZB,e4,ZB,ZB]
  unfold zk
  by_cases c4:Nat.gcd (qY 0 n) (qY 0 d)=1
  ·rw[if_neg (show¬((Nat.gcd (qY 0 n) (qY 0 d):Nat):Int)<1 by omega),if_pos (show((Nat.gcd (qY 0 n) (qY 0 d):Nat):Int)=1 by omega),if_neg (show¬(k<m/\Nat.gcd (qY 0 n) (qY 0 d)≠1)from fun h=>h.2 c4)]
   rfl
  have: ¬((Nat.gcd (qY 0 n) (qY 0 d):Nat):Int)<1:=by omega
  rw[if_neg this,if_neg (show¬(((Nat.gcd (qY 0 n) (qY 0 d):Nat):Int)=1)by omega),if_pos (show k<m/\Nat.gcd (qY 0 n) (qY 0 d)≠1 from⟨c3,c4⟩)]
  rfl
 rw[decide_eq_false c3,if_neg (by simp),ZB,if_neg (by omega)]
 rfl
end Go.Av
end
section
namespace Go.Av
theorem qnz:dg E9 1=[1]:=qjx (by decide) (by decide)
theorem qqI {N:Nat} (hN:100<N):qan N 1=some (rI 1):=by
 obtain⟨K,rfl⟩: ∃K,N=K+1+1:=⟨N-2,by omega⟩
 have h:vE (K+1+1) [] 1=some [1]:=by
  rw[vE,if_pos (by decide),if_neg (by decide),ZB,qax (by simp) (by simp),ZB,show w64 ((1:Int).tdiv 1000000000)=0 from rfl,vE,if_neg (by decide)]
  rfl
 unfold qan
 rw[h,ZB,decide_eq_false (by decide),qaJ false (w:=[1]) (Dg.cons ⟨by decide,by decide⟩ Dg.nil) (by simp) (by simp),ZB]
 rfl
theorem qiJ {N:Nat} (hN:600000<N) {s:Str} (hl:s.length<=10000) (hk:slA s<s.length) (h1:(bdy (s.take (slA s))).all yh=true) (h:(bdy (s.drop (slA s+1))).all yh=true):jJ N s=some (rI (qjp (s.take (slA s))),rI (qjp (s.drop (slA s+1)))):=by
 have u:=qf1 (s.take (slA s))
 have j:=qf1 (s.drop (slA s+1))
 rw[Ym]at u
 rw[YJ]at j
 unfold jJ
 rw[qdr (by omega) (by omega),ZB,if_neg (by omega),xx (by omega),ZB,qiy (by omega) h1 (by omega),ZB,zT (by omega),xR (by omega),ZB,qiy (by omega) h (by omega),ZB]
theorem qgz {N:Nat} (hN:600000<N) {s:Str} (hl:s.length<=10000):qa0 N s=some (chk s):=by
 have hb:=qf1 s
 have hk:=qgn (bdy s)
 have lt:((bdy s).take (slA (bdy s))).length=slA (bdy s):=by rw[Ym];omega
 have ld:((bdy s).drop (slA (bdy s)+1)).length=(bdy s).length-(slA (bdy s)+1):=by rw[YJ]
 unfold qa0
 rw[qgf,ZB,qlj,ZB,qdr (by omega) (by omega),ZB,xx hk,ZB,qhF (by omega) (by omega),ZB]
 have I:Dec ((bdy s).take (slA (bdy s)))->((idx s 0).bind fun c13=>if(c13.toNat:Int)=45 then(some ((bdy s).take (slA (bdy s)))).bind fun s15=>some (s15==[48])else some false:Option Bool)=some (sgn s&&((bdy s).take (slA (bdy s))==[48])):=by
  intro hD
  have h1:=hD.1
  have hs:=qgf s
  rw[if_pos (by omega)]at hs
  rw[yQ]at hs⊢
  cases e:s[0]? with
  |none=>rw[e]at hs;cases hs
  |some c=>
   rw[e,ZB]at hs
   rw[ZB,<-Ye hs]
   by_cases c2:(c.toNat:Int)=45
   ·rw[if_pos c2,decide_eq_true c2,ZB,Bool.true_and]
   rw[if_neg c2,decide_eq_false c2,Bool.false_and]
 have S16:(if(!decide (Dec ((bdy s).take (slA (bdy s)))))=true then some true else(idx s 0).bind fun c13=>if(c13.toNat:Int)=45 then(some ((bdy s).take (slA (bdy s)))).bind fun s15=>some (s15==[48])else some false:Option Bool)=some (!okF s):=by
  unfold okF
  by_cases hD:Dec ((bdy s).take (slA (bdy s)))
  ·rw[if_neg (by simp[hD]),I hD]
   congr 1
   rw[Bool.eq_iff_iff]
   simp[hD]
  rw[if_pos (by simp[hD])]
  simp[hD]
 rw[S16,ZB]
 have S26:(if(slA (bdy s):Int)<((bdy s).length:Int)then(cut (bdy s) (w64 ((slA (bdy s):Int)+1)) ((bdy s).length:Int)).bind fun s20=>(jA N s20).bind fun r21=>if(!r21)=true then some true else(cut (bdy s) (w64 ((slA (bdy s):Int)+1)) ((bdy s).length:Int)).bind fun s23=>if(s23==[48])=true then some true else(cut (bdy s) (w64 ((slA (bdy s):Int)+1)) ((bdy s).length:Int)).bind fun s25=>some (s25==[49])else some false:Option Bool)=some (qhw s):=by
  unfold qhw
  by_cases c:slA (bdy s)<(bdy s).length
  ·rw[if_pos (by omega),zT (by omega),xR (by omega),ZB,qhF (by omega) (by omega),ZB]
   by_cases hD:Dec ((bdy s).drop (slA (bdy s)+1))
   ·rw[if_neg (by simp[hD]),ZB]
    by_cases h3:(bdy s).drop (slA (bdy s)+1)=[48]
    ·rw[if_pos (by simp[h3])]
     simp[c,h3]
    rw[if_neg (by simp[h3]),ZB]
    congr 1
    rw[Bool.eq_iff_iff]
    simp[c,h3,hD]
   rw[if_pos (by simp[hD])]
   simp[c,hD]
  rw[if_neg (by omega)]
  simp[c]
 have S30:(if(slA (bdy s):Int)>600 then some true else some (decide ((w64 ((w64 (((bdy s).length:Int)-(slA (bdy s):Int)))-1))>600)):Option Bool)=some (decide (600<((bdy s).take (slA (bdy s))).length\/600<((bdy s).drop (slA (bdy s)+1)).length)):=by
  rw[lt,ld]
  by_cases c:(slA (bdy s):Int)>600
  ·rw[if_pos c,decide_eq_true (.inl (by omega))]
  rw[if_neg c,ql (n:=((bdy s).length:Int)-(slA (bdy s):Int)) (by omega) (by omega),ql (by omega) (by omega)]
  congr 1
  exact decide_eq_decide.2 (by omega)
 unfold chk
 by_cases h1:okF s=true
 ·rw[h1,if_neg (by simp),S26,ZB]
  by_cases h2:qhw s=true
  ·rw[h2,if_pos rfl,if_pos (.inr rfl)]
  have a0:qhw s=false:=by simpa using h2
  rw[a0,if_neg (by simp),S30,ZB,if_neg (show¬(true=false\/false=true)by simp)]
  by_cases h3:600<((bdy s).take (slA (bdy s))).length\/600<((bdy s).drop (slA (bdy s)+1)).length
  ·rw[decide_eq_true h3,if_pos rfl,if_pos h3]
  rw[decide_eq_false h3,if_neg (by simp),if_neg h3]
  by_cases c:slA (bdy s)<(bdy s).length
  ·have u:=(of_decide_eq_true h1).1
   have j:Dec ((bdy s).drop (slA (bdy s)+1))/\(bdy s).drop (slA (bdy s)+1)≠[48]/\(bdy s).drop (slA (bdy s)+1)≠[49]:=Classical.byContradiction fun hc=>of_decide_eq_false a0 ⟨c,hc⟩
   have ep:=qiJ hN (s:=bdy s) (by omega) c (by rw[(qbJ u.2.1).2];exact u.2.1) (by rw[(qbJ j.1.2.1).2];exact j.1.2.1)
   rw[qdb u.2.1,qdb j.1.2.1]at ep
   rw[if_pos (by omega),ep,ZB]
   simp only
   have v1:=qe7 u (k:=600) (by omega)
   have v2:=qe7 j.1 (k:=600) (by omega)
   have v3:=qfU j.1 j.2.1
   generalize qY 0 ((bdy s).take (slA (bdy s)))=n at*
   generalize qY 0 ((bdy s).drop (slA (bdy s)+1))=d at*
   have f1:jv ((n:Nat):Int) 8000:=(qjP (p:=600) (n:=70) (by omega) (by omega)).mono (by omega)
   have f2:jv ((d:Nat):Int) 8000:=(qjP (p:=600) (n:=70) (by omega) (by omega)).mono (by omega)
   have e1:(rI ((n:Nat):Int)).w=dg E9 ((n:Nat):Int):=by
    show dg E9 (((n:Nat):Int).natAbs:Int)=_
    rw[Int.natAbs_natCast]
   have e2:(rI ((d:Nat):Int)).w=dg E9 ((d:Nat):Int):=by
    show dg E9 (((d:Nat):Int).natAbs:Int)=_
    rw[Int.natAbs_natCast]
   have ec:=qi9 (N:=N) hN (a:=((n:Nat):Int)) (b:=((d:Nat):Int)) (by omega) (by omega) f1 f2
   have eg:Int.gcd ((n:Nat):Int) ((d:Nat):Int)=Nat.gcd n d:=rfl
   rw[eg]at ec
   rw[e1,e2,ec,ZB]
   have hg:0<Nat.gcd n d:=Nat.gcd_pos_of_pos_right _ v3
   have cc:=ji E1 (show(0:Int)<=((Nat.gcd n d:Nat):Int)by omega)
   have vv:=jY E1 (show(0:Int)<=((Nat.gcd n d:Nat):Int)by omega)
   by_cases h4:Nat.gcd n d=1
   ·have:dg E9 ((Nat.gcd n d:Nat):Int)=[1]:=by rw[show((Nat.gcd n d:Nat):Int)=1 by omega];exact qnz
    rw[this,if_neg (by simp),yQ,if_neg (fun h=>h.2 h4)]
    rfl
   rw[if_pos (show slA (bdy s)<(bdy s).length/\Nat.gcd n d≠1 from⟨c,h4⟩)]
   by_cases h5:(dg E9 ((Nat.gcd n d:Nat):Int)).length=1
   ·obtain⟨x,hx⟩:=List.length_eq_one_iff.1 h5
    rw[hx,zF,zu,Int.mul_zero,Int.add_zero]at vv
    have hx1:x≠1:=by omega
    rw[hx,if_neg (by simp),yQ]
    simp only[Yj,ZB,decide_eq_false hx1]
    rfl
   rw[if_pos (by simp;omega)]
   rfl
  rw[if_neg (by omega),if_neg (by omega)]
  rfl
 have h1':okF s=false:=by simpa using h1
 rw[h1',if_pos (by simp),if_pos (.inl rfl)]
end Go.Av
end
section
namespace Go.Av
def tl (q:Rat):Str:=if q.den=1 then[]else 47::Lib.decDigits q.den
theorem qnh (q:Rat):T q=Lib.itoa q.num++tl q:=rfl
theorem no47 {s:Str} (h:s.all yh=true): ∀c∈s,c≠47:=fun c hc e=>by
 have:=Yp.1 h c hc
 rw[e]at this
 exact absurd this (by decide)
theorem qkW: ∀{s:Str},(∀c∈s,c≠47)->slA s=s.length:=fun {s} h=>(qjR s [] h).2
theorem qit {s:Str} (h: ∀c∈s,c≠47) (q:Rat):slA (s++tl q)=s.length:=by
 unfold tl
 by_cases c:q.den=1
 ·rw[if_pos c,YQ]
  exact qkW h
 rw[if_neg c]
 exact(qjR s _ h).1
theorem qfa (z:Int): ∀c∈Lib.itoa z,c≠47:=by
 by_cases h:z<0
 ·rw[yg h]
  intro c hc
  rcases List.mem_cons.1 hc with e|e
  ·rw[e];decide
  exact no47 (qa9 _) c e
 rw[jl h]
 exact no47 (qa9 _)
theorem qpJ {s t:Str} (h:0<s.length):sgn (s++t)=sgn s:=by
 unfold sgn
 rw[Yf h]
theorem qn0 (z:Int):0<(Lib.itoa z).length:=by
 by_cases h:z<0
 ·rw[yg h];simp
 rw[jl h];exact qis _
theorem qk1 (q:Rat):sgn (T q)=decide (q.num<0):=by rw[qnh,qpJ (qn0 _),qio]
theorem qku (q:Rat):bdy (T q)=Lib.decDigits q.num.natAbs++tl q:=by
 unfold bdy
 rw[qk1,qnh]
 by_cases h:q.num<0
 ·rw[decide_eq_true h,if_pos rfl,yg h]
  rfl
 rw[decide_eq_false h,if_neg (by simp),jl h]
theorem qhH {p q:Rat} (h:T p=T q):p=q:=by
 have u:=congrArg slA h
 have e1:slA (T p)=(Lib.itoa p.num).length:=qit (qfa _) p
 have e2:slA (T q)=(Lib.itoa q.num).length:=qit (qfa _) q
 rw[e1,e2]at u
 rw[qnh,qnh]at h
 obtain⟨h2,j⟩:=List.append_inj h u
 have n1:p.num=q.num:=by rw[<-qdi p.num,h2,qdi]
 have n2:p.den=q.den:=by
  unfold tl at j
  by_cases c:p.den=1
  ·by_cases d:q.den=1
   ·rw[c,d]
   rw[if_pos c,if_neg d]at j;cases j
  by_cases d:q.den=1
  ·rw[if_neg c,if_pos d]at j;cases j
  rw[if_neg c,if_neg d]at j
  injection j with _ j
  exact qlz j
 exact Rat.ext n1 n2
theorem qmH: ∀{s:Str},slA s<s.length->s=s.take (slA s)++47::s.drop (slA s+1)
 |[],h=>by simp at h
 |c::s,h=>by
  rw[slA]at h⊢
  by_cases e:c=47
  ·rw[if_pos e,e]
   rfl
  rw[if_neg e,Yr]at h
  rw[if_neg e,List.take_succ_cons,List.drop_succ_cons,List.cons_append,<-qmH (show slA s<s.length by omega)]
theorem qpS (s:Str):s=if sgn s=true then 45::bdy s else bdy s:=by
 unfold bdy
 cases h:sgn s with
 |false=>rw[if_neg (by simp),if_neg (by simp)]
 |true=>
  rw[if_pos rfl,if_pos rfl]
  cases s with
  |nil=>cases h
  |cons c t=>
   have e:=of_decide_eq_true h
   simp only[Yj]at e
   rw[Ye e]
   rfl
theorem qeP {s:Str} (h:chk s=0): ∃q:Rat,s=T q/\(Lib.decDigits q.num.natAbs).length<=600/\(Lib.decDigits q.den).length<=600:=by
 have hk:=qgn (bdy s)
 have lt:((bdy s).take (slA (bdy s))).length=slA (bdy s):=by rw[Ym];omega
 have hs:=qpS s
 have hsp:=@qmH (bdy s)
 unfold chk at h
 by_cases h1:okF s=false\/qhw s=true
 ·rw[if_pos h1]at h;cases h
 rw[if_neg h1]at h
 by_cases h2:600<((bdy s).take (slA (bdy s))).length\/600<((bdy s).drop (slA (bdy s)+1)).length
 ·rw[if_pos h2]at h;cases h
 rw[if_neg h2]at h
 by_cases h3:slA (bdy s)<(bdy s).length/\Nat.gcd (qY 0 ((bdy s).take (slA (bdy s)))) (qY 0 ((bdy s).drop (slA (bdy s)+1)))≠1
 ·rw[if_pos h3]at h;cases h
 have ho:okF s=true:=by cases e:okF s with|true=>rfl|false=>exact absurd (.inl e) h1
 have hb:qhw s=false:=by cases e:qhw s with|false=>rfl|true=>exact absurd (.inr e) h1
 obtain⟨u,hng⟩:=of_decide_eq_true ho
 have en:=u.eq
 obtain⟨z,hz1,hz2⟩: ∃z:Int,z.natAbs=qY 0 ((bdy s).take (slA (bdy s)))/\(z<0↔sgn s=true):=by
  cases e:sgn s with
  |false=>exact⟨((qY 0 ((bdy s).take (slA (bdy s))):Nat):Int),by omega,by simp⟩
  |true=>
   have:=qfU u fun c=>hng ⟨e,c⟩
   exact⟨-((qY 0 ((bdy s).take (slA (bdy s))):Nat):Int),by omega,by simp;omega⟩
 have hT: ∀t:Str,bdy s=(bdy s).take (slA (bdy s))++t->s=Lib.itoa z++t:=by
  intro t ht
  rw[hs]
  by_cases c:z<0
  ·rw[if_pos (hz2.1 c),yg c,hz1,<-en,List.cons_append,<-ht]
  rw[if_neg fun e=>c (hz2.2 e),jl c,hz1,<-en,<-ht]
 by_cases c:slA (bdy s)<(bdy s).length
 ·have j:Dec ((bdy s).drop (slA (bdy s)+1))/\(bdy s).drop (slA (bdy s)+1)≠[48]/\(bdy s).drop (slA (bdy s)+1)≠[49]:=Classical.byContradiction fun hc=>of_decide_eq_false hb ⟨c,hc⟩
  have ed:=j.1.eq
  have hd0:=qfU j.1 j.2.1
  have hd1:qY 0 ((bdy s).drop (slA (bdy s)+1))≠1:=fun e=>by
   rw[e,jo (by decide)]at ed
   exact j.2.2 ed
  have hg:Nat.gcd z.natAbs (qY 0 ((bdy s).drop (slA (bdy s)+1)))=1:=by
   rw[hz1]
   exact Classical.byContradiction fun e=>h3 ⟨c,e⟩
  refine⟨⟨z,qY 0 ((bdy s).drop (slA (bdy s)+1)),by omega,hg⟩,?_,?_,?_⟩
  ·have:=hT _ (hsp c)
   unfold T
   rw[if_neg hd1]
   show s=Lib.itoa z++47::Lib.decDigits (qY 0 ((bdy s).drop (slA (bdy s)+1)))
   rw[<-ed]
   exact this
  ·show(Lib.decDigits z.natAbs).length<=600
   rw[hz1,<-en]
   omega
  show(Lib.decDigits (qY 0 ((bdy s).drop (slA (bdy s)+1)))).length<=600
  rw[<-ed]
  omega
 refine⟨(z:Rat),?_,?_,?_⟩
 ·have:=hT [] (by rw[YQ,List.take_of_length_le (by omega)])
  unfold T
  rw[Rat.den_intCast,if_pos rfl,Rat.num_intCast]
  exact this
 ·rw[Rat.num_intCast,hz1,<-en]
  omega
 rw[Rat.den_intCast,jo (by decide)]
 simp
end Go.Av
end
section
namespace Go.Av
def Sml (q:Rat) (k:Nat):Prop:=(Lib.decDigits q.num.natAbs).length<=k/\(Lib.decDigits q.den).length<=k
theorem qgW (z:Int):(Lib.itoa z).length<=(Lib.decDigits z.natAbs).length+1:=by
 by_cases h:z<0
 ·rw[yg h];simp
 rw[jl h];omega
theorem qgX (q:Rat) (h:q.den≠1):slA (T q)<(T q).length/\(T q).take (slA (T q))=Lib.itoa q.num/\(T q).drop (slA (T q)+1)=Lib.decDigits q.den:=by
 have e:slA (T q)=(Lib.itoa q.num).length:=qit (qfa _) q
 have j:T q=Lib.itoa q.num++47::Lib.decDigits q.den:=by unfold T;rw[if_neg h]
 rw[e,j]
 refine⟨by rw[Yq,Yr];omega,?_,?_⟩
 ·rw[List.take_append_of_le_length (Nat.le_refl _),List.take_of_length_le (Nat.le_refl _)]
 rw[List.drop_append,List.drop_of_length_le (by omega),show(Lib.itoa q.num).length+1-(Lib.itoa q.num).length=1 by omega]
 rfl
theorem qfW (q:Rat) (h:q.den=1):T q=Lib.itoa q.num/\slA (T q)=(T q).length:=by
 have j:T q=Lib.itoa q.num:=by unfold T;rw[if_pos h,YQ]
 refine⟨j,?_⟩
 rw[j]
 exact qkW (qfa _)
theorem qb0 {q:Rat} {k:Nat} (h:Sml q k):(T q).length<=2*k+2:=by
 have u:=qgW q.num
 have j:=h.1
 have h3:=h.2
 unfold T
 rw[Yq]
 split
 ·simp;omega
 rw[Yr];omega
theorem qeV {N:Nat} (hN:600000<N) {q:Rat} (h:Sml q 9000): ∃f,yw N (T q)=some f/\IsF f q:=by
 have hl:=qb0 h
 have h1:=h.1
 have h2:=h.2
 unfold yw
 rw[qoj (by omega),ZB]
 obtain⟨r1,e1,i1⟩:=qhf hN (s:=Lib.itoa q.num) (by rw[qcu];exact qa9 _) (by rw[qcu];omega)
 rw[qdi]at i1
 by_cases c:q.den=1
 ·obtain⟨t1,t2⟩:=qfW q c
  rw[if_neg (show¬slA (T q)<(T q).length by omega)]
  obtain⟨f,e2,j⟩:=qkP i1
  rw[if_pos (by rfl),t1,e1,ZB,e2,ZB]
  refine⟨f,rfl,?_⟩
  have:(q.num:Rat)=q:=Rat.ext (by simp) (by simp[c])
  rw[this]at j
  exact j
 obtain⟨t1,t2,t3⟩:=qgX q c
 rw[if_pos t1]
 have u:=qa9 q.den
 obtain⟨r2,e2,j⟩:=qhf hN (s:=Lib.decDigits q.den) (by rw[(qbJ u).2];exact u) (by rw[(qbJ u).2];omega)
 rw[qdb u,qcy]at j
 rw[if_neg (by simp),t2,t3,e1,ZB,e2,ZB]
 exact⟨⟨r1,r2⟩,rfl,i1,j⟩
theorem qdn {N:Nat} (hN:600000<N) {q:Rat} (h:Sml q 4000):jJ N (T q)=some (rI q.num,rI (q.den:Int)):=by
 have hl:=qb0 h
 have h1:=h.1
 have h2:=h.2
 by_cases c:q.den=1
 ·obtain⟨t1,j⟩:=qfW q c
  unfold jJ
  rw[qdr (by omega) (by omega),ZB,j,if_pos rfl,t1,qiy (by omega) (by rw[qcu];exact qa9 _) (by rw[qcu];omega),ZB,qqI (by omega),ZB,qdi,c]
  rfl
 obtain⟨t1,j,t3⟩:=qgX q c
 have u:=qa9 q.den
 rw[qiJ hN (by omega) t1 (by rw[j,qcu];exact qa9 _) (by rw[t3,(qbJ u).2];exact u),j,t3,qdi,qdb u,qcy]
end Go.Av
end
section
namespace Go.Av
theorem qmY {n:Nat} (h:0<n):(if((dg E9 (n:Int)).length:Int)=1 then(idx (dg E9 (n:Int)) 0).bind fun x15=>some (decide (x15=1))else some false:Option Bool)=some (decide (n=1)):=by
 have vv:=jY E1 (show(0:Int)<=(n:Int)by omega)
 by_cases h4:n=1
 ·rw[show(n:Int)=1 by omega,qnz,if_pos (by simp),yQ,h4]
  rfl
 rw[decide_eq_false h4]
 by_cases h5:(dg E9 (n:Int)).length=1
 ·obtain⟨x,u⟩:=List.length_eq_one_iff.1 h5
  rw[u,zF,zu,Int.mul_zero,Int.add_zero]at vv
  have j:x≠1:=by omega
  rw[u,if_pos (by simp),yQ]
  simp only[Yj,ZB,decide_eq_false j]
 rw[if_neg (by omega)]
theorem jv.abs {z:Int} {n:Nat} (h:jv z n):jv (z.natAbs:Int) n:=by
 unfold jv at h⊢
 rw[Int.natAbs_natCast]
 exact h
theorem jv.le {a b:Int} {n:Nat} (h:(a.natAbs:Int)<=(b.natAbs:Int)) (k:jv b n):jv a n:=Int.lt_of_le_of_lt h k
theorem jv.itoaLen {z:Int} {n:Nat} (h:jv z n) (u:0<n):(Lib.itoa z).length<=9*n+1:=by
 have j:z.natAbs<10^(9*n):=by
  have h:(z.natAbs:Int)<E9^n:=h
  rw[qhJ]at h
  exact Int.ofNat_lt.1 h
 have h3:=(qaL (show 0<9*n by omega)).2 j
 have h4:=qgW z
 omega
theorem qmC {N:Nat} (hN:60000<N) {x y:Int} (h:0<=x) (u:0<y) {B:Nat} (hB:B<=8000) (j:jv x B):jK N (dg E9 x) (dg E9 y)=some (dg E9 (x/y),dg E9 (x%y)):=by
 have l:=j.len
 rw[show(x.natAbs:Int)=x by omega]at l
 rw[qdL hN (ji E1 h) (ji E1 (by omega)) (by omega) (by rw[jY E1 (by omega)];exact u),jY E1 h,jY E1 (by omega)]
theorem den_pos (q:Rat):0<q.den:=Nat.pos_of_ne_zero q.den_nz
theorem qim {a b:Int} (h:b≠0):(b.sign*a).natAbs=a.natAbs:=by rw[Int.natAbs_mul,Int.natAbs_sign_of_ne_zero h,Nat.one_mul]
theorem qmh (a b:Int):Int.gcd (a.natAbs:Int) (b.natAbs:Int)=Int.gcd b a:=by
 rw[Int.gcd_comm]
 rfl
theorem qdy {N:Nat} (hN:600000<N) {B:Nat} (j:0<B) (u:B<=8000) {a b:Int} (fa:jv a B) (fb:jv b B) (hb:b≠0):ve N (rI a) (rI b)=some (T (Rat.divInt a b)):=by
 have hg:0<Int.gcd b a:=Int.gcd_pos_of_ne_zero_left _ hb
 have ea:=qim (a:=a) hb
 have S:(if(rI b).neg=true then(xB N (rI a)).bind fun r7=>(xB N (rI b)).bind fun r8=>some (r7.neg,r7.w,r8.neg,r8.w)else some ((rI a).neg,(rI a).w,(rI b).neg,(rI b).w):Option (Bool×(List Int)×Bool×(List Int)))=some (decide (b.sign*a<0),dg E9 (a.natAbs:Int),false,dg E9 (b.natAbs:Int)):=by
  by_cases h:b<0
  ·rw[if_pos (show(rI b).neg=true from decide_eq_true h),qkp (by omega) (fa.mono (by omega)),ZB,qkp (by omega) (fb.mono (by omega)),ZB,Int.sign_eq_neg_one_of_neg h,Int.neg_mul,Int.one_mul]
   show some (decide (-a<0),dg E9 (((-a).natAbs:Nat):Int),decide (-b<0),dg E9 (((-b).natAbs:Nat):Int))=_
   rw[decide_eq_false (show¬ -b<0 by omega),Int.natAbs_neg,Int.natAbs_neg]
  rw[if_neg (show¬(rI b).neg=true from fun c=>h (of_decide_eq_true c)),Int.sign_eq_one_of_pos (by omega),Int.one_mul]
  show some (decide (a<0),dg E9 ((a.natAbs:Nat):Int),decide (b<0),dg E9 ((b.natAbs:Nat):Int))=_
  rw[decide_eq_false h]
 have en:(Rat.divInt a b).num=b.sign*a/(Int.gcd b a:Int):=Rat.num_divInt ..
 have ed:(b.natAbs:Int)/(Int.gcd b a:Int)=((Rat.divInt a b).den:Int):=by rw[Rat.den_divInt,if_neg hb,Int.natCast_ediv]
 have hd:=den_pos (Rat.divInt a b)
 have dvd:(Int.gcd b a:Int)∣b.sign*a:=Int.dvd_mul_of_dvd_right (Int.gcd_dvd_right ..)
 have fn:jv (Rat.divInt a b).num B:=by
  rw[en]
  exact jv.le (Int.le_trans (qaz _ (by omega)) (by rw[ea];exact Int.le_refl _)) fa
 have fd:jv ((Rat.divInt a b).den:Int) B:=by
  rw[<-ed]
  exact jv.le (Int.le_trans (qaz _ (by omega)) (Int.le_refl _)) fb.abs
 have vn:(if decide (b.sign*a<0)=true then-dv E9 (dg E9 ((a.natAbs:Int)/(Int.gcd b a:Int)))else dv E9 (dg E9 ((a.natAbs:Int)/(Int.gcd b a:Int))))=(Rat.divInt a b).num:=by
  have p0:0<=(a.natAbs:Int)/(Int.gcd b a:Int):=Int.ediv_nonneg (by omega) (by omega)
  rw[jY E1 p0,en]
  by_cases c:b.sign*a<0
  ·rw[if_pos (decide_eq_true c),show(a.natAbs:Int)= -(b.sign*a)by omega,Int.neg_ediv_of_dvd dvd,Int.neg_neg]
  rw[if_neg (fun h=>c (of_decide_eq_true h)),show(a.natAbs:Int)=b.sign*a by omega]
 unfold ve
 rw[S,ZB]
 simp only
 rw[qi9 hN (by omega) (by omega) (fa.abs.mono u) (fb.abs.mono u),ZB,qmh,qmC (by omega) (by omega) (by omega) u fa.abs,ZB,qmC (by omega) (by omega) (by omega) u fb.abs,ZB]
 simp only
 have p0:0<=(a.natAbs:Int)/(Int.gcd b a:Int):=Int.ediv_nonneg (by omega) (by omega)
 have ln:(dg E9 ((a.natAbs:Int)/(Int.gcd b a:Int))).length<=B:=by
  have:=(jv.le (Int.le_trans (qaz _ (by omega)) (Int.le_refl _)) fa.abs:jv ((a.natAbs:Int)/(Int.gcd b a:Int)) B).len
  rw[show(((a.natAbs:Int)/(Int.gcd b a:Int)).natAbs:Int)=(a.natAbs:Int)/(Int.gcd b a:Int)by omega]at this
  exact this
 have ld:(dg E9 ((Rat.divInt a b).den:Int)).length<=B:=by
  have:=fd.len
  rw[Int.natAbs_natCast]at this
  exact this
 rw[qaJ _ (ji E1 p0).1 (by omega) (by omega),ZB,vn,qmo (by omega) (fn.mono (by omega)),ZB,ed,qmY hd,ZB]
 have l1:=fn.itoaLen j
 have l2:=fd.itoaLen j
 unfold T
 by_cases c:(Rat.divInt a b).den=1
 ·rw[if_pos (decide_eq_true c),if_pos c,YQ]
 rw[if_neg (fun h=>c (of_decide_eq_true h)),if_neg c,qbx (by simp;omega),ZB,qaJ _ (ji E1 (by omega)).1 (by omega) (by omega),ZB,if_neg (by simp),jY E1 (by omega),qmo (by omega) (fd.mono (by omega)),ZB,qbx (by simp;omega),ZB,qgk,Yz]
 rfl
theorem qqj {a b:Int} (h:0<=a) (j:0<b):qeU .i64 a b=some (a%b):=by
 unfold qeU
 rw[if_neg (by omega),Int.tmod_eq_emod_of_nonneg h]
theorem qqg {a b:Int} (j:0<b) (h1: -4000000000000000000<=a) (u:a<=4000000000000000000) (h:b∣a):qcz .i64 a b=some (a/b):=by
 have:=qaz a j
 unfold qcz
 rw[if_neg (by omega),Int.tdiv_eq_ediv_of_dvd h]
 show some (w64 _)=_
 rw[ql (by omega) (by omega)]
theorem ql2: ∀(k K:Nat) (a b:Int),0<=a->0<=b->b<2^k->2*k+2<=K->jX K a b=some (Int.gcd a b:Int)
 |k,0,a,b,_,_,_,hK=>by omega
 |k,K+1,a,b,ha,hb,hk,hK=>by
  have na:(a.natAbs:Int)=a:=by omega
  have nb:(b.natAbs:Int)=b:=by omega
  rcases(show b=0\/0<b by omega)with h0|h0
  ·rw[h0,jX,if_neg (by omega),Int.gcd_zero,na]
  match k,hk,hK with
  |0,hk,hK=>simp at hk;omega
  |k+1,hk,hK=>
   have j:=Int.emod_nonneg a (show b≠0 by omega)
   have m1:=Int.emod_lt_of_pos a h0
   rw[jX,if_pos (by omega),qqj ha h0,ZB,qdd ha hb]
   match K,hK with
   |0,hK=>omega
   |K+1,hK=>
    rcases(show a%b=0\/0<a%b by omega)with g0|g0
    ·rw[g0,jX,if_neg (by omega),Int.gcd_zero,nb]
    have n0:=Int.emod_nonneg b (show a%b≠0 by omega)
    have n1:=Int.emod_lt_of_pos b g0
    have h:b%(a%b)<2^k:=by
     have d1:=Int.mul_ediv_add_emod b (a%b)
     have u:1<=b/(a%b):=by
      rw[Int.le_ediv_iff_mul_le g0]
      omega
     have d3:a%b*1<=a%b*(b/(a%b)):=Yc u (by omega)
     rw[Int.pow_succ]at hk
     omega
    rw[jX,if_pos (by omega),qqj hb g0,ZB,qdd hb j]
    exact ql2 k K (a%b) (b%(a%b)) j n0 h (by omega)
theorem qpR {N:Nat} (hN:200<N) {a b:Int} (j:0<=a) (u:0<=b) (h:b<9223372036854775808):qdw N a b=some (Int.gcd a b:Int):=by
 unfold qdw
 rw[ql2 63 N a b j u h (by omega),ZB]
theorem rabs {z:Int} (j: -9223372036854775807<=z) (h:z<=9223372036854775807):(if w64 (0-z)>z then w64 (0-z)else z)=(z.natAbs:Int):=by
 rw[ql (by omega) (by omega)]
 split<;>omega
theorem qqd {n:Nat} (h:n<=4000000000000000000):(Lib.decDigits n).length<=19:=(qaL (by decide)).2 (by omega)
theorem qlK {N:Nat} (hN:1000<N) {a b:Int} (a1: -4000000000000000000<=a) (a2:a<=4000000000000000000) (b1: -4000000000000000000<=b) (b2:b<=4000000000000000000) (hb:b≠0):qcp N a b=some (T (Rat.divInt a b)):=by
 have hg:0<Int.gcd b a:=Int.gcd_pos_of_ne_zero_left _ hb
 have ea:=qim (a:=a) hb
 have S:(if b<0 then some (w64 (0-a),w64 (0-b))else some (a,b):Option (Int×Int))=some (b.sign*a,(b.natAbs:Int)):=by
  by_cases h:b<0
  ·rw[if_pos h,ql (by omega) (by omega),ql (by omega) (by omega),Int.sign_eq_neg_one_of_neg h,show(-1:Int)*a=0-a by omega,show(b.natAbs:Int)=0-b by omega]
  rw[if_neg h,Int.sign_eq_one_of_pos (by omega),Int.one_mul,show(b.natAbs:Int)=b by omega]
 have en:(Rat.divInt a b).num=b.sign*a/(Int.gcd b a:Int):=Rat.num_divInt ..
 have ed:(b.natAbs:Int)/(Int.gcd b a:Int)=((Rat.divInt a b).den:Int):=by rw[Rat.den_divInt,if_neg hb,Int.natCast_ediv]
 have hd:=den_pos (Rat.divInt a b)
 have u:(Int.gcd b a:Int)∣b.sign*a:=Int.dvd_mul_of_dvd_right (Int.gcd_dvd_right ..)
 have j:(Int.gcd b a:Int)∣(b.natAbs:Int):=by
  rw[Int.dvd_natAbs]
  exact Int.gcd_dvd_left ..
 have n1:=qaz (b.sign*a) (show(0:Int)<(Int.gcd b a:Int)by omega)
 have n2:=qaz (b.natAbs:Int) (show(0:Int)<(Int.gcd b a:Int)by omega)
 rw[<-en,ea]at n1
 rw[ed,Int.natAbs_natCast,Int.natAbs_natCast]at n2
 unfold qcp
 rw[if_neg (show¬a< -4000000000000000000 by omega),if_neg (show¬a>4000000000000000000 by omega),if_neg (show¬b< -4000000000000000000 by omega),decide_eq_false (show¬b>4000000000000000000 by omega),ZB,if_neg (by simp),S,ZB]
 simp only
 rw[rabs (by omega) (by omega),ea,qpR (by omega) (by omega) (by omega) (by omega),ZB,qmh,qqg (by omega) (by omega) (by omega) u,ZB,qqg (by omega) (by omega) (by omega) j,ZB,<-en,ed,rabs (by omega) (by omega),qij (by omega) (by omega),qij (by omega) (by omega)]
 generalize Rat.divInt a b=q at*
 have l1:=qqd (n:=q.num.natAbs) (by omega)
 have l2:=qqd (n:=q.den) (by omega)
 have S2:((if q.num<0 then some [45]else some []:Option Str).bind fun s17=>(some (Lib.decDigits q.num.natAbs)).bind fun r20=>(cat s17 r20).bind fun s21=>(if(q.den:Int)>1 then(cat s21 [47]).bind fun s25=>(some (Lib.decDigits q.den)).bind fun r26=>(cat s25 r26).bind fun s27=>some s27 else some s21:Option Str).bind fun s22=>some s22)=some (T q):=by
  have li:(Lib.itoa q.num).length<=20:=by have:=qgW q.num;omega
  have I:((if q.num<0 then some [45]else some []:Option Str).bind fun s17=>(some (Lib.decDigits q.num.natAbs)).bind fun r20=>(cat s17 r20).bind fun s21=>(if(q.den:Int)>1 then(cat s21 [47]).bind fun s25=>(some (Lib.decDigits q.den)).bind fun r26=>(cat s25 r26).bind fun s27=>some s27 else some s21:Option Str).bind fun s22=>some s22)=((if(q.den:Int)>1 then(cat (Lib.itoa q.num) [47]).bind fun s25=>(some (Lib.decDigits q.den)).bind fun r26=>(cat s25 r26).bind fun s27=>some s27 else some (Lib.itoa q.num):Option Str).bind fun s22=>some s22):=by
   by_cases c:q.num<0
   ·rw[if_pos c,ZB,ZB,qbx (by simp;omega),ZB,yg c]
    rfl
   rw[if_neg c,ZB,ZB,qbx (by simp;omega),ZB,jl c]
   rfl
  rw[I]
  unfold T
  by_cases c:q.den=1
  ·rw[if_neg (by omega),if_pos c,ZB,YQ]
  rw[if_pos (by omega),if_neg c,qbx (by simp;omega),ZB,ZB,qbx (by simp;omega),ZB,ZB,Yz]
  rfl
 exact S2
end Go.Av
end
section
namespace Go.Av
theorem Sml.mono {q:Rat} {m n:Nat} (h:Sml q m) (j:m<=n):Sml q n:=⟨Nat.le_trans h.1 j,Nat.le_trans h.2 j⟩
theorem qb2 {q:Rat} {k n:Nat} (h:Sml q k) (j:0<k) (u:k<=9*n):jv q.num n:=qjP (p:=k) (Int.ofNat_lt.2 ((qaL j).1 h.1)) u
theorem qb3 {q:Rat} {k n:Nat} (h:Sml q k) (j:0<k) (u:k<=9*n):jv (q.den:Int) n:=qjP (p:=k) (by rw[Int.natAbs_natCast];exact Int.ofNat_lt.2 ((qaL j).1 h.2)) u
theorem zS {q:Rat} {k n:Nat} (h:Sml q k) (j:0<k) (u:k<=19*n):qaN q n:=⟨qfJ (p:=k) (Int.ofNat_lt.2 ((qaL j).1 h.1)) u,qfJ (p:=k) (by rw[Int.natAbs_natCast];exact Int.ofNat_lt.2 ((qaL j).1 h.2)) u⟩
theorem qmb {z:Int} {n:Nat} (h:jv z n) (j:0<n):(Lib.decDigits z.natAbs).length<=9*n:=by
 refine(qaL (by omega)).2 ?_
 have h:(z.natAbs:Int)<E9^n:=h
 rw[qhJ]at h
 exact Int.ofNat_lt.1 h
theorem qhB {q:Rat} {n:Nat} (h1:jv q.num n) (u:jv (q.den:Int) n) (h:0<n):Sml q (9*n):=by
 have j:=qmb u h
 rw[Int.natAbs_natCast]at j
 exact⟨qmb h1 h,j⟩
theorem qeF {a b:Int} {n:Nat} (h:b≠0) (fa:jv a n) (j:jv b n):jv (Rat.divInt a b).num n/\jv ((Rat.divInt a b).den:Int) n:=by
 have u:0<Int.gcd b a:=Int.gcd_pos_of_ne_zero_left _ h
 constructor
 ·rw[Rat.num_divInt]
  exact jv.le (Int.le_trans (qaz _ (by omega)) (by rw[qim h];exact Int.le_refl _)) fa
 rw[Rat.den_divInt,if_neg h,Int.natCast_ediv]
 exact jv.le (Int.le_trans (qaz _ (by omega)) (Int.le_refl _)) j.abs
theorem xP {a b:Int} {m n:Nat} (h:jv a m) (j:jv b n):jv (a*b) (m+n):=by
 unfold jv at*
 rw[Int.natAbs_mul,Int.natCast_mul,Int.pow_add]
 have h1:(a.natAbs:Int)*(b.natAbs:Int)<=(a.natAbs:Int)*E9^n:=Yc (Int.le_of_lt j) (by omega)
 have u:(a.natAbs:Int)*E9^n<E9^m*E9^n:=YH h (pow_pos E0 n)
 omega
theorem qj3 {a b:Int} {n:Nat} (h:jv a n) (j:jv b n):jv (a+b) (n+1):=by
 unfold jv at*
 rw[Int.pow_succ]
 have hp:=pow_pos E0 n
 have:((a+b).natAbs:Int)<=(a.natAbs:Int)+(b.natAbs:Int):=by omega
 unfold E9 at*
 omega
theorem qbM {q:Rat} (h:Sml q 600):qjk q=false:=by
 have u:=h.1
 have j:=h.2
 unfold qjk lng
 rw[Int.natAbs_natCast,decide_eq_false (by omega),decide_eq_false (by omega)]
 rfl
theorem qnG (s:Str):xN s=some (if s=[48]then 0 else if sgn s=true then-1 else 1):=by
 unfold xN
 by_cases c:s=[48]
 ·rw[if_pos (by simp[c]),if_pos c]
 rw[if_neg (by simp[c]),qgf,ZB,if_neg c]
 cases sgn s<;>rfl
theorem itoa0:Lib.itoa 0=[48]:=by
 rw[jl (by decide),show(0:Int).natAbs=0 from rfl,jo (by decide)]
 rfl
theorem T0:T 0=[48]:=by
 rw[(qfW 0 rfl).1]
 exact itoa0
theorem qoh {q:Rat}:T q=[48]↔q=0:=by
 constructor
 ·intro h
  exact qhH (h.trans T0.symm)
 intro h
 rw[h]
 exact T0
theorem qld (q:Rat):xN (T q)=some (if q.num<0 then-1 else if q.num=0 then 0 else 1):=by
 rw[qnG,qk1]
 by_cases c:q=0
 ·rw[if_pos (qoh.2 c),c]
  rfl
 rw[if_neg (fun h=>c (qoh.1 h)),if_neg (show¬q.num=0 from fun h=>c (Rat.num_eq_zero.1 h))]
 by_cases d:q.num<0
 ·rw[decide_eq_true d,if_pos rfl,if_pos d]
 rw[decide_eq_false d,if_neg (by simp),if_neg d]
theorem qqB (q:Rat):tl (-q)=tl q:=by
 unfold tl
 rw[Rat.neg_den]
theorem Neg_T {N:Nat} {q:Rat} (h:(T q).length<=100000):qdg (T q)=some (T (-q)):=by
 unfold qdg
 rw[qld,ZB]
 have e:T (-q)=Lib.itoa (-q.num)++tl q:=by rw[qnh,qqB,Rat.neg_num]
 by_cases c:q.num<0
 ·have hs:sgn (T q)=true:=by rw[qk1];exact decide_eq_true c
  have j:(T q).drop 1=bdy (T q):=by unfold bdy;rw[if_pos hs]
  have u:=qjt hs
  rw[if_pos c,if_pos (by decide),show(1:Int)=((1:Nat):Int)from rfl,xR u,ZB,j,qku,e,jl (by omega),Int.natAbs_neg]
 rw[if_neg c,if_neg (by split<;>decide),ZB]
 by_cases d:q.num=0
 ·rw[if_pos d,if_pos rfl,Rat.num_eq_zero.1 d]
  rfl
 rw[if_neg d,if_neg (by decide),qbx (by simp;omega),ZB,e,yg (by omega),Int.natAbs_neg,qnh,jl c]
 rfl
theorem qhq {N:Nat} (hN:100000<N) {q:Rat} {k:Nat} (h:Sml q k) (hk:k<=9000):vg N (T q)=some (0,0,false)\/(vg N (T q)=some (q.num,(q.den:Int),true)/\q.num.natAbs<1000000000/\q.den<1000000000):=by
 have hl:=qb0 h
 have hb:=qf1 (T q)
 have eb:=qku q
 have es:slA (Lib.decDigits q.num.natAbs++tl q)=(Lib.decDigits q.num.natAbs).length:=qit (no47 (qa9 _)) q
 have u:(Lib.decDigits q.num.natAbs++tl q).length=(Lib.decDigits q.num.natAbs).length+(tl q).length:=Yq
 rw[eb]at hb
 unfold vg
 by_cases c:((T q).length:Int)>20
 ·left
  rw[if_pos c]
 rw[if_neg c,qgf,ZB,qlj,ZB,eb,qdr (by omega) (by omega),ZB,es,qk1]
 by_cases c1:(Lib.decDigits q.num.natAbs).length>9
 ·left
  rw[if_pos (by omega),ZB,if_pos rfl]
 rw[if_neg (by omega),ql (by omega) (by omega)]
 by_cases c2:(tl q).length>10
 ·left
  rw[decide_eq_true (by omega),ZB,if_pos rfl]
 right
 rw[decide_eq_false (by omega),ZB,if_neg (by simp),xx (by omega),ZB,List.take_left',qgg (by omega) (qa9 _) (by omega),ZB,qcy]
 ·have hn:q.num.natAbs<1000000000:=(qaL (show 0<9 by decide)).1 (by omega)
  have sg:(if decide (q.num<0)=true then some (w64 (0-(q.num.natAbs:Int)))else some (q.num.natAbs:Int):Option Int)=some q.num:=by
   by_cases d:q.num<0
   ·rw[if_pos (decide_eq_true d),ql (by omega) (by omega)]
    congr 1
    omega
   rw[if_neg (fun h=>d (of_decide_eq_true h))]
   congr 1
   omega
  by_cases d:q.den=1
  ·have j:tl q=[]:=by unfold tl;rw[if_pos d]
   rw[j]at u
   rw[List.length_nil]at u
   rw[j,if_neg (by omega),ZB,sg,ZB,d]
   exact⟨rfl,hn,by decide⟩
  have j:tl q=47::Lib.decDigits q.den:=by unfold tl;rw[if_neg d]
  rw[j,Yr]at u c2
  have hd:q.den<1000000000:=(qaL (show 0<9 by decide)).1 (by omega)
  rw[j,if_pos (by omega),zT (by omega),xR (by omega),ZB,List.drop_append,List.drop_of_length_le (by omega),show(Lib.decDigits q.num.natAbs).length+1-(Lib.decDigits q.num.natAbs).length=1 by omega,List.nil_append,List.drop_succ_cons,YR,qgg (by omega) (qa9 _) (by omega),ZB,ZB,sg,ZB,qcy]
  exact⟨rfl,hn,hd⟩
 rfl
theorem ql6 {N:Nat} (hN:100000<N) {p q:Rat} {k:Nat} (hk:k<=9000) (hp:Sml p k) (hq:Sml q k) {Fq:(Int×Int×Bool)->(Int×Int×Bool)->Option Str} {h:Option Str} {t:Str}
 (h1:p.num.natAbs<1000000000->p.den<1000000000->q.num.natAbs<1000000000->q.den<1000000000->Fq (p.num,(p.den:Int),true) (q.num,(q.den:Int),true)=some t) (h2:h=some t):
 ((vg N (T p)).bind fun r1=>(vg N (T q)).bind fun r2=>(if r1.2.2=true then some r2.2.2 else some false:Option Bool).bind fun b4=>if b4=true then(Fq r1 r2).bind fun r7=>some r7 else h)=some t:=by
 rcases qhq hN hp hk with u|⟨u,a1,a2⟩
 ·rcases qhq hN hq hk with j|⟨j,b1,b2⟩
  ·rw[u,ZB,j,ZB]
   exact h2
  rw[u,ZB,j,ZB]
  exact h2
 rcases qhq hN hq hk with j|⟨j,b1,b2⟩
 ·rw[u,ZB,j,ZB]
  exact h2
 rw[u,ZB,j,ZB]
 show((Fq (p.num,(p.den:Int),true) (q.num,(q.den:Int),true)).bind fun r7=>some r7)=some t
 rw[h1 a1 a2 b1 b2,ZB]
theorem qnX {a b:Int} (j:a.natAbs<1000000000) (u:b.natAbs<1000000000): -1000000000000000000<=a*b/\a*b<=1000000000000000000:=by
 have h:(a*b).natAbs<=1000000000*1000000000:=by
  rw[Int.natAbs_mul]
  exact Nat.mul_le_mul (by omega) (by omega)
 omega
theorem qjs {N:Nat} (hN:600000<N) {p q:Rat} {k:Nat} (h:0<k) (hk:k<=4000) (hp:Sml p k) (hq:Sml q k):qbA N (T p) (T q)=some (T (p+q)):=by
 unfold qbA
 obtain⟨n,hn⟩: ∃n:Nat,n=500:=⟨_,rfl⟩
 have p1:=qb2 (n:=n) hp h (by omega)
 have u:=qb3 (n:=n) hp h (by omega)
 have q1:=qb2 (n:=n) hq h (by omega)
 have j:=qb3 (n:=n) hq h (by omega)
 refine ql6 (N:=N) (by omega) (show k<=9000 by omega) hp hq (fun a1 a2 b1 b2=>?_) ?_
 ·have m1:=qnX a1 (show((q.den:Int)).natAbs<1000000000 by omega)
  have m2:=qnX b1 (show((p.den:Int)).natAbs<1000000000 by omega)
  have m3:=qnX (show((p.den:Int)).natAbs<1000000000 by omega) (show((q.den:Int)).natAbs<1000000000 by omega)
  have:=qdV p q
  simp only
  rw[ql (n:=p.num*(q.den:Int)) (by omega) (by omega),ql (n:=q.num*(p.den:Int)) (by omega) (by omega),ql (n:=(p.den:Int)*(q.den:Int)) (by omega) (by omega),ql (by omega) (by omega),qlK (by omega) (by omega) (by omega) (by omega) (by omega) (qdV p q),<-qdU]
 rw[qdn hN (hp.mono (by omega)),ZB,qdn hN (hq.mono (by omega)),ZB]
 simp only
 rw[qeM (by omega) (p1.mono (by omega)) (j.mono (by omega)),ZB,qeM (by omega) (q1.mono (by omega)) (u.mono (by omega)),ZB,qpz (by omega) ((xP p1 j).mono (by omega)) ((xP q1 u).mono (by omega)),ZB,qeM (by omega) (u.mono (by omega)) (j.mono (by omega)),ZB,qdy hN (B:=n+n+1) (by omega) (by omega) (qj3 (xP p1 j) (xP q1 u)) ((xP u j).mono (by omega)) (qdV p q),ZB,<-qdU]
theorem qjO {N:Nat} (hN:600000<N) {p q:Rat} {k:Nat} (h:0<k) (hk:k<=4000) (hp:Sml p k) (hq:Sml q k):qbE N (T p) (T q)=some (T (p*q)):=by
 unfold qbE
 obtain⟨n,hn⟩: ∃n:Nat,n=500:=⟨_,rfl⟩
 have u:=qb2 (n:=n) hp h (by omega)
 have p2:=qb3 (n:=n) hp h (by omega)
 have q1:=qb2 (n:=n) hq h (by omega)
 have j:=qb3 (n:=n) hq h (by omega)
 refine ql6 (N:=N) (by omega) (show k<=9000 by omega) hp hq (fun a1 a2 b1 b2=>?_) ?_
 ·have m1:=qnX a1 b1
  have m3:=qnX (show((p.den:Int)).natAbs<1000000000 by omega) (show((q.den:Int)).natAbs<1000000000 by omega)
  simp only
  rw[ql (n:=p.num*q.num) (by omega) (by omega),ql (n:=(p.den:Int)*(q.den:Int)) (by omega) (by omega),qlK (by omega) (by omega) (by omega) (by omega) (by omega) (qdV p q),<-qdG]
 rw[qdn hN (hp.mono (by omega)),ZB,qdn hN (hq.mono (by omega)),ZB]
 simp only
 rw[qeM (by omega) (u.mono (by omega)) (q1.mono (by omega)),ZB,qeM (by omega) (p2.mono (by omega)) (j.mono (by omega)),ZB,qdy hN (B:=n+n) (by omega) (by omega) (xP u q1) (xP p2 j) (qdV p q),ZB,<-qdG]
theorem qdY {p q:Rat} {n:Nat} (hn:0<n) (hp:Sml p (9*n)) (hq:Sml q (9*n)):Sml (p+q) (9*(n+n+1)):=by
 have p1:=qb2 (n:=n) hp (by omega) (by omega)
 have j:=qb3 (n:=n) hp (by omega) (by omega)
 have q1:=qb2 (n:=n) hq (by omega) (by omega)
 have h:=qb3 (n:=n) hq (by omega) (by omega)
 rw[qdU]
 obtain⟨f1,u⟩:=qeF (qdV p q) (qj3 (xP p1 h) (xP q1 j)) ((xP j h).mono (show n+n<=n+n+1 by omega))
 exact qhB f1 u (by omega)
theorem qe2 {p q:Rat} {n:Nat} (hn:0<n) (hp:Sml p (9*n)) (hq:Sml q (9*n)):Sml (p*q) (9*(n+n)):=by
 have u:=qb2 (n:=n) hp (by omega) (by omega)
 have p2:=qb3 (n:=n) hp (by omega) (by omega)
 have q1:=qb2 (n:=n) hq (by omega) (by omega)
 have j:=qb3 (n:=n) hq (by omega) (by omega)
 rw[qdG]
 obtain⟨f1,h⟩:=qeF (qdV p q) (xP u q1) (xP p2 j)
 exact qhB f1 h (by omega)
theorem qgc {p:Rat} {k:Nat} (h:Sml p k):Sml (-p) k:=by
 unfold Sml
 rw[Rat.neg_num,Rat.neg_den,Int.natAbs_neg]
 exact h
theorem qjw {p:Rat} {k:Nat} (h:Sml p k) (u:p≠0):Sml p⁻¹ k:=by
 have j:p.num≠0:=fun c=>u (Rat.num_eq_zero.1 c)
 unfold Sml
 rw[Rat.num_inv,Rat.den_inv,if_neg j,Int.natAbs_mul,Int.natAbs_sign_of_ne_zero j,Nat.one_mul,Int.natAbs_natCast]
 exact⟨h.2,h.1⟩
theorem qjI {N:Nat} (hN:600000<N) {p q:Rat} {k:Nat} (h:0<k) (j:k<=4000) (hp:Sml p k) (hq:Sml q k):qbB N (T p) (T q)=some (T (p-q)):=by
 have u:=qb0 hq
 unfold qbB
 rw[Neg_T (N:=N) (by omega),ZB,qjs hN h j hp (qgc hq),ZB,Rat.sub_eq_add_neg]
theorem qhi {N:Nat} (hN:600000<N) {p q:Rat} {k:Nat} (j:0<k) (hk:k<=4000) (hp:Sml p k) (hq:Sml q k):xg N (T p) (T q)=some (if p<q then-1 else if p=q then 0 else 1):=by
 unfold xg
 rw[qjI hN j hk hp hq,ZB,qld,ZB]
 have a1:((p-q).num<0)=(p<q):=by
  apply propext
  rw[<-Rat.not_le,Rat.le_iff_sub_nonneg q p,<-Rat.num_nonneg]
  omega
 have u:((p-q).num=0)=(p=q):=by
  apply propext
  rw[Rat.num_eq_zero]
  constructor
  ·intro h
   have:p-q+q=p:=Rat.sub_add_cancel
   rw[h,Rat.zero_add]at this
   exact this.symm
  intro h
  rw[h,Rat.sub_self]
 simp only[a1,u]
theorem qpP {N:Nat} (hN:600000<N) {p:Rat} {k:Nat} (h:0<k) (hk:k<=4000) (hp:Sml p k) (j:p≠0):xw N (T p)=some (T p⁻¹):=by
 obtain⟨n,hn⟩: ∃n:Nat,n=500:=⟨_,rfl⟩
 have u:=qb2 (n:=n) hp h (by omega)
 have p2:=qb3 (n:=n) hp h (by omega)
 unfold xw
 rw[qdn hN (hp.mono (by omega)),ZB]
 simp only
 rw[qdy hN (B:=n) (by omega) (by omega) p2 u (fun c=>j (Rat.num_eq_zero.1 c)),ZB,<-Rat.inv_def]
theorem qpM {N:Nat} (hN:600000<N) {p q:Rat} {k:Nat} (h:0<k) (u:k<=4000) (hp:Sml p k) (hq:Sml q k) (j:q≠0):qdx N (T p) (T q)=some (T (p/q)):=by
 unfold qdx
 rw[qpP hN h u hq j,ZB,qjO hN h u hp (qjw hq j),ZB,<-Rat.div_def]
end Go.Av
end
section
namespace Go.Av
theorem qmV {N:Nat} (hN:600000<N) {a b:Str} (j:a.length<=10000) (u:b.length<=10000):xW N [a,b]=some (if chk a=0 then chk b else chk a):=by
 have e1:=qiY hN j
 have h:=qiY hN u
 unfold xW
 obtain⟨K,hK⟩: ∃K,N=K+1+1+1:=⟨N-3,by omega⟩
 have L:kr N [a,b] (K+1+1+1) 0=some (if chk a=0 then(if chk b=0 then .inl ()else .inr (chk b))else .inr (chk a)):=by
  rw[kr,if_pos (by simp),yQ]
  simp only[Yj,ZB]
  rw[e1,ZB]
  by_cases c:chk a=0
  ·rw[if_neg (by simp[c]),if_pos c,show w64 (0+1)=((1:Nat):Int)from rfl,kr,if_pos (by simp),qy]
   simp only[YK,Yj,ZB]
   rw[h,ZB]
   by_cases d:chk b=0
   ·rw[if_neg (by simp[d]),if_pos d,show w64 (((1:Nat):Int)+1)=2 from rfl,kr,if_neg (by simp)]
   rw[if_pos (by simp[d]),if_neg d]
  rw[if_pos (by simp[c]),if_neg c]
 rw[show kr N [a,b] N 0=kr N [a,b] (K+1+1+1) 0 by rw[<-hK],L,ZB]
 by_cases c:chk a=0
 ·by_cases d:chk b=0
  ·rw[if_pos c,if_pos d,if_pos c,d]
  rw[if_pos c,if_neg d,if_pos c]
 rw[if_neg c,if_neg c]
def res (q:Rat):Str×Int:=if qjk q=true then([],4)else(T q,0)
section ops
variable {N:Nat} (hN:600000<N)
include hN
variable {p q:Rat} (hp:Sml p 600) (hq:Sml q 600) (cp:chk (T p)=0) (cq:chk (T q)=0)
include hp hq cp cq
end ops
end Go.Av
end
section
namespace Go.Av
end Go.Av
end
section
namespace Go.Av
end Go.Av
end
section
namespace Go.Av
open Classical
theorem rrow2 {N:Nat} (hN:600000<N) {a b:Str} (j:a.length<=10000) (u:b.length<=10000):qay N [a,b]=some (if chk a=0 then chk b else chk a):=by
 have e1:=qgz hN j
 have h:=qgz hN u
 unfold qay
 obtain⟨K,hK⟩: ∃K,N=K+1+1+1:=⟨N-3,by omega⟩
 have L:zb N [a,b] (K+1+1+1) 0=some (if chk a=0 then(if chk b=0 then .inl ()else .inr (chk b))else .inr (chk a)):=by
  rw[zb,if_pos (by simp),yQ]
  simp only[Yj,ZB]
  rw[e1,ZB]
  by_cases c:chk a=0
  ·rw[if_neg (by simp[c]),if_pos c,show w64 (0+1)=((1:Nat):Int)from rfl,zb,if_pos (by simp),qy]
   simp only[YK,Yj,ZB]
   rw[h,ZB]
   by_cases d:chk b=0
   ·rw[if_neg (by simp[d]),if_pos d,show w64 (((1:Nat):Int)+1)=2 from rfl,zb,if_neg (by simp)]
   rw[if_pos (by simp[d]),if_neg d]
  rw[if_pos (by simp[c]),if_neg c]
 rw[show zb N [a,b] N 0=zb N [a,b] (K+1+1+1) 0 by rw[<-hK],L,ZB]
 by_cases c:chk a=0
 ·by_cases d:chk b=0
  ·rw[if_pos c,if_pos d,if_pos c,d]
  rw[if_pos c,if_neg d,if_pos c]
 rw[if_neg c,if_neg c]
noncomputable def qki (s:qA):Int:=if chk s.Low=0 then(if chk s.High=0 then(if∃p q:Rat,s.Low=T p/\s.High=T q/\q<p then 11 else 0)else chk s.High)else chk s.Low
theorem qeD {p q:Rat} (hp:chk (T p)=0) (hq:chk (T q)=0):qki ⟨T p,T q⟩=if q<p then 11 else 0:=by
 unfold qki
 rw[if_pos hp,if_pos hq]
 by_cases h:q<p
 ·rw[if_pos h,if_pos ⟨p,q,rfl,rfl,h⟩]
 rw[if_neg h,if_neg]
 rintro⟨p',q',e1,e2,h'⟩
 rw[qhH e1,qhH e2]at h
 exact h h'
theorem ncmp {N:Nat} (hN:600000<N) {p q:Rat} (hp:Sml p 600) (hq:Sml q 600): ∃f g,yw N (T p)=some f/\yw N (T q)=some g/\ja N f g=some (if p<q then-1 else if p=q then 0 else 1):=by
 have f1:=zS (n:=32) hp (by omega) (by omega)
 have f2:=zS (n:=32) hq (by omega) (by omega)
 obtain⟨f,e1,j⟩:=qeV hN (hp.mono (show 600<=9000 by omega))
 obtain⟨g,h,u⟩:=qeV hN (hq.mono (show 600<=9000 by omega))
 exact⟨f,g,e1,h,qjz hN j u (n:=32) (by omega) f1 f2⟩
theorem qfy {p q:Rat}:((if p<q then-1 else if p=q then 0 else 1:Int)>0)↔q<p:=by
 by_cases h:p<q
 ·rw[if_pos h]
  exact⟨fun c=>absurd c (by decide),fun c=>absurd c (Rat.not_lt.2 (Rat.le_of_lt h))⟩
 rw[if_neg h]
 by_cases e:p=q
 ·rw[if_pos e]
  exact⟨fun c=>absurd c (by decide),fun c=>absurd (e▸c) Rat.lt_irrefl⟩
 rw[if_neg e]
 refine⟨fun _=>?_,fun _=>by decide⟩
 exact Rat.lt_of_le_of_ne (Rat.not_lt.1 h) (Ne.symm e)
theorem qgw {p q:Rat}:((if p<q then-1 else if p=q then 0 else 1:Int)<0)↔p<q:=by
 by_cases h:p<q
 ·rw[if_pos h]
  exact⟨fun _=>h,fun _=>by decide⟩
 rw[if_neg h]
 refine⟨fun c=>?_,fun c=>absurd c h⟩
 by_cases e:p=q
 ·rw[if_pos e]at c
  exact absurd c (by decide)
 rw[if_neg e]at c
 exact absurd c (by decide)
theorem qjV {p q:Rat}:((if p<q then-1 else if p=q then 0 else 1:Int)<=0)↔p<=q:=by
 rw[<-Int.not_lt,<-Rat.not_lt]
 exact not_congr qfy
theorem qbH {N:Nat} (hN:600000<N) {s:qA} (u:s.Low.length<=10000) (j:s.High.length<=10000):qF N s=some (qki s):=by
 obtain⟨a,b⟩:=s
 unfold qF zk
 simp only at u j
 rw[qmV hN u j,ZB]
 by_cases c:chk a=0
 ·rw[if_pos c]
  by_cases d:chk b=0
  ·obtain⟨p,rfl,p1,p2⟩:=qeP c
   obtain⟨q,rfl,q1,q2⟩:=qeP d
   obtain⟨f,g,e1,e2,e3⟩:=ncmp hN (p:=p) (q:=q) ⟨p1,p2⟩ ⟨q1,q2⟩
   rw[if_neg (by simp[d]),e1,ZB,e2,ZB,e3,ZB,qeD c d]
   by_cases h:q<p
   ·rw[if_pos (decide_eq_true (qfy.2 h)),if_pos h,ZB]
   rw[if_neg (fun x=>h (qfy.1 (of_decide_eq_true x))),if_neg h,ZB]
  rw[if_pos (by simp[d])]
  unfold qki
  rw[if_pos c,if_neg d]
 rw[if_neg c,if_pos (by simp[c])]
 unfold qki
 rw[if_neg c]
theorem qfm {N:Nat} (hN:600000<N) {s:qA} (u:s.Low.length<=10000) (j:s.High.length<=10000):zM N s=some (qki s):=by
 obtain⟨a,b⟩:=s
 unfold zM
 simp only at u j
 rw[rrow2 hN u j,ZB]
 by_cases c:chk a=0
 ·rw[if_pos c]
  by_cases d:chk b=0
  ·obtain⟨p,rfl,p1,p2⟩:=qeP c
   obtain⟨q,rfl,q1,q2⟩:=qeP d
   rw[if_pos d,qhi hN (k:=600) (by omega) (by omega) ⟨p1,p2⟩ ⟨q1,q2⟩,ZB,ZB,qeD c d]
   by_cases h:q<p
   ·rw[if_pos (decide_eq_true (qfy.2 h)),if_pos h,ZB]
   rw[if_neg (fun x=>h (qfy.1 (of_decide_eq_true x))),if_neg h,d,ZB]
  rw[if_neg d,ZB,if_neg (by simp),ZB]
  unfold qki
  rw[if_pos c,if_neg d]
 rw[if_neg c,if_neg c,ZB,if_neg (by simp),ZB]
 unfold qki
 rw[if_neg c]
def mnL:Rat->List Rat->Rat
 |m,[]=>m
 |m,x::xs=>mnL (if x<m then x else m) xs
def mxL:Rat->List Rat->Rat
 |m,[]=>m
 |m,x::xs=>mxL (if m<x then x else m) xs
def IsL:List qh->List Rat->Prop
 |[],[]=>True
 |f::l,q::r=>IsF f q/\IsL l r
 |_,_=>False
theorem IsL.get: ∀{l:List qh} {r:List Rat},IsL l r->l.length=r.length/\ ∀(i:Nat) (q:Rat),r[i]? =some q-> ∃f,l[i]? =some f/\IsF f q
 |[],[],_=>⟨rfl,fun i q h=>by simp at h⟩
 |f::l,q::r,h=>by
  obtain⟨u,j⟩:=h
  obtain⟨a,b⟩:=IsL.get j
  refine⟨by simp[a],fun i x hx=>?_⟩
  match i,hx with
  |0,hx=>
   simp at hx
   exact⟨f,rfl,hx▸u⟩
  |i+1,hx=>
   rw[YK]at hx⊢
   exact b i x hx
 |[],_::_,h=>h.elim
 |_::_,[],h=>h.elim
theorem qlw {N:Nat} (hN:600000<N) {l:List qh} {r:List Rat} (u:IsL l r) {n:Nat} (hn:n<=1900) (hr:r.length<=1000) (j: ∀x∈r,qaN x n): ∀(K i:Nat) (g:qh) (m:Rat),i<=r.length->r.length<K+i->IsF g m->qaN m n->
 ∃h:qh,kP N l K g.Num.s g.Num.w g.Den.s g.Den.w (i:Int)=some (h.Num.s,h.Num.w,h.Den.s,h.Den.w)/\IsF h (mnL m (r.drop i))
 |0,i,g,m,hi,hK,_,_=>by omega
 |K+1,i,g,m,hi,hK,ig,fm=>by
  obtain⟨ll,lg⟩:=u.get
  rw[kP]
  by_cases h:i<r.length
  ·obtain⟨x,e,ix⟩:=lg i r[i] (Ya h)
   have fx:=j r[i] (List.getElem_mem h)
   rw[if_pos (by omega),qy,e,ZB,YG h,mnL,zT (by omega)]
   have ec:ja N x ⟨⟨g.Num.s,g.Num.w⟩,⟨g.Den.s,g.Den.w⟩⟩=some (if r[i]<m then-1 else if r[i]=m then 0 else 1):=qjz hN ix ig hn fx fm
   rw[ec,ZB]
   by_cases c:r[i]<m
   ·rw[if_pos (qgw.2 c),if_pos c]
    exact qlw hN u hn hr j K (i+1) x r[i] (by omega) (by omega) ix fx
   rw[if_neg (fun y=>c (qgw.1 y)),if_neg c]
   exact qlw hN u hn hr j K (i+1) g m (by omega) (by omega) ig fm
  rw[if_neg (by omega),List.drop_eq_nil_of_le (by omega)]
  exact⟨g,rfl,ig⟩
theorem qdO {N:Nat} (hN:600000<N) {f:qh} {q:Rat} {l:List qh} {r:List Rat} (hl:IsL (f::l) (q::r)) {n:Nat} (hn:n<=1900) (hr:r.length<=900) (j: ∀x∈q::r,qaN x n): ∃h,kW N (f::l)=some h/\IsF h (mnL q r):=by
 obtain⟨h,e,i⟩:=qlw hN hl hn (by simp;omega) j N 1 f q (by simp) (by simp;omega) hl.1 (j q (by simp))
 refine⟨h,?_,i⟩
 unfold kW
 rw[if_neg (by simp;omega),ZB,yQ,Yj,ZB]
 have u:=e
 rw[show((1:Nat):Int)=1 from rfl]at u
 rw[u,ZB]
theorem qlN {N:Nat} (hN:600000<N) {l:List qh} {r:List Rat} (u:IsL l r) {n:Nat} (hn:n<=1900) (hr:r.length<=1000) (j: ∀x∈r,qaN x n): ∀(K i:Nat) (g:qh) (m:Rat),i<=r.length->r.length<K+i->IsF g m->qaN m n->
 ∃h:qh,kz N l K g.Num.s g.Num.w g.Den.s g.Den.w (i:Int)=some (h.Num.s,h.Num.w,h.Den.s,h.Den.w)/\IsF h (mxL m (r.drop i))
 |0,i,g,m,hi,hK,_,_=>by omega
 |K+1,i,g,m,hi,hK,ig,fm=>by
  obtain⟨ll,lg⟩:=u.get
  rw[kz]
  by_cases h:i<r.length
  ·obtain⟨x,e,ix⟩:=lg i r[i] (Ya h)
   have fx:=j r[i] (List.getElem_mem h)
   rw[if_pos (by omega),qy,e,ZB,YG h,mxL,zT (by omega)]
   have ec:ja N x ⟨⟨g.Num.s,g.Num.w⟩,⟨g.Den.s,g.Den.w⟩⟩=some (if r[i]<m then-1 else if r[i]=m then 0 else 1):=qjz hN ix ig hn fx fm
   rw[ec,ZB]
   by_cases c:m<r[i]
   ·rw[if_pos (qfy.2 c),if_pos c]
    exact qlN hN u hn hr j K (i+1) x r[i] (by omega) (by omega) ix fx
   rw[if_neg (fun y=>c (qfy.1 y)),if_neg c]
   exact qlN hN u hn hr j K (i+1) g m (by omega) (by omega) ig fm
  rw[if_neg (by omega),List.drop_eq_nil_of_le (by omega)]
  exact⟨g,rfl,ig⟩
theorem qdC {N:Nat} (hN:600000<N) {f:qh} {q:Rat} {l:List qh} {r:List Rat} (hl:IsL (f::l) (q::r)) {n:Nat} (hn:n<=1900) (hr:r.length<=900) (j: ∀x∈q::r,qaN x n): ∃h,za N (f::l)=some h/\IsF h (mxL q r):=by
 obtain⟨h,e,i⟩:=qlN hN hl hn (by simp;omega) j N 1 f q (by simp) (by simp;omega) hl.1 (j q (by simp))
 refine⟨h,?_,i⟩
 unfold za
 rw[if_neg (by simp;omega),ZB,yQ,Yj,ZB]
 have u:=e
 rw[show((1:Nat):Int)=1 from rfl]at u
 rw[u,ZB]
theorem qaq {N:Nat} (hN:600000<N) {p q:Rat} (hp:Sml p 9000) (hq:Sml q 9000): ∃f g,jH N [T p,T q]=some [f,g]/\IsF f p/\IsF g q:=by
 obtain⟨f,e1,j⟩:=qeV hN hp
 obtain⟨g,h,u⟩:=qeV hN hq
 refine⟨f,g,?_,j,u⟩
 obtain⟨K,hK⟩: ∃K,N=K+1+1+1:=⟨N-3,by omega⟩
 unfold jH
 rw[show mk 64 (([T p,T q].length:Nat):Int) (⟨⟨0,[]⟩,⟨0,[]⟩⟩:qh)=some [⟨⟨0,[]⟩,⟨0,[]⟩⟩,⟨⟨0,[]⟩,⟨0,[]⟩⟩]by unfold mk;rw[if_pos (by simp)];rfl,ZB]
 have L:zK N [T p,T q] (K+1+1+1) [⟨⟨0,[]⟩,⟨0,[]⟩⟩,⟨⟨0,[]⟩,⟨0,[]⟩⟩] 0=some [f,g]:=by
  rw[zK,if_pos (by simp),yQ,Yj,ZB,e1,ZB,yQ,Yj,ZB,show(0:Int)=((0:Nat):Int)from rfl,vV (by simp),ZB,List.set_cons_zero,zT (by omega),zK,if_pos (by simp),qy,YK,Yj,ZB,h,ZB,qy,YK,Yj,ZB,vV (by simp),ZB,List.set_cons_succ,List.set_cons_zero,zT (by omega),zK,if_neg (by simp)]
 rw[show zK N [T p,T q] N [⟨⟨0,[]⟩,⟨0,[]⟩⟩,⟨⟨0,[]⟩,⟨0,[]⟩⟩] 0=zK N [T p,T q] (K+1+1+1) [⟨⟨0,[]⟩,⟨0,[]⟩⟩,⟨⟨0,[]⟩,⟨0,[]⟩⟩] 0 by rw[<-hK],L,ZB]
theorem qgY {N:Nat} (hN:600000<N) {f g:qh} {p q:Rat} (h:IsF f p) (hg:IsF g q) (u:qaN p 3900) (j:qaN q 3900):xy N f g=some (if qjk p=true\/qjk q=true then(⟨[],[]⟩,4)else(⟨T p,T q⟩,0)):=by
 unfold xy
 rw[qkQ hN h u,ZB,qkQ hN hg j]
 cases h1:qjk p with
 |true=>rw[if_pos rfl,ZB,if_pos rfl,if_pos (.inl rfl)]
 |false=>
  rw[if_neg (by simp),ZB,ZB]
  cases h2:qjk q with
  |true=>rw[if_pos rfl,if_pos (.inr rfl)]
  |false=>rw[if_neg (by simp),qmF hN h u,ZB,qmF hN hg j,ZB,if_neg (by simp)]
theorem qjW: ∀(r:List Rat) (m:Rat),mnL m r=m\/mnL m r∈r
 |[],m=> .inl rfl
 |x::r,m=>by
  rw[mnL]
  by_cases h:x<m
  ·rw[if_pos h]
   rcases qjW r x with e|e
   ·rw[e];simp
   exact .inr (List.mem_cons_of_mem _ e)
  rw[if_neg h]
  rcases qjW r m with e|e
  ·exact .inl e
  exact .inr (List.mem_cons_of_mem _ e)
theorem qjS: ∀(r:List Rat) (m:Rat),mxL m r=m\/mxL m r∈r
 |[],m=> .inl rfl
 |x::r,m=>by
  rw[mxL]
  by_cases h:m<x
  ·rw[if_pos h]
   rcases qjS r x with e|e
   ·rw[e];simp
   exact .inr (List.mem_cons_of_mem _ e)
  rw[if_neg h]
  rcases qjS r m with e|e
  ·exact .inl e
  exact .inr (List.mem_cons_of_mem _ e)
theorem qaC {P:Rat->Prop} {m:Rat} {r:List Rat} (h: ∀x∈m::r,P x):P (mnL m r):=by
 rcases qjW r m with e|e
 ·rw[e];exact h m (by simp)
 exact h _ (List.mem_cons_of_mem _ e)
theorem qaB {P:Rat->Prop} {m:Rat} {r:List Rat} (h: ∀x∈m::r,P x):P (mxL m r):=by
 rcases qjS r m with e|e
 ·rw[e];exact h m (by simp)
 exact h _ (List.mem_cons_of_mem _ e)
def qcO (F:Rat->Rat->Rat) (p p' q q':Rat):qA:=⟨T (mnL (F p q) [F p q',F p' q,F p' q']),T (mxL (F p q) [F p q',F p' q,F p' q'])⟩
theorem qpO {N:Nat} (hN:600000<N) {p p' q q':Rat} (hp:Sml p 600) (hp':Sml p' 600) (hq:Sml q 600) (hq':Sml q' 600) (l1: ∀x∈[p+q,p+q',p'+q,p'+q'],Sml x 600):
 yF N ⟨T p,T p'⟩ ⟨T q,T q'⟩=some (qcO (fun x y=>x+y) p p' q q',0):=by
 have fp:=(zS (n:=64) hp (by omega) (by omega))
 have h:=(zS (n:=64) hp' (by omega) (by omega))
 have fq:=(zS (n:=64) hq (by omega) (by omega))
 have fq':=(zS (n:=64) hq' (by omega) (by omega))
 obtain⟨f,f',e1,i,i'⟩:=qaq hN (hp.mono (show 600<=9000 by omega)) (hp'.mono (show 600<=9000 by omega))
 obtain⟨g,u,e2,j,j'⟩:=qaq hN (hq.mono (show 600<=9000 by omega)) (hq'.mono (show 600<=9000 by omega))
 obtain⟨a,ea,ia⟩:=qfY hN i j (n:=64) (by omega) fp fq
 obtain⟨b,eb,ib⟩:=qfY hN i j' (n:=64) (by omega) fp fq'
 obtain⟨c,ec,ic⟩:=qfY hN i' j (n:=64) (by omega) h fq
 obtain⟨d,ed,id⟩:=qfY hN i' j' (n:=64) (by omega) h fq'
 obtain⟨K,hK⟩: ∃K,N=K+1+1+1:=⟨N-3,by omega⟩
 have L1: ∀(x y z:qh) (l:List qh),l.length<=10->yG N x g=some y->yG N x u=some z->qG N x [g,u] N l 0=some (l++[y]++[z]):=by
  intro x y z l hl h1 h2
  have:qG N x [g,u] (K+1+1+1) l 0=some (l++[y]++[z]):=by
   rw[qG,if_pos (by simp),yQ,Yj,ZB,h1,ZB,qax (by simp;omega) (by simp;omega),ZB,show w64 (0+1)=((1:Nat):Int)from rfl,qG,if_pos (by simp),qy,YK,Yj,ZB,h2,ZB,qax (by simp;omega) (by simp;omega),ZB,show w64 (((1:Nat):Int)+1)=2 from rfl,qG,if_neg (by simp)]
  rw[show qG N x [g,u] N l 0=qG N x [g,u] (K+1+1+1) l 0 by rw[<-hK],this]
 have L0:qJ N ⟨T q,T q'⟩ [f,f'] N [] 0=some [a,b,c,d]:=by
  have:qJ N ⟨T q,T q'⟩ [f,f'] (K+1+1+1) [] 0=some [a,b,c,d]:=by
   rw[qJ,if_pos (by simp),yQ,Yj,ZB,e2,ZB,L1 f a b [] (by simp) ea eb,ZB,show w64 (0+1)=((1:Nat):Int)from rfl,qJ,if_pos (by simp),qy,YK,Yj,ZB,e2,ZB,L1 f' c d _ (by simp) ec ed,ZB,show w64 (((1:Nat):Int)+1)=2 from rfl,qJ,if_neg (by simp)]
   rfl
  rw[show qJ N ⟨T q,T q'⟩ [f,f'] N [] 0=qJ N ⟨T q,T q'⟩ [f,f'] (K+1+1+1) [] 0 by rw[<-hK],this]
 have hl:IsL [a,b,c,d] [p+q,p+q',p'+q,p'+q']:=⟨ia,ib,ic,id,trivial⟩
 have hf: ∀x∈[p+q,p+q',p'+q,p'+q'],qaN x 64:=fun x hx=>zS (l1 x hx) (by omega) (by omega)
 obtain⟨m,em,im⟩:=qdO hN hl (n:=64) (by omega) (by simp) hf
 obtain⟨w,ew,iw⟩:=qdC hN hl (n:=64) (by omega) (by simp) hf
 unfold yF
 rw[e1,ZB,L0,ZB,em,ZB,ew,ZB,qgY hN im iw ((qaC hf).mono (by omega)) ((qaB hf).mono (by omega)),ZB,if_neg]
 ·rfl
 rw[qbM (qaC l1),qbM (qaB l1)]
 simp
theorem qp5 {N:Nat} (hN:600000<N) {p p' q q':Rat} (hp:Sml p 600) (hp':Sml p' 600) (hq:Sml q 600) (hq':Sml q' 600) (l1: ∀x∈[p-q,p-q',p'-q,p'-q'],Sml x 600):
 yN N ⟨T p,T p'⟩ ⟨T q,T q'⟩=some (qcO (fun x y=>x-y) p p' q q',0):=by
 have fp:=(zS (n:=64) hp (by omega) (by omega))
 have h:=(zS (n:=64) hp' (by omega) (by omega))
 have fq:=(zS (n:=64) hq (by omega) (by omega))
 have fq':=(zS (n:=64) hq' (by omega) (by omega))
 obtain⟨f,f',e1,i,i'⟩:=qaq hN (hp.mono (show 600<=9000 by omega)) (hp'.mono (show 600<=9000 by omega))
 obtain⟨g,u,e2,j,j'⟩:=qaq hN (hq.mono (show 600<=9000 by omega)) (hq'.mono (show 600<=9000 by omega))
 obtain⟨a,ea,ia⟩:=qg5 hN i j (n:=64) (by omega) fp fq
 obtain⟨b,eb,ib⟩:=qg5 hN i j' (n:=64) (by omega) fp fq'
 obtain⟨c,ec,ic⟩:=qg5 hN i' j (n:=64) (by omega) h fq
 obtain⟨d,ed,id⟩:=qg5 hN i' j' (n:=64) (by omega) h fq'
 obtain⟨K,hK⟩: ∃K,N=K+1+1+1:=⟨N-3,by omega⟩
 have L1: ∀(x y z:qh) (l:List qh),l.length<=10->xG N x g=some y->xG N x u=some z->qI N x [g,u] N l 0=some (l++[y]++[z]):=by
  intro x y z l hl h1 h2
  have:qI N x [g,u] (K+1+1+1) l 0=some (l++[y]++[z]):=by
   rw[qI,if_pos (by simp),yQ,Yj,ZB,h1,ZB,qax (by simp;omega) (by simp;omega),ZB,show w64 (0+1)=((1:Nat):Int)from rfl,qI,if_pos (by simp),qy,YK,Yj,ZB,h2,ZB,qax (by simp;omega) (by simp;omega),ZB,show w64 (((1:Nat):Int)+1)=2 from rfl,qI,if_neg (by simp)]
  rw[show qI N x [g,u] N l 0=qI N x [g,u] (K+1+1+1) l 0 by rw[<-hK],this]
 have L0:qM N ⟨T q,T q'⟩ [f,f'] N [] 0=some [a,b,c,d]:=by
  have:qM N ⟨T q,T q'⟩ [f,f'] (K+1+1+1) [] 0=some [a,b,c,d]:=by
   rw[qM,if_pos (by simp),yQ,Yj,ZB,e2,ZB,L1 f a b [] (by simp) ea eb,ZB,show w64 (0+1)=((1:Nat):Int)from rfl,qM,if_pos (by simp),qy,YK,Yj,ZB,e2,ZB,L1 f' c d _ (by simp) ec ed,ZB,show w64 (((1:Nat):Int)+1)=2 from rfl,qM,if_neg (by simp)]
   rfl
  rw[show qM N ⟨T q,T q'⟩ [f,f'] N [] 0=qM N ⟨T q,T q'⟩ [f,f'] (K+1+1+1) [] 0 by rw[<-hK],this]
 have hl:IsL [a,b,c,d] [p-q,p-q',p'-q,p'-q']:=⟨ia,ib,ic,id,trivial⟩
 have hf: ∀x∈[p-q,p-q',p'-q,p'-q'],qaN x 64:=fun x hx=>zS (l1 x hx) (by omega) (by omega)
 obtain⟨m,em,im⟩:=qdO hN hl (n:=64) (by omega) (by simp) hf
 obtain⟨w,ew,iw⟩:=qdC hN hl (n:=64) (by omega) (by simp) hf
 unfold yN
 rw[e1,ZB,L0,ZB,em,ZB,ew,ZB,qgY hN im iw ((qaC hf).mono (by omega)) ((qaB hf).mono (by omega)),ZB,if_neg]
 ·rfl
 rw[qbM (qaC l1),qbM (qaB l1)]
 simp
theorem qpn {N:Nat} (hN:600000<N) {p p' q q':Rat} (hp:Sml p 600) (hp':Sml p' 600) (hq:Sml q 600) (hq':Sml q' 600) (l1: ∀x∈[p*q,p*q',p'*q,p'*q'],Sml x 600):
 yJ N ⟨T p,T p'⟩ ⟨T q,T q'⟩=some (qcO (fun x y=>x*y) p p' q q',0):=by
 have fp:=(zS (n:=64) hp (by omega) (by omega))
 have h:=(zS (n:=64) hp' (by omega) (by omega))
 have fq:=(zS (n:=64) hq (by omega) (by omega))
 have fq':=(zS (n:=64) hq' (by omega) (by omega))
 obtain⟨f,f',e1,i,i'⟩:=qaq hN (hp.mono (show 600<=9000 by omega)) (hp'.mono (show 600<=9000 by omega))
 obtain⟨g,u,e2,j,j'⟩:=qaq hN (hq.mono (show 600<=9000 by omega)) (hq'.mono (show 600<=9000 by omega))
 obtain⟨a,ea,ia⟩:=qfT hN i j (n:=64) (by omega) fp fq
 obtain⟨b,eb,ib⟩:=qfT hN i j' (n:=64) (by omega) fp fq'
 obtain⟨c,ec,ic⟩:=qfT hN i' j (n:=64) (by omega) h fq
 obtain⟨d,ed,id⟩:=qfT hN i' j' (n:=64) (by omega) h fq'
 obtain⟨K,hK⟩: ∃K,N=K+1+1+1:=⟨N-3,by omega⟩
 have L1: ∀(x y z:qh) (l:List qh),l.length<=10->yI N x g=some y->yI N x u=some z->qN N x [g,u] N l 0=some (l++[y]++[z]):=by
  intro x y z l hl h1 h2
  have:qN N x [g,u] (K+1+1+1) l 0=some (l++[y]++[z]):=by
   rw[qN,if_pos (by simp),yQ,Yj,ZB,h1,ZB,qax (by simp;omega) (by simp;omega),ZB,show w64 (0+1)=((1:Nat):Int)from rfl,qN,if_pos (by simp),qy,YK,Yj,ZB,h2,ZB,qax (by simp;omega) (by simp;omega),ZB,show w64 (((1:Nat):Int)+1)=2 from rfl,qN,if_neg (by simp)]
  rw[show qN N x [g,u] N l 0=qN N x [g,u] (K+1+1+1) l 0 by rw[<-hK],this]
 have L0:qH N ⟨T q,T q'⟩ [f,f'] N [] 0=some [a,b,c,d]:=by
  have:qH N ⟨T q,T q'⟩ [f,f'] (K+1+1+1) [] 0=some [a,b,c,d]:=by
   rw[qH,if_pos (by simp),yQ,Yj,ZB,e2,ZB,L1 f a b [] (by simp) ea eb,ZB,show w64 (0+1)=((1:Nat):Int)from rfl,qH,if_pos (by simp),qy,YK,Yj,ZB,e2,ZB,L1 f' c d _ (by simp) ec ed,ZB,show w64 (((1:Nat):Int)+1)=2 from rfl,qH,if_neg (by simp)]
   rfl
  rw[show qH N ⟨T q,T q'⟩ [f,f'] N [] 0=qH N ⟨T q,T q'⟩ [f,f'] (K+1+1+1) [] 0 by rw[<-hK],this]
 have hl:IsL [a,b,c,d] [p*q,p*q',p'*q,p'*q']:=⟨ia,ib,ic,id,trivial⟩
 have hf: ∀x∈[p*q,p*q',p'*q,p'*q'],qaN x 64:=fun x hx=>zS (l1 x hx) (by omega) (by omega)
 obtain⟨m,em,im⟩:=qdO hN hl (n:=64) (by omega) (by simp) hf
 obtain⟨w,ew,iw⟩:=qdC hN hl (n:=64) (by omega) (by simp) hf
 unfold yJ
 rw[e1,ZB,L0,ZB,em,ZB,ew,ZB,qgY hN im iw ((qaC hf).mono (by omega)) ((qaB hf).mono (by omega)),ZB,if_neg]
 ·rfl
 rw[qbM (qaC l1),qbM (qaB l1)]
 simp
theorem qpy {N:Nat} (hN:600000<N) {p p' q q':Rat} (hp:Sml p 600) (hp':Sml p' 600) (hq:Sml q 600) (hq':Sml q' 600) (h0:q≠0) (h1:q'≠0) (l1: ∀x∈[p/q,p/q',p'/q,p'/q'],Sml x 600):
 yE N ⟨T p,T p'⟩ ⟨T q,T q'⟩=some (qcO (fun x y=>x/y) p p' q q',0):=by
 have fp:=(zS (n:=64) hp (by omega) (by omega))
 have h:=(zS (n:=64) hp' (by omega) (by omega))
 have fq:=(zS (n:=64) hq (by omega) (by omega))
 have fq':=(zS (n:=64) hq' (by omega) (by omega))
 obtain⟨f,f',e1,i,i'⟩:=qaq hN (hp.mono (show 600<=9000 by omega)) (hp'.mono (show 600<=9000 by omega))
 obtain⟨g,u,e2,j,j'⟩:=qaq hN (hq.mono (show 600<=9000 by omega)) (hq'.mono (show 600<=9000 by omega))
 obtain⟨a,ea,ia⟩:=qg0 hN i j (n:=64) (by omega) (by omega) fp fq h0
 obtain⟨b,eb,ib⟩:=qg0 hN i j' (n:=64) (by omega) (by omega) fp fq' h1
 obtain⟨c,ec,ic⟩:=qg0 hN i' j (n:=64) (by omega) (by omega) h fq h0
 obtain⟨d,ed,id⟩:=qg0 hN i' j' (n:=64) (by omega) (by omega) h fq' h1
 obtain⟨K,hK⟩: ∃K,N=K+1+1+1:=⟨N-3,by omega⟩
 have L1: ∀(x y z:qh) (l:List qh),l.length<=10->xK N x g=some y->xK N x u=some z->qK N x [g,u] N l 0=some (l++[y]++[z]):=by
  intro x y z l hl h1 h2
  have:qK N x [g,u] (K+1+1+1) l 0=some (l++[y]++[z]):=by
   rw[qK,if_pos (by simp),yQ,Yj,ZB,h1,ZB,qax (by simp;omega) (by simp;omega),ZB,show w64 (0+1)=((1:Nat):Int)from rfl,qK,if_pos (by simp),qy,YK,Yj,ZB,h2,ZB,qax (by simp;omega) (by simp;omega),ZB,show w64 (((1:Nat):Int)+1)=2 from rfl,qK,if_neg (by simp)]
  rw[show qK N x [g,u] N l 0=qK N x [g,u] (K+1+1+1) l 0 by rw[<-hK],this]
 have L0:qL N ⟨T q,T q'⟩ [f,f'] N [] 0=some [a,b,c,d]:=by
  have:qL N ⟨T q,T q'⟩ [f,f'] (K+1+1+1) [] 0=some [a,b,c,d]:=by
   rw[qL,if_pos (by simp),yQ,Yj,ZB,e2,ZB,L1 f a b [] (by simp) ea eb,ZB,show w64 (0+1)=((1:Nat):Int)from rfl,qL,if_pos (by simp),qy,YK,Yj,ZB,e2,ZB,L1 f' c d _ (by simp) ec ed,ZB,show w64 (((1:Nat):Int)+1)=2 from rfl,qL,if_neg (by simp)]
   rfl
  rw[show qL N ⟨T q,T q'⟩ [f,f'] N [] 0=qL N ⟨T q,T q'⟩ [f,f'] (K+1+1+1) [] 0 by rw[<-hK],this]
 have hl:IsL [a,b,c,d] [p/q,p/q',p'/q,p'/q']:=⟨ia,ib,ic,id,trivial⟩
 have hf: ∀x∈[p/q,p/q',p'/q,p'/q'],qaN x 64:=fun x hx=>zS (l1 x hx) (by omega) (by omega)
 obtain⟨m,em,im⟩:=qdO hN hl (n:=64) (by omega) (by simp) hf
 obtain⟨w,ew,iw⟩:=qdC hN hl (n:=64) (by omega) (by simp) hf
 unfold yE
 rw[e1,ZB,L0,ZB,em,ZB,ew,ZB,qgY hN im iw ((qaC hf).mono (by omega)) ((qaB hf).mono (by omega)),ZB,if_neg]
 ·rfl
 rw[qbM (qaC l1),qbM (qaB l1)]
 simp
end Go.Av
end
section
namespace Go.Av
theorem qhs: ∀(r:List Rat) (m:Rat),∀x∈m::r,mnL m r<=x
 |[],m=>by simp[mnL]
 |y::r,m=>by
  intro x hx
  rw[mnL]
  by_cases h:y<m
  ·rw[if_pos h]
   have j:=qhs r y
   rcases List.mem_cons.1 hx with e|e
   ·rw[e]
    exact Rat.le_trans (j y (by simp)) (Rat.le_of_lt h)
   exact j x e
  rw[if_neg h]
  have j:=qhs r m
  rcases List.mem_cons.1 hx with e|e
  ·rw[e]
   exact j m (by simp)
  rcases List.mem_cons.1 e with e|e
  ·rw[e]
   exact Rat.le_trans (j m (by simp)) (Rat.not_lt.1 h)
  exact j x (List.mem_cons_of_mem _ e)
theorem qhM: ∀(r:List Rat) (m:Rat),∀x∈m::r,x<=mxL m r
 |[],m=>by simp[mxL]
 |y::r,m=>by
  intro x hx
  rw[mxL]
  by_cases h:m<y
  ·rw[if_pos h]
   have j:=qhM r y
   rcases List.mem_cons.1 hx with e|e
   ·rw[e]
    exact Rat.le_trans (Rat.le_of_lt h) (j y (by simp))
   exact j x e
  rw[if_neg h]
  have j:=qhM r m
  rcases List.mem_cons.1 hx with e|e
  ·rw[e]
   exact j m (by simp)
  rcases List.mem_cons.1 e with e|e
  ·rw[e]
   exact Rat.le_trans (Rat.not_lt.1 h) (j m (by simp))
  exact j x (List.mem_cons_of_mem _ e)
theorem qoc {m v:Rat} {r:List Rat} (h: ∀x∈m::r,v<=x) (j:v∈m::r):mnL m r=v:=Rat.le_antisymm (qhs r m v j) (qaC h)
theorem qov {m v:Rat} {r:List Rat} (h: ∀x∈m::r,x<=v) (j:v∈m::r):mxL m r=v:=Rat.le_antisymm (qaB h) (qhM r m v j)
theorem qoS {p p' q q':Rat} (h:p<=p') (k:q<=q'):qcO (fun x y=>x+y) p p' q q'=⟨T (p+q),T (p'+q')⟩:=by
 have u:p+q<=p+q':=Rat.add_le_add_left.2 k
 have a2:p'+q<=p'+q':=Rat.add_le_add_left.2 k
 have a3:p+q<=p'+q:=Rat.add_le_add_right.2 h
 have j:p+q'<=p'+q':=Rat.add_le_add_right.2 h
 unfold qcO
 rw[qoc (v:=p+q) (by simp only[List.mem_cons,List.not_mem_nil,or_false,forall_eq_or_imp,forall_eq];exact⟨Rat.le_refl,u,a3,Rat.le_trans u j⟩) (by simp),qov (v:=p'+q') (by simp only[List.mem_cons,List.not_mem_nil,or_false,forall_eq_or_imp,forall_eq];exact⟨Rat.le_trans u j,j,a2,Rat.le_refl⟩) (by simp)]
theorem qnt {p p' q q':Rat} (h:p<=p') (k:q<=q'):qcO (fun x y=>x-y) p p' q q'=⟨T (p-q'),T (p'-q)⟩:=by
 have k': -q'<= -q:=Rat.neg_le_neg k
 have j:p-q'<=p-q:=by rw[Rat.sub_eq_add_neg,Rat.sub_eq_add_neg];exact Rat.add_le_add_left.2 k'
 have a2:p'-q'<=p'-q:=by rw[Rat.sub_eq_add_neg,Rat.sub_eq_add_neg];exact Rat.add_le_add_left.2 k'
 have u:p-q<=p'-q:=by rw[Rat.sub_eq_add_neg,Rat.sub_eq_add_neg];exact Rat.add_le_add_right.2 h
 have a4:p-q'<=p'-q':=by rw[Rat.sub_eq_add_neg,Rat.sub_eq_add_neg];exact Rat.add_le_add_right.2 h
 unfold qcO
 rw[qoc (v:=p-q') (by simp only[List.mem_cons,List.not_mem_nil,or_false,forall_eq_or_imp,forall_eq];exact⟨j,Rat.le_refl,Rat.le_trans j u,a4⟩) (by simp),qov (v:=p'-q) (by simp only[List.mem_cons,List.not_mem_nil,or_false,forall_eq_or_imp,forall_eq];exact⟨u,Rat.le_trans j u,Rat.le_refl,a2⟩) (by simp)]
theorem qo1 {q:Rat}:0<q.num↔0<q:=by
 have u:=Rat.num_nonneg (q:=q)
 have j:=Rat.num_eq_zero (q:=q)
 constructor
 ·intro h
  exact Rat.lt_of_le_of_ne (u.1 (by omega)) (fun e=>by have:=j.2 e.symm;omega)
 intro h
 have h3:=u.2 (Rat.le_of_lt h)
 have h4:q.num≠0:=fun e=>Rat.ne_of_gt h (j.1 e)
 omega
theorem sml0 {k:Nat} (h:0<k):Sml 0 k:=⟨(qaL h).2 (by exact Nat.pos_of_ne_zero (by have:=Nat.pow_pos (n:=k) (show 0<10 by decide);omega)),(qaL h).2 (Nat.one_lt_pow (by omega) (by decide))⟩
theorem qka {f:qh} {q:Rat} (h:IsF f q):xY f=some (if q.num<0 then-1 else if q.num=0 then 0 else 1):=by
 unfold xY
 rw[qdX h.1,ZB]
theorem qjQ {q:Rat}:((if q.num<0 then-1 else if q.num=0 then 0 else 1:Int)<=0)↔q<=0:=by
 rw[<-Rat.not_lt,<-qo1]
 constructor
 ·intro h c
  rw[if_neg (by omega),if_neg (by omega)]at h
  omega
 intro h
 split
 ·omega
 rw[if_pos (by omega)]
 omega
theorem qmG {q:Rat}:((if q.num<0 then-1 else if q.num=0 then 0 else 1:Int)>=0)↔0<=q:=by
 rw[<-Rat.num_nonneg]
 constructor
 ·intro h
  by_cases c:q.num<0
  ·rw[if_pos c]at h
   omega
  omega
 intro h
 rw[if_neg (by omega)]
 split<;>omega
theorem qdv {a b:Rat} (j:Sml a 60) (u:Sml b 60) (h:b≠0):Sml (a/b) 600:=by
 rw[Rat.div_def]
 exact(qe2 (n:=7) (by omega) (j.mono (by omega)) ((qjw u h).mono (by omega))).mono (by omega)
theorem qeZ {a b:Rat} (h:Sml a 60) (j:Sml b 60):Sml (a*b) 600:=(qe2 (n:=7) (by omega) (h.mono (by omega)) (j.mono (by omega))).mono (by omega)
theorem qdf {a b:Rat} (h:Sml a 60) (j:Sml b 60):Sml (a+b) 600:=(qdY (n:=7) (by omega) (h.mono (by omega)) (j.mono (by omega))).mono (by omega)
theorem qe9 {a b:Rat} (h:Sml a 60) (j:Sml b 60):Sml (a-b) 600:=by
 rw[Rat.sub_eq_add_neg]
 exact qdf h (qgc j)
theorem qgb {N:Nat} (hN:600000<N) {p q x:Rat} {k:Nat} (j:0<k) (u:k<=4000) (hp:Sml p k) (hq:Sml q k) (hx:Sml x k):xZ N ⟨T p,T q⟩ (T x)=some (decide (p<=x/\x<=q)):=by
 unfold xZ
 simp only
 rw[qhi hN j u hp hx,ZB,qhi hN j u hx hq,ZB]
 by_cases c:p<=x
 ·rw[if_pos (qjV.2 c),ZB]
  by_cases d:x<=q
  ·rw[decide_eq_true (qjV.2 d),decide_eq_true ⟨c,d⟩]
  rw[decide_eq_false (fun h=>d (qjV.1 h)),decide_eq_false (fun h=>d h.2)]
 rw[if_neg (fun h=>c (qjV.1 h)),ZB,decide_eq_false (fun h=>c h.1)]
section ops
variable {N:Nat} (hN:600000<N)
include hN
variable {p p' q q':Rat} (hp:Sml p 60) (hp':Sml p' 60) (hq:Sml q 60) (hq':Sml q' 60) (cp:chk (T p)=0) (cp':chk (T p')=0) (cq:chk (T q)=0) (cq':chk (T q')=0) (hpp:p<=p') (hqq:q<=q')
include hp hp' hq hq' cp cp' cq cq' hpp hqq
theorem qgV:qF N ⟨T p,T p'⟩=some 0/\qF N ⟨T q,T q'⟩=some 0:=by
 have j:=qb0 hp
 have u:=qb0 hp'
 have l3:=qb0 hq
 have h:=qb0 hq'
 rw[qbH hN (by simp only;omega) (by simp only;omega),qbH hN (by simp only;omega) (by simp only;omega),qeD cp cp',qeD cq cq',if_neg (Rat.not_lt.2 hpp),if_neg (Rat.not_lt.2 hqq)]
 exact⟨rfl,rfl⟩
theorem qqN:qbR N ⟨T p,T p'⟩ ⟨T q,T q'⟩=some (qcO (fun x y=>x+y) p p' q q',0):=by
 obtain⟨j,h⟩:=qgV hN hp hp' hq hq' cp cp' cq cq' hpp hqq
 have S: ∀a b:Rat,Sml a 60->Sml b 60->Sml (a+b) 600:=fun a b hA hB=>(qdY (n:=7) (by omega) (hA.mono (by omega)) (hB.mono (by omega))).mono (by omega)
 unfold qbR vR
 rw[j,ZB,h,ZB,qdz (by omega),if_pos rfl,ZB,if_neg (by simp),qpO hN (hp.mono (by omega)) (hp'.mono (by omega)) (hq.mono (by omega)) (hq'.mono (by omega)) (by simp only[List.mem_cons,List.not_mem_nil,or_false,forall_eq_or_imp,forall_eq];exact⟨S _ _ hp hq,S _ _ hp hq',S _ _ hp' hq,S _ _ hp' hq'⟩)]
 rfl
theorem qpL:qbk N ⟨T p,T p'⟩ ⟨T q,T q'⟩=some (qcO (fun x y=>x-y) p p' q q',0):=by
 obtain⟨j,h⟩:=qgV hN hp hp' hq hq' cp cp' cq cq' hpp hqq
 have S: ∀a b:Rat,Sml a 60->Sml b 60->Sml (a-b) 600:=fun a b hA hB=>by rw[Rat.sub_eq_add_neg];exact(qdY (n:=7) (by omega) (hA.mono (by omega)) ((qgc hB).mono (by omega))).mono (by omega)
 unfold qbk vT
 rw[j,ZB,h,ZB,qdz (by omega),if_pos rfl,ZB,if_neg (by simp),qp5 hN (hp.mono (by omega)) (hp'.mono (by omega)) (hq.mono (by omega)) (hq'.mono (by omega)) (by simp only[List.mem_cons,List.not_mem_nil,or_false,forall_eq_or_imp,forall_eq];exact⟨S _ _ hp hq,S _ _ hp hq',S _ _ hp' hq,S _ _ hp' hq'⟩)]
 rfl
theorem qpI:qbj N ⟨T p,T p'⟩ ⟨T q,T q'⟩=some (qcO (fun x y=>x*y) p p' q q',0):=by
 obtain⟨j,h⟩:=qgV hN hp hp' hq hq' cp cp' cq cq' hpp hqq
 have S: ∀a b:Rat,Sml a 60->Sml b 60->Sml (a*b) 600:=fun a b hA hB=>(qe2 (n:=7) (by omega) (hA.mono (by omega)) (hB.mono (by omega))).mono (by omega)
 unfold qbj vS
 rw[j,ZB,h,ZB,qdz (by omega),if_pos rfl,ZB,if_neg (by simp),qpn hN (hp.mono (by omega)) (hp'.mono (by omega)) (hq.mono (by omega)) (hq'.mono (by omega)) (by simp only[List.mem_cons,List.not_mem_nil,or_false,forall_eq_or_imp,forall_eq];exact⟨S _ _ hp hq,S _ _ hp hq',S _ _ hp' hq,S _ _ hp' hq'⟩)]
 rfl
theorem qqO:qbL N ⟨T p,T p'⟩ ⟨T q,T q'⟩=some (if q<=0/\0<=q' then(⟨[],[]⟩,6)else(qcO (fun x y=>x/y) p p' q q',0)):=by
 obtain⟨e1,e2⟩:=qgV hN hp hp' hq hq' cp cp' cq cq' hpp hqq
 obtain⟨f,e3,i3⟩:=qeV hN (hq.mono (show 60<=9000 by omega))
 obtain⟨g,e4,i4⟩:=qeV hN (hq'.mono (show 60<=9000 by omega))
 unfold qbL
 rw[e1,ZB,e2,ZB,qdz (by omega),if_pos rfl,ZB,if_neg (by simp)]
 simp only
 rw[e3,ZB,qka i3,ZB,e4,ZB,qka i4,ZB]
 by_cases c:q<=0/\0<=q'
 ·rw[if_pos (qjQ.2 c.1),decide_eq_true (qmG.2 c.2),ZB,if_pos rfl,if_pos c]
 have j:q≠0:=fun e=>c ⟨by rw[e];exact Rat.le_refl,by rw[<-e];exact hqq⟩
 have u:q'≠0:=fun e=>c ⟨by rw[<-e];exact hqq,by rw[e];exact Rat.le_refl⟩
 have B:(if(if q.num<0 then-1 else if q.num=0 then 0 else 1:Int)<=0 then some (decide ((if q'.num<0 then-1 else if q'.num=0 then 0 else 1:Int)>=0))else some false)=some false:=by
  by_cases d:q<=0
  ·rw[if_pos (qjQ.2 d),decide_eq_false (fun x=>c ⟨d,qmG.1 x⟩)]
  rw[if_neg (fun x=>d (qjQ.1 x))]
 have S: ∀a b:Rat,Sml a 60->Sml b 60->b≠0->Sml (a/b) 600:=fun a b hA hB h=>qdv hA hB h
 rw[B,ZB,if_neg (by simp),if_neg c,qpy hN (hp.mono (by omega)) (hp'.mono (by omega)) (hq.mono (by omega)) (hq'.mono (by omega)) j u (by simp only[List.mem_cons,List.not_mem_nil,or_false,forall_eq_or_imp,forall_eq];exact⟨S _ _ hp hq j,S _ _ hp hq' u,S _ _ hp' hq j,S _ _ hp' hq' u⟩)]
 rfl
end ops
end Go.Av
end
section
namespace Go.Av
theorem T_int (n:Int):T (n:Rat)=Lib.itoa n:=by
 unfold T
 rw[Rat.num_intCast,Rat.den_intCast,if_pos rfl,YQ]
def bst (x b y:Rat):Rat:=if(x-y).abs<(x-b).abs then y else b
def cnd (x:Rat) (i:Nat):Rat:=Rat.divInt ((x*((i/2:Nat):Rat)).floor+((i%2:Nat):Int)) ((i/2:Nat):Int)
def Fst (x b:Rat) (n:Nat):Prop:= ∃i,2<=i/\i<n/\b=cnd x i/\ ∀j,2<=j->j<n->(x-b).abs<(x-cnd x j).abs\/((x-b).abs=(x-cnd x j).abs/\i<=j)
theorem Fst.step {x b:Rat} {n:Nat} (h:Fst x b n):Fst x (bst x b (cnd x n)) (n+1):=by
 obtain⟨i,h1,h2,h3,u⟩:=h
 unfold bst
 by_cases c:(x-cnd x n).abs<(x-b).abs
 ·rw[if_pos c]
  refine⟨n,by omega,by omega,rfl,fun j j1 j2=>?_⟩
  by_cases e:j=n
  ·exact .inr ⟨by rw[e],by omega⟩
  rcases u j j1 (by omega)with k|⟨k,_⟩
  ·exact .inl (qqk c k)
  exact .inl (k▸c)
 rw[if_neg c]
 refine⟨i,h1,by omega,h3,fun j j1 j2=>?_⟩
 by_cases e:j=n
 ·rw[e]
  rcases Rat.le_iff_lt_or_eq.1 (Rat.not_lt.1 c)with k|k
  ·exact .inl k
  exact .inr ⟨k,by omega⟩
 exact u j j1 (by omega)
end Go.Av
end
section
namespace Go.Av
theorem qnj {n:Nat}:Lib.decDigits n=[48]↔n=0:=by
 constructor
 ·intro h
  exact qlz (h.trans (by rw[jo (by decide)];rfl))
 rintro rfl
 rw[jo (by decide)]
 rfl
theorem qqy {n:Nat}:Lib.decDigits n=[49]↔n=1:=by
 constructor
 ·intro h
  exact qlz (h.trans (by rw[jo (by decide)];rfl))
 rintro rfl
 rw[jo (by decide)]
 rfl
theorem qfq {q:Rat} (h:Sml q 600):chk (T q)=0:=by
 have a1:=no47 (qa9 q.num.natAbs)
 have es:=qit a1 q
 have et:(bdy (T q)).take (slA (bdy (T q)))=Lib.decDigits q.num.natAbs:=by
  rw[qku,es,List.take_append_of_le_length (Nat.le_refl _),List.take_length]
 have hd:=den_pos q
 have ed:slA (bdy (T q))<(bdy (T q)).length↔q.den≠1:=by
  rw[qku,es,Yq]
  unfold tl
  by_cases c:q.den=1
  ·rw[if_pos c]
   simp[c]
  rw[if_neg c]
  simp[c]
 have er:(bdy (T q)).drop (slA (bdy (T q))+1)=if q.den=1 then[]else Lib.decDigits q.den:=by
  rw[qku,es]
  unfold tl
  by_cases c:q.den=1
  ·rw[if_pos c,if_pos c,YQ,List.drop_of_length_le (by omega)]
  rw[if_neg c,if_neg c,List.drop_append,List.drop_of_length_le (by omega),List.nil_append,show(Lib.decDigits q.num.natAbs).length+1-(Lib.decDigits q.num.natAbs).length=1 by omega]
  rfl
 have a2:okF (T q)=true:=by
  unfold okF
  rw[et,qk1]
  refine decide_eq_true ⟨qnP _,?_⟩
  rintro⟨u,j⟩
  have u:=of_decide_eq_true u
  have:=qnj.1 j
  omega
 have a0:qhw (T q)=false:=by
  unfold qhw
  refine decide_eq_false ?_
  rintro⟨u,j⟩
  have c:=ed.1 u
  rw[er,if_neg c]at j
  exact j ⟨qnP _,fun e=>by have:=qnj.1 e;omega,fun e=>c (qqy.1 e)⟩
 unfold chk
 rw[if_neg (by rw[a2,a0];simp),et,er,if_neg,if_neg]
 ·rintro⟨u,j⟩
  have c:=ed.1 u
  rw[if_neg c,qcy,qcy]at j
  exact j q.reduced
 have u:=h.1
 have j:=h.2
 split<;>simp<;>omega
theorem Num_T {N:Nat} (hN:100000<N) {q:Rat} (hl:(T q).length<=50000):qdo N (T q)=some (Lib.itoa q.num):=by
 have hs:=qdr (N:=N) (s:=T q) (by omega) (by omega)
 unfold qdo
 rw[hs,ZB]
 by_cases c:q.den=1
 ·obtain⟨j,h⟩:=qfW q c
  rw[xx (by omega),ZB,h,List.take_length,j]
 obtain⟨j,h,u⟩:=qgX q c
 rw[xx (by omega),ZB,h]
theorem Den_T {N:Nat} (hN:100000<N) {q:Rat} (hl:(T q).length<=50000):qdm N (T q)=some (Lib.decDigits q.den):=by
 have hs:=qdr (N:=N) (s:=T q) (by omega) (by omega)
 unfold qdm
 rw[hs,ZB]
 by_cases c:q.den=1
 ·obtain⟨j,u⟩:=qfW q c
  rw[if_pos (by omega),c,jo (by decide)]
  rfl
 obtain⟨j,u,h⟩:=qgX q c
 rw[if_neg (by omega),zT (by omega),xR (by omega),ZB,h]
theorem qnf {z:Int} (j:(Lib.itoa z).length<=50000):qds (Lib.itoa z)=some (Lib.decDigits z.natAbs):=by
 have hs:=qld (z:Rat)
 rw[T_int,Rat.num_intCast]at hs
 unfold qds
 rw[hs,ZB]
 by_cases c:z<0
 ·have h:=xR (l:=(45:UInt8)::Lib.decDigits z.natAbs) (k:=1) (by simp)
  rw[if_pos c,if_pos (by decide),yg c,show(1:Int)=((1:Nat):Int)from rfl,h]
  rfl
 rw[if_neg c,if_neg (by split<;>decide),jl (by omega)]
theorem qn3 {N:Nat} (hN:600000<N) {s:Str} {d:Nat} (hd:0<d) (j:d<=1000): ∃b,qcg N s (d:Int)=some b/\(b=true-> ∃q:Rat,s=T q/\Sml q d/\chk (T q)=0):=by
 unfold qcg
 rw[ql (n:=2*(d:Int)) (by omega) (by omega),ql (n:=2*(d:Int)+2) (by omega) (by omega)]
 by_cases c:(s.length:Int)<=2*(d:Int)+2
 ·rw[if_pos c,qgz hN (by omega),ZB]
  by_cases hc:chk s=0
  ·obtain⟨q,rfl,q1,q2⟩:=qeP hc
   have u:=qgW q.num
   rw[if_pos hc,Num_T (by omega) (by omega),ZB,qnf (by omega),ZB,Den_T (by omega) (by omega),ZB]
   by_cases e:(Lib.decDigits q.num.natAbs).length<=d
   ·rw[if_pos (by omega),ZB]
    exact⟨_,rfl,fun h=>⟨q,rfl,⟨e,by have:=of_decide_eq_true h;omega⟩,hc⟩⟩
   rw[if_neg (by omega),ZB]
   exact⟨_,rfl,fun h=>by cases h⟩
  rw[if_neg hc,ZB]
  exact⟨_,rfl,fun h=>by cases h⟩
 rw[if_neg c,ZB]
 exact⟨_,rfl,fun h=>by cases h⟩
end Go.Av
end
section
namespace Go.Av
theorem qmr {p x p' y:Rat} (h:p<=x) (j:x<=p'):p*y<=x*y\/p'*y<=x*y:=by
 rcases Rat.le_total (a:=0) (b:=y)with c|c
 ·exact .inl (Rat.mul_le_mul_of_nonneg_right h c)
 right
 have:=Rat.mul_le_mul_of_nonneg_right j (show 0<= -y by grind)
 grind
theorem qlW {p x p' y:Rat} (h:p<=x) (j:x<=p'):x*y<=p*y\/x*y<=p'*y:=by
 rcases Rat.le_total (a:=0) (b:=y)with c|c
 ·exact .inr (Rat.mul_le_mul_of_nonneg_right j c)
 left
 have:=Rat.mul_le_mul_of_nonneg_right h (show 0<= -y by grind)
 grind
theorem qoJ {p x p' q y q':Rat} (h:p<=x) (u:x<=p') (k:q<=y) (k':y<=q'): ∃z∈[p*q,p*q',p'*q,p'*q'],z<=x*y:=by
 have j: ∀e:Rat,e*q<=e*y\/e*q'<=e*y:=fun e=>by
  have:=qmr (y:=e) k k'
  rw[Rat.mul_comm q e,Rat.mul_comm q' e,Rat.mul_comm y e]at this
  exact this
 rcases qmr (y:=y) h u with c|c
 ·rcases j p with d|d
  ·exact⟨_,by simp,Rat.le_trans d c⟩
  exact⟨p*q',by simp,Rat.le_trans d c⟩
 rcases j p' with d|d
 ·exact⟨p'*q,by simp,Rat.le_trans d c⟩
 exact⟨p'*q',by simp,Rat.le_trans d c⟩
theorem qoC {p x p' q y q':Rat} (h:p<=x) (u:x<=p') (k:q<=y) (k':y<=q'): ∃z∈[p*q,p*q',p'*q,p'*q'],x*y<=z:=by
 have j: ∀e:Rat,e*y<=e*q\/e*y<=e*q':=fun e=>by
  have:=qlW (y:=e) k k'
  rw[Rat.mul_comm q e,Rat.mul_comm q' e,Rat.mul_comm y e]at this
  exact this
 rcases qlW (y:=y) h u with c|c
 ·rcases j p with d|d
  ·exact⟨p*q,by simp,Rat.le_trans c d⟩
  exact⟨p*q',by simp,Rat.le_trans c d⟩
 rcases j p' with d|d
 ·exact⟨p'*q,by simp,Rat.le_trans c d⟩
 exact⟨p'*q',by simp,Rat.le_trans c d⟩
theorem qkA {m x:Rat} {r:List Rat} (lo: ∃z∈m::r,z<=x) (hi: ∃z∈m::r,x<=z):mnL m r<=x/\x<=mxL m r:=by
 obtain⟨a,a1,h⟩:=lo
 obtain⟨b,u,j⟩:=hi
 exact⟨Rat.le_trans (qhs r m a a1) h,Rat.le_trans j (qhM r m b u)⟩
theorem qky (m:Rat) (r:List Rat):mnL m r<=mxL m r:=Rat.le_trans (qhs r m m (by simp)) (qhM r m m (by simp))
theorem qjr {a b:Rat} (h:0<a) (k:a<=b):b⁻¹<=a⁻¹:=by
 have hb:0<b:=by grind
 have ia:=Rat.mul_inv_cancel a (Rat.ne_of_gt h)
 have ib:=Rat.mul_inv_cancel b (Rat.ne_of_gt hb)
 have pa:=Rat.inv_pos.2 h
 have pb:=Rat.inv_pos.2 hb
 have j:=Rat.mul_le_mul_of_nonneg_right k (Rat.le_of_lt (Rat.mul_pos pa pb))
 generalize a⁻¹=u at*
 generalize b⁻¹=v at*
 have e1:a*(u*v)=v:=by grind
 have e2:b*(u*v)=u:=by grind
 rw[e1,e2]at j
 exact j
theorem qhg (a:Rat) (h:a≠0):(-a)⁻¹= -a⁻¹:=by
 refine Rat.inv_eq_of_mul_eq_one ?_
 have:=Rat.mul_inv_cancel a h
 generalize a⁻¹=u at*
 grind
theorem qgB {q y q':Rat} (h: ¬(q<=0/\0<=q')) (k:q<=y) (k':y<=q'):q'⁻¹<=y⁻¹/\y⁻¹<=q⁻¹:=by
 rcases Rat.le_total (a:=q) (b:=0)with c|c
 ·have hq':q'<0:=by
   rw[<-Rat.not_le]
   exact fun d=>h ⟨c,d⟩
  have hy:y<0:=by grind
  have hq:q<0:=by grind
  have u:=qjr (a:= -q') (b:= -y) (by grind) (by grind)
  have j:=qjr (a:= -y) (b:= -q) (by grind) (by grind)
  rw[qhg y (Rat.ne_of_lt hy),qhg q' (Rat.ne_of_lt hq')]at u
  rw[qhg y (Rat.ne_of_lt hy),qhg q (Rat.ne_of_lt hq)]at j
  exact⟨Rat.neg_le_neg_iff.1 u,Rat.neg_le_neg_iff.1 j⟩
 have hq:0<q:=by
  rcases Rat.le_iff_lt_or_eq.1 c with d|d
  ·exact d
  exfalso
  exact h ⟨by rw[<-d];exact Rat.le_refl,Rat.le_trans c (Rat.le_trans k k')⟩
 exact⟨qjr (by grind) k',qjr hq k⟩
theorem qq4 {p x p' q y q':Rat} (h:p<=x) (h':x<=p') (z: ¬(q<=0/\0<=q')) (k:q<=y) (k':y<=q'): ∃z∈[p/q,p/q',p'/q,p'/q'],z<=x/y:=by
 obtain⟨u,i2⟩:=qgB z k k'
 obtain⟨w,j,l⟩:=qoJ h h' u i2
 simp only[Rat.div_def]
 refine⟨w,?_,l⟩
 simp only[List.mem_cons,List.not_mem_nil,or_false]at j⊢
 rcases j with e|e|e|e
 ·exact .inr (.inl e)
 ·exact .inl e
 ·exact .inr (.inr (.inr e))
 exact .inr (.inr (.inl e))
theorem qqt {p x p' q y q':Rat} (h:p<=x) (h':x<=p') (z: ¬(q<=0/\0<=q')) (k:q<=y) (k':y<=q'): ∃z∈[p/q,p/q',p'/q,p'/q'],x/y<=z:=by
 obtain⟨u,i2⟩:=qgB z k k'
 obtain⟨w,j,l⟩:=qoC h h' u i2
 simp only[Rat.div_def]
 refine⟨w,?_,l⟩
 simp only[List.mem_cons,List.not_mem_nil,or_false]at j⊢
 rcases j with e|e|e|e
 ·exact .inr (.inl e)
 ·exact .inl e
 ·exact .inr (.inr (.inr e))
 exact .inr (.inr (.inl e))
theorem qej {N:Nat} (hN:600000<N) {p p' q q':Rat} (hp:Sml p 600) (hp':Sml p' 600) (hq:Sml q 600) (hq':Sml q' 600) (hpp:p<=p') (hqq:q<=q'):
 yj N ⟨T p,T p'⟩ ⟨T q,T q'⟩=some (if p=q/\p'=q'/\p=p' then(0,0)else if p'<q then(-1,0)else if q'<p then(1,0)else(0,24)):=by
 have l1:=qb0 hp
 have l2:=qb0 hp'
 have l3:=qb0 hq
 have l4:=qb0 hq'
 obtain⟨f1,g1,a1,j,a3⟩:=ncmp hN hp' hq
 obtain⟨f2,g2,b1,u,b3⟩:=ncmp hN hq' hp
 unfold yj
 rw[qbH hN (by simp only;omega) (by simp only;omega),qeD (qfq hp) (qfq hp'),if_neg (Rat.not_lt.2 hpp),ZB,qbH hN (by simp only;omega) (by simp only;omega),qeD (qfq hq) (qfq hq'),if_neg (Rat.not_lt.2 hqq),ZB,qdz (by omega),if_pos rfl,ZB,if_neg (by decide)]
 have B:(if((T p==T q)&&((T p'==T q')&&true))=true then some (T p==T p')else some false:Option Bool)=some (decide (p=q/\p'=q'/\p=p')):=by
  by_cases c1:p=q
  ·by_cases c2:p'=q'
   ·subst c1 c2
    rw[if_pos (by simp)]
    congr 1
    by_cases c3:p=p'
    ·subst c3
     simp
    rw[decide_eq_false (fun h=>c3 h.2.2)]
    exact beq_false_of_ne fun h=>c3 (qhH h)
   rw[if_neg (by intro h;simp only[Bool.and_eq_true,beq_iff_eq,and_true]at h;exact c2 (qhH h.2)),decide_eq_false (fun h=>c2 h.2.1)]
  rw[if_neg (by intro h;simp only[Bool.and_eq_true,beq_iff_eq,and_true]at h;exact c1 (qhH h.1)),decide_eq_false (fun h=>c1 h.1)]
 simp only
 rw[B,ZB]
 by_cases c:p=q/\p'=q'/\p=p'
 ·rw[if_pos (decide_eq_true c),if_pos c]
 rw[if_neg (fun h=>c (of_decide_eq_true h)),if_neg c,a1,ZB,j,ZB,a3,ZB,b1,ZB,u,ZB,b3,ZB]
 by_cases d:p'<q
 ·rw[if_pos (qgw.2 d),if_pos d]
 rw[if_neg (fun h=>d (qgw.1 h)),if_neg d]
 by_cases e:q'<p
 ·rw[if_pos (qgw.2 e),if_pos e]
 rw[if_neg (fun h=>e (qgw.1 h)),if_neg e]
end Go.Av
end
section
namespace Go.Av
theorem qmu {p p':Rat} (h:p<=p') {n:Int} (n0:0<=n) (n1:n<=255):p<=p+Rat.divInt n 255*(p'-p)/\p+Rat.divInt n 255*(p'-p)<=p':=by
 have e:Rat.divInt n 255*255=(n:Rat):=by
  rw[Rat.divInt_eq_div]
  exact Rat.div_mul_cancel (by decide)
 have u:0<=Rat.divInt n 255:=Rat.divInt_nonneg n0 (by decide)
 have a1:Rat.divInt n 255<=1:=by
  have:=Rat.intCast_le_intCast.2 n1
  have j:((255:Int):Rat)=255:=rfl
  grind
 generalize Rat.divInt n 255=t at*
 have d:0<=p'-p:=by grind
 have b1:=Rat.mul_nonneg u d
 have b2:=Rat.mul_le_mul_of_nonneg_right a1 d
 rw[Rat.one_mul]at b2
 constructor<;>grind
theorem qho {N:Nat} (hN:600000<N) (s:qA): ∃b,qab N s 6=some b/\(b=true-> ∃p p':Rat,s=⟨T p,T p'⟩/\p<=p'/\Sml p 6/\Sml p' 6):=by
 obtain⟨lo,hi⟩:=s
 obtain⟨b1,e1,f1⟩:=qn3 hN (s:=lo) (d:=6) (by omega) (by omega)
 obtain⟨b2,e2,f2⟩:=qn3 hN (s:=hi) (d:=6) (by omega) (by omega)
 unfold qab
 simp only
 rw[show(6:Int)=((6:Nat):Int)from rfl,e1,ZB]
 cases b1 with
 |false=>exact⟨false,rfl,fun h=>by cases h⟩
 |true=>
  rw[if_pos rfl,e2,ZB]
  cases b2 with
  |false=>exact⟨false,rfl,fun h=>by cases h⟩
  |true=>
   obtain⟨p,rfl,u,cp⟩:=f1 rfl
   obtain⟨p',rfl,j,cp'⟩:=f2 rfl
   have l1:=qb0 u
   have l2:=qb0 j
   rw[if_pos rfl,qfm hN (by simp only;omega) (by simp only;omega),qeD cp cp',ZB]
   refine⟨_,rfl,fun h=>⟨p,p',rfl,?_,u,j⟩⟩
   have h:=of_decide_eq_true h
   rw[<-Rat.not_lt]
   intro c
   rw[if_pos c]at h
   exact absurd h (by decide)
theorem qi8 {N:Nat} (hN:600000<N) {p p':Rat} (j:Sml p 6) (h:Sml p' 6) {n:Int} (n0:0<=n) (n1:n<=255):qaE N ⟨T p,T p'⟩ n=some (T (p+Rat.divInt n 255*(p'-p)))/\Sml (p+Rat.divInt n 255*(p'-p)) 117:=by
 have s1:Sml (Rat.divInt n 255) 9:=by
  have:=qeF (a:=n) (b:=255) (n:=1) (by decide) (by show(n.natAbs:Int)<1000000000^1;omega) (by decide)
  exact qhB this.1 this.2 (by omega)
 have s2:Sml (p'-p) 27:=by
  rw[Rat.sub_eq_add_neg]
  exact(qdY (n:=1) (by omega) (h.mono (by omega)) ((qgc j).mono (by omega))).mono (by omega)
 have u:Sml (Rat.divInt n 255*(p'-p)) 54:=(qe2 (n:=3) (by omega) (s1.mono (by omega)) (s2.mono (by omega))).mono (by omega)
 have s4:Sml (p+Rat.divInt n 255*(p'-p)) 117:=(qdY (n:=6) (by omega) (j.mono (by omega)) (u.mono (by omega))).mono (by omega)
 refine⟨?_,s4⟩
 unfold qaE
 simp only
 rw[ql (by omega) (by omega),qlK (by omega) (by omega) (by omega) (by decide) (by decide) (by decide),ZB,qjI hN (k:=6) (by omega) (by omega) h j,ZB,qjO hN (k:=27) (by omega) (by omega) (s1.mono (by omega)) s2,ZB,qjs hN (k:=54) (by omega) (by omega) (j.mono (by omega)) u,ZB]
theorem qpk {p q:Rat}:(if p<q then-1 else if p=q then 0 else 1:Int)=if p<q then-1 else if q<p then 1 else 0:=by
 by_cases h:p<q
 ·rw[if_pos h,if_pos h]
 rw[if_neg h,if_neg h]
 by_cases e:p=q
 ·subst e
  rw[if_pos rfl,if_neg Rat.lt_irrefl]
 rw[if_neg e,if_pos (Rat.lt_of_le_of_ne (Rat.not_lt.1 h) (Ne.symm e))]
theorem qeI {N:Nat} (hN:600000<N) (a b:qA) (at_:qiR) (hA:0<=at_.A/\at_.A<=255) (hB:0<=at_.B/\at_.B<=255):yR N a b at_=some true:=by
 obtain⟨u,hu,fu⟩:=qho hN a
 obtain⟨v,hv,fv⟩:=qho hN b
 unfold yR
 rw[show awk=some true from rfl,ZB,if_neg (by simp),hu,ZB]
 cases u with
 |false=>rw[if_pos (show(!false)=true from rfl),ZB,if_pos rfl,ZB]
 |true=>
  rw[if_neg (by simp),hv,ZB,ZB]
  cases v with
  |false=>rw[if_pos (show(!false)=true from rfl),ZB]
  |true=>
   obtain⟨p,p',rfl,hpp,sp,sp'⟩:=fu rfl
   obtain⟨q,q',rfl,hqq,sq,sq'⟩:=fv rfl
   obtain⟨ex,sx⟩:=qi8 hN sp sp' hA.1 hA.2
   obtain⟨ey,sy⟩:=qi8 hN sq sq' hB.1 hB.2
   obtain⟨x1,x2⟩:=qmu hpp hA.1 hA.2
   obtain⟨y1,y2⟩:=qmu hqq hB.1 hB.2
   generalize p+Rat.divInt at_.A 255*(p'-p)=x at*
   generalize q+Rat.divInt at_.B 255*(q'-q)=y at*
   have k1:Sml p 60:=sp.mono (by omega)
   have k2:Sml p' 60:=sp'.mono (by omega)
   have k3:Sml q 60:=sq.mono (by omega)
   have k4:Sml q' 60:=sq'.mono (by omega)
   have c1:=qfq (k1.mono (show 60<=600 by omega))
   have c2:=qfq (k2.mono (show 60<=600 by omega))
   have c3:=qfq (k3.mono (show 60<=600 by omega))
   have c4:=qfq (k4.mono (show 60<=600 by omega))
   have sA:Sml (x+y) 243:=(qdY (n:=13) (by omega) (sx.mono (by omega)) (sy.mono (by omega))).mono (by omega)
   have sS:Sml (x-y) 243:=by
    rw[Rat.sub_eq_add_neg]
    exact(qdY (n:=13) (by omega) (sx.mono (by omega)) ((qgc sy).mono (by omega))).mono (by omega)
   have sM:Sml (x*y) 234:=(qe2 (n:=13) (by omega) (sx.mono (by omega)) (sy.mono (by omega))).mono (by omega)
   have j: ∀{l h:Rat},Sml l 600->Sml h 600->l<=h->zM N ⟨T l,T h⟩=some 0:=fun {l h} s1 s2 hl=>by
    have l1:=qb0 s1
    have l2:=qb0 s2
    rw[qfm hN (by simp only;omega) (by simp only;omega),qeD (qfq s1) (qfq s2),if_neg (Rat.not_lt.2 hl)]
   have lT: ∀z∈[p*q,p*q',p'*q,p'*q'],Sml z 600:=by
    simp only[List.mem_cons,List.not_mem_nil,or_false,forall_eq_or_imp,forall_eq]
    exact⟨qeZ k1 k3,qeZ k1 k4,qeZ k2 k3,qeZ k2 k4⟩
   obtain⟨t1,t2⟩:=qkA (qoJ x1 x2 y1 y2) (qoC x1 x2 y1 y2)
   have hullTim:qcO (fun x y=>x*y) p p' q q'=⟨T (mnL (p*q) [p*q',p'*q,p'*q']),T (mxL (p*q) [p*q',p'*q,p'*q'])⟩:=rfl
   rw[if_neg (by simp),ex,ZB,ey,ZB,qqN hN k1 k2 k3 k4 c1 c2 c3 c4 hpp hqq,ZB,qpL hN k1 k2 k3 k4 c1 c2 c3 c4 hpp hqq,ZB,qpI hN k1 k2 k3 k4 c1 c2 c3 c4 hpp hqq,ZB,qoS hpp hqq,qnt hpp hqq,hullTim]
   simp only
   rw[if_neg (show¬(!decide (w64 (w64 (0+0)+0)=0))=true by decide),j (qdf k1 k3) (qdf k2 k4) (by grind),ZB,if_neg (by decide),j (qe9 k1 k4) (qe9 k2 k3) (by grind),ZB,if_neg (by decide),j (qaC lT) (qaB lT) (qky _ _),ZB,if_neg (by decide),
    qjs hN (k:=117) (by omega) (by omega) sx sy,ZB,qgb hN (k:=600) (by omega) (by omega) (qdf k1 k3) (qdf k2 k4) (sA.mono (by omega)),ZB,decide_eq_true (show p+q<=x+y/\x+y<=p'+q' by constructor<;>grind),if_neg (by simp),
    qjI hN (k:=117) (by omega) (by omega) sx sy,ZB,qgb hN (k:=600) (by omega) (by omega) (qe9 k1 k4) (qe9 k2 k3) (sS.mono (by omega)),ZB,decide_eq_true (show p-q'<=x-y/\x-y<=p'-q by constructor<;>grind),if_neg (by simp),
    qjO hN (k:=117) (by omega) (by omega) sx sy,ZB,qgb hN (k:=600) (by omega) (by omega) (qaC lT) (qaB lT) (sM.mono (by omega)),ZB,decide_eq_true ⟨t1,t2⟩,ZB,if_neg (by simp),
    qej hN (k1.mono (by omega)) (k2.mono (by omega)) (k3.mono (by omega)) (k4.mono (by omega)) hpp hqq,ZB]
   have Cmp:((if(!decide ((if p=q/\p'=q'/\p=p' then(0,0)else if p'<q then(-1,0)else if q'<p then(1,0)else(0,24):Int×Int).2=0))=true then
    (if(!decide ((if p=q/\p'=q'/\p=p' then(0,0)else if p'<q then(-1,0)else if q'<p then(1,0)else(0,24):Int×Int).2=24))=true then some true
    else if(if p=q/\p'=q'/\p=p' then(0,0)else if p'<q then(-1,0)else if q'<p then(1,0)else(0,24):Int×Int).2=0 then(xg N (T x) (T y)).bind fun r37=>some (!decide ((if p=q/\p'=q'/\p=p' then(0,0)else if p'<q then(-1,0)else if q'<p then(1,0)else(0,24):Int×Int).1=r37))else some false)
    else if(if p=q/\p'=q'/\p=p' then(0,0)else if p'<q then(-1,0)else if q'<p then(1,0)else(0,24):Int×Int).2=0 then(xg N (T x) (T y)).bind fun r39=>some (!decide ((if p=q/\p'=q'/\p=p' then(0,0)else if p'<q then(-1,0)else if q'<p then(1,0)else(0,24):Int×Int).1=r39))else some false:Option Bool))=some false:=by
    have e:=qhi hN (k:=117) (by omega) (by omega) sx sy
    rw[qpk]at e
    by_cases d1:p=q/\p'=q'/\p=p'
    ·obtain⟨rfl,rfl,rfl⟩:=d1
     have ex:x=p:=Rat.le_antisymm x2 x1
     have ey:y=p:=Rat.le_antisymm y2 y1
     rw[e]
     subst ex ey
     simp[Rat.lt_irrefl]
    rw[if_neg d1]
    by_cases d2:p'<q
    ·have:x<y:=by grind
     rw[e,if_pos d2,if_pos this]
     simp
    rw[if_neg d2]
    by_cases d3:q'<p
    ·have h1:y<x:=by grind
     have h2: ¬x<y:=Rat.not_lt.2 (Rat.le_of_lt h1)
     rw[e,if_pos d3,if_neg h2,if_pos h1]
     simp
    rw[if_neg d3]
    simp
   rw[Cmp,ZB,if_neg (by simp)]
   unfold qbu
   rw[ZB,ZB,qej hN (sx.mono (by omega)) (sx.mono (by omega)) (sx.mono (by omega)) (sx.mono (by omega)) Rat.le_refl Rat.le_refl,if_pos ⟨rfl,rfl,rfl⟩,ZB,ZB,qej hN (sx.mono (by omega)) (sx.mono (by omega)) (k1.mono (by omega)) (k2.mono (by omega)) Rat.le_refl hpp,ZB]
   have B:((!((decide ((if x=p/\x=p'/\True then(0,0)else if x<p then(-1,0)else if p'<x then(1,0)else(0,24):Int×Int).2=0))==(T p==T p'))))=false:=by
    by_cases d:p=p'
    ·subst d
     have ex:x=p:=Rat.le_antisymm x2 x1
     rw[if_pos ⟨ex,ex,trivial⟩]
     simp
    rw[if_neg (fun h=>d (h.1.symm.trans h.2.1)),if_neg (Rat.not_lt.2 x1),if_neg (Rat.not_lt.2 x2),beq_false_of_ne (fun h=>d (qhH h))]
    simp
   simp only
   rw[if_neg (by decide),if_neg (by decide),B,ZB,if_neg (by simp),qqO hN k1 k2 k3 k4 c1 c2 c3 c4 hpp hqq,ZB,show xZ N ⟨T q,T q'⟩ [48]=some (decide (q<=0/\0<=q'))by rw[<-T0];exact qgb hN (k:=60) (by omega) (by omega) k3 k4 (sml0 (by omega)),ZB]
   by_cases z:q<=0/\0<=q'
   ·rw[if_pos z,if_pos (decide_eq_true z)]
    simp
   have h0:q≠0:=fun e=>z ⟨by rw[e];exact Rat.le_refl,by rw[<-e];exact hqq⟩
   have h1:q'≠0:=fun e=>z ⟨by rw[<-e];exact hqq,by rw[e];exact Rat.le_refl⟩
   have hy:y≠0:=fun e=>z ⟨by rw[<-e];exact y1,by rw[<-e];exact y2⟩
   have lO: ∀w∈[p/q,p/q',p'/q,p'/q'],Sml w 600:=by
    simp only[List.mem_cons,List.not_mem_nil,or_false,forall_eq_or_imp,forall_eq]
    exact⟨qdv k1 k3 h0,qdv k1 k4 h1,qdv k2 k3 h0,qdv k2 k4 h1⟩
   have sD:Sml (x/y) 234:=by
    rw[Rat.div_def]
    exact(qe2 (n:=13) (by omega) (sx.mono (by omega)) ((qjw sy hy).mono (by omega))).mono (by omega)
   obtain⟨o1,o2⟩:=qkA (qq4 x1 x2 z y1 y2) (qqt x1 x2 z y1 y2)
   have hullO:qcO (fun x y=>x/y) p p' q q'=⟨T (mnL (p/q) [p/q',p'/q,p'/q']),T (mxL (p/q) [p/q',p'/q,p'/q'])⟩:=rfl
   rw[if_neg z,if_neg (fun h=>z (of_decide_eq_true h)),hullO]
   simp only
   rw[if_pos trivial,j (qaC lO) (qaB lO) (qky _ _),ZB,if_pos rfl,qpM hN (k:=117) (by omega) (by omega) sx sy hy,ZB,qgb hN (k:=600) (by omega) (by omega) (qaC lO) (qaB lO) (sD.mono (by omega)),ZB,decide_eq_true ⟨o1,o2⟩,ZB]
end Go.Av
end
