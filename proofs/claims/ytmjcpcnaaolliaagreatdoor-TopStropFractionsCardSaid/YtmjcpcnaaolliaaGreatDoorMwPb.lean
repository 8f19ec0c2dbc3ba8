/-
  The reference's numerals.
-/
import Derived.Test.YtmjcpcnaaolliaaGreatDoorMwPa
import Derived.Test.YtmjcpcnaaolliaaGreatDoorAvPt
noncomputable section
set_option linter.unusedVariables false
set_option linter.unusedSimpArgs false
set_option maxRecDepth 100000
section
namespace Go.Av
theorem qbi {a b:Str} (h:a.length+b.length<=1000000000):cat a b=some (a++b):=by
 unfold cat
 rw[if_pos (by omega)]
theorem dcut {d:Nat} (h:d<10):cut ([48,49,50,51,52,53,54,55,56,57]:Str) (d:Int) (w64 ((d:Int)+1))=some [dch d]:=by
 rw[zK (by omega)]
 rcases(show d=0\/d=1\/d=2\/d=3\/d=4\/d=5\/d=6\/d=7\/d=8\/d=9 by omega)with e|e|e|e|e|e|e|e|e|e<;>subst e<;>decide
theorem tm10 (n:Nat):(n:Int).tmod 10=((n%10:Nat):Int):=by rw[Int.tmod_eq_emod_of_nonneg (by omega)];omega
theorem td10 (n:Nat):(n:Int).tdiv 10=((n/10:Nat):Int):=by rw[YF (by omega)];omega
theorem qf2 {least:Int} {K n:Nat} {s:Str} (hn:n<9223372036854775808) (hs:s.length<=1000) (h:0<n\/(s.length:Int)<least):qO least (K+1) (n:Int) s=qO least K ((n/10:Nat):Int) (dch (n%10)::s):=by
 have cond:(if(n:Int)>0 then some true else some (decide ((s.length:Int)<least)):Option Bool)=some true:=by
  by_cases c:(n:Int)>0
  ·rw[if_pos c]
  rw[if_neg c,decide_eq_true (by omega)]
 rw[qO,cond,ZB,if_pos rfl,tm10,td10,dcut (by omega),ZB,qbi (by simp;omega),ZB,qh (by omega) (by omega)]
 rfl
theorem qfM {least:Int} {K:Nat} {s:Str} (h: ¬(s.length:Int)<least):qO least (K+1) 0 s=some s:=by
 rw[qO,if_neg (by omega),decide_eq_false h,ZB,if_neg (by simp)]
theorem qjr: ∀(k K n:Nat) (s:Str),n<10^k->s.length+k=9->k<K->qO 9 K (n:Int) s=some (qdD k n++s)
 |k,0,n,s,_,_,h=>by omega
 |0,K+1,n,s,hn,hs,h=>by
  simp at hn
  subst hn
  exact qfM (by omega)
 |k+1,K+1,n,s,hn,hs,h=>by
  have h9:(10:Nat)^(k+1)<=10^9:=Nat.pow_le_pow_right (by omega) (by omega)
  rw[Nat.pow_succ]at hn
  rw[qf2 (by rw[Nat.pow_succ]at h9;omega) (by omega) (.inr (by omega)),qjr k K (n/10) _ (by omega) (by simp;omega) (by omega),qdD,Yz]
  rfl
theorem qkf: ∀(k K n:Nat) (s:Str),0<n->n<10^k->n<9223372036854775808->s.length+k<=900->k<K->qO 1 K (n:Int) s=some (Lib.decDigits n++s)
 |k,0,n,s,_,_,_,_,h=>by omega
 |0,K+1,n,s,h0,hn,_,hs,h=>by simp at hn;omega
 |k+1,K+1,n,s,h0,hn,h63,hs,h=>by
  rw[Nat.pow_succ]at hn
  rw[qf2 h63 (by omega) (.inl h0)]
  by_cases c:n<10
  ·obtain⟨K2,rfl⟩: ∃K2,K=K2+1:=⟨K-1,by omega⟩
   rw[show n/10=0 by omega,jd c,show n%10=n by omega]
   exact qfM (by simp;omega)
  rw[qkf k K (n/10) _ (by omega) (by omega) (by omega) (by simp;omega) (by omega),qeV c,Yz]
  rfl
theorem qnM {N n:Nat} (hN:100<N) (h:n<1000000000):zH N (n:Int) 9=some (qdD 9 n):=by
 unfold zH
 rw[qjr 9 N n [] h rfl (by omega),ZB,YQ]
theorem qgP {N n:Nat} (hN:100<N) (h:n<9223372036854775808):zH N (n:Int) 1=some (Lib.decDigits n):=by
 unfold zH
 rcases Nat.eq_zero_or_pos n with e|e
 ·subst e
  obtain⟨K,rfl⟩: ∃K,N=K+1+1:=⟨N-2,by omega⟩
  have h1:=qf2 (least:=1) (K:=K+1) (n:=0) (s:=[]) (by omega) (by simp) (.inr (by simp))
  rw[h1,Nat.zero_div]
  have h2:=qfM (least:=1) (K:=K) (s:=[dch (0%10)]) (by simp)
  have h2:qO 1 (K+1) ((0:Nat):Int) [dch (0%10)]=_:=h2
  rw[h2,ZB,jd (by decide)]
 rw[qkf 19 N n [] e (by omega) h (by simp) (by omega),ZB,YQ]
theorem qgZ: ∀k:Nat,E9^k=((10^(9*k):Nat):Int)
 |0=>rfl
 |k+1=>by
  rw[Int.pow_succ,qgZ k,Nat.mul_succ,Nat.pow_add,Int.natCast_mul]
  rfl
def nv (w:List Int):Nat:=(dv E9 w).toNat
theorem qi1 {w:List Int} (h:Dg E9 w):(nv w:Int)=dv E9 w:=by
 have:=qC E0 h
 unfold nv
 omega
theorem nv_lt {w:List Int} (h:Dg E9 w):nv w<10^(9*w.length):=by
 have h1:=yG E0 h
 rw[qgZ,<-qi1 h]at h1
 omega
theorem qii {w:List Int} (h:Dg E9 w):(Lib.decDigits (nv w)).length<=9*w.length+1:=by
 refine(xI (by omega)).2 ?_
 have:=nv_lt h
 rw[Nat.pow_succ]
 omega
theorem qlo {w:List Int} (h:Dg E9 w) {i:Nat} (hi:i<w.length):nv (w.drop i)=w[i].toNat+1000000000*nv (w.drop (i+1)):=by
 have h1:=qi1 (h.drop i)
 have h2:=qi1 (h.drop (i+1))
 have h3:=(h.at hi).1
 rw[qhb w hi]at h1
 have h4:E9*dv E9 (w.drop (i+1))=1000000000*dv E9 (w.drop (i+1)):=rfl
 omega
theorem qj1 {N:Nat} (hN:100<N) {a:qB} (ha:Dg E9 a.w) (hal:a.w.length<=100000): ∀(K i:Nat),i<=a.w.length->i<K->0<nv (a.w.drop i)->vL N a K (Lib.decDigits (nv (a.w.drop i))) ((i:Int)-1)=some (Lib.decDigits (nv a.w))
 |0,i,_,h,_=>by omega
 |K+1,0,_,_,_=>by
  rw[vL,if_neg (by omega),YR]
 |K+1,i+1,hi,h,hp=>by
  have hil:i<a.w.length:=by omega
  have ax:=ha.at hil
  have ax2:a.w[i]<1000000000:=ax.2
  have ei:((i+1:Nat):Int)-1=(i:Int):=by omega
  have ed:a.w[i]=(a.w[i].toNat:Int):=by omega
  have el:=qlo ha hil
  have ll:=qii (ha.drop (i+1))
  rw[YJ]at ll
  rw[vL,ei,if_pos (by omega),qz,Ya hil,ZB]
  have e9:zH N a.w[i] 9=some (qdD 9 a.w[i].toNat):=by
   conv=>lhs;rw[ed]
   exact qnM hN (by omega)
  rw[e9,ZB,qbi (by rw[qgK];omega),ZB,qh (by omega) (by omega)]
  have e10:Lib.decDigits (nv (a.w.drop (i+1)))++qdD 9 a.w[i].toNat=Lib.decDigits (nv (a.w.drop i)):=by
   have h9:(10:Nat)^9=1000000000:=rfl
   have q:nv (a.w.drop i)/10^9=nv (a.w.drop (i+1)):=by rw[h9];omega
   have r:nv (a.w.drop i)%10^9=a.w[i].toNat:=by rw[h9];omega
   rw[qhN 9 (nv (a.w.drop i)) (by rw[q];exact hp),q,r]
  rw[e10]
  exact qj1 hN ha hal K i (by omega) (by omega) (by omega)
theorem vV {z:Int} (h:z<0):Lib.itoa z=45::Lib.decDigits z.natAbs:=by unfold Lib.itoa;rw[if_pos h]
theorem je {z:Int} (h: ¬z<0):Lib.itoa z=Lib.decDigits z.natAbs:=by
 unfold Lib.itoa
 rw[if_neg h,show z.toNat=z.natAbs by omega]
theorem qgi {N:Nat} (hN:60000<N) {z:Int} (h:zN z 50000):xS N (rI z)=some (Lib.itoa z):=by
 obtain⟨c,e⟩:=qfH z
 have l:(rI z).w.length<=50000:=h.len
 have en:nv (rI z).w=z.natAbs:=by unfold nv;rw[e];omega
 have ng:(rI z).neg=decide (z<0):=rfl
 unfold xS
 by_cases h0:(rI z).w.length=0
 ·have hz:z=0:=by
   rw[YL.1 h0,kz]at e
   omega
  rw[if_pos (by omega),hz]
  have:Lib.itoa 0=[48]:=by rw[je (by decide)];exact jd (by decide)
  rw[this]
 have hk:(rI z).w.length-1<(rI z).w.length:=by omega
 have ax:=c.1.at hk
 have ax2:(rI z).w[(rI z).w.length-1]<1000000000:=ax.2
 have an:(rI z).w[(rI z).w.length-1]≠0:=c.2 _ (by rw[List.getLast?_eq_getElem?];exact Ya hk)
 have ed:(rI z).w[(rI z).w.length-1]=((rI z).w[(rI z).w.length-1].toNat:Int):=by omega
 have e1:nv ((rI z).w.drop ((rI z).w.length-1))=(rI z).w[(rI z).w.length-1].toNat:=by
  rw[qlo c.1 hk,List.drop_of_length_le (by omega)]
  rfl
 have e2:zH N (rI z).w[(rI z).w.length-1] 1=some (Lib.decDigits (nv ((rI z).w.drop ((rI z).w.length-1)))):=by
  conv=>lhs;rw[ed]
  rw[e1]
  exact qgP (by omega) (by omega)
 have e3:=qj1 (N:=N) (by omega) c.1 (by omega) N ((rI z).w.length-1) (by omega) (by omega) (by rw[e1];omega)
 have ll:=qii c.1
 rw[if_neg (by omega),qiI (by omega) (by omega),qz,Ya hk,ZB,e2,ZB,show w64 (((rI z).w.length:Int)-2)=(((rI z).w.length-1:Nat):Int)-1 by rw[qh (by omega) (by omega)];omega,e3,ZB,ng]
 by_cases hz:z<0
 ·rw[decide_eq_true hz,if_pos rfl,qbi (by simp;omega),ZB,vV hz,en]
  rfl
 rw[decide_eq_false hz,if_neg (by simp),je hz,en]
theorem qjG {s:Str} (hd:s.all vT=true) (hl:s.length<=18): ∀(K i:Nat),i<=s.length->s.length<K+i->vz s K ((qN 0 (s.take i):Nat):Int) (i:Int)=some ((qN 0 s:Nat):Int)
 |0,i,h,hK=>by omega
 |K+1,i,h,hK=>by
  rw[vz]
  by_cases hi:i<s.length
  ·have ht:s.take (i+1)=s.take i++[s[i]]:=List.take_succ_eq_append_getElem hi
   have hc:vT s[i]=true:=Yp.1 hd _ (List.getElem_mem hi)
   obtain⟨_,hc2⟩:=qlq hc
   have hc1:48<=s[i].toNat:=by
    unfold vT at hc
    rw[Bool.and_eq_true,decide_eq_true_eq]at hc
    exact hc.1
   have hv:=qer (s.take i) 0 (Yp.2 fun x hx=>Yp.1 hd x (List.mem_of_mem_take hx))
   have hp:(10:Nat)^(s.take i).length<=10^17:=Nat.pow_le_pow_right (by omega) (by rw[Ym];omega)
   have hp2:(10:Nat)^17=100000000000000000:=rfl
   rw[if_pos (by omega),qz,Ya hi,ZB,qh (n:=10*((qN 0 (s.take i):Nat):Int)) (by omega) (by omega),qh (n:=(s[i].toNat:Int)) (by omega) (by omega),qh (n:=10*((qN 0 (s.take i):Nat):Int)+(s[i].toNat:Int)) (by omega) (by omega),qh (by omega) (by omega),zK (by omega)]
   have e:10*((qN 0 (s.take i):Nat):Int)+(s[i].toNat:Int)-48=((qN 0 (s.take (i+1)):Nat):Int):=by rw[ht,qf3];omega
   rw[e]
   exact qjG hd hl K (i+1) (by omega) (by omega)
  rw[if_neg (by omega),List.take_of_length_le (by omega)]
theorem qeW {N:Nat} (hN:100<N) {s:Str} (hd:s.all vT=true) (hl:s.length<=18):yX N s=some ((qN 0 s:Nat):Int):=by
 have e:=qjG hd hl N 0 (by omega) (by omega)
 have e:vz s N 0 0=_:=e
 unfold yX
 rw[e,ZB]
theorem qhk {s:Str} (h:s.all vT=true) (k:Nat):(s.take k).all vT=true:=Yp.2 fun x hx=>Yp.1 h x (List.mem_of_mem_take hx)
theorem qg7 {s:Str} (h:s.all vT=true) (k:Nat):(s.drop k).all vT=true:=Yp.2 fun x hx=>Yp.1 h x (List.mem_of_mem_drop hx)
theorem qkm {N:Nat} (hN:100<N): ∀(K:Nat) (l:List Int) (s:Str),s.all vT=true->l.length+s.length<=90000->s.length<K->Dg E9 l->
 ∃l' s',yg N K l s=some (l',s')/\s'.length<=9/\s'.all vT=true/\Dg E9 l'/\l'.length<=90000/\dv E9 l'+E9^l'.length*(qN 0 s':Nat)=dv E9 l+E9^l.length*(qN 0 s:Nat)
 |0,l,s,_,_,h,_=>by omega
 |K+1,l,s,hd,hl,h,hg=>by
  rw[yg]
  by_cases c:s.length>9
  ·have lu:(s.drop (s.length-9)).length=9:=by rw[YJ];omega
   have hv:=qeW (N:=N) hN (qg7 hd (s.length-9)) (by omega)
   have hv2:=qer _ 0 (qg7 hd (s.length-9))
   rw[lu]at hv2
   rw[if_pos (by omega),show w64 ((s.length:Int)-9)=((s.length-9:Nat):Int)by rw[qh (by omega) (by omega)];omega,xC (by omega),ZB,hv,ZB,qcw (by simp;omega) (by simp;omega),ZB,yR (by omega),ZB]
   obtain⟨l',s',f1,f2,f3,f4,f5,f6⟩:=qkm hN K (l++[((qN 0 (s.drop (s.length-9)):Nat):Int)]) (s.take (s.length-9)) (qhk hd _) (by simp;omega) (by rw[Ym];omega) (hg.append (Dg.cons ⟨by omega,show((qN 0 (s.drop (s.length-9)):Nat):Int)<1000000000 by omega⟩ Dg.nil))
   refine⟨l',s',f1,f2,f3,f4,f5,?_⟩
   rw[f6,qes,Yq,List.length_singleton,Int.pow_succ,Int.mul_assoc]
   have e:qN 0 s=qN 0 (s.take (s.length-9))*1000000000+qN 0 (s.drop (s.length-9)):=by
    have:=qdW (s.take (s.length-9)) (s.drop (s.length-9))
    rw[YS,lu]at this
    exact this
   have e2:((qN 0 s:Nat):Int)=((qN 0 (s.drop (s.length-9)):Nat):Int)+E9*((qN 0 (s.take (s.length-9)):Nat):Int):=by
    have h4:E9*((qN 0 (s.take (s.length-9)):Nat):Int)=1000000000*((qN 0 (s.take (s.length-9)):Nat):Int):=rfl
    omega
   rw[e2,Int.mul_add]
   omega
  rw[if_neg (by omega)]
  exact⟨l,s,rfl,by omega,hd,hg,by omega,rfl⟩
def sgn (s:Str):Bool:=decide (s[0]? =some 45)
def bdy (s:Str):Str:=if sgn s=true then s.drop 1 else s
theorem qeZ (s:Str):(if(s.length:Int)>0 then(idx s 0).bind fun c=>some (decide ((c.toNat:Int)=45))else some false:Option Bool)=some (sgn s):=by
 unfold sgn
 cases s with
 |nil=>rfl
 |cons c t=>
  rw[if_pos (by simp),qbF]
  have e:((c.toNat:Int)=45)↔(some c=some (45:UInt8)):=⟨fun h=>congrArg some (UInt8.toNat_inj.1 (show c.toNat=45 by omega)),fun h=>by rw[Ye h];rfl⟩
  simp only[Yj,ZB]
  congr 1
  exact decide_eq_decide.2 e
theorem qkV (s:Str):(if sgn s=true then(cut s 1 (s.length:Int)).bind fun x=>some x else some s:Option Str)=some (bdy s):=by
 unfold bdy
 cases h:sgn s with
 |false=>rw[if_neg (by simp),if_neg (by simp)]
 |true=>
  have hl:1<=s.length:=by
   cases s with
   |nil=>simp[sgn]at h
   |cons=>simp
  have:=xC hl
  have e:cut s 1 (s.length:Int)=some (s.drop 1):=this
  rw[if_pos rfl,if_pos rfl,e,ZB]
def qiH (s:Str):Int:=if sgn s=true then-((qN 0 (bdy s):Nat):Int)else((qN 0 (bdy s):Nat):Int)
theorem qhn {N:Nat} (hN:100000<N) {s:Str} (hd:(bdy s).all vT=true) (hl:(bdy s).length<=80000):xQ N s=some (rI (qiH s)):=by
 unfold xQ
 rw[qeZ,ZB,qkV,ZB]
 obtain⟨l,t,f1,f2,f3,f4,f5,f6⟩:=qkm (N:=N) (by omega) N [] (bdy s) hd (by simp;omega) (by omega) Dg.nil
 have hv:=qeW (N:=N) (by omega) f3 (by omega)
 have hv2:=qer _ 0 f3
 have hp:(10:Nat)^t.length<=10^9:=Nat.pow_le_pow_right (by omega) f2
 rw[f1,ZB]
 simp only
 have hg:=f4.append (r:=[((qN 0 t:Nat):Int)]) (Dg.cons ⟨by omega,show((qN 0 t:Nat):Int)<1000000000 by omega⟩ Dg.nil)
 rw[hv,ZB,qcw (by simp;omega) (by simp;omega),ZB,vW _ hg (by simp;omega) (by simp;omega),ZB,qes,f6]
 simp only[kz,List.length_nil,Int.pow_zero,Int.one_mul,Int.zero_add]
 rfl
theorem qhE (z:Int):sgn (Lib.itoa z)=decide (z<0):=by
 unfold sgn
 by_cases h:z<0
 ·rw[vV h,decide_eq_true h];rfl
 rw[je h,decide_eq_false h]
 refine decide_eq_false fun e=>?_
 have hm:(45:UInt8)∈Lib.decDigits z.natAbs:=Yn e
 have:=Yp.1 (qaT z.natAbs) _ hm
 exact absurd this (by decide)
theorem qb3 (z:Int):bdy (Lib.itoa z)=Lib.decDigits z.natAbs:=by
 unfold bdy
 rw[qhE]
 by_cases h:z<0
 ·rw[decide_eq_true h,if_pos rfl,vV h];rfl
 rw[decide_eq_false h,if_neg (by simp),je h]
theorem qcK (z:Int):qiH (Lib.itoa z)=z:=by
 unfold qiH
 rw[qhE,qb3,qcb]
 by_cases h:z<0
 ·rw[decide_eq_true h,if_pos rfl];omega
 rw[decide_eq_false h,if_neg (by simp)];omega
def slA:Str->Nat
 |[]=>0
 |c::s=>if c=47 then 0 else slA s+1
theorem qfQ: ∀s:Str,slA s<=s.length
 |[]=>Nat.le_refl _
 |c::s=>by
  rw[slA,Yr]
  have:=qfQ s
  split<;>omega
theorem qj8 {s:Str} (hl:s.length<=1000000): ∀(K i:Nat),i<=s.length->s.length<K+i->ve s K (i:Int)=some (if i+slA (s.drop i)<s.length then .inr ((i+slA (s.drop i):Nat):Int)else .inl ())
 |0,i,h,hK=>by omega
 |K+1,i,h,hK=>by
  rw[ve]
  by_cases hi:i<s.length
  ·have hd:s.drop i=s[i]::s.drop (i+1):=YG hi
   rw[if_pos (by omega),qz,Ya hi,ZB,hd,slA]
   by_cases c:s[i]=47
   ·rw[if_pos c,if_pos (by rw[c];rfl),Nat.add_zero,if_pos hi]
   rw[if_neg c,if_neg (fun e=>c (UInt8.toNat_inj.1 (show s[i].toNat=47 by omega))),zK (by omega),qj8 hl K (i+1) (by omega) (by omega),show i+1+slA (s.drop (i+1))=i+(slA (s.drop (i+1))+1)by omega]
  rw[if_neg (by omega),List.drop_of_length_le (by omega),if_neg (by omega)]
theorem qb1 {N:Nat} {s:Str} (hl:s.length<=1000000) (hN:s.length<N):vM N s=some (slA s:Int):=by
 have e:=qj8 hl N 0 (by omega) (by omega)
 have e:ve s N 0=_:=e
 have h:=qfQ s
 unfold vM
 rw[e,YR,Nat.zero_add]
 by_cases c:slA s<s.length
 ·rw[if_pos c];rfl
 rw[if_neg c]
 have:slA s=s.length:=by omega
 rw[this]
 rfl
theorem qiQ: ∀(s t:Str),(∀c∈s,c≠47)->slA (s++47::t)=s.length/\slA s=s.length
 |[],t,_=>⟨by simp[slA],rfl⟩
 |c::s,t,h=>by
  have h1:=qiQ s t fun x hx=>h x (List.mem_cons_of_mem _ hx)
  rw[List.cons_append,slA,slA,if_neg (h c (List.mem_cons_self ..)),if_neg (h c (List.mem_cons_self ..)),h1.1,h1.2]
  exact⟨rfl,rfl⟩
end Go.Av
end
section
namespace Go.Av
theorem and1 {n:Nat} (h:n<4611686018427387904):qA .i64 (n:Int) 1=((n%2:Nat):Int):=by
 show IntKind.wrap .i64 _=_
 have e:(BitVec.ofInt IntKind.i64.bits (n:Int)&&&BitVec.ofInt IntKind.i64.bits 1).toNat=n%2:=by
  rw[BitVec.toNat_and]
  show(BitVec.ofInt 64 (n:Int)).toNat&&&(BitVec.ofInt 64 1).toNat=_
  rw[qbR (by omega) (by omega),qbR (by omega) (by omega)]
  exact Nat.and_one_is_mod n
 rw[e]
 show w64 _=_
 exact qh (by omega) (by omega)
theorem shr1 (n:Nat):qx .i64 (n:Int) 1=((n/2:Nat):Int):=by
 show(n:Int).fdiv 2=_
 rw[Int.fdiv_eq_ediv_of_nonneg _ (by decide)]
 omega
theorem qnj {N:Nat} (hN:11000<N): ∀(K n:Nat) (b acc:qd) (x y:Int) (mb ma:Nat),n<100000->n<K->IsZ b x->IsZ acc y->Fit x mb->Fit y ma->ma+mb*n<=3900->
 ∃r,vD N K b.s b.w acc.s acc.w (n:Int)=some (r.s,r.w)/\IsZ r (y*x^n)
 |0,n,_,_,_,_,_,_,_,h,_,_,_,_,_=>by omega
 |K+1,n,b,acc,x,y,mb,ma,hn,hK,hb,hacc,fx,fy,hm=>by
  rw[vD]
  by_cases h0:n=0
  ·subst h0
   rw[if_neg (by omega)]
   exact⟨acc,rfl,by simpa using hacc⟩
  have hmb:mb<=mb*n:=Nat.le_mul_of_pos_right _ (by omega)
  obtain⟨m,r,hr,hmr⟩: ∃m r,r<2/\n=2*m+r:=⟨n/2,n%2,by omega,by omega⟩
  have emb:mb*n=mb*m+mb*m+mb*r:=by rw[hmr,Nat.mul_add,<-Nat.mul_assoc,Nat.mul_comm mb 2,Nat.two_mul,Nat.add_mul]
  have S1: ∃(a2:qd) (m2:Nat),(if(qA .i64 (n:Int) 1)=1 then(qD N (⟨acc.s,acc.w⟩:qd) (⟨b.s,b.w⟩:qd)).bind fun r20=>some (r20.s,r20.w)else some (acc.s,acc.w):Option (Int×(List Int)))=some (a2.s,a2.w)/\IsZ a2 (y*x^r)/\Fit (y*x^r) m2/\m2=ma+mb*r:=by
   rw[and1 (by omega),show n%2=r by omega]
   rcases(show r=0\/r=1 by omega)with e|e<;>subst e
   ·rw[if_neg (by simp)]
    exact⟨acc,ma,rfl,by simpa using hacc,by simpa using fy,by simp⟩
   obtain⟨p,e1,h1⟩:=qcx hN hacc hb (fy.mono (by omega)) (fx.mono (by omega))
   have e1:qD N (⟨acc.s,acc.w⟩:qd) (⟨b.s,b.w⟩:qd)=some p:=e1
   rw[if_pos (by simp),e1,ZB]
   exact⟨p,ma+mb,rfl,by rw[Int.pow_one];exact h1,by rw[Int.pow_one];exact yz fy fx,by simp⟩
  obtain⟨a2,m2,e1,h1,f1,em2⟩:=S1
  have S2: ∃(b2:qd) (x2:Int) (m3:Nat),(if(n:Int)>1 then(qD N (⟨b.s,b.w⟩:qd) (⟨b.s,b.w⟩:qd)).bind fun r22=>some (r22.s,r22.w,a2.s,a2.w)else some (b.s,b.w,a2.s,a2.w):Option (Int×(List Int)×Int×(List Int)))=some (b2.s,b2.w,a2.s,a2.w)/\IsZ b2 x2/\Fit x2 m3/\m3*m=mb*m+mb*m/\x2^m=(x*x)^m:=by
   by_cases c:(n:Int)>1
   ·have hm1:1<=m:=by omega
    have h3:mb<=mb*m:=Nat.le_mul_of_pos_right _ hm1
    obtain⟨p,e2,h2⟩:=qcx hN hb hb (fx.mono (by omega)) (fx.mono (by omega))
    have e2:qD N (⟨b.s,b.w⟩:qd) (⟨b.s,b.w⟩:qd)=some p:=e2
    rw[if_pos c,e2,ZB]
    exact⟨p,x*x,mb+mb,rfl,h2,yz fx fx,Nat.add_mul _ _ _,rfl⟩
   have hm0:m=0:=by omega
   subst hm0
   rw[if_neg c]
   exact⟨b,x,mb,rfl,hb,fx,by simp,by simp⟩
  obtain⟨b2,x2,m3,e2,h2,f2,em3,ex⟩:=S2
  have S:((if(qA .i64 (n:Int) 1)=1 then(qD N (⟨acc.s,acc.w⟩:qd) (⟨b.s,b.w⟩:qd)).bind fun r20=>some (r20.s,r20.w)else some (acc.s,acc.w):Option (Int×(List Int)))).bind (fun(n16,l17)=>
   if(n:Int)>1 then(qD N (⟨b.s,b.w⟩:qd) (⟨b.s,b.w⟩:qd)).bind fun r22=>some (r22.s,r22.w,n16,l17)else some (b.s,b.w,n16,l17))=some (b2.s,b2.w,a2.s,a2.w):=by
   rw[e1,ZB]
   exact e2
  obtain⟨r',e3,h3⟩:=qnj hN K m b2 a2 x2 (y*x^r) m3 m2 (by omega) (by omega) h2 h1 f2 f1 (by omega)
  rw[if_pos (by omega),S,ZB]
  simp only
  rw[shr1,show n/2=m by omega]
  refine⟨r',e3,?_⟩
  have hx2:x*x=x^2:=by rw[Int.pow_succ,Int.pow_succ,Int.pow_zero,Int.one_mul]
  rw[ex,Int.mul_assoc,hx2,<-Int.pow_mul,<-Int.pow_add,show r+2*m=n by omega]at h3
  exact h3
theorem qqg {N:Nat} (hN:110000<N) {b:qd} {x:Int} {n mb:Nat} (hn:n<100000) (hb:IsZ b x) (fx:Fit x mb) (hm:1+mb*n<=3900): ∃r,qbA N b (n:Int)=some r/\IsZ r (x^n):=by
 obtain⟨r,e,h⟩:=qnj (N:=N) (by omega) N n b ⟨1,[]⟩ x 1 mb 1 hn (by omega) hb (Ud (by decide) (by decide)) fx (F1 (by omega)) hm
 have e:vD N N b.s b.w 1 [] (n:Int)=some (r.s,r.w):=e
 unfold qbA
 rw[qh1,ZB]
 simp only
 rw[e,ZB]
 exact⟨r,rfl,by rw[Int.one_mul]at h;exact h⟩
theorem qft {z:Int} {p n:Nat} (h:(z.natAbs:Int)<((10^p:Nat):Int)) (hp:p<=19*n):Fit z n:=by
 have h1:(10:Nat)^p<=10^(19*n):=Nat.pow_le_pow_right (by omega) hp
 have h2:((10^(19*n):Nat):Int)<=W^n:=by
  rw[Nat.pow_mul]
  have:=(qcC (x:=10000000000000000000) (y:=W) (by decide) (by decide) n).2
  rw[Int.natCast_pow]
  exact this
 unfold Fit
 omega
theorem qbX (s:Str):strings_HasPrefix s [45]=some (sgn s):=by
 unfold strings_HasPrefix stringslite_HasPrefix sgn
 cases s with
 |nil=>rfl
 |cons c t=>
  rw[if_pos (by simp;omega)]
  have e:cut (c::t) 0 (([45]:Str).length:Int)=some [c]:=yR (l:=c::t) (k:=1) (by simp)
  rw[e]
  simp only[ZB,Yj]
  congr 1
  rw[Bool.eq_iff_iff,beq_iff_eq,decide_eq_true_eq]
  constructor
  ·intro h;injection h with h;rw[h]
  intro h;rw[Ye h]
theorem qjk {s:Str} (h:sgn s=true):1<=s.length:=by
 cases s with
 |nil=>simp[sgn]at h
 |cons=>simp
theorem qey (s:Str):strings_TrimPrefix s [45]=some (bdy s):=by
 unfold strings_TrimPrefix stringslite_TrimPrefix
 have e:stringslite_HasPrefix s [45]=some (sgn s):=by
  have:=qbX s
  unfold strings_HasPrefix at this
  cases h:stringslite_HasPrefix s [45]with
  |none=>rw[h]at this;cases this
  |some b=>rw[h]at this;exact this
 rw[e,ZB]
 unfold bdy
 cases h:sgn s with
 |false=>rw[if_neg (by simp),if_neg (by simp),ZB]
 |true=>
  have e2:cut s (([45]:Str).length:Int) (s.length:Int)=some (s.drop 1):=xC (qjk h)
  rw[if_pos rfl,if_pos rfl,e2,ZB,ZB]
theorem qiK (s:Str):strings_CutPrefix s [45]=some (bdy s,sgn s):=by
 unfold strings_CutPrefix stringslite_CutPrefix
 have e:stringslite_HasPrefix s [45]=some (sgn s):=by
  have:=qbX s
  unfold strings_HasPrefix at this
  cases h:stringslite_HasPrefix s [45]with
  |none=>rw[h]at this;cases this
  |some b=>rw[h]at this;exact this
 rw[e,ZB]
 unfold bdy
 cases h:sgn s with
 |false=>rw[if_pos (by simp),if_neg (by simp),ZB]
 |true=>
  have e2:cut s (([45]:Str).length:Int) (s.length:Int)=some (s.drop 1):=xC (qjk h)
  rw[if_neg (by simp),if_pos rfl,e2,ZB,ZB]
theorem qlE {N:Nat} (hN:600000<N): ∀(K:Nat) (x:qd) (y:Int) (s:Str) (p:Nat),IsZ x y->0<=y->y<((10^p:Nat):Int)->p+s.length<=19000->s.all vT=true->s.length<K->
 ∃r,y9 N K x.s x.w s=some (r.s,r.w)/\IsZ r (y*((10^s.length:Nat):Int)+(qN 0 s:Nat))
 |0,_,_,_,_,_,_,_,_,_,h=>by omega
 |K+1,x,y,s,p,hx,y0,y1,hp,hd,hK=>by
  rw[y9]
  by_cases h0:s.length=0
  ·rw[if_neg (by omega)]
   have:s=[]:=YL.1 h0
   subst this
   exact⟨x,rfl,by simpa[qbY]using hx⟩
  rw[if_pos (by omega)]
  obtain⟨g,hg,hg0,hgl,hg18⟩: ∃g:Nat,(if(s.length:Int)<18 then(s.length:Int)else 18)=(g:Int)/\0<g/\g<=s.length/\g<=18:=by
   by_cases c:(s.length:Int)<18
   ·exact⟨s.length,by rw[if_pos c],by omega,by omega,by omega⟩
   exact⟨18,by rw[if_neg c];rfl,by omega,by omega,by omega⟩
  have lt:(s.take g).length=g:=by rw[Ym];omega
  have ea:=qkx (s:=s.take g) (by omega) (qhk hd g)
  have et:qjA (s.take g)=some (((qN 0 (s.take g):Nat):Int),()):=by
   unfold qjA
   rw[if_pos (by omega),ea]
   rfl
  have hv:=qer (s.take g) 0 (qhk hd g)
  rw[lt]at hv
  have hp18:(10:Nat)^g<=10^18:=Nat.pow_le_pow_right (by omega) hg18
  have h18:(10:Nat)^18=1000000000000000000:=rfl
  rw[hg,yR hgl,ZB,et,ZB,qh1,ZB]
  obtain⟨r1,e1,h1⟩:=qqg (N:=N) (by omega) (b:=⟨10,[]⟩) (x:=10) (n:=g) (mb:=1) (by omega) (Ud (by decide) (by decide)) (qft (p:=2) (by decide) (by omega)) (by omega)
  have ep:(10:Int)^g=((10^g:Nat):Int):=by rw[Int.natCast_pow];rfl
  rw[ep]at h1
  have fg:Fit ((10^g:Nat):Int) 1000:=qft (p:=19) (by
   rw[Int.natAbs_natCast]
   have h19:(10:Nat)^19=10000000000000000000:=rfl
   omega) (by omega)
  have fy:Fit y 1000:=qft (p:=p) (by omega) (by omega)
  have hpos:0<10^g:=Nat.pow_pos (by decide)
  have yg0:0<=y*((10^g:Nat):Int):=Yv y0 (by omega)
  have yg1:(y+1)*((10^g:Nat):Int)<=((10^(p+g):Nat):Int):=by
   rw[Nat.pow_add,Int.natCast_mul]
   exact Int.mul_le_mul_of_nonneg_right (by omega) (by omega)
  rw[Int.add_mul,Int.one_mul]at yg1
  obtain⟨r2,e2,h2⟩:=qcx (N:=N) (by omega) hx h1 (fy.mono (by omega)) (fg.mono (by omega))
  have e2:qD N (⟨x.s,x.w⟩:qd) r1=some r2:=e2
  have hd2:IsZ ⟨((qN 0 (s.take g):Nat):Int),[]⟩ ((qN 0 (s.take g):Nat):Int):=Ud (by omega) (by omega)
  obtain⟨r3,e3,h3⟩:=qhu (N:=N) (by omega) h2 hd2 (qft (p:=p+g) (by omega) (by omega)) (qft (p:=19) (by
   rw[Int.natAbs_natCast]
   have h19:(10:Nat)^19=10000000000000000000:=rfl
   omega) (by omega))
  rw[e1,ZB,e2,ZB,qh1,ZB,e3,ZB,xC hgl,ZB]
  have ld:(s.drop g).length=s.length-g:=by rw[YJ]
  obtain⟨r,e4,h4⟩:=qlE hN K r3 _ (s.drop g) (p+g) h3 (by omega) (by omega) (by omega) (qg7 hd g) (by omega)
  refine⟨r,e4,?_⟩
  have e5:=qdW (s.take g) (s.drop g)
  rw[YS]at e5
  have e6:(10:Nat)^s.length=10^g*10^(s.drop g).length:=by rw[<-Nat.pow_add,ld];congr 1;omega
  rw[e5,e6]
  rw[Int.add_mul]at h4
  rw[Int.natCast_mul,Int.natCast_add,Int.natCast_mul,<-Int.mul_assoc,<-Int.add_assoc]
  exact h4
theorem qgl {N:Nat} (hN:600000<N) {s:Str} (hd:(bdy s).all vT=true) (hl:(bdy s).length<=19000): ∃r,qa1 N s=some r/\IsZ r (qiH s):=by
 obtain⟨r,e,h⟩:=qlE hN N ⟨0,[]⟩ 0 (bdy s) 0 (Ud (by decide) (by decide)) (by omega) (by decide) (by omega) hd (by omega)
 have e:y9 N N 0 [] (bdy s)=some (r.s,r.w):=e
 rw[Int.zero_mul,Int.zero_add]at h
 unfold qa1
 rw[qbX,ZB,qey,ZB,e,ZB]
 unfold qiH
 cases hs:sgn s with
 |false=>
  rw[if_neg (by simp)]
  exact⟨r,rfl,by simpa using h⟩
 |true=>
  obtain⟨r2,e2,h2⟩:=qfX h
  have e2:zy (⟨r.s,r.w⟩:qd)=some r2:=e2
  simp only[if_true]
  rw[e2]
  exact⟨r2,rfl,h2⟩
end Go.Av
end
section
namespace Go.Av
theorem qlH: ∀n:Nat,Lib.repeatL [48] n=List.replicate n 48
 |0=>rfl
 |n+1=>by rw[Lib.repeatL,qlH,List.replicate_succ];rfl
theorem qif: ∀k:Nat,qdD k 0=List.replicate k 48
 |0=>rfl
 |k+1=>by
  rw[qdD,Nat.zero_div,qif k,List.replicate_succ']
  rfl
theorem qjE: ∀(k n:Nat),n<10^(k+1)->qdD (k+1) n=List.replicate (k+1-(Lib.decDigits n).length) 48++Lib.decDigits n
 |0,n,h=>by
  have h:n<10:=by simpa using h
  rw[jd h,qdD,qdD,Nat.mod_eq_of_lt h]
  rfl
 |k+1,n,h=>by
  rw[qdD]
  by_cases c:n<10
  ·rw[jd c,Nat.div_eq_of_lt c,qif,Nat.mod_eq_of_lt c]
   rfl
  rw[Nat.pow_succ]at h
  rw[qjE k (n/10) (by omega),qeV c,Yz,Yq,List.length_singleton,show k+1+1-((Lib.decDigits (n/10)).length+1)=k+1-(Lib.decDigits (n/10)).length by omega]
theorem qfP (n:Nat):Lib.itoa (n:Int)=Lib.decDigits n:=by rw[je (by omega),Int.natAbs_natCast]
theorem qmX {r:Nat} (h:r<1000000000000000000) (c: ¬r=0):dg W (r:Int)=[(r:Int)]:=by
 rw[qiU (by omega) (by unfold W;omega)]
theorem qow {r:Nat} (h:r<1000000000000000000):qhF (r:Int) 10=some (Lib.decDigits r):=by
 unfold qhF
 rw[if_pos ⟨by omega,by omega,rfl⟩,qfP]
theorem qnS:(if((dg W ((0:Nat):Int)).length:Int)>0 then(idx (dg W ((0:Nat):Int)) 0).bind fun x13=>(qhF x13 10).bind fun r14=>some r14 else some [48]:Option Str)=some (Lib.decDigits 0):=by
 rw[show((0:Nat):Int)=0 from rfl,qc9,if_neg (by simp),jd (by decide)]
 rfl
theorem qpo {r:Nat} (h:r<1000000000000000000):(if((dg W (r:Int)).length:Int)>0 then(idx (dg W (r:Int)) 0).bind fun x13=>(qhF x13 10).bind fun r14=>some r14 else some [48]:Option Str)=some (Lib.decDigits r):=by
 by_cases c:r=0
 ·rw[c]
  exact qnS
 rw[qmX h c,if_pos (show((([(r:Int)]:List Int).length:Nat):Int)>0 from by rw[List.length_singleton];decide),qbF,Yj,ZB,qow h]
 rfl
theorem p18:(10:Nat)^18=1000000000000000000:=rfl
theorem qpt {q r:Nat} (h:r<1000000000000000000): ∃t:Str,(if((dg W (q:Int)).length:Int)>0 then(qel [48] (w64 (18-((Lib.decDigits r).length:Int)))).bind fun r18=>(cat r18 (Lib.decDigits r)).bind fun s19=>some s19 else some (Lib.decDigits r):Option Str)=some t/\0<t.length/\Lib.decDigits (1000000000000000000*q+r)=(if q=0 then[]else Lib.decDigits q)++t:=by
 have hr:r<10^18:=by rw[p18];exact h
 have lD:(Lib.decDigits r).length<=18:=(xI (by decide)).2 hr
 have lD0:=qfR r
 by_cases c:q=0
 ·subst c
  rw[show((0:Nat):Int)=0 from rfl,qc9,if_neg (by simp),if_pos rfl,Nat.mul_zero,Nat.zero_add]
  exact⟨_,rfl,lD0,rfl⟩
 have hne:dg W (q:Int)≠[]:=fun e=>by have:=(qgM W1 (by omega)).1 e;omega
 have hlen:0<(dg W (q:Int)).length:=List.length_pos_iff.2 hne
 have et:qel [48] (w64 (18-((Lib.decDigits r).length:Int)))=some (List.replicate (18-(Lib.decDigits r).length) 48):=by
  rw[qh (by omega) (by omega)]
  unfold qel
  rw[if_pos ⟨by omega,by omega,by simp;omega⟩,qlH]
  congr 2
  omega
 have hp:=qjE 17 r hr
 have hl:(qdD (17+1) r).length=18:=qgK _ _
 have hs:=qhN 18 (1000000000000000000*q+r)
 rw[p18,Nat.mul_add_div (by omega),Nat.div_eq_of_lt h,Nat.add_zero,Nat.mul_add_mod,Nat.mod_eq_of_lt h]at hs
 rw[if_pos (by omega),et,ZB,qbi (by simp;omega),ZB,<-hp,if_neg c]
 exact⟨_,rfl,by omega,hs (by omega)⟩
theorem qpX {N:Nat} (hN:600000<N) (B:Nat) (hB:B<=3900) (K:Nat): ∀(k m:Nat) (l:List Str),m<10^(18*k)->k<K->k+l.length<=100000->Fit (m:Int) B->(∀t∈l,0<t.length)->
 ∃l',jk N K l (dg W (m:Int))=some l'/\(∀t∈l',0<t.length)/\l'.length<=k+l.length/\l'.reverse.flatten=(if m=0 then[]else Lib.decDigits m)++l.reverse.flatten:=by
 induction K with
 |zero=>intro k m l _ h;omega
 |succ K ih=>
  intro k m l hm hK hl fm hp
  rw[jk]
  by_cases h0:m=0
  ·subst h0
   rw[show((0:Nat):Int)=0 from rfl,qc9,if_neg (by simp),if_pos rfl]
   exact⟨l,rfl,hp,by omega,rfl⟩
  obtain⟨j,hj⟩: ∃j,k=j+1:=⟨k-1,by
   rcases Nat.eq_zero_or_pos k with e|e
   ·subst e;simp at hm;omega
   omega⟩
  rw[hj]at hm hK hl
  have hm0:(0:Int)<=(m:Int):=by omega
  have hne:dg W (m:Int)≠[]:=fun e=>by have:=(qgM W1 hm0).1 e;omega
  have hlen:0<(dg W (m:Int)).length:=List.length_pos_iff.2 hne
  have ln:(dg W (m:Int)).length<=3900:=Nat.le_trans fm.len hB
  have cB:Can W [1000000000000000000]:=by
   have:=zC W1 (show(0:Int)<=1000000000000000000 by decide)
   rw[qiU (by decide) (by decide)]at this
   exact this
  have vB:dv W [1000000000000000000]=1000000000000000000:=by rw[zw,kz,Int.mul_zero,Int.add_zero]
  have ed:=qiD (N:=N) (by omega) (zC W1 hm0) cB (by omega) (by rw[vB];decide)
  rw[vB,jm W1 hm0]at ed
  obtain⟨q,r,hq,hr⟩: ∃q r,m=1000000000000000000*q+r/\r<1000000000000000000:=⟨m/1000000000000000000,m%1000000000000000000,by omega,by omega⟩
  have eq:(m:Int)/1000000000000000000=(q:Int):=by omega
  have er:(m:Int)%1000000000000000000=(r:Int):=by omega
  rw[eq,er]at ed
  obtain⟨t,et,t0,eD⟩:=qpt (q:=q) hr
  rw[<-hq]at eD
  rw[if_pos (by omega),ed,ZB]
  simp only
  rw[qpo hr,ZB,et,ZB,qcw (by simp;omega) (by simp;omega),ZB]
  have hk:q<10^(18*j):=by
   rw[Nat.mul_succ,Nat.pow_add,p18,Nat.mul_comm]at hm
   refine Nat.lt_of_mul_lt_mul_left (a:=1000000000000000000) ?_
   omega
  obtain⟨l',f1,f2,f3,f4⟩:=ih j q (l++[t]) hk (by omega) (by simp;omega) (qa2 (by omega) fm) (fun u hu=>by
   rcases List.mem_append.1 hu with hu|hu
   ·exact hp u hu
   rw[List.mem_singleton.1 hu];exact t0)
  refine⟨l',f1,f2,by simp at f3;omega,?_⟩
  rw[f4,if_neg h0,eD,List.reverse_append,List.flatten_append,Yz]
  simp
def byN (s:Str):List Int:=s.map fun x=>(x.toNat:Int)
theorem qgG (s:Str):(byN s).length=s.length:=by unfold byN;rw[List.length_map]
theorem qoK {l:List Str} (hp: ∀t∈l,0<t.length) (hl:l.length<=100000): ∀(K i:Nat) (o:Option (List Int)),i<=l.length->i<K->(hof o).length+(l.take i).flatten.length<=1000000000->
 ∃o',zq l K o.isSome o ((i:Int)-1)=some (o'.isSome,o')/\hof o'=hof o++byN (l.take i).reverse.flatten
 |0,i,o,_,h,_=>by omega
 |K+1,0,o,hi,h,hb=>by
  rw[zq,if_neg (by omega)]
  exact⟨o,rfl,by simp[byN]⟩
 |K+1,i+1,o,hi,h,hb=>by
  have hil:i<l.length:=by omega
  have ei:((i+1:Nat):Int)-1=(i:Int):=by omega
  have ht:l.take (i+1)=l.take i++[l[i]]:=List.take_succ_eq_append_getElem hil
  have h1:=hp l[i] (List.getElem_mem hil)
  rw[ht,List.flatten_append,Yq]at hb
  simp only[List.flatten_cons,List.flatten_nil,YQ]at hb
  have ew:bWr o.isSome o l[i]=some (hof o++byN l[i]):=by
   unfold bWr
   rw[if_pos ⟨rfl,by omega,h1⟩]
   rfl
  rw[zq,ei,if_pos (by omega),qz,Ya hil,ZB,ew,ZB,qh (by omega) (by omega)]
  obtain⟨o',f1,f2⟩:=qoK hp hl K i (some (hof o++byN l[i])) (by omega) (by omega) (by
   show(hof o++byN l[i]).length+_<=_
   rw[Yq,qgG];omega)
  refine⟨o',f1,?_⟩
  rw[f2,ht,List.reverse_append,List.flatten_append]
  show hof o++byN l[i]++_=_
  rw[Yz]
  unfold byN
  simp
theorem qoQ (s:Str):(byN s).map (fun n=>UInt8.ofNat n.toNat)=s:=by
 unfold byN
 rw[List.map_map]
 conv=>rhs;rw[<-List.map_id s]
 refine List.map_congr_left fun x _=>?_
 show UInt8.ofNat ((x.toNat:Int)).toNat=x
 rw[Int.toNat_natCast,UInt8.ofNat_toNat]
theorem qoZ (s:Str):(byN s).all (fun n=>decide (0<=n)&&decide (n<256))=true:=by
 unfold byN
 rw[List.all_map,Yp]
 intro x _
 have:x.toNat<256:=x.toNat_lt
 simp
 omega
theorem qiR: ∀l:List Str,l.reverse.flatten.length=l.flatten.length:=fun l=>by
 rw[List.length_flatten,List.length_flatten,List.map_reverse,List.sum_reverse]
theorem qeq {N:Nat} (hN:600000<N) {x:qd} {z:Int} (h:IsZ x z) (fz:Fit z 3900):jV N x=some (Lib.itoa z):=by
 unfold jV
 cases e:x.w.isEmpty with
 |true=>
  obtain⟨h1,h2,h3⟩:=h.emp e
  rw[if_pos rfl,h1]
  unfold qlt
  rw[if_pos ⟨h2,h3⟩,ZB]
 |false=>
  have hz:z.natAbs≠0:=by
   rcases h with⟨hw,_⟩|⟨_,_,h1,_⟩
   ·rw[hw]at e;cases e
   omega
  obtain⟨B8,hB8⟩: ∃B8:Nat,B8=8000:=⟨_,rfl⟩
  have pw:((10^(18*B8):Nat):Int)=(1000000000000000000:Int)^B8:=by
   rw[Nat.pow_mul,Int.natCast_pow]
   rfl
  have hm:z.natAbs<10^(18*B8):=by
   have h1:W^3900<=(1000000000000000000:Int)^B8:=by
    have a1:(1000000000000000000:Int)^B8=((1000000000000000000:Int)^2)^4000:=by rw[<-Int.pow_mul,hB8]
    have a2:W^4000<=((1000000000000000000:Int)^2)^4000:=(qcC (by decide) (by decide) 4000).2
    have a3:W^3900<=W^4000:=yx (by decide) (by decide)
    rw[a1]
    exact Int.le_trans a3 a2
   rw[<-pw]at h1
   unfold Fit at fz
   omega
  obtain⟨l,f1,f2,f3,f4⟩:=qpX hN 3900 (Nat.le_refl _) N B8 z.natAbs [] hm (by omega) (by simp;omega) (by unfold Fit;rw[Int.natAbs_natCast];exact fz) (fun t ht=>by cases ht)
  rw[if_neg hz]at f4
  simp only[List.reverse_nil,List.flatten_nil,YQ,List.length_nil,Nat.add_zero]at f3 f4
  have lD:(Lib.decDigits z.natAbs).length<=18*B8:=(xI (by omega)).2 hm
  have lf:l.flatten.length<=18*B8:=by rw[<-qiR,f4];exact lD
  have lpos:=qfR z.natAbs
  rw[if_neg (by simp),parts_eq h,ZB]
  simp only
  rw[f1,ZB]
  have el:w64 ((l.length:Int)-1)=(l.length:Int)-1:=qh (by omega) (by omega)
  have fin: ∀(o:Option (List Int)) (pre:Str),hof o=byN pre->pre.length<=10->((zq l N o.isSome o (w64 ((l.length:Int)-1))).bind fun(ok30,o31)=>(qmA ok30 o31).bind fun t38=>some t38)=some (pre++Lib.decDigits z.natAbs):=by
   intro o pre ho hpre
   obtain⟨o',g1,g2⟩:=qoK f2 (by omega) N l.length o (Nat.le_refl _) (by omega) (by rw[ho,qgG,List.take_of_length_le (Nat.le_refl _)];omega)
   rw[List.take_of_length_le (Nat.le_refl _),f4,ho]at g2
   have g3:hof o'=byN (pre++Lib.decDigits z.natAbs):=by
    rw[g2]
    unfold byN
    rw[List.map_append]
   have hs:o'.isSome=true:=by
    cases o' with
    |none=>
     have:=congrArg List.length g3
     rw[qgG,Yq]at this
     simp at this
     omega
    |some q=>rfl
   rw[el,g1,ZB]
   simp only
   unfold qmA
   rw[if_pos ⟨hs,by rw[g3,qgG,Yq];omega,by rw[g3];exact qoZ _⟩,g3,qoQ,ZB]
  by_cases c:z<0
  ·have eb:bWr false (none:Option (List Int)) [45]=some [45]:=rfl
   rw[decide_eq_true c,if_pos rfl,eb,ZB,ZB]
   simp only
   have:=fin (some [45]) [45] rfl (by simp)
   rw[vV c]
   exact this
  rw[decide_eq_false c,if_neg (by simp),ZB]
  simp only
  have:=fin none [] rfl (by simp)
  rw[je c]
  exact this
end Go.Av
end
section
namespace Go.Av
theorem qoY {x:qd} {z:Int} (h:IsZ x z) (fz:Fit z 3900): ∃b:Nat,qaQ x=some (b:Int)/\(z.natAbs:Int)<2^b:=by
 unfold qaQ
 rw[parts_eq h,ZB]
 simp only
 have hz:(0:Int)<=(z.natAbs:Int):=by omega
 have cc:=zC W1 hz
 have vv:=jm W1 hz
 have ll:=fz.len
 generalize dg W (z.natAbs:Int)=w at*
 by_cases h0:w.length=0
 ·rw[if_pos (by omega)]
  rw[YL.1 h0,kz]at vv
  exact⟨0,rfl,by rw[<-vv];decide⟩
 have hk:w.length-1<w.length:=by omega
 have ax:=cc.1.at hk
 obtain⟨l,e,hl⟩:=qj2 ax.1 ax.2
 have hl0:0<=l/\l<=64:=by
  rcases hl with⟨_,h⟩|⟨h1,h2,_⟩<;>omega
 have hl2:w[w.length-1]<2^l.toNat:=by
  rcases hl with⟨h1,h2⟩|⟨_,_,_,h⟩
  ·rw[h1,h2];decide
  exact h
 rw[if_neg (by omega),qiI (by omega) (by omega),qz,Ya hk,ZB,e,ZB,qh (n:=64*((w.length-1:Nat):Int)) (by omega) (by omega),qh (by omega) (by omega)]
 refine⟨64*(w.length-1)+l.toNat,by congr 1;omega,?_⟩
 have e1:=qp W w (w.length-1) hk
 rw[List.take_of_length_le (by omega),vv]at e1
 have h1:=yG W0 (cc.1.take (w.length-1))
 rw[Ym,Nat.min_eq_left (by omega)]at h1
 have e2:(2:Int)^(64*(w.length-1)+l.toNat)=W^(w.length-1)*2^l.toNat:=by
  rw[Int.pow_add,Int.pow_mul]
  rfl
 have h2:W^(w.length-1)*(w[w.length-1]+1)<=W^(w.length-1)*2^l.toNat:=Yc (by omega) (Int.le_of_lt (pow_pos W0 _))
 rw[Int.mul_add,Int.mul_one]at h2
 rw[e2]
 omega
theorem pow8: ∀n:Nat,(8:Int)^(n+1)<((10^(n+1):Nat):Int)
 |0=>by decide
 |n+1=>by
  have ih:=pow8 n
  have a1:=pow_pos (show(0:Int)<8 by decide) (n+1)
  rw[Int.pow_succ,Nat.pow_succ,Int.natCast_mul]
  omega
theorem qpP (n:Nat):(2:Int)^(3*n)=(8:Int)^n:=by
 rw[Int.pow_mul]
 rfl
theorem qo2 {n m:Nat} (hm:m=3*(n+1)):(2:Int)^m<((10^(n+1):Nat):Int):=by
 rw[hm,qpP]
 exact pow8 n
def lng (z:Int):Bool:=decide (600<(Lib.decDigits z.natAbs).length)
theorem qlO {N:Nat} (hN:600000<N) {x:qd} {z:Int} (h:IsZ x z) (fz:Fit z 3900):qcI N x=some (lng z):=by
 obtain⟨b,e,hb⟩:=qoY h fz
 unfold qcI
 rw[e,ZB]
 by_cases c:(b:Int)>1800
 ·rw[if_pos c,qeq hN h fz,ZB,qey,qb3,ZB,ZB]
  congr 1
  exact decide_eq_decide.2 (by omega)
 rw[if_neg c,ZB]
 congr 1
 obtain⟨m,hm⟩: ∃m:Nat,m=3*(599+1):=⟨_,rfl⟩
 have h1:(2:Int)^b<=2^m:=yx (by decide) (by omega)
 have h2:=qo2 hm
 have h3:z.natAbs<10^(599+1):=by omega
 have:=(xI (n:=z.natAbs) (k:=599+1) (by decide)).2 h3
 unfold lng
 rw[decide_eq_false (by omega)]
def qkJ (q:Rat):Bool:=lng q.num||lng q.den
theorem qnI {N:Nat} (hN:600000<N) {f:qj} {q:Rat} (h:IsF f q) (fq:vw q 3900):xY N f=some (qkJ q):=by
 unfold xY qkJ
 rw[qlO hN h.1 fq.1,ZB]
 cases lng q.num with
 |true=>rw[if_pos rfl,ZB,Bool.true_or]
 |false=>rw[if_neg (by simp),qlO hN h.2 fq.2,ZB,ZB,Bool.false_or]
def T (q:Rat):Str:=Lib.itoa q.num++(if q.den=1 then[]else 47::Lib.decDigits q.den)
theorem Fit.itoaLen {z:Int} (h:Fit z 3900):(Lib.itoa z).length<=200001:=by
 have h1:(Lib.decDigits z.natAbs).length<=20*10000:=by
  refine(xI (by decide)).2 ?_
  obtain⟨B,hB⟩: ∃B:Nat,B=10000:=⟨_,rfl⟩
  rw[<-hB]
  have h2:W^3900<=W^B:=yx (by decide) (by omega)
  have h3:W^B<=(100000000000000000000:Int)^B:=(qcC (by decide) (by decide) B).2
  have h4:((10^(20*B):Nat):Int)=(100000000000000000000:Int)^B:=by
   rw[Nat.pow_mul,Int.natCast_pow]
   rfl
  unfold Fit at h
  generalize W^3900=p at*
  omega
 by_cases c:z<0
 ·rw[vV c,Yr];omega
 rw[je c];omega
theorem qps {N:Nat} (hN:600000<N) {f:qj} {q:Rat} (h:IsF f q) (fq:vw q 3900):qau N f=some (T q):=by
 unfold qau T
 rw[qeR h,ZB]
 by_cases c:q.den=1
 ·rw[decide_eq_true c,if_pos rfl,qeq hN h.1 fq.1,ZB,if_pos c,YQ]
 have l1:=Fit.itoaLen fq.1
 have l2:=Fit.itoaLen fq.2
 rw[decide_eq_false c,if_neg (by simp),qeq hN h.1 fq.1,ZB,qbi (by simp;omega),ZB,qeq hN h.2 fq.2,ZB,qbi (by simp;omega),ZB,if_neg c,qfP,Yz]
 rfl
theorem qfJ {N:Nat} (hN:600000<N) {f:qj} {q:Rat} (h:IsF f q) (fq:vw q 3900):vK N f=some (if qkJ q=true then([],4)else(T q,0)):=by
 unfold vK
 rw[qnI hN h fq,ZB]
 cases qkJ q with
 |true=>rfl
 |false=>rw[if_neg (by simp),qps hN h fq,ZB,if_neg (by simp)]
theorem qo0 {α:Type} {b:Bool} {x y:α}:zM b x y=if b=true then x else y:=by cases b<;>rfl
theorem qkw: ∀(s:Str) (j:Nat),qh2 47 s j=if slA s<s.length then((j+slA s:Nat):Int)else-1
 |[],j=>rfl
 |c::s,j=>by
  show zM (Nat.beq c.toNat 47) (Int.ofNat j) (qh2 47 s (j+1))=_
  rw[qo0,qkw s (j+1),slA,Yr]
  by_cases h:c=47
  ·subst h
   rw[if_pos (by decide),if_pos rfl,if_pos (by omega)]
   rfl
  have h2:c.toNat≠47:=fun e=>h (UInt8.toNat_inj.1 (by rw[e];rfl))
  rw[if_neg (by rw[qcq h2];simp),if_neg h]
  by_cases c2:slA s<s.length
  ·rw[if_pos c2,if_pos (by omega)]
   congr 1
   omega
  rw[if_neg c2,if_neg (by omega)]
theorem qoL {s:Str}:stringslite_Index s [47]=some (qh2 47 s 0):=by
 unfold stringslite_Index stringslite_IndexByte qi7
 have h0: ¬(([47]:Str).length:Int)=0:=by simp
 have h1:(([47]:Str).length:Int)=1:=by simp
 rw[if_neg h0]
 simp only[ZB]
 by_cases hs:(([47]:Str)==s)=true
 ·have:s=[47]:=(beq_iff_eq.1 hs).symm
  subst this
  rfl
 rw[if_neg hs,if_pos h1,qbF,show([47]:Str)[0]? =some 47 from rfl,ZB,if_pos (by decide)]
 rfl
theorem qnF {s:Str} (hl:s.length<=1000000):strings_Cut s [47]=some (if slA s<s.length then(s.take (slA s),s.drop (slA s+1),true)else(s,[],false)):=by
 have h:=qfQ s
 unfold strings_Cut stringslite_Cut
 rw[qoL,qkw,ZB]
 by_cases c:slA s<s.length
 ·rw[if_pos c,if_pos (by omega),if_pos c,Nat.zero_add,yR h,ZB,show w64 ((slA s:Int)+(([47]:Str).length:Int))=((slA s+1:Nat):Int)from zK (by omega),xC (by omega),ZB,ZB]
 rw[if_neg c,if_neg (by omega),if_neg c,ZB]
theorem qfn {s:Str} (hl:s.length<=1000000):jG s=some (decide (Dec s)):=by
 have hT:qkp s [48,49,50,51,52,53,54,55,56,57]=some (Lib.trimS s [48,49,50,51,52,53,54,55,56,57]):=by
  unfold qkp
  rw[if_pos ⟨hl,by decide,by decide⟩]
 unfold jG
 rw[hT]
 simp only[ZB,qmo]
 cases s with
 |nil=>rfl
 |cons c t=>
  rw[if_pos (by rfl),qbF]
  simp only[Yj,ZB]
  cases hd:(c::t).all vT with
  |false=>
   rw[if_neg (by simp),ZB,decide_eq_false fun h=>by rw[h.2.1]at hd;cases hd]
  |true=>
   rw[if_pos rfl]
   by_cases h:c=48
   ·subst h
    rw[if_neg (by decide),ZB]
    congr 1
    rw[Bool.eq_iff_iff,beq_iff_eq,decide_eq_true_eq]
    exact⟨fun e=>by rw[e];exact ql8 (by decide),fun h=>h.2.2 rfl⟩
   rw[if_pos (by simp[ne48 h]),ZB,decide_eq_true (show Dec (c::t)from⟨by simp,hd,fun e=>absurd (Ye e) h⟩)]
theorem qhX {s:Str} (hl:s.length<=1000000): ∀(K i:Nat),i<=s.length->s.length<K+i->jB s K (i:Int)=some (if(s.drop i).all vT=true then .inl ()else .inr false)
 |0,i,h,hK=>by omega
 |K+1,i,h,hK=>by
  rw[jB]
  by_cases hi:i<s.length
  ·have hd:s.drop i=s[i]::s.drop (i+1):=YG hi
   rw[if_pos (by omega),qz,Ya hi,ZB,hd,List.all_cons]
   generalize s[i]=c
   have e:(if(c.toNat:Int)<48 then some true else some (decide ((c.toNat:Int)>57)):Option Bool)=some (!vT c):=by
    by_cases h1:(c.toNat:Int)<48
    ·rw[if_pos h1]
     congr 1
     unfold vT
     rw[decide_eq_false (by omega)]
     rfl
    rw[if_neg h1]
    congr 1
    unfold vT
    rw[decide_eq_true (p:=48<=c.toNat) (by omega),Bool.true_and,<-decide_not]
    exact decide_eq_decide.2 (by omega)
   rw[e,ZB]
   cases hc:vT c with
   |true=>rw[if_neg (by simp),zK (by omega),qhX hl K (i+1) (by omega) (by omega),Bool.true_and]
   |false=>rw[if_pos (by simp),Bool.false_and,if_neg (by simp)]
  rw[if_neg (by omega),List.drop_of_length_le (by omega)]
  rfl
theorem qhG {N:Nat} {s:Str} (hl:s.length<=1000000) (hN:s.length<N):ji N s=some (decide (Dec s)):=by
 have e:=qhX hl N 0 (by omega) (by omega)
 have e:jB s N 0=_:=e
 have ed:qa6 N s=some (s.all vT):=by
  unfold qa6
  rw[e,YR]
  cases s.all vT<;>rfl
 unfold ji
 cases s with
 |nil=>rfl
 |cons c t=>
  rw[if_neg (by simp;omega)]
  by_cases h1:((c::t).length:Int)>1
  ·rw[if_pos h1,qbF]
   simp only[Yj,ZB]
   by_cases h:c=48
   ·subst h
    rw[if_pos (by decide),decide_eq_false fun hD=>?_]
    have:=congrArg List.length (hD.2.2 rfl)
    rw[List.length_singleton]at this
    omega
   rw[if_neg (by simp[ne48 h]),ed,ZB]
   congr 1
   rw[Bool.eq_iff_iff,decide_eq_true_eq]
   exact⟨fun hd=>⟨by simp,hd,fun e=>absurd (Ye e) h⟩,fun hD=>hD.2.1⟩
  rw[if_neg h1,ZB,if_neg (by simp),ed,ZB]
  have ht:t=[]:=YL.1 (by simp at h1;omega)
  subst ht
  congr 1
  rw[Bool.eq_iff_iff,decide_eq_true_eq]
  exact⟨fun hd=>ql8 (by simpa using hd),fun hD=>hD.2.1⟩
end Go.Av
end
section
namespace Go.Av
theorem qiX {z:Int} {p n:Nat} (h:(z.natAbs:Int)<((10^p:Nat):Int)) (hp:p<=9*n):zN z n:=by
 have h1:(10:Nat)^p<=10^(9*n):=Nat.pow_le_pow_right (by omega) hp
 unfold zN
 rw[qgZ]
 omega
theorem qji {N:Nat} (hN:10<N) (a b:Int):jL N [a,b]=some (if a=0 then b else a):=by
 obtain⟨K,rfl⟩: ∃K,N=K+1+1+1:=⟨N-3,by omega⟩
 unfold jL
 by_cases ha:a=0
 ·by_cases hb:b=0
  ·subst ha;subst hb
   rfl
  have h1:zG [a,b] (K+1+1+1) 0=some (.inr b):=by
   rw[zG,if_pos (by simp),qbF]
   simp only[Yj,ZB]
   rw[if_neg (by simp[ha]),zG,show w64 ((0:Int)+1)=1 from rfl,if_pos (by simp),idx_1]
   simp only[YK,Yj,ZB]
   rw[if_pos (by simp[hb])]
  rw[h1,if_pos ha]
  rfl
 have h1:zG [a,b] (K+1+1+1) 0=some (.inr a):=by
  rw[zG,if_pos (by simp),qbF]
  simp only[Yj,ZB]
  rw[if_pos (by simp[ha])]
 rw[h1,if_neg ha]
 rfl
def okF (s:Str):Bool:=decide (Dec ((bdy s).take (slA (bdy s)))/\ ¬(sgn s=true/\(bdy s).take (slA (bdy s))=[48]))
def qgO (s:Str):Bool:=decide (slA (bdy s)<(bdy s).length/\ ¬(Dec ((bdy s).drop (slA (bdy s)+1))/\(bdy s).drop (slA (bdy s)+1)≠[48]/\(bdy s).drop (slA (bdy s)+1)≠[49]))
def chk (s:Str):Int:=
 if okF s=false\/qgO s=true then 1
 else if 600<((bdy s).take (slA (bdy s))).length\/600<((bdy s).drop (slA (bdy s)+1)).length then 4
 else if slA (bdy s)<(bdy s).length/\Nat.gcd (qN 0 ((bdy s).take (slA (bdy s)))) (qN 0 ((bdy s).drop (slA (bdy s)+1)))≠1 then 1
 else 0
theorem qbn {s:Str} (h:s.all vT=true):sgn s=false/\bdy s=s:=by
 have e:sgn s=false:=decide_eq_false fun e=>by
  have hm:(45:UInt8)∈s:=Yn e
  exact absurd (Yp.1 h _ hm) (by decide)
 exact⟨e,by unfold bdy;rw[e];rfl⟩
theorem qcR {s:Str} (h:s.all vT=true):qiH s=(qN 0 s:Nat):=by
 obtain⟨h1,h2⟩:=qbn h
 unfold qiH
 rw[h1,h2]
 rfl
theorem qfa (s:Str):(bdy s).length<=s.length:=by
 unfold bdy
 split
 ·rw[YJ];omega
 exact Nat.le_refl _
theorem qen {s:Str} {k:Nat} (h:Dec s) (hk:s.length<=k):((qN 0 s:Nat):Int).natAbs<10^k:=by
 have h1:=qer s 0 h.2.1
 have h2:(10:Nat)^s.length<=10^k:=Nat.pow_le_pow_right (by omega) hk
 omega
theorem qfb {s:Str} (h:Dec s) (h0:s≠[48]):0<qN 0 s:=by
 rcases Nat.eq_zero_or_pos (qN 0 s)with e|e
 ·have:=h.eq
  rw[e,jd (by decide)]at this
  exact absurd this h0
 exact e
theorem qmB {N:Nat} (hN:600000<N) {s:Str} (hl:s.length<=10000):qaU N s=some (chk s):=by
 have hb:=qfa s
 have hk:=qfQ (bdy s)
 have lt:((bdy s).take (slA (bdy s))).length=slA (bdy s):=by rw[Ym];omega
 have ld:((bdy s).drop (slA (bdy s)+1)).length=(bdy s).length-(slA (bdy s)+1):=by rw[YJ]
 unfold qaU
 rw[qiK,ZB]
 simp only
 have C:strings_Cut (bdy s) [47]=some ((bdy s).take (slA (bdy s)),(bdy s).drop (slA (bdy s)+1),decide (slA (bdy s)<(bdy s).length)):=by
  rw[qnF (by omega)]
  by_cases c:slA (bdy s)<(bdy s).length
  ·rw[if_pos c,decide_eq_true c]
  rw[if_neg c,decide_eq_false c,List.take_of_length_le (by omega),List.drop_of_length_le (by omega)]
 rw[C,ZB]
 unfold chk okF qgO
 generalize hn:(bdy s).take (slA (bdy s))=n at*
 generalize hd:(bdy s).drop (slA (bdy s)+1)=d at*
 generalize slA (bdy s)=k at*
 generalize (bdy s).length=m at*
 simp only
 rw[qfn (by omega),ZB]
 have B6:(if decide (Dec n)=true then if(!sgn s)=true then some true else some (!(n==[48]))else some false:Option Bool)=some (decide (Dec n/\ ¬(sgn s=true/\n=[48]))):=by
  by_cases h1:Dec n
  ·cases h2:sgn s with
   |false=>simp[h1]
   |true=>
    by_cases h3:n=[48]<;>simp[h1,h3]
  simp[h1]
 rw[B6,ZB]
 generalize hf:decide (Dec n/\ ¬(sgn s=true/\n=[48]))=ok at*
 have B8:(if decide (k<m)=true then(if ok=true then(jG d).bind fun r12=>if r12=true then if(!(d==[48]))=true then some (!(d==[49]))else some false else some false else some false:Option Bool).bind fun b15=>some b15 else some ok:Option Bool)=some (ok&&!decide (k<m/\ ¬(Dec d/\d≠[48]/\d≠[49]))):=by
  by_cases h1:k<m
  ·cases ok with
   |false=>simp[h1]
   |true=>
    rw[qfn (by omega)]
    by_cases h2:Dec d
    ·by_cases h3:d=[48]
     ·simp[h1,h2,h3]
     by_cases h4:d=[49]<;>simp[h1,h2,h3,h4]
    simp[h1,h2]
  simp[h1]
 rw[B8,ZB]
 generalize hg:decide (k<m/\ ¬(Dec d/\d≠[48]/\d≠[49]))=bd at*
 have B:((qW (!(ok&&!bd)) 1).bind fun r17=>if(n.length:Int)>600 then(qW true 4).bind fun r19=>(jL N ([r17,r19]:List Int)).bind fun r20=>some (r17,r19,r20)else(qW (decide ((d.length:Int)>600)) 4).bind fun r21=>(jL N ([r17,r21]:List Int)).bind fun r22=>some (r17,r21,r22):Option (Int×Int×Int))=some (if ok=false\/bd=true then 1 else 0,if 600<n.length\/600<d.length then 4 else 0,if ok=false\/bd=true then 1 else if 600<n.length\/600<d.length then 4 else 0):=by
  have w1:qW (!(ok&&!bd)) 1=some (if ok=false\/bd=true then 1 else 0):=by
   unfold qW
   cases ok<;>cases bd<;>rfl
  rw[w1,ZB]
  by_cases c:(n.length:Int)>600
  ·rw[if_pos c,show qW true 4=some 4 from rfl,ZB,qji (by omega),ZB,if_pos (show 600<n.length\/600<d.length from .inl (by omega))]
   by_cases c2:ok=false\/bd=true
   ·simp only[if_pos c2];rfl
   simp only[if_neg c2];rfl
  have w2:qW (decide ((d.length:Int)>600)) 4=some (if 600<n.length\/600<d.length then 4 else 0):=by
   unfold qW
   by_cases c2:(d.length:Int)>600
   ·rw[decide_eq_true c2,if_pos rfl,if_pos (.inr (by omega))]
   rw[decide_eq_false c2,if_neg (by simp),if_neg (by omega)]
  rw[if_neg c,w2,ZB,qji (by omega),ZB]
  by_cases c2:ok=false\/bd=true
  ·simp only[if_pos c2];rfl
  simp only[if_neg c2];rfl
 rw[B,ZB]
 simp only
 by_cases c1:ok=false\/bd=true
 ·simp only[if_pos c1];rfl
 simp only[if_neg c1]
 by_cases c2:600<n.length\/600<d.length
 ·simp only[if_pos c2];rfl
 simp only[if_neg c2]
 rw[if_neg (show¬((!decide True)=true)by decide)]
 have ho:ok=true:=by cases ok<;>simp at c1⊢
 have hbd:bd=false:=by cases bd<;>simp at c1⊢
 have hDn:=(of_decide_eq_true (hf.trans ho)).1
 by_cases c3:k<m
 ·have hDd:Dec d/\d≠[48]/\d≠[49]:=Classical.byContradiction fun hc=>of_decide_eq_false (hg.trans hbd) ⟨c3,hc⟩
  obtain⟨r1,e1,h1⟩:=qgl hN (s:=n) (by rw[(qbn hDn.2.1).2];exact hDn.2.1) (by rw[(qbn hDn.2.1).2];omega)
  obtain⟨r2,e2,h2⟩:=qgl hN (s:=d) (by rw[(qbn hDd.1.2.1).2];exact hDd.1.2.1) (by rw[(qbn hDd.1.2.1).2];omega)
  rw[qcR hDn.2.1]at h1
  rw[qcR hDd.1.2.1]at h2
  have f1:Fit ((qN 0 n:Nat):Int) 40:=qft (p:=600) (by have:=qen hDn (k:=600) (by omega);omega) (by omega)
  have f2:Fit ((qN 0 d:Nat):Int) 40:=qft (p:=600) (by have:=qen hDd.1 (k:=600) (by omega);omega) (by omega)
  obtain⟨g,e3,h3⟩:=qoR hN h1 h2 (f1.mono (by omega)) (f2.mono (by omega))
  have eg:Int.gcd ((qN 0 n:Nat):Int) ((qN 0 d:Nat):Int)=Nat.gcd (qN 0 n) (qN 0 d):=rfl
  rw[eg]at h3
  have hgp:0<Nat.gcd (qN 0 n) (qN 0 d):=Nat.gcd_pos_of_pos_right _ (qfb hDd.1 hDd.2.1)
  have fg:Fit ((Nat.gcd (qN 0 n) (qN 0 d):Nat):Int) 40:=qa2 (by
   have:=Nat.le_of_dvd (qfb hDd.1 hDd.2.1) (Nat.gcd_dvd_right (qN 0 n) (qN 0 d))
   omega) f2
  have e4:=qot (N:=N) (by omega) h3 (Ud (z:=1) (by decide) (by decide)) (fg.mono (by omega)) (F1 (by omega))
  rw[decide_eq_true c3,if_pos rfl,e1,ZB,e2,ZB,e3,ZB,qh1,ZB,e4,ZB,ZB]
  unfold qW
  by_cases c4:Nat.gcd (qN 0 n) (qN 0 d)=1
  ·rw[if_neg (show¬((Nat.gcd (qN 0 n) (qN 0 d):Nat):Int)<1 by omega),if_pos (show((Nat.gcd (qN 0 n) (qN 0 d):Nat):Int)=1 by omega),if_neg (show¬(k<m/\Nat.gcd (qN 0 n) (qN 0 d)≠1)from fun h=>h.2 c4)]
   rfl
  have: ¬((Nat.gcd (qN 0 n) (qN 0 d):Nat):Int)<1:=by omega
  rw[if_neg this,if_neg (show¬(((Nat.gcd (qN 0 n) (qN 0 d):Nat):Int)=1)by omega),if_pos (show k<m/\Nat.gcd (qN 0 n) (qN 0 d)≠1 from⟨c3,c4⟩)]
  rfl
 rw[decide_eq_false c3,if_neg (by simp),ZB,if_neg (by omega)]
 rfl
end Go.Av
end
section
namespace Go.Av
theorem qkD:dg E9 1=[1]:=qiU (by decide) (by decide)
theorem qqa {N:Nat} (hN:100<N):vS N 1=some (rI 1):=by
 obtain⟨K,rfl⟩: ∃K,N=K+1+1:=⟨N-2,by omega⟩
 have h:zS (K+1+1) [] 1=some [1]:=by
  rw[zS,if_pos (by decide),if_neg (by decide),ZB,qcw (by simp) (by simp),ZB,show w64 ((1:Int).tdiv 1000000000)=0 from rfl,zS,if_neg (by decide)]
  rfl
 unfold vS
 rw[h,ZB,decide_eq_false (by decide),vW false (w:=[1]) (Dg.cons ⟨by decide,by decide⟩ Dg.nil) (by simp) (by simp),ZB]
 rfl
theorem qiB {N:Nat} (hN:600000<N) {s:Str} (hl:s.length<=10000) (hk:slA s<s.length) (h1:(bdy (s.take (slA s))).all vT=true) (h2:(bdy (s.drop (slA s+1))).all vT=true):vP N s=some (rI (qiH (s.take (slA s))),rI (qiH (s.drop (slA s+1)))):=by
 have b1:=qfa (s.take (slA s))
 have b2:=qfa (s.drop (slA s+1))
 rw[Ym]at b1
 rw[YJ]at b2
 unfold vP
 rw[qb1 (by omega) (by omega),ZB,if_neg (by omega),yR (by omega),ZB,qhn (by omega) h1 (by omega),ZB,zK (by omega),xC (by omega),ZB,qhn (by omega) h2 (by omega),ZB]
theorem qeh {N:Nat} (hN:600000<N) {s:Str} (hl:s.length<=10000):yY N s=some (chk s):=by
 have hb:=qfa s
 have hk:=qfQ (bdy s)
 have lt:((bdy s).take (slA (bdy s))).length=slA (bdy s):=by rw[Ym];omega
 have ld:((bdy s).drop (slA (bdy s)+1)).length=(bdy s).length-(slA (bdy s)+1):=by rw[YJ]
 unfold yY
 rw[qeZ,ZB,qkV,ZB,qb1 (by omega) (by omega),ZB,yR hk,ZB,qhG (by omega) (by omega),ZB]
 have I:Dec ((bdy s).take (slA (bdy s)))->((idx s 0).bind fun c13=>if(c13.toNat:Int)=45 then(some ((bdy s).take (slA (bdy s)))).bind fun s15=>some (s15==[48])else some false:Option Bool)=some (sgn s&&((bdy s).take (slA (bdy s))==[48])):=by
  intro hD
  have h1:=hD.1
  have hs:=qeZ s
  rw[if_pos (by omega)]at hs
  rw[qbF]at hs⊢
  cases e:s[0]? with
  |none=>rw[e]at hs;cases hs
  |some c=>
   rw[e,ZB]at hs
   rw[ZB,<-Ye hs]
   by_cases c2:(c.toNat:Int)=45
   ·rw[if_pos c2,decide_eq_true c2,ZB,Bool.true_and]
   rw[if_neg c2,decide_eq_false c2,Bool.false_and]
 have S16:(if(!decide (Dec ((bdy s).take (slA (bdy s)))))=true then some true else(idx s 0).bind fun c13=>if(c13.toNat:Int)=45 then(some ((bdy s).take (slA (bdy s)))).bind fun s15=>some (s15==[48])else some false:Option Bool)=some (!okF s):=by
  unfold okF
  by_cases hD:Dec ((bdy s).take (slA (bdy s)))
  ·rw[if_neg (by simp[hD]),I hD]
   congr 1
   rw[Bool.eq_iff_iff]
   simp[hD]
  rw[if_pos (by simp[hD])]
  simp[hD]
 rw[S16,ZB]
 have S26:(if(slA (bdy s):Int)<((bdy s).length:Int)then(cut (bdy s) (w64 ((slA (bdy s):Int)+1)) ((bdy s).length:Int)).bind fun s20=>(ji N s20).bind fun r21=>if(!r21)=true then some true else(cut (bdy s) (w64 ((slA (bdy s):Int)+1)) ((bdy s).length:Int)).bind fun s23=>if(s23==[48])=true then some true else(cut (bdy s) (w64 ((slA (bdy s):Int)+1)) ((bdy s).length:Int)).bind fun s25=>some (s25==[49])else some false:Option Bool)=some (qgO s):=by
  unfold qgO
  by_cases c:slA (bdy s)<(bdy s).length
  ·rw[if_pos (by omega),zK (by omega),xC (by omega),ZB,qhG (by omega) (by omega),ZB]
   by_cases hD:Dec ((bdy s).drop (slA (bdy s)+1))
   ·rw[if_neg (by simp[hD]),ZB]
    by_cases h3:(bdy s).drop (slA (bdy s)+1)=[48]
    ·rw[if_pos (by simp[h3])]
     simp[c,h3]
    rw[if_neg (by simp[h3]),ZB]
    congr 1
    rw[Bool.eq_iff_iff]
    simp[c,h3,hD]
   rw[if_pos (by simp[hD])]
   simp[c,hD]
  rw[if_neg (by omega)]
  simp[c]
 have S30:(if(slA (bdy s):Int)>600 then some true else some (decide ((w64 ((w64 (((bdy s).length:Int)-(slA (bdy s):Int)))-1))>600)):Option Bool)=some (decide (600<((bdy s).take (slA (bdy s))).length\/600<((bdy s).drop (slA (bdy s)+1)).length)):=by
  rw[lt,ld]
  by_cases c:(slA (bdy s):Int)>600
  ·rw[if_pos c,decide_eq_true (.inl (by omega))]
  rw[if_neg c,qh (n:=((bdy s).length:Int)-(slA (bdy s):Int)) (by omega) (by omega),qh (by omega) (by omega)]
  congr 1
  exact decide_eq_decide.2 (by omega)
 unfold chk
 by_cases h1:okF s=true
 ·rw[h1,if_neg (by simp),S26,ZB]
  by_cases h2:qgO s=true
  ·rw[h2,if_pos rfl,if_pos (.inr rfl)]
  have h2':qgO s=false:=by simpa using h2
  rw[h2',if_neg (by simp),S30,ZB,if_neg (show¬(true=false\/false=true)by simp)]
  by_cases h3:600<((bdy s).take (slA (bdy s))).length\/600<((bdy s).drop (slA (bdy s)+1)).length
  ·rw[decide_eq_true h3,if_pos rfl,if_pos h3]
  rw[decide_eq_false h3,if_neg (by simp),if_neg h3]
  by_cases c:slA (bdy s)<(bdy s).length
  ·have hDn:=(of_decide_eq_true h1).1
   have hDd:Dec ((bdy s).drop (slA (bdy s)+1))/\(bdy s).drop (slA (bdy s)+1)≠[48]/\(bdy s).drop (slA (bdy s)+1)≠[49]:=Classical.byContradiction fun hc=>of_decide_eq_false h2' ⟨c,hc⟩
   have ep:=qiB hN (s:=bdy s) (by omega) c (by rw[(qbn hDn.2.1).2];exact hDn.2.1) (by rw[(qbn hDd.1.2.1).2];exact hDd.1.2.1)
   rw[qcR hDn.2.1,qcR hDd.1.2.1]at ep
   rw[if_pos (by omega),ep,ZB]
   simp only
   have v1:=qen hDn (k:=600) (by omega)
   have v2:=qen hDd.1 (k:=600) (by omega)
   have v3:=qfb hDd.1 hDd.2.1
   generalize qN 0 ((bdy s).take (slA (bdy s)))=n at*
   generalize qN 0 ((bdy s).drop (slA (bdy s)+1))=d at*
   have f1:zN ((n:Nat):Int) 8000:=(qiX (p:=600) (n:=70) (by omega) (by omega)).mono (by omega)
   have f2:zN ((d:Nat):Int) 8000:=(qiX (p:=600) (n:=70) (by omega) (by omega)).mono (by omega)
   have e1:(rI ((n:Nat):Int)).w=dg E9 ((n:Nat):Int):=by
    show dg E9 (((n:Nat):Int).natAbs:Int)=_
    rw[Int.natAbs_natCast]
   have e2:(rI ((d:Nat):Int)).w=dg E9 ((d:Nat):Int):=by
    show dg E9 (((d:Nat):Int).natAbs:Int)=_
    rw[Int.natAbs_natCast]
   have ec:=qie (N:=N) hN (a:=((n:Nat):Int)) (b:=((d:Nat):Int)) (by omega) (by omega) f1 f2
   have eg:Int.gcd ((n:Nat):Int) ((d:Nat):Int)=Nat.gcd n d:=rfl
   rw[eg]at ec
   rw[e1,e2,ec,ZB]
   have hg:0<Nat.gcd n d:=Nat.gcd_pos_of_pos_right _ v3
   have cc:=zC E1 (show(0:Int)<=((Nat.gcd n d:Nat):Int)by omega)
   have vv:=jm E1 (show(0:Int)<=((Nat.gcd n d:Nat):Int)by omega)
   by_cases h4:Nat.gcd n d=1
   ·have:dg E9 ((Nat.gcd n d:Nat):Int)=[1]:=by rw[show((Nat.gcd n d:Nat):Int)=1 by omega];exact qkD
    rw[this,if_neg (by simp),qbF,if_neg (fun h=>h.2 h4)]
    rfl
   rw[if_pos (show slA (bdy s)<(bdy s).length/\Nat.gcd n d≠1 from⟨c,h4⟩)]
   by_cases h5:(dg E9 ((Nat.gcd n d:Nat):Int)).length=1
   ·obtain⟨x,hx⟩:=List.length_eq_one_iff.1 h5
    rw[hx,zw,kz,Int.mul_zero,Int.add_zero]at vv
    have hx1:x≠1:=by omega
    rw[hx,if_neg (by simp),qbF]
    simp only[Yj,ZB,decide_eq_false hx1]
    rfl
   rw[if_pos (by simp;omega)]
   rfl
  rw[if_neg (by omega),if_neg (by omega)]
  rfl
 have h1':okF s=false:=by simpa using h1
 rw[h1',if_pos (by simp),if_pos (.inl rfl)]
end Go.Av
end
section
namespace Go.Av
def tl (q:Rat):Str:=if q.den=1 then[]else 47::Lib.decDigits q.den
theorem qmC (q:Rat):T q=Lib.itoa q.num++tl q:=rfl
theorem no47 {s:Str} (h:s.all vT=true): ∀c∈s,c≠47:=fun c hc e=>by
 have:=Yp.1 h c hc
 rw[e]at this
 exact absurd this (by decide)
theorem qjU: ∀{s:Str},(∀c∈s,c≠47)->slA s=s.length:=fun {s} h=>(qiQ s [] h).2
theorem qhf {s:Str} (h: ∀c∈s,c≠47) (q:Rat):slA (s++tl q)=s.length:=by
 unfold tl
 by_cases c:q.den=1
 ·rw[if_pos c,YQ]
  exact qjU h
 rw[if_neg c]
 exact(qiQ s _ h).1
theorem qej (z:Int): ∀c∈Lib.itoa z,c≠47:=by
 by_cases h:z<0
 ·rw[vV h]
  intro c hc
  rcases List.mem_cons.1 hc with e|e
  ·rw[e];decide
  exact no47 (qaT _) c e
 rw[je h]
 exact no47 (qaT _)
theorem qpz {s t:Str} (h:0<s.length):sgn (s++t)=sgn s:=by
 unfold sgn
 rw[Yf h]
theorem qof (z:Int):0<(Lib.itoa z).length:=by
 by_cases h:z<0
 ·rw[vV h];simp
 rw[je h];exact qfR _
theorem qjL (q:Rat):sgn (T q)=decide (q.num<0):=by rw[qmC,qpz (qof _),qhE]
theorem qkn (q:Rat):bdy (T q)=Lib.decDigits q.num.natAbs++tl q:=by
 unfold bdy
 rw[qjL,qmC]
 by_cases h:q.num<0
 ·rw[decide_eq_true h,if_pos rfl,vV h]
  rfl
 rw[decide_eq_false h,if_neg (by simp),je h]
theorem T_inj {p q:Rat} (h:T p=T q):p=q:=by
 have h1:=congrArg slA h
 have e1:slA (T p)=(Lib.itoa p.num).length:=qhf (qej _) p
 have e2:slA (T q)=(Lib.itoa q.num).length:=qhf (qej _) q
 rw[e1,e2]at h1
 rw[qmC,qmC]at h
 obtain⟨h2,h3⟩:=List.append_inj h h1
 have n1:p.num=q.num:=by rw[<-qcK p.num,h2,qcK]
 have n2:p.den=q.den:=by
  unfold tl at h3
  by_cases c:p.den=1
  ·by_cases d:q.den=1
   ·rw[c,d]
   rw[if_pos c,if_neg d]at h3;cases h3
  by_cases d:q.den=1
  ·rw[if_neg c,if_pos d]at h3;cases h3
  rw[if_neg c,if_neg d]at h3
  injection h3 with _ h3
  exact qkE h3
 exact Rat.ext n1 n2
theorem qlJ: ∀{s:Str},slA s<s.length->s=s.take (slA s)++47::s.drop (slA s+1)
 |[],h=>by simp at h
 |c::s,h=>by
  rw[slA]at h⊢
  by_cases e:c=47
  ·rw[if_pos e,e]
   rfl
  rw[if_neg e,Yr]at h
  rw[if_neg e,List.take_succ_cons,List.drop_succ_cons,List.cons_append,<-qlJ (show slA s<s.length by omega)]
theorem qpe (s:Str):s=if sgn s=true then 45::bdy s else bdy s:=by
 unfold bdy
 cases h:sgn s with
 |false=>rw[if_neg (by simp),if_neg (by simp)]
 |true=>
  rw[if_pos rfl,if_pos rfl]
  cases s with
  |nil=>cases h
  |cons c t=>
   have e:=of_decide_eq_true h
   simp only[Yj]at e
   rw[Ye e]
   rfl
theorem qoo {s:Str} (h:chk s=0): ∃q:Rat,s=T q/\(Lib.decDigits q.num.natAbs).length<=600/\(Lib.decDigits q.den).length<=600:=by
 have hk:=qfQ (bdy s)
 have lt:((bdy s).take (slA (bdy s))).length=slA (bdy s):=by rw[Ym];omega
 have hs:=qpe s
 have hsp:=@qlJ (bdy s)
 unfold chk at h
 by_cases h1:okF s=false\/qgO s=true
 ·rw[if_pos h1]at h;cases h
 rw[if_neg h1]at h
 by_cases h2:600<((bdy s).take (slA (bdy s))).length\/600<((bdy s).drop (slA (bdy s)+1)).length
 ·rw[if_pos h2]at h;cases h
 rw[if_neg h2]at h
 by_cases h3:slA (bdy s)<(bdy s).length/\Nat.gcd (qN 0 ((bdy s).take (slA (bdy s)))) (qN 0 ((bdy s).drop (slA (bdy s)+1)))≠1
 ·rw[if_pos h3]at h;cases h
 have ho:okF s=true:=by cases e:okF s with|true=>rfl|false=>exact absurd (.inl e) h1
 have hb:qgO s=false:=by cases e:qgO s with|false=>rfl|true=>exact absurd (.inr e) h1
 obtain⟨hDn,hng⟩:=of_decide_eq_true ho
 have en:=hDn.eq
 obtain⟨z,hz1,hz2⟩: ∃z:Int,z.natAbs=qN 0 ((bdy s).take (slA (bdy s)))/\(z<0↔sgn s=true):=by
  cases e:sgn s with
  |false=>exact⟨((qN 0 ((bdy s).take (slA (bdy s))):Nat):Int),by omega,by simp⟩
  |true=>
   have:=qfb hDn fun c=>hng ⟨e,c⟩
   exact⟨-((qN 0 ((bdy s).take (slA (bdy s))):Nat):Int),by omega,by simp;omega⟩
 have hT: ∀t:Str,bdy s=(bdy s).take (slA (bdy s))++t->s=Lib.itoa z++t:=by
  intro t ht
  rw[hs]
  by_cases c:z<0
  ·rw[if_pos (hz2.1 c),vV c,hz1,<-en,List.cons_append,<-ht]
  rw[if_neg fun e=>c (hz2.2 e),je c,hz1,<-en,<-ht]
 by_cases c:slA (bdy s)<(bdy s).length
 ·have hDd:Dec ((bdy s).drop (slA (bdy s)+1))/\(bdy s).drop (slA (bdy s)+1)≠[48]/\(bdy s).drop (slA (bdy s)+1)≠[49]:=Classical.byContradiction fun hc=>of_decide_eq_false hb ⟨c,hc⟩
  have ed:=hDd.1.eq
  have hd0:=qfb hDd.1 hDd.2.1
  have hd1:qN 0 ((bdy s).drop (slA (bdy s)+1))≠1:=fun e=>by
   rw[e,jd (by decide)]at ed
   exact hDd.2.2 ed
  have hg:Nat.gcd z.natAbs (qN 0 ((bdy s).drop (slA (bdy s)+1)))=1:=by
   rw[hz1]
   exact Classical.byContradiction fun e=>h3 ⟨c,e⟩
  refine⟨⟨z,qN 0 ((bdy s).drop (slA (bdy s)+1)),by omega,hg⟩,?_,?_,?_⟩
  ·have:=hT _ (hsp c)
   unfold T
   rw[if_neg hd1]
   show s=Lib.itoa z++47::Lib.decDigits (qN 0 ((bdy s).drop (slA (bdy s)+1)))
   rw[<-ed]
   exact this
  ·show(Lib.decDigits z.natAbs).length<=600
   rw[hz1,<-en]
   omega
  show(Lib.decDigits (qN 0 ((bdy s).drop (slA (bdy s)+1)))).length<=600
  rw[<-ed]
  omega
 refine⟨(z:Rat),?_,?_,?_⟩
 ·have:=hT [] (by rw[YQ,List.take_of_length_le (by omega)])
  unfold T
  rw[Rat.den_intCast,if_pos rfl,Rat.num_intCast]
  exact this
 ·rw[Rat.num_intCast,hz1,<-en]
  omega
 rw[Rat.den_intCast,jd (by decide)]
 simp
end Go.Av
end
section
namespace Go.Av
def Sml (q:Rat) (k:Nat):Prop:=(Lib.decDigits q.num.natAbs).length<=k/\(Lib.decDigits q.den).length<=k
theorem qgv (z:Int):(Lib.itoa z).length<=(Lib.decDigits z.natAbs).length+1:=by
 by_cases h:z<0
 ·rw[vV h];simp
 rw[je h];omega
theorem qfy (q:Rat) (h:q.den≠1):slA (T q)<(T q).length/\(T q).take (slA (T q))=Lib.itoa q.num/\(T q).drop (slA (T q)+1)=Lib.decDigits q.den:=by
 have e:slA (T q)=(Lib.itoa q.num).length:=qhf (qej _) q
 have ht:T q=Lib.itoa q.num++47::Lib.decDigits q.den:=by unfold T;rw[if_neg h]
 rw[e,ht]
 refine⟨by rw[Yq,Yr];omega,?_,?_⟩
 ·rw[List.take_append_of_le_length (Nat.le_refl _),List.take_of_length_le (Nat.le_refl _)]
 rw[List.drop_append,List.drop_of_length_le (by omega),show(Lib.itoa q.num).length+1-(Lib.itoa q.num).length=1 by omega]
 rfl
theorem qeo (q:Rat) (h:q.den=1):T q=Lib.itoa q.num/\slA (T q)=(T q).length:=by
 have ht:T q=Lib.itoa q.num:=by unfold T;rw[if_pos h,YQ]
 refine⟨ht,?_⟩
 rw[ht]
 exact qjU (qej _)
theorem qcS {q:Rat} {k:Nat} (h:Sml q k):(T q).length<=2*k+2:=by
 have h1:=qgv q.num
 have h2:=h.1
 have h3:=h.2
 unfold T
 rw[Yq]
 split
 ·simp;omega
 rw[Yr];omega
theorem qpD {N:Nat} (hN:600000<N) {q:Rat} (h:Sml q 9000): ∃f,qb7 N (T q)=some f/\IsF f q:=by
 have hl:=qcS h
 have h1:=h.1
 have h2:=h.2
 unfold qb7
 rw[qnF (by omega),ZB]
 obtain⟨r1,e1,i1⟩:=qgl hN (s:=Lib.itoa q.num) (by rw[qb3];exact qaT _) (by rw[qb3];omega)
 rw[qcK]at i1
 by_cases c:q.den=1
 ·obtain⟨t1,t2⟩:=qeo q c
  rw[if_neg (show¬slA (T q)<(T q).length by omega)]
  obtain⟨f,e2,i2⟩:=qff i1
  rw[if_pos (by rfl),t1,e1,ZB,e2,ZB]
  refine⟨f,rfl,?_⟩
  have:(q.num:Rat)=q:=Rat.ext (by simp) (by simp[c])
  rw[this]at i2
  exact i2
 obtain⟨t1,t2,t3⟩:=qfy q c
 rw[if_pos t1]
 have hd:=qaT q.den
 obtain⟨r2,e2,i2⟩:=qgl hN (s:=Lib.decDigits q.den) (by rw[(qbn hd).2];exact hd) (by rw[(qbn hd).2];omega)
 rw[qcR hd,qcb]at i2
 rw[if_neg (by simp),t2,t3,e1,ZB,e2,ZB]
 exact⟨⟨r1,r2⟩,rfl,i1,i2⟩
theorem qfI {N:Nat} (hN:600000<N) {q:Rat} (h:Sml q 4000):vP N (T q)=some (rI q.num,rI (q.den:Int)):=by
 have hl:=qcS h
 have h1:=h.1
 have h2:=h.2
 by_cases c:q.den=1
 ·obtain⟨t1,t2⟩:=qeo q c
  unfold vP
  rw[qb1 (by omega) (by omega),ZB,t2,if_pos rfl,t1,qhn (by omega) (by rw[qb3];exact qaT _) (by rw[qb3];omega),ZB,qqa (by omega),ZB,qcK,c]
  rfl
 obtain⟨t1,t2,t3⟩:=qfy q c
 have hd:=qaT q.den
 rw[qiB hN (by omega) t1 (by rw[t2,qb3];exact qaT _) (by rw[t3,(qbn hd).2];exact hd),t2,t3,qcK,qcR hd,qcb]
end Go.Av
end
section
namespace Go.Av
theorem rI_w (z:Int):(rI z).w=dg E9 (z.natAbs:Int):=rfl
theorem qmi {n:Nat} (h:0<n):(if((dg E9 (n:Int)).length:Int)=1 then(idx (dg E9 (n:Int)) 0).bind fun x15=>some (decide (x15=1))else some false:Option Bool)=some (decide (n=1)):=by
 have vv:=jm E1 (show(0:Int)<=(n:Int)by omega)
 by_cases h4:n=1
 ·rw[show(n:Int)=1 by omega,qkD,if_pos (by simp),qbF,h4]
  rfl
 rw[decide_eq_false h4]
 by_cases h5:(dg E9 (n:Int)).length=1
 ·obtain⟨x,hx⟩:=List.length_eq_one_iff.1 h5
  rw[hx,zw,kz,Int.mul_zero,Int.add_zero]at vv
  have hx1:x≠1:=by omega
  rw[hx,if_pos (by simp),qbF]
  simp only[Yj,ZB,decide_eq_false hx1]
 rw[if_neg (by omega)]
theorem zN.abs {z:Int} {n:Nat} (h:zN z n):zN (z.natAbs:Int) n:=by
 unfold zN at h⊢
 rw[Int.natAbs_natCast]
 exact h
theorem zN.le {a b:Int} {n:Nat} (h:(a.natAbs:Int)<=(b.natAbs:Int)) (k:zN b n):zN a n:=Int.lt_of_le_of_lt h k
theorem zN.itoaLen {z:Int} {n:Nat} (h:zN z n) (hn:0<n):(Lib.itoa z).length<=9*n+1:=by
 have h2:z.natAbs<10^(9*n):=by
  have h:(z.natAbs:Int)<E9^n:=h
  rw[qgZ]at h
  exact Int.ofNat_lt.1 h
 have h3:=(xI (show 0<9*n by omega)).2 h2
 have h4:=qgv z
 omega
theorem qiM {N:Nat} (hN:60000<N) {x y:Int} (hx:0<=x) (hy:0<y) {B:Nat} (hB:B<=8000) (fx:zN x B):zZ N (dg E9 x) (dg E9 y)=some (dg E9 (x/y),dg E9 (x%y)):=by
 have l:=fx.len
 rw[show(x.natAbs:Int)=x by omega]at l
 rw[qdf hN (zC E1 hx) (zC E1 (by omega)) (by omega) (by rw[jm E1 (by omega)];exact hy),jm E1 hx,jm E1 (by omega)]
theorem den_pos (q:Rat):0<q.den:=Nat.pos_of_ne_zero q.den_nz
theorem qgL {a b:Int} (hb:b≠0):(b.sign*a).natAbs=a.natAbs:=by rw[Int.natAbs_mul,Int.natAbs_sign_of_ne_zero hb,Nat.one_mul]
theorem ql3 (a b:Int):Int.gcd (a.natAbs:Int) (b.natAbs:Int)=Int.gcd b a:=by
 rw[Int.gcd_comm]
 rfl
theorem qjb {N:Nat} (hN:600000<N) {B:Nat} (hB0:0<B) (hB:B<=8000) {a b:Int} (fa:zN a B) (fb:zN b B) (hb:b≠0):yQ N (rI a) (rI b)=some (T (Rat.divInt a b)):=by
 have hg:0<Int.gcd b a:=Int.gcd_pos_of_ne_zero_left _ hb
 have ea:=qgL (a:=a) hb
 have S:(if(rI b).neg=true then(yZ N (rI a)).bind fun r7=>(yZ N (rI b)).bind fun r8=>some (r7.neg,r7.w,r8.neg,r8.w)else some ((rI a).neg,(rI a).w,(rI b).neg,(rI b).w):Option (Bool×(List Int)×Bool×(List Int)))=some (decide (b.sign*a<0),dg E9 (a.natAbs:Int),false,dg E9 (b.natAbs:Int)):=by
  by_cases h:b<0
  ·rw[if_pos (show(rI b).neg=true from decide_eq_true h),qjz (by omega) (fa.mono (by omega)),ZB,qjz (by omega) (fb.mono (by omega)),ZB,Int.sign_eq_neg_one_of_neg h,Int.neg_mul,Int.one_mul]
   show some (decide (-a<0),dg E9 (((-a).natAbs:Nat):Int),decide (-b<0),dg E9 (((-b).natAbs:Nat):Int))=_
   rw[decide_eq_false (show¬ -b<0 by omega),Int.natAbs_neg,Int.natAbs_neg]
  rw[if_neg (show¬(rI b).neg=true from fun c=>h (of_decide_eq_true c)),Int.sign_eq_one_of_pos (by omega),Int.one_mul]
  show some (decide (a<0),dg E9 ((a.natAbs:Nat):Int),decide (b<0),dg E9 ((b.natAbs:Nat):Int))=_
  rw[decide_eq_false h]
 have en:(Rat.divInt a b).num=b.sign*a/(Int.gcd b a:Int):=Rat.num_divInt ..
 have ed:(b.natAbs:Int)/(Int.gcd b a:Int)=((Rat.divInt a b).den:Int):=by rw[Rat.den_divInt,if_neg hb,Int.natCast_ediv]
 have hd:=den_pos (Rat.divInt a b)
 have dvd:(Int.gcd b a:Int)∣b.sign*a:=Int.dvd_mul_of_dvd_right (Int.gcd_dvd_right ..)
 have fn:zN (Rat.divInt a b).num B:=by
  rw[en]
  exact zN.le (Int.le_trans (jo _ (by omega)) (by rw[ea];exact Int.le_refl _)) fa
 have fd:zN ((Rat.divInt a b).den:Int) B:=by
  rw[<-ed]
  exact zN.le (Int.le_trans (jo _ (by omega)) (Int.le_refl _)) fb.abs
 have vn:(if decide (b.sign*a<0)=true then-dv E9 (dg E9 ((a.natAbs:Int)/(Int.gcd b a:Int)))else dv E9 (dg E9 ((a.natAbs:Int)/(Int.gcd b a:Int))))=(Rat.divInt a b).num:=by
  have p0:0<=(a.natAbs:Int)/(Int.gcd b a:Int):=Int.ediv_nonneg (by omega) (by omega)
  rw[jm E1 p0,en]
  by_cases c:b.sign*a<0
  ·rw[if_pos (decide_eq_true c),show(a.natAbs:Int)= -(b.sign*a)by omega,Int.neg_ediv_of_dvd dvd,Int.neg_neg]
  rw[if_neg (fun h=>c (of_decide_eq_true h)),show(a.natAbs:Int)=b.sign*a by omega]
 unfold yQ
 rw[S,ZB]
 simp only
 rw[qie hN (by omega) (by omega) (fa.abs.mono hB) (fb.abs.mono hB),ZB,ql3,qiM (by omega) (by omega) (by omega) hB fa.abs,ZB,qiM (by omega) (by omega) (by omega) hB fb.abs,ZB]
 simp only
 have p0:0<=(a.natAbs:Int)/(Int.gcd b a:Int):=Int.ediv_nonneg (by omega) (by omega)
 have ln:(dg E9 ((a.natAbs:Int)/(Int.gcd b a:Int))).length<=B:=by
  have:=(zN.le (Int.le_trans (jo _ (by omega)) (Int.le_refl _)) fa.abs:zN ((a.natAbs:Int)/(Int.gcd b a:Int)) B).len
  rw[show(((a.natAbs:Int)/(Int.gcd b a:Int)).natAbs:Int)=(a.natAbs:Int)/(Int.gcd b a:Int)by omega]at this
  exact this
 have ld:(dg E9 ((Rat.divInt a b).den:Int)).length<=B:=by
  have:=fd.len
  rw[Int.natAbs_natCast]at this
  exact this
 rw[vW _ (zC E1 p0).1 (by omega) (by omega),ZB,vn,qgi (by omega) (fn.mono (by omega)),ZB,ed,qmi hd,ZB]
 have l1:=fn.itoaLen hB0
 have l2:=fd.itoaLen hB0
 unfold T
 by_cases c:(Rat.divInt a b).den=1
 ·rw[if_pos (decide_eq_true c),if_pos c,YQ]
 rw[if_neg (fun h=>c (of_decide_eq_true h)),if_neg c,qbi (by simp;omega),ZB,vW _ (zC E1 (by omega)).1 (by omega) (by omega),ZB,if_neg (by simp),jm E1 (by omega),qgi (by omega) (fd.mono (by omega)),ZB,qbi (by simp;omega),ZB,qfP,Yz]
 rfl
theorem qpG {a b:Int} (ha:0<=a) (hb:0<b):qd8 .i64 a b=some (a%b):=by
 unfold qd8
 rw[if_neg (by omega),Int.tmod_eq_emod_of_nonneg ha]
theorem qpN {a b:Int} (hb:0<b) (h1: -4000000000000000000<=a) (h2:a<=4000000000000000000) (hd:b∣a):qcg .i64 a b=some (a/b):=by
 have:=jo a hb
 unfold qcg
 rw[if_neg (by omega),Int.tdiv_eq_ediv_of_dvd hd]
 show some (w64 _)=_
 rw[qh (by omega) (by omega)]
theorem ql2: ∀(k K:Nat) (a b:Int),0<=a->0<=b->b<2^k->2*k+2<=K->jT K a b=some (Int.gcd a b:Int)
 |k,0,a,b,_,_,_,hK=>by omega
 |k,K+1,a,b,ha,hb,hk,hK=>by
  have na:(a.natAbs:Int)=a:=by omega
  have nb:(b.natAbs:Int)=b:=by omega
  rcases(show b=0\/0<b by omega)with h0|h0
  ·rw[h0,jT,if_neg (by omega),Int.gcd_zero,na]
  match k,hk,hK with
  |0,hk,hK=>simp at hk;omega
  |k+1,hk,hK=>
   have m0:=Int.emod_nonneg a (show b≠0 by omega)
   have m1:=Int.emod_lt_of_pos a h0
   rw[jT,if_pos (by omega),qpG ha h0,ZB,qcY ha hb]
   match K,hK with
   |0,hK=>omega
   |K+1,hK=>
    rcases(show a%b=0\/0<a%b by omega)with g0|g0
    ·rw[g0,jT,if_neg (by omega),Int.gcd_zero,nb]
    have n0:=Int.emod_nonneg b (show a%b≠0 by omega)
    have n1:=Int.emod_lt_of_pos b g0
    have hhalf:b%(a%b)<2^k:=by
     have d1:=Int.mul_ediv_add_emod b (a%b)
     have d2:1<=b/(a%b):=by
      rw[Int.le_ediv_iff_mul_le g0]
      omega
     have d3:a%b*1<=a%b*(b/(a%b)):=Yc d2 (by omega)
     rw[Int.pow_succ]at hk
     omega
    rw[jT,if_pos (by omega),qpG hb g0,ZB,qcY hb m0]
    exact ql2 k K (a%b) (b%(a%b)) m0 n0 hhalf (by omega)
theorem qlh {N:Nat} (hN:200<N) {a b:Int} (ha:0<=a) (hb:0<=b) (h:b<9223372036854775808):qbP N a b=some (Int.gcd a b:Int):=by
 unfold qbP
 rw[ql2 63 N a b ha hb h (by omega),ZB]
theorem rabs {z:Int} (h1: -9223372036854775807<=z) (h2:z<=9223372036854775807):(if w64 (0-z)>z then w64 (0-z)else z)=(z.natAbs:Int):=by
 rw[qh (by omega) (by omega)]
 split<;>omega
theorem qpF {n:Nat} (h:n<=4000000000000000000):(Lib.decDigits n).length<=19:=(xI (by decide)).2 (by omega)
theorem qnm {N:Nat} (hN:1000<N) {a b:Int} (a1: -4000000000000000000<=a) (a2:a<=4000000000000000000) (b1: -4000000000000000000<=b) (b2:b<=4000000000000000000) (hb:b≠0):qcD N a b=some (T (Rat.divInt a b)):=by
 have hg:0<Int.gcd b a:=Int.gcd_pos_of_ne_zero_left _ hb
 have ea:=qgL (a:=a) hb
 have S:(if b<0 then some (w64 (0-a),w64 (0-b))else some (a,b):Option (Int×Int))=some (b.sign*a,(b.natAbs:Int)):=by
  by_cases h:b<0
  ·rw[if_pos h,qh (by omega) (by omega),qh (by omega) (by omega),Int.sign_eq_neg_one_of_neg h,show(-1:Int)*a=0-a by omega,show(b.natAbs:Int)=0-b by omega]
  rw[if_neg h,Int.sign_eq_one_of_pos (by omega),Int.one_mul,show(b.natAbs:Int)=b by omega]
 have en:(Rat.divInt a b).num=b.sign*a/(Int.gcd b a:Int):=Rat.num_divInt ..
 have ed:(b.natAbs:Int)/(Int.gcd b a:Int)=((Rat.divInt a b).den:Int):=by rw[Rat.den_divInt,if_neg hb,Int.natCast_ediv]
 have hd:=den_pos (Rat.divInt a b)
 have dvd:(Int.gcd b a:Int)∣b.sign*a:=Int.dvd_mul_of_dvd_right (Int.gcd_dvd_right ..)
 have dvb:(Int.gcd b a:Int)∣(b.natAbs:Int):=by
  rw[Int.dvd_natAbs]
  exact Int.gcd_dvd_left ..
 have n1:=jo (b.sign*a) (show(0:Int)<(Int.gcd b a:Int)by omega)
 have n2:=jo (b.natAbs:Int) (show(0:Int)<(Int.gcd b a:Int)by omega)
 rw[<-en,ea]at n1
 rw[ed,Int.natAbs_natCast,Int.natAbs_natCast]at n2
 unfold qcD
 rw[if_neg (show¬a< -4000000000000000000 by omega),if_neg (show¬a>4000000000000000000 by omega),if_neg (show¬b< -4000000000000000000 by omega),decide_eq_false (show¬b>4000000000000000000 by omega),ZB,if_neg (by simp),S,ZB]
 simp only
 rw[rabs (by omega) (by omega),ea,qlh (by omega) (by omega) (by omega) (by omega),ZB,ql3,qpN (by omega) (by omega) (by omega) dvd,ZB,qpN (by omega) (by omega) (by omega) dvb,ZB,<-en,ed,rabs (by omega) (by omega),qgP (by omega) (by omega),qgP (by omega) (by omega)]
 generalize Rat.divInt a b=q at*
 have l1:=qpF (n:=q.num.natAbs) (by omega)
 have l2:=qpF (n:=q.den) (by omega)
 have S2:((if q.num<0 then some [45]else some []:Option Str).bind fun s17=>(some (Lib.decDigits q.num.natAbs)).bind fun r20=>(cat s17 r20).bind fun s21=>(if(q.den:Int)>1 then(cat s21 [47]).bind fun s25=>(some (Lib.decDigits q.den)).bind fun r26=>(cat s25 r26).bind fun s27=>some s27 else some s21:Option Str).bind fun s22=>some s22)=some (T q):=by
  have li:(Lib.itoa q.num).length<=20:=by have:=qgv q.num;omega
  have I:((if q.num<0 then some [45]else some []:Option Str).bind fun s17=>(some (Lib.decDigits q.num.natAbs)).bind fun r20=>(cat s17 r20).bind fun s21=>(if(q.den:Int)>1 then(cat s21 [47]).bind fun s25=>(some (Lib.decDigits q.den)).bind fun r26=>(cat s25 r26).bind fun s27=>some s27 else some s21:Option Str).bind fun s22=>some s22)=((if(q.den:Int)>1 then(cat (Lib.itoa q.num) [47]).bind fun s25=>(some (Lib.decDigits q.den)).bind fun r26=>(cat s25 r26).bind fun s27=>some s27 else some (Lib.itoa q.num):Option Str).bind fun s22=>some s22):=by
   by_cases c:q.num<0
   ·rw[if_pos c,ZB,ZB,qbi (by simp;omega),ZB,vV c]
    rfl
   rw[if_neg c,ZB,ZB,qbi (by simp;omega),ZB,je c]
   rfl
  rw[I]
  unfold T
  by_cases c:q.den=1
  ·rw[if_neg (by omega),if_pos c,ZB,YQ]
  rw[if_pos (by omega),if_neg c,qbi (by simp;omega),ZB,ZB,qbi (by simp;omega),ZB,ZB,Yz]
  rfl
 exact S2
end Go.Av
end
section
namespace Go.Av
theorem Sml.mono {q:Rat} {m n:Nat} (h:Sml q m) (hn:m<=n):Sml q n:=⟨Nat.le_trans h.1 hn,Nat.le_trans h.2 hn⟩
theorem qe3 {q:Rat} {k n:Nat} (h:Sml q k) (hk:0<k) (hn:k<=9*n):zN q.num n:=qiX (p:=k) (Int.ofNat_lt.2 ((xI hk).1 h.1)) hn
theorem qgA {q:Rat} {k n:Nat} (h:Sml q k) (hk:0<k) (hn:k<=9*n):zN (q.den:Int) n:=qiX (p:=k) (by rw[Int.natAbs_natCast];exact Int.ofNat_lt.2 ((xI hk).1 h.2)) hn
theorem qoq {q:Rat} {k n:Nat} (h:Sml q k) (hk:0<k) (hn:k<=19*n):vw q n:=⟨qft (p:=k) (Int.ofNat_lt.2 ((xI hk).1 h.1)) hn,qft (p:=k) (by rw[Int.natAbs_natCast];exact Int.ofNat_lt.2 ((xI hk).1 h.2)) hn⟩
theorem qlj {z:Int} {n:Nat} (h:zN z n) (hn:0<n):(Lib.decDigits z.natAbs).length<=9*n:=by
 refine(xI (by omega)).2 ?_
 have h:(z.natAbs:Int)<E9^n:=h
 rw[qgZ]at h
 exact Int.ofNat_lt.1 h
theorem qfC {q:Rat} {n:Nat} (h1:zN q.num n) (h2:zN (q.den:Int) n) (hn:0<n):Sml q (9*n):=by
 have h3:=qlj h2 hn
 rw[Int.natAbs_natCast]at h3
 exact⟨qlj h1 hn,h3⟩
theorem qgb {a b:Int} {n:Nat} (hb:b≠0) (fa:zN a n) (fb:zN b n):zN (Rat.divInt a b).num n/\zN ((Rat.divInt a b).den:Int) n:=by
 have hg:0<Int.gcd b a:=Int.gcd_pos_of_ne_zero_left _ hb
 constructor
 ·rw[Rat.num_divInt]
  exact zN.le (Int.le_trans (jo _ (by omega)) (by rw[qgL hb];exact Int.le_refl _)) fa
 rw[Rat.den_divInt,if_neg hb,Int.natCast_ediv]
 exact zN.le (Int.le_trans (jo _ (by omega)) (Int.le_refl _)) fb.abs
theorem qbr {a b:Int} {m n:Nat} (ha:zN a m) (hb:zN b n):zN (a*b) (m+n):=by
 unfold zN at*
 rw[Int.natAbs_mul,Int.natCast_mul,Int.pow_add]
 have h1:(a.natAbs:Int)*(b.natAbs:Int)<=(a.natAbs:Int)*E9^n:=Yc (Int.le_of_lt hb) (by omega)
 have h2:(a.natAbs:Int)*E9^n<E9^m*E9^n:=YH ha (pow_pos E0 n)
 omega
theorem qj6 {a b:Int} {n:Nat} (ha:zN a n) (hb:zN b n):zN (a+b) (n+1):=by
 unfold zN at*
 rw[Int.pow_succ]
 have hp:=pow_pos E0 n
 have:((a+b).natAbs:Int)<=(a.natAbs:Int)+(b.natAbs:Int):=by omega
 unfold E9 at*
 omega
theorem qhq {q:Rat} (h:Sml q 600):qkJ q=false:=by
 have h1:=h.1
 have h2:=h.2
 unfold qkJ lng
 rw[Int.natAbs_natCast,decide_eq_false (by omega),decide_eq_false (by omega)]
 rfl
theorem qmM (s:Str):xk s=some (if s=[48]then 0 else if sgn s=true then-1 else 1):=by
 unfold xk
 by_cases c:s=[48]
 ·rw[if_pos (by simp[c]),if_pos c]
 rw[if_neg (by simp[c]),qeZ,ZB,if_neg c]
 cases sgn s<;>rfl
theorem itoa0:Lib.itoa 0=[48]:=by
 rw[je (by decide),show(0:Int).natAbs=0 from rfl,jd (by decide)]
 rfl
theorem T0:T 0=[48]:=by
 rw[(qeo 0 rfl).1]
 exact itoa0
theorem qm8 {q:Rat}:T q=[48]↔q=0:=by
 constructor
 ·intro h
  exact T_inj (h.trans T0.symm)
 intro h
 rw[h]
 exact T0
theorem qhs (q:Rat):xk (T q)=some (if q.num<0 then-1 else if q.num=0 then 0 else 1):=by
 rw[qmM,qjL]
 by_cases c:q=0
 ·rw[if_pos (qm8.2 c),c]
  rfl
 rw[if_neg (fun h=>c (qm8.1 h)),if_neg (show¬q.num=0 from fun h=>c (Rat.num_eq_zero.1 h))]
 by_cases d:q.num<0
 ·rw[decide_eq_true d,if_pos rfl,if_pos d]
 rw[decide_eq_false d,if_neg (by simp),if_neg d]
theorem qqs (q:Rat):tl (-q)=tl q:=by
 unfold tl
 rw[Rat.neg_den]
theorem qoy {N:Nat} {q:Rat} (h:(T q).length<=100000):yM (T q)=some (T (-q)):=by
 unfold yM
 rw[qhs,ZB]
 have e:T (-q)=Lib.itoa (-q.num)++tl q:=by rw[qmC,qqs,Rat.neg_num]
 by_cases c:q.num<0
 ·have hs:sgn (T q)=true:=by rw[qjL];exact decide_eq_true c
  have hb:(T q).drop 1=bdy (T q):=by unfold bdy;rw[if_pos hs]
  have h1:=qjk hs
  rw[if_pos c,if_pos (by decide),show(1:Int)=((1:Nat):Int)from rfl,xC h1,ZB,hb,qkn,e,je (by omega),Int.natAbs_neg]
 rw[if_neg c,if_neg (by split<;>decide),ZB]
 by_cases d:q.num=0
 ·rw[if_pos d,if_pos rfl,Rat.num_eq_zero.1 d]
  rfl
 rw[if_neg d,if_neg (by decide),qbi (by simp;omega),ZB,e,vV (by omega),Int.natAbs_neg,qmC,je c]
 rfl
theorem qhd {N:Nat} (hN:100000<N) {q:Rat} {k:Nat} (h:Sml q k) (hk:k<=9000):yA N (T q)=some (0,0,false)\/(yA N (T q)=some (q.num,(q.den:Int),true)/\q.num.natAbs<1000000000/\q.den<1000000000):=by
 have hl:=qcS h
 have hb:=qfa (T q)
 have eb:=qkn q
 have es:slA (Lib.decDigits q.num.natAbs++tl q)=(Lib.decDigits q.num.natAbs).length:=qhf (no47 (qaT _)) q
 have lt:(Lib.decDigits q.num.natAbs++tl q).length=(Lib.decDigits q.num.natAbs).length+(tl q).length:=Yq
 rw[eb]at hb
 unfold yA
 by_cases c:((T q).length:Int)>20
 ·left
  rw[if_pos c]
 rw[if_neg c,qeZ,ZB,qkV,ZB,eb,qb1 (by omega) (by omega),ZB,es,qjL]
 by_cases c1:(Lib.decDigits q.num.natAbs).length>9
 ·left
  rw[if_pos (by omega),ZB,if_pos rfl]
 rw[if_neg (by omega),qh (by omega) (by omega)]
 by_cases c2:(tl q).length>10
 ·left
  rw[decide_eq_true (by omega),ZB,if_pos rfl]
 right
 rw[decide_eq_false (by omega),ZB,if_neg (by simp),yR (by omega),ZB,List.take_left',qeW (by omega) (qaT _) (by omega),ZB,qcb]
 ·have hn:q.num.natAbs<1000000000:=(xI (show 0<9 by decide)).1 (by omega)
  have sg:(if decide (q.num<0)=true then some (w64 (0-(q.num.natAbs:Int)))else some (q.num.natAbs:Int):Option Int)=some q.num:=by
   by_cases d:q.num<0
   ·rw[if_pos (decide_eq_true d),qh (by omega) (by omega)]
    congr 1
    omega
   rw[if_neg (fun h=>d (of_decide_eq_true h))]
   congr 1
   omega
  by_cases d:q.den=1
  ·have ht:tl q=[]:=by unfold tl;rw[if_pos d]
   rw[ht]at lt
   rw[List.length_nil]at lt
   rw[ht,if_neg (by omega),ZB,sg,ZB,d]
   exact⟨rfl,hn,by decide⟩
  have ht:tl q=47::Lib.decDigits q.den:=by unfold tl;rw[if_neg d]
  rw[ht,Yr]at lt c2
  have hd:q.den<1000000000:=(xI (show 0<9 by decide)).1 (by omega)
  rw[ht,if_pos (by omega),zK (by omega),xC (by omega),ZB,List.drop_append,List.drop_of_length_le (by omega),show(Lib.decDigits q.num.natAbs).length+1-(Lib.decDigits q.num.natAbs).length=1 by omega,List.nil_append,List.drop_succ_cons,YR,qeW (by omega) (qaT _) (by omega),ZB,ZB,sg,ZB,qcb]
  exact⟨rfl,hn,hd⟩
 rfl
theorem qpk {N:Nat} (hN:100000<N) {p q:Rat} {k:Nat} (hk:k<=9000) (hp:Sml p k) (hq:Sml q k) {Fq:(Int×Int×Bool)->(Int×Int×Bool)->Option Str} {slow:Option Str} {t:Str}
 (h1:p.num.natAbs<1000000000->p.den<1000000000->q.num.natAbs<1000000000->q.den<1000000000->Fq (p.num,(p.den:Int),true) (q.num,(q.den:Int),true)=some t) (h2:slow=some t):
 ((yA N (T p)).bind fun r1=>(yA N (T q)).bind fun r2=>(if r1.2.2=true then some r2.2.2 else some false:Option Bool).bind fun b4=>if b4=true then(Fq r1 r2).bind fun r7=>some r7 else slow)=some t:=by
 rcases qhd hN hp hk with e1|⟨e1,a1,a2⟩
 ·rcases qhd hN hq hk with e2|⟨e2,b1,b2⟩
  ·rw[e1,ZB,e2,ZB]
   exact h2
  rw[e1,ZB,e2,ZB]
  exact h2
 rcases qhd hN hq hk with e2|⟨e2,b1,b2⟩
 ·rw[e1,ZB,e2,ZB]
  exact h2
 rw[e1,ZB,e2,ZB]
 show((Fq (p.num,(p.den:Int),true) (q.num,(q.den:Int),true)).bind fun r7=>some r7)=some t
 rw[h1 a1 a2 b1 b2,ZB]
theorem mul9 {a b:Int} (ha:a.natAbs<1000000000) (hb:b.natAbs<1000000000): -1000000000000000000<=a*b/\a*b<=1000000000000000000:=by
 have h:(a*b).natAbs<=1000000000*1000000000:=by
  rw[Int.natAbs_mul]
  exact Nat.mul_le_mul (by omega) (by omega)
 omega
theorem qgk {N:Nat} (hN:600000<N) {p q:Rat} {k:Nat} (hk0:0<k) (hk:k<=4000) (hp:Sml p k) (hq:Sml q k):qaL N (T p) (T q)=some (T (p+q)):=by
 unfold qaL
 obtain⟨n,hn⟩: ∃n:Nat,n=500:=⟨_,rfl⟩
 have p1:=qe3 (n:=n) hp hk0 (by omega)
 have p2:=qgA (n:=n) hp hk0 (by omega)
 have q1:=qe3 (n:=n) hq hk0 (by omega)
 have q2:=qgA (n:=n) hq hk0 (by omega)
 refine qpk (N:=N) (by omega) (show k<=9000 by omega) hp hq (fun a1 a2 b1 b2=>?_) ?_
 ·have m1:=mul9 a1 (show((q.den:Int)).natAbs<1000000000 by omega)
  have m2:=mul9 b1 (show((p.den:Int)).natAbs<1000000000 by omega)
  have m3:=mul9 (show((p.den:Int)).natAbs<1000000000 by omega) (show((q.den:Int)).natAbs<1000000000 by omega)
  have:=qd2 p q
  simp only
  rw[qh (n:=p.num*(q.den:Int)) (by omega) (by omega),qh (n:=q.num*(p.den:Int)) (by omega) (by omega),qh (n:=(p.den:Int)*(q.den:Int)) (by omega) (by omega),qh (by omega) (by omega),qnm (by omega) (by omega) (by omega) (by omega) (by omega) (qd2 p q),<-qb9]
 rw[qfI hN (hp.mono (by omega)),ZB,qfI hN (hq.mono (by omega)),ZB]
 simp only
 rw[qhR (by omega) (p1.mono (by omega)) (q2.mono (by omega)),ZB,qhR (by omega) (q1.mono (by omega)) (p2.mono (by omega)),ZB,qpj (by omega) ((qbr p1 q2).mono (by omega)) ((qbr q1 p2).mono (by omega)),ZB,qhR (by omega) (p2.mono (by omega)) (q2.mono (by omega)),ZB,qjb hN (B:=n+n+1) (by omega) (by omega) (qj6 (qbr p1 q2) (qbr q1 p2)) ((qbr p2 q2).mono (by omega)) (qd2 p q),ZB,<-qb9]
theorem qgs {p q:Rat} {n:Nat} (hn:0<n) (hp:Sml p (9*n)) (hq:Sml q (9*n)):Sml (p+q) (9*(n+n+1)):=by
 have p1:=qe3 (n:=n) hp (by omega) (by omega)
 have p2:=qgA (n:=n) hp (by omega) (by omega)
 have q1:=qe3 (n:=n) hq (by omega) (by omega)
 have q2:=qgA (n:=n) hq (by omega) (by omega)
 rw[qb9]
 obtain⟨f1,f2⟩:=qgb (qd2 p q) (qj6 (qbr p1 q2) (qbr q1 p2)) ((qbr p2 q2).mono (show n+n<=n+n+1 by omega))
 exact qfC f1 f2 (by omega)
theorem qe2 {p:Rat} {k:Nat} (h:Sml p k):Sml (-p) k:=by
 unfold Sml
 rw[Rat.neg_num,Rat.neg_den,Int.natAbs_neg]
 exact h
theorem qgx {N:Nat} (hN:600000<N) {p q:Rat} {k:Nat} (hk0:0<k) (hk:k<=4000) (hp:Sml p k) (hq:Sml q k):qak N (T p) (T q)=some (T (p-q)):=by
 have hl:=qcS hq
 unfold qak
 rw[qoy (N:=N) (by omega),ZB,qgk hN hk0 hk hp (qe2 hq),ZB,Rat.sub_eq_add_neg]
theorem qpd {N:Nat} (hN:600000<N) {p q:Rat} {k:Nat} (hk0:0<k) (hk:k<=4000) (hp:Sml p k) (hq:Sml q k):qcT N (T p) (T q)=some (if p<q then-1 else if p=q then 0 else 1):=by
 unfold qcT
 rw[qgx hN hk0 hk hp hq,ZB,qhs,ZB]
 have a1:((p-q).num<0)=(p<q):=by
  apply propext
  rw[<-Rat.not_le,Rat.le_iff_sub_nonneg q p,<-Rat.num_nonneg]
  omega
 have a2:((p-q).num=0)=(p=q):=by
  apply propext
  rw[Rat.num_eq_zero]
  constructor
  ·intro h
   have:p-q+q=p:=Rat.sub_add_cancel
   rw[h,Rat.zero_add]at this
   exact this.symm
  intro h
  rw[h,Rat.sub_self]
 simp only[a1,a2]
end Go.Av
end
section
namespace Go.Av
def res (q:Rat):Str×Int:=if qkJ q=true then([],4)else(T q,0)
section ops
variable {N:Nat} (hN:600000<N)
include hN
variable {p q:Rat} (hp:Sml p 600) (hq:Sml q 600) (cp:chk (T p)=0) (cq:chk (T q)=0)
include hp hq cp cq
end ops
end Go.Av
end
section
namespace Go.Av
end Go.Av
end
section
namespace Go.Av
theorem qmm {N:Nat} (hN:600000<N) {f:qj} {q:Rat} (h:IsF f q) (fq:vw q 3900): ∃r,qac N f=some r/\IsZ r q.floor:=by
 obtain⟨a,b,e,i1,i2⟩:=qem (N:=N) (by omega) h.1 h.2 fq.1 fq.2 (by have:=q.den_pos;omega)
 refine⟨a,?_,?_⟩
 ·unfold qac
  rw[e,ZB]
 rw[Rat.floor_def]
 exact i1
theorem qiv {q:Rat} {n:Nat} (h:Fit q.num n):Fit q.floor n:=by
 rw[Rat.floor_def]
 exact qa2 (jo _ (by have:=q.den_pos;omega)) h
theorem qpi {m n:Nat} (h:m<=n):(Lib.decDigits m).length<=(Lib.decDigits n).length:=by
 have h1:=qfR n
 exact(xI h1).2 (Nat.lt_of_le_of_lt h ((xI h1).1 (Nat.le_refl _)))
theorem qmD {q:Rat} {k:Nat} (h:Sml q k) (hk:0<k):Sml ((q.floor:Int):Rat) k:=by
 constructor
 ·rw[Rat.num_intCast,Rat.floor_def]
  have:=jo q.num (show(0:Int)<(q.den:Int)by have:=q.den_pos;omega)
  exact Nat.le_trans (qpi (by omega)) h.1
 rw[Rat.den_intCast]
 exact(xI hk).2 (Nat.one_lt_pow (by omega) (by decide))
theorem qR {z:Int} {n:Nat} (h:Fit z n) (hn:1<=n):vw (z:Rat) n:=⟨by rw[Rat.num_intCast];exact h,by rw[Rat.den_intCast];exact F1 hn⟩
theorem qjy {N:Nat} (hN:600000<N) {a b:Int} {B:Nat} (hB:B<=8000) (fa:zN a B) (hb:0<b):qae N (rI a) (rI b)=some (rI (a/b)):=by
 have q0:0<=(a.natAbs:Int)/b:=Int.ediv_nonneg (by omega) (by omega)
 have r0:=Int.emod_nonneg (a.natAbs:Int) (show b≠0 by omega)
 have r1:=Int.emod_lt_of_pos (a.natAbs:Int) hb
 have dm:=Int.mul_ediv_add_emod (a.natAbs:Int) b
 have fq:zN ((a.natAbs:Int)/b) B:=zN.le (Int.le_trans (jo _ hb) (Int.le_refl _)) fa.abs
 have ql:(dg E9 ((a.natAbs:Int)/b)).length<=B:=by
  have:=fq.len
  rw[show((((a.natAbs:Int)/b).natAbs:Nat):Int)=(a.natAbs:Int)/b by omega]at this
  exact this
 have eb:(rI b).w=dg E9 b:=by rw[rI_w,show(b.natAbs:Int)=b by omega]
 unfold qae
 rw[eb,rI_w,qiM (by omega) (by omega) hb hB fa.abs,ZB]
 simp only
 by_cases hn:a<0
 ·rw[if_pos (show(rI a).neg=true from decide_eq_true hn),ZB]
  by_cases hr:(a.natAbs:Int)%b=0
  ·have hz:dg E9 ((a.natAbs:Int)%b)=[]:=by rw[hr];rfl
   have ev:a/b= -((a.natAbs:Int)/b):=by
    rw[show a= -(a.natAbs:Int)by omega,Int.natAbs_neg,Int.natAbs_natCast,Int.neg_ediv_of_dvd (Int.dvd_of_emod_eq_zero hr)]
   rw[hz,if_neg (by simp),ZB,vW _ (zC E1 q0).1 (by omega) (by omega),ZB,if_pos (show(rI a).neg=true from decide_eq_true hn),jm E1 q0,ev]
  have hz: ¬(dg E9 ((a.natAbs:Int)%b)).length=0:=by
   intro c
   have:=jm E1 r0
   rw[List.eq_nil_of_length_eq_zero c]at this
   exact hr this.symm
  have ev:a/b= -((a.natAbs:Int)/b+1):=by
   have:a=b*(-((a.natAbs:Int)/b+1))+(b-(a.natAbs:Int)%b):=by
    rw[Int.mul_neg,Int.mul_add,Int.mul_one]
    omega
   conv=>lhs;rw[this]
   rw[Int.add_comm,Int.add_mul_ediv_left _ _ (by omega),Int.ediv_eq_zero_of_lt (by omega) (by omega),Int.zero_add]
  obtain⟨l,e,hd,hl,hv⟩:=qfp (N:=N) (zC E1 q0).1 (b:=[1]) (by rw[<-qkD];exact(zC E1 (by decide)).1) (by omega) (by decide) (by omega)
  rw[decide_eq_true (show((dg E9 ((a.natAbs:Int)%b)).length:Int)>0 by omega),if_pos rfl,e,ZB,ZB,vW _ hd (by omega) (by omega),ZB,if_pos (show(rI a).neg=true from decide_eq_true hn),hv,jm E1 q0,show dv E9 [1]=1 from rfl,ev]
 rw[if_neg (show¬(rI a).neg=true from fun c=>hn (of_decide_eq_true c)),ZB,if_neg (by simp),ZB,vW _ (zC E1 q0).1 (by omega) (by omega),ZB,if_neg (show¬(rI a).neg=true from fun c=>hn (of_decide_eq_true c)),jm E1 q0,show(a.natAbs:Int)=a by omega]
theorem qkd {q:Rat} (h:q.den=1):((q.floor:Int):Rat)=q:=by
 apply Rat.ext
 ·rw[Rat.num_intCast,Rat.floor_def,h]
  exact Int.ediv_one _
 rw[Rat.den_intCast,h]
theorem qmJ {N:Nat} (hN:600000<N) {q:Rat} {k:Nat} (hk0:0<k) (hk:k<=4000) (h:Sml q k):qbt N (T q)=some (T ((q.floor:Int):Rat)):=by
 have hl:=qcS h
 have W:qaw N (T q)=some (decide (q.den=1)):=by
  unfold qaw
  rw[qb1 (by omega) (by omega),ZB]
  by_cases c:q.den=1
  ·rw[(qeo q c).2,decide_eq_true c,decide_eq_true rfl]
  have:=(qfy q c).1
  rw[decide_eq_false c,decide_eq_false (by omega)]
 unfold qbt
 rw[W,ZB]
 by_cases c:q.den=1
 ·rw[if_pos (decide_eq_true c),qkd c]
 rw[if_neg (fun x=>c (of_decide_eq_true x)),qfI hN (h.mono hk),ZB]
 have p1:=qe3 (n:=500) h hk0 (by omega)
 have hd:=den_pos q
 have p2:zN (q.num/(q.den:Int)) 500:=zN.le (Int.le_trans (jo _ (by omega)) (Int.le_refl _)) p1
 simp only
 rw[qjy hN (by omega) p1 (by omega),ZB,qgi (by omega) (p2.mono (by omega)),ZB]
 unfold T
 rw[Rat.num_intCast,Rat.den_intCast,if_pos rfl,YQ,Rat.floor_def]
theorem fit1 {z:Int} (h1: -9223372036854775808<=z) (h2:z<=9223372036854775807):Fit z 1:=by
 have:W=18446744073709551616:=rfl
 unfold Fit
 rw[Int.pow_succ,Int.pow_zero,Int.one_mul]
 omega
end Go.Av
end
section
namespace Go.Av
open Classical
theorem qdE {p q:Rat}:((if p<q then-1 else if p=q then 0 else 1:Int)>0)↔q<p:=by
 by_cases h:p<q
 ·rw[if_pos h]
  exact⟨fun c=>absurd c (by decide),fun c=>absurd c (Rat.not_lt.2 (Rat.le_of_lt h))⟩
 rw[if_neg h]
 by_cases e:p=q
 ·rw[if_pos e]
  exact⟨fun c=>absurd c (by decide),fun c=>absurd (e▸c) Rat.lt_irrefl⟩
 rw[if_neg e]
 refine⟨fun _=>?_,fun _=>by decide⟩
 exact Rat.lt_of_le_of_ne (Rat.not_lt.1 h) (Ne.symm e)
theorem qqq {p q:Rat}:((if p<q then-1 else if p=q then 0 else 1:Int)<0)↔p<q:=by
 by_cases h:p<q
 ·rw[if_pos h]
  exact⟨fun _=>h,fun _=>by decide⟩
 rw[if_neg h]
 refine⟨fun c=>?_,fun c=>absurd c h⟩
 by_cases e:p=q
 ·rw[if_pos e]at c
  exact absurd c (by decide)
 rw[if_neg e]at c
 exact absurd c (by decide)
def IsL:List qj->List Rat->Prop
 |[],[]=>True
 |f::l,q::r=>IsF f q/\IsL l r
 |_,_=>False
theorem IsL.get: ∀{l:List qj} {r:List Rat},IsL l r->l.length=r.length/\ ∀(i:Nat) (q:Rat),r[i]? =some q-> ∃f,l[i]? =some f/\IsF f q
 |[],[],_=>⟨rfl,fun i q h=>by simp at h⟩
 |f::l,q::r,h=>by
  obtain⟨h1,h2⟩:=h
  obtain⟨a,b⟩:=IsL.get h2
  refine⟨by simp[a],fun i x hx=>?_⟩
  match i,hx with
  |0,hx=>
   simp at hx
   exact⟨f,rfl,hx▸h1⟩
  |i+1,hx=>
   rw[YK]at hx⊢
   exact b i x hx
 |[],_::_,h=>h.elim
 |_::_,[],h=>h.elim
end Go.Av
end
section
namespace Go.Av
theorem qnx {q:Rat}:0<q.num↔0<q:=by
 have h1:=Rat.num_nonneg (q:=q)
 have h2:=Rat.num_eq_zero (q:=q)
 constructor
 ·intro h
  exact Rat.lt_of_le_of_ne (h1.1 (by omega)) (fun e=>by have:=h2.2 e.symm;omega)
 intro h
 have h3:=h1.2 (Rat.le_of_lt h)
 have h4:q.num≠0:=fun e=>Rat.ne_of_gt h (h2.1 e)
 omega
theorem qn7 {f:qj} {q:Rat} (h:IsF f q):qat f=some (if q.num<0 then-1 else if q.num=0 then 0 else 1):=by
 unfold qat
 rw[qdg h.1,ZB]
section ops
variable {N:Nat} (hN:600000<N)
include hN
variable {p p' q q':Rat} (hp:Sml p 60) (hp':Sml p' 60) (hq:Sml q 60) (hq':Sml q' 60) (cp:chk (T p)=0) (cp':chk (T p')=0) (cq:chk (T q)=0) (cq':chk (T q')=0) (hpp:p<=p') (hqq:q<=q')
include hp hp' hq hq' cp cp' cq cq' hpp hqq
end ops
end Go.Av
end
section
namespace Go.Av
theorem tdm {n:Int}:((n.tdiv 1000000000).natAbs:Int)=(n.natAbs:Int)/1000000000/\((n.tmod 1000000000).natAbs:Int)=(n.natAbs:Int)%1000000000/\(n.tmod 1000000000<0->n<0):=by
 rcases Int.lt_or_le n 0 with h|h
 ·obtain⟨m,rfl⟩: ∃m,n= -m:=⟨-n,by omega⟩
  rw[Int.neg_tdiv,Int.neg_tmod,YF (by omega),Int.tmod_eq_emod_of_nonneg (by omega)]
  omega
 rw[YF h,Int.tmod_eq_emod_of_nonneg h]
 omega
theorem qjo: ∀(k K:Nat) (l:List Int) (n:Int),(n.natAbs:Int)<E9^k->k<=3->k<K-> -9223372036854775808<=n->n<=9223372036854775807->l.length+k<=1000-> ∃w,zS K l n=some (l++w)/\Dg E9 w/\dv E9 w=(n.natAbs:Int)/\w.length<=k
 |k,0,l,n,_,_,hK,_,_,_=>by omega
 |k,K+1,l,n,hn,hk,hK,h1,h2,hl=>by
  rw[zS]
  by_cases h0:n=0
  ·rw[if_neg (by simp[h0]),h0]
   exact⟨[],by simp,Dg.nil,rfl,by simp⟩
  match k,hn,hk,hK with
  |0,hn,hk,hK=>
   rw[Int.pow_zero]at hn
   omega
  |k+1,hn,hk,hK=>
   obtain⟨t1,t2,t3⟩:=tdm (n:=n)
   have ed:(if n.tmod 1000000000<0 then some (w64 (0-n.tmod 1000000000))else some (n.tmod 1000000000):Option Int)=some ((n.natAbs:Int)%1000000000):=by
    by_cases c:n.tmod 1000000000<0
    ·rw[if_pos c,qh (by omega) (by omega)]
     congr 1
     omega
    rw[if_neg c]
    congr 1
    omega
   have e9:E9^(k+1)=E9^k*E9:=Int.pow_succ ..
   have hq:((n.tdiv 1000000000).natAbs:Int)<E9^k:=by
    rw[t1]
    exact Int.ediv_lt_of_lt_mul (by decide) (by rw[<-e9];exact hn)
   rw[if_pos (by simp[h0]),ed,ZB,qcw (by simp;omega) (by simp;omega),ZB,qh (by omega) (by omega)]
   obtain⟨w,e,d1,d2,d3⟩:=qjo k K (l++[(n.natAbs:Int)%1000000000]) (n.tdiv 1000000000) hq (by omega) (by omega) (by omega) (by omega) (by simp;omega)
   refine⟨(n.natAbs:Int)%1000000000::w,by rw[e,Yz];rfl,Dg.cons ⟨by omega,by show _<(1000000000:Int);omega⟩ d1,?_,by simp;omega⟩
   rw[zw,d2,t1]
   show(n.natAbs:Int)%1000000000+1000000000*((n.natAbs:Int)/1000000000)=_
   omega
theorem qnP {N:Nat} (hN:100<N) {n:Int} (h1: -9223372036854775808<=n) (h2:n<=9223372036854775807):vS N n=some (rI n):=by
 obtain⟨w,e,d1,d2,d3⟩:=qjo 3 N [] n (by show _<(1000000000:Int)^3;omega) (by omega) (by omega) h1 h2 (by simp)
 unfold vS
 rw[e,ZB,List.nil_append,vW _ d1 (by omega) (by omega),ZB,d2]
 congr 2
 by_cases c:n<0
 ·rw[if_pos (decide_eq_true c)]
  omega
 rw[if_neg (fun h=>c (of_decide_eq_true h))]
 omega
theorem qpL (n:Int):T (n:Rat)=Lib.itoa n:=by
 unfold T
 rw[Rat.num_intCast,Rat.den_intCast,if_pos rfl,YQ]
theorem qoh {n:Int} (h1: -9223372036854775808<=n) (h2:n<=9223372036854775807):zN n 3:=by
 show(n.natAbs:Int)<(1000000000:Int)^3
 omega
theorem qkA {N:Nat} (hN:60000<N) {n:Int} (h1: -9223372036854775808<=n) (h2:n<=9223372036854775807):xD N n=some (T (n:Rat)):=by
 unfold xD
 rw[qnP (by omega) h1 h2,ZB,qgi hN ((qoh h1 h2).mono (by omega)),ZB,qpL]
theorem qpx {n:Int} (h1: -9223372036854775808<=n) (h2:n<=9223372036854775807):Sml (n:Rat) 27:=by
 refine qfC (n:=3) ?_ ?_ (by omega)
 ·rw[Rat.num_intCast]
  exact qoh h1 h2
 rw[Rat.den_intCast]
 exact qoh (by decide) (by decide)
theorem qfq (q:Rat):q.abs=if q.num<0 then-q else q:=by
 by_cases h:q.num<0
 ·rw[if_pos h,Rat.abs_of_nonpos]
  rw[<-Rat.not_lt,<-qnx]
  omega
 rw[if_neg h,Rat.abs_of_nonneg]
 rw[<-Rat.num_nonneg]
 omega
theorem qkL {q:Rat} (h:(T q).length<=100000):yS (T q)=some (T q.abs):=by
 have hn:=qoy (N:=0) h
 unfold yM at hn
 rw[qhs,ZB]at hn
 unfold yS
 rw[qhs,ZB,qfq]
 by_cases c:q.num<0
 ·simp only[if_pos c]at hn⊢
  rw[if_pos (by decide)]at hn⊢
  exact hn
 simp only[if_neg c]
 rw[if_neg (by split<;>decide)]
theorem qlZ {q:Rat} {k:Nat} (h:Sml q k):Sml q.abs k:=by
 rw[qfq]
 split
 ·exact qe2 h
 exact h
def bst (x b y:Rat):Rat:=if(x-y).abs<(x-b).abs then y else b
def cnd (x:Rat) (i:Nat):Rat:=Rat.divInt ((x*((i/2:Nat):Rat)).floor+((i%2:Nat):Int)) ((i/2:Nat):Int)
def Fst (x b:Rat) (n:Nat):Prop:= ∃i,2<=i/\i<n/\b=cnd x i/\ ∀j,2<=j->j<n->(x-b).abs<(x-cnd x j).abs\/((x-b).abs=(x-cnd x j).abs/\i<=j)
theorem Fst.step {x b:Rat} {n:Nat} (h:Fst x b n):Fst x (bst x b (cnd x n)) (n+1):=by
 obtain⟨i,h1,h2,h3,h4⟩:=h
 unfold bst
 by_cases c:(x-cnd x n).abs<(x-b).abs
 ·rw[if_pos c]
  refine⟨n,by omega,by omega,rfl,fun j j1 j2=>?_⟩
  by_cases e:j=n
  ·exact .inr ⟨by rw[e],by omega⟩
  rcases h4 j j1 (by omega)with k|⟨k,_⟩
  ·exact .inl (qoS c k)
  exact .inl (k▸c)
 rw[if_neg c]
 refine⟨i,h1,by omega,h3,fun j j1 j2=>?_⟩
 by_cases e:j=n
 ·rw[e]
  rcases Rat.le_iff_lt_or_eq.1 (Rat.not_lt.1 c)with k|k
  ·exact .inl k
  exact .inr ⟨k,by omega⟩
 exact h4 j j1 (by omega)
end Go.Av
end
section
namespace Go.Av
theorem F_eq {n:Int} (h1: -9223372036854775808<=n) (h2:n<=9223372036854775807): ∃f,qfs n=some f/\IsF f (n:Rat):=by
 obtain⟨f,e,i⟩:=qff (Ud h1 h2)
 refine⟨f,?_,i⟩
 unfold qfs
 rw[qh1,ZB,e,ZB]
theorem qoz {N:Nat} (hN:600000<N) {f:qj} {q:Rat} (h:IsF f q) (fq:vw q 3900): ∃g,xm N f=some g/\IsF g ((q.floor:Int):Rat):=by
 obtain⟨r,e,i⟩:=qmm hN h fq
 obtain⟨g,e2,i2⟩:=qff i
 refine⟨g,?_,i2⟩
 unfold xm
 rw[e,ZB,e2,ZB]
theorem qnW {N:Nat} (hN:600000<N) {f g:qj} {p q:Rat} (hf:IsF f p) (hg:IsF g q) {n:Nat} (hn:n<=1900) (fp:vw p n) (fq:vw q n): ∃r,qbg N f g=some r/\IsF r (q-p).abs:=by
 obtain⟨a,e1,i1⟩:=qgw hN hf hg hn fp fq
 obtain⟨b,e2,i2⟩:=qgw hN hg hf hn fq fp
 unfold qbg
 rw[e1,ZB,qn7 i1,ZB,e2,ZB]
 by_cases h:(p-q).num<0
 ·rw[if_pos h,if_pos (by decide)]
  refine⟨b,rfl,?_⟩
  rw[Rat.abs_sub_comm,qfq,if_pos h,Rat.neg_sub]
  exact i2
 rw[if_neg h,if_neg (by split<;>decide)]
 refine⟨a,rfl,?_⟩
 rw[Rat.abs_sub_comm,qfq,if_neg h]
 exact i1
theorem qjI {N:Nat} (hN:600000<N) {fc fd fk fa fb:qj} {c d k a b:Int} (ic:IsF fc (c:Rat)) (id:IsF fd (d:Rat)) (ik:IsF fk (k:Rat)) (ia:IsF fa (a:Rat)) (ib:IsF fb (b:Rat)) {n:Nat} (hn1:1<=n) (hn:n<=900) (zc:Fit c n) (zd:Fit d n) (zk:Fit k n) (za:Fit a n) (zb:Fit b n):
 ∃u v:qj,ko N ⟨fc,fd⟩ fk ⟨fa,fb⟩=some ⟨u,v⟩/\IsF u ((c*k+a:Int):Rat)/\IsF v ((d*k+b:Int):Rat):=by
 have m1:=qfu (qR zc hn1) (qR zk hn1)
 have m2:=qfu (qR zd hn1) (qR zk hn1)
 obtain⟨r1,e1,i1⟩:=qjm hN ic ik (n:=n) (by omega) (qR zc hn1) (qR zk hn1)
 obtain⟨r2,e2,i2⟩:=qiS hN i1 ia (n:=n+n) (by omega) m1 ((qR za hn1).mono (by omega))
 obtain⟨r3,e3,i3⟩:=qjm hN id ik (n:=n) (by omega) (qR zd hn1) (qR zk hn1)
 obtain⟨r4,e4,i4⟩:=qiS hN i3 ib (n:=n+n) (by omega) m2 ((qR zb hn1).mono (by omega))
 refine⟨r2,r4,?_,?_,?_⟩
 ·unfold ko
  simp only
  rw[e1,ZB,e2,ZB,e3,ZB,e4,ZB]
 ·rw[Rat.intCast_add,Rat.intCast_mul]
  exact i2
 rw[Rat.intCast_add,Rat.intCast_mul]
 exact i4
theorem qj9 (r:Rat):r-(r.floor:Rat)=Rat.divInt (r.num%(r.den:Int)) (r.den:Int):=by
 have h:((r.den:Int):Rat)≠0:=by
  rw[Ne,Rat.intCast_eq_zero_iff]
  have:=r.den_pos
  omega
 have e:(r-(r.floor:Rat))*((r.den:Int):Rat)=((r.num%(r.den:Int):Int):Rat):=by
  rw[Rat.sub_eq_add_neg,Rat.add_mul,qdb,Rat.floor_def,Int.emod_def,Rat.intCast_sub,Rat.intCast_mul]
  grind
 rw[Rat.divInt_eq_div,<-e,Rat.mul_div_cancel h]
theorem qiE {r:Rat} {n:Nat} (h:vw r n):vw (r-(r.floor:Rat)) n:=by
 rw[qj9]
 have hd:=r.den_pos
 refine qcZ (by omega) ?_ h.2
 refine qa2 ?_ h.2
 have:=Int.emod_nonneg r.num (show(r.den:Int)≠0 by omega)
 have:=Int.emod_lt_of_pos r.num (show(0:Int)<(r.den:Int)by omega)
 omega
theorem qkC {x:Rat} {n:Nat} (h:vw x n):x<=((W^n:Int):Rat)/\ -((W^n:Int):Rat)<=x:=by
 have hd:=x.den_pos
 have h1:(x.num.natAbs:Int)<W^n:=h.1
 have hp:(0:Int)<=W^n:=by omega
 have hm:W^n*1<=W^n*(x.den:Int):=Yc (by omega) hp
 rw[<-Rat.intCast_neg]
 constructor
 ·rw[Rat.le_iff,Rat.num_intCast,Rat.den_intCast]
  omega
 rw[Rat.le_iff,Rat.num_intCast,Rat.den_intCast,Int.neg_mul]
 omega
theorem qm6 {x:Rat} {n m:Nat} (hx:vw x n) {c d:Int} (h0:0<=d) (hd:d<=m) (hm:m<=1000) (h1:(c:Rat)-x*(d:Rat)<=1) (h2: -1<=(c:Rat)-x*(d:Rat)):Fit c (n+1):=by
 obtain⟨b1,b2⟩:=qkC hx
 have hd':(0:Rat)<=(d:Rat):=Rat.intCast_nonneg.2 h0
 have hW:(1:Int)<=W^n:=pow_pos (show(0:Int)<W by decide) n
 have m1:=Rat.mul_le_mul_of_nonneg_right b1 hd'
 have m2:=Rat.mul_le_mul_of_nonneg_right b2 hd'
 have u1:(c:Rat)<=((W^n*d+1:Int):Rat):=by
  rw[Rat.intCast_add,Rat.intCast_mul,show((1:Int):Rat)=1 from rfl]
  grind
 have u2:((-(W^n*d+1):Int):Rat)<=(c:Rat):=by
  rw[Rat.intCast_neg,Rat.intCast_add,Rat.intCast_mul,show((1:Int):Rat)=1 from rfl]
  grind
 rw[Rat.intCast_le_intCast]at u1 u2
 have m3:W^n*d<=W^n*1000:=Yc (by omega) (by omega)
 have e:W^(n+1)=W^n*W:=Int.pow_succ ..
 have m4:W^n*1001<W^n*W:=Int.mul_lt_mul_of_pos_left (by decide) (by omega)
 unfold Fit
 omega
structure Cvg (x:Rat) (m:Nat) (a b c d:Int) (r:Rat):Prop where
 b0:0<=b
 d0:0<=d
 bm:b<=m
 dm:d<=m
 st:(b=1/\d=0)\/(1<=d/\1<r)
 fr:vw r 4
 za:Fit a 5
 zc:Fit c 5
 eq:x*((d:Rat)*r+(b:Rat))=(c:Rat)*r+(a:Rat)
 det:c*b-d*a=1\/c*b-d*a= -1
theorem qid {r:Rat} (h:1<r):1<=r.floor:=by
 rw[Rat.le_floor_iff]
 exact Rat.le_of_lt h
theorem Cvg.next {x:Rat} {m:Nat} {a b c d:Int} {r:Rat} (h:Cvg x m a b c d r) (hm1:1<=m) (hm:m<=1000) (fx:vw x 4) (hd:d*r.floor+b<=m) (hr:r≠(r.floor:Rat)):
 Cvg x m c d (c*r.floor+a) (d*r.floor+b) (r-(r.floor:Rat))⁻¹/\1<=d*r.floor+b/\b+d+1<=d+(d*r.floor+b)+(if d=0 then 1 else 0):=by
 have hpos:0<r-(r.floor:Rat):=by
  rw[<-Rat.lt_iff_sub_pos]
  exact Rat.lt_of_le_of_ne (Rat.floor_le _) (Ne.symm hr)
 have hlt:r-(r.floor:Rat)<1:=by
  have:=Rat.lt_floor_add_one r
  rw[Rat.intCast_add,show((1:Int):Rat)=1 from rfl]at this
  grind
 have hne:r-(r.floor:Rat)≠0:=Rat.ne_of_gt hpos
 have k1:1<=d*r.floor+b/\b+d+1<=d+(d*r.floor+b)+(if d=0 then 1 else 0):=by
  rcases h.st with⟨e1,e2⟩|⟨e1,e2⟩
  ·rw[e1,e2]
   simp
  have f1:=qid e2
  have:=Yc f1 h.d0
  have:=h.b0
  rw[if_neg (by omega)]
  omega
 have hinv:=Rat.mul_inv_cancel _ hne
 have hs:(1:Rat)<(r-(r.floor:Rat))⁻¹:=by
  have p:=Rat.inv_pos.2 hpos
  have:=Rat.mul_lt_mul_of_pos_right hlt p
  rw[hinv,Rat.one_mul]at this
  exact this
 generalize hg:(r-(r.floor:Rat))⁻¹=s at*
 have er:r=(r.floor:Rat)+s⁻¹:=by
  rw[<-hg,Rat.inv_inv]
  grind
 generalize hk:r.floor=k at*
 have es:(r-(k:Rat))*s=1:=hinv
 have e2:x*(((d*k+b:Int):Rat)*s+(d:Rat))=((c*k+a:Int):Rat)*s+(c:Rat):=by
  have h1:=h.eq
  rw[Rat.intCast_add,Rat.intCast_mul,Rat.intCast_add,Rat.intCast_mul]
  have h2:x*((d:Rat)*r+(b:Rat))*s=((c:Rat)*r+(a:Rat))*s:=by rw[h1]
  have h3:r*s=1+(k:Rat)*s:=by grind
  have h4:x*((d:Rat)*(r*s)+(b:Rat)*s)=(c:Rat)*(r*s)+(a:Rat)*s:=by grind
  rw[h3]at h4
  grind
 have dt:(c*k+a)*d-(d*k+b)*c=1\/(c*k+a)*d-(d*k+b)*c= -1:=by
  have:(c*k+a)*d-(d*k+b)*c= -(c*b-d*a):=by grind
  rcases h.det with e|e
  ·right;rw[this,e]
  left;rw[this,e];rfl
 refine⟨?_,k1⟩
 have D1:(1:Rat)<=((d*k+b:Int):Rat)*s+(d:Rat):=by
  have a1:(1:Rat)<=((d*k+b:Int):Rat):=by
   have:=Rat.intCast_le_intCast.2 k1.1
   exact this
  have a2:(0:Rat)<=(d:Rat):=Rat.intCast_nonneg.2 h.d0
  have a3:=Rat.mul_le_mul_of_nonneg_right a1 (show(0:Rat)<=s from Rat.le_trans (by decide) (Rat.le_of_lt hs))
  rw[Rat.one_mul]at a3
  have:=Rat.le_of_lt hs
  grind
 have zz:(((c*k+a:Int):Rat)-x*((d*k+b:Int):Rat))*(((d*k+b:Int):Rat)*s+(d:Rat))=(((c*k+a)*d-(d*k+b)*c:Int):Rat):=by
  rw[Rat.intCast_sub,Rat.intCast_mul,Rat.intCast_mul]
  generalize ((c*k+a:Int):Rat)=C at*
  generalize ((d*k+b:Int):Rat)=E at*
  generalize (c:Rat)=c' at*
  generalize (d:Rat)=d' at*
  have:(C-x*E)*(E*s+d')=C*(E*s+d')-E*(x*(E*s+d')):=by grind
  rw[this,e2]
  grind
 have hz:((c*k+a:Int):Rat)-x*((d*k+b:Int):Rat)<=1/\ -1<=((c*k+a:Int):Rat)-x*((d*k+b:Int):Rat):=by
  generalize ((c*k+a:Int):Rat)-x*((d*k+b:Int):Rat)=z at*
  generalize ((d*k+b:Int):Rat)*s+(d:Rat)=D at*
  have hD0:(0:Rat)<=D:=Rat.le_trans (by decide) D1
  have hb:z*D=1\/z*D= -1:=by
   rw[zz]
   rcases dt with e|e
   ·left;rw[e];rfl
   right;rw[e];rfl
  constructor
  ·rw[<-Rat.not_lt]
   intro hc
   have:=Rat.mul_lt_mul_of_pos_right hc (show(0:Rat)<D by grind)
   rw[Rat.one_mul]at this
   grind
  rw[<-Rat.not_lt]
  intro hc
  have:=Rat.mul_lt_mul_of_pos_right hc (show(0:Rat)<D by grind)
  grind
 exact {b0:=h.d0,d0:=by omega,bm:=h.dm,dm:=hd,st:= .inr ⟨k1.1,hs⟩,fr:=by rw[<-hg];exact qfA (by rw[<-hk];exact qiE h.fr) (by omega),za:=h.zc,zc:=qm6 fx (by omega) hd hm hz.1 hz.2,eq:=e2,det:=dt}
end Go.Av
end
section
namespace Go.Av
theorem xH {z:Int} {m:Nat} (h0:0<=z) (h:z<=m) (hm:m<=1000) {n:Nat} (hn:1<=n):Fit z n:=(fit1 (by omega) (by omega)).mono hn
theorem qcm {p q:Rat}:((if p<q then-1 else if p=q then 0 else 1:Int)=0)↔p=q:=by
 by_cases h:p<q
 ·rw[if_pos h]
  exact⟨fun c=>absurd c (by decide),fun c=>absurd (c▸h) Rat.lt_irrefl⟩
 rw[if_neg h]
 by_cases e:p=q
 ·rw[if_pos e]
  exact⟨fun _=>e,fun _=>rfl⟩
 rw[if_neg e]
 exact⟨fun c=>absurd c (by decide),fun c=>absurd c e⟩
def IsC (fa fb fc fd fr:qj) (a b c d:Int) (r:Rat):Prop:=IsF fa (a:Rat)/\IsF fb (b:Rat)/\IsF fc (c:Rat)/\IsF fd (d:Rat)/\IsF fr r
theorem qlk {N:Nat} (hN:600000<N) {x:Rat} {m:Nat} (hm1:1<=m) (hm:m<=1000) (fx:vw x 4) (sx:Sml x 600) {M:qj} (iM:IsF M ((m:Int):Rat)):
 ∀(K:Nat) (fa fb fc fd fr:qj) (a b c d:Int) (r:Rat),IsC fa fb fc fd fr a b c d r->Cvg x m a b c d r->2*m+6<=K+(b+d).toNat+(if d=0 then 0 else 1)->
 (zP N M K fa.Num.s fa.Num.w fa.Den.s fa.Den.w fb.Num.s fb.Num.w fb.Den.s fb.Den.w fc.Num.s fc.Num.w fc.Den.s fc.Den.w fd.Num.s fd.Num.w fd.Den.s fd.Den.w fr.Num.s fr.Num.w fr.Den.s fr.Den.w=some (.inr (T x,0))/\x.den<=m)\/
 ∃(ga gb gc gd gr:qj) (a b c d:Int) (r:Rat),zP N M K fa.Num.s fa.Num.w fa.Den.s fa.Den.w fb.Num.s fb.Num.w fb.Den.s fb.Den.w fc.Num.s fc.Num.w fc.Den.s fc.Den.w fd.Num.s fd.Num.w fd.Den.s fd.Den.w fr.Num.s fr.Num.w fr.Den.s fr.Den.w=some (.inl (ga.Num.s,ga.Num.w,ga.Den.s,ga.Den.w,gb.Num.s,gb.Num.w,gb.Den.s,gb.Den.w,gc.Num.s,gc.Num.w,gc.Den.s,gc.Den.w,gd.Num.s,gd.Num.w,gd.Den.s,gd.Den.w))/\
  IsC ga gb gc gd gr a b c d r/\Cvg x m a b c d r/\(m:Int)<d*r.floor+b
 |0,fa,fb,fc,fd,fr,a,b,c,d,r,hi,h,hK=>by
  have:=h.b0;have:=h.d0;have:=h.bm;have:=h.dm
  exfalso
  split at hK<;>omega
 |K+1,fa,fb,fc,fd,fr,a,b,c,d,r,hi,h,hK=>by
  obtain⟨ia,ib,ic,id,ir⟩:=hi
  have zb:=xH h.b0 h.bm hm (n:=5) (by omega)
  have zd:=xH h.d0 h.dm hm (n:=5) (by omega)
  have zk:Fit r.floor 5:=(qiv h.fr.1).mono (by omega)
  obtain⟨fk,e1,ik⟩:=qoz hN ir (h.fr.mono (by omega))
  obtain⟨u,v,e2,iu,iv⟩:=qjI hN ic id ik ia ib (n:=5) (by omega) (by omega) h.zc zd zk h.za zb
  have zv:Fit (d*r.floor+b) 11:=(qfi (n:=5+5) (yz zd zk) (zb.mono (by omega))).mono (by omega)
  have zu:Fit (c*r.floor+a) 11:=(qfi (n:=5+5) (yz h.zc zk) (h.za.mono (by omega))).mono (by omega)
  have zm:Fit (m:Int) 11:=xH (by omega) (Int.le_refl _) hm (by omega)
  have e3:=qfz hN iv iM (n:=11) (by omega) (qR zv (by omega)) (qR zm (by omega))
  have ir':IsF ⟨⟨fr.Num.s,fr.Num.w⟩,⟨fr.Den.s,fr.Den.w⟩⟩ r:=ir
  have e4:=qfz hN ir' ik (n:=11) (by omega) (h.fr.mono (by omega)) (qR (zk.mono (by omega)) (by omega))
  rw[zP]
  rw[show xm N (⟨⟨fr.Num.s,fr.Num.w⟩,⟨fr.Den.s,fr.Den.w⟩⟩:qj)=some fk from e1,ZB,show ko N ⟨⟨⟨fc.Num.s,fc.Num.w⟩,⟨fc.Den.s,fc.Den.w⟩⟩,⟨⟨fd.Num.s,fd.Num.w⟩,⟨fd.Den.s,fd.Den.w⟩⟩⟩ fk ⟨⟨⟨fa.Num.s,fa.Num.w⟩,⟨fa.Den.s,fa.Den.w⟩⟩,⟨⟨fb.Num.s,fb.Num.w⟩,⟨fb.Den.s,fb.Den.w⟩⟩⟩=some ⟨u,v⟩from e2,ZB,e3,ZB]
  by_cases hc:(m:Int)<d*r.floor+b
  ·rw[if_pos (qdE.2 (Rat.intCast_lt_intCast.2 hc))]
   exact .inr ⟨fa,fb,fc,fd,fr,a,b,c,d,r,rfl,⟨ia,ib,ic,id,ir⟩,h,hc⟩
  rw[if_neg (fun y=>hc (Rat.intCast_lt_intCast.1 (qdE.1 y))),e4,ZB]
  have dpos:1<=d*r.floor+b:=by
   rcases h.st with⟨s1,s2⟩|⟨s1,s2⟩
   ·rw[s1,s2]
    simp
   have:=Yc (qid s2) h.d0
   have:=h.b0
   omega
  have dne:(((d*r.floor+b:Int):Rat))≠0:=by
   rw[Ne,Rat.intCast_eq_zero_iff]
   omega
  by_cases hr:r=(r.floor:Rat)
  ·left
   have ex:x*((d*r.floor+b:Int):Rat)=((c*r.floor+a:Int):Rat):=by
    have:=h.eq
    rw[Rat.intCast_add,Rat.intCast_mul,Rat.intCast_add,Rat.intCast_mul,<-hr]
    exact this
   obtain⟨w,e5,iw⟩:=qgt hN iu iv (n:=11) (by omega) (by omega) (qR zu (by omega)) (qR zv (by omega)) dne
   have exw:((c*r.floor+a:Int):Rat)/((d*r.floor+b:Int):Rat)=x:=by
    rw[<-ex,Rat.mul_div_cancel dne]
   rw[exw]at iw
   rw[if_pos (qcm.2 hr),e5,ZB,qfJ hN iw (fx.mono (by omega)),ZB,qhq sx]
   refine⟨rfl,?_⟩
   have hd:(x.den:Int)<=d*r.floor+b:=by
    rw[<-exw,<-Rat.divInt_eq_div,Rat.den_divInt,if_neg (by omega),Int.natCast_ediv]
    have:=jo (((d*r.floor+b).natAbs:Nat):Int) (show(0:Int)<(Int.gcd (d*r.floor+b) (c*r.floor+a):Int)by have:=Int.gcd_pos_of_ne_zero_left (c*r.floor+a) (show d*r.floor+b≠0 by omega);omega)
    omega
   omega
  obtain⟨nx,k1,k2⟩:=h.next hm1 hm fx (by omega) hr
  obtain⟨s,e5,is⟩:=qgw hN ir' ik (n:=11) (by omega) (h.fr.mono (by omega)) (qR (zk.mono (by omega)) (by omega))
  have hne:r-(r.floor:Rat)≠0:=fun e=>hr (by grind)
  obtain⟨t,e6,it⟩:=ql0 hN is ((qiE h.fr).mono (by omega)) hne
  rw[if_neg (fun y=>hr (qcm.1 y)),e5,ZB,e6,ZB]
  refine qlk hN hm1 hm fx sx iM K fc fd u v t c d _ _ _ ⟨ic,id,iu,iv,it⟩ nx ?_
  rw[if_neg (by omega)]
  have:=h.b0
  have:=h.d0
  by_cases z:d=0
  ·rw[if_pos z]at hK k2
   omega
  rw[if_neg z]at hK k2
  omega
end Go.Av
end
section
namespace Go.Av
theorem qnb {N:Nat} (hN:10<N) (a b c:Int):qb5 N [a,b,c]=some (if a=0 then(if b=0 then c else b)else a):=by
 obtain⟨K,rfl⟩: ∃K,N=K+1+1+1+1:=⟨N-4,by omega⟩
 unfold qb5
 rw[jP,if_pos (by simp),qbF,Yj,ZB]
 by_cases h:a=0
 ·rw[if_neg (by simp[h]),if_pos h,show w64 (0+1)=((1:Nat):Int)from rfl,jP,if_pos (by simp),qz,YK,Yj,ZB]
  by_cases k:b=0
  ·rw[if_neg (by simp[k]),if_pos k,show w64 (((1:Nat):Int)+1)=((2:Nat):Int)from rfl,jP,if_pos (by simp),qz,YK,YK,Yj,ZB]
   by_cases l:c=0
   ·rw[if_neg (by simp[l]),show w64 (((2:Nat):Int)+1)=((3:Nat):Int)from rfl,jP,if_neg (by simp),l]
    rfl
   rw[if_pos (by simp[l])]
   rfl
  rw[if_pos (by simp[k]),if_neg k]
  rfl
 rw[if_pos (by simp[h]),if_neg h]
 rfl
theorem pick {x L M:Rat} {d f:Int} (nL:(L.den:Int)=d) (nM:(M.den:Int)=f) {c:Int}
 (hc:c=if(if(x-L).abs<(x-M).abs then-1 else if(x-L).abs=(x-M).abs then 0 else 1:Int)=0 then(if(if(d:Rat)<(f:Rat)then-1 else if(d:Rat)=(f:Rat)then 0 else 1:Int)=0 then(if L<M then-1 else if L=M then 0 else 1)else(if(d:Rat)<(f:Rat)then-1 else if(d:Rat)=(f:Rat)then 0 else 1))else(if(x-L).abs<(x-M).abs then-1 else if(x-L).abs=(x-M).abs then 0 else 1)):
 (¬c>0->le3 x L M)/\(c>0->le3 x M L):=by
 by_cases h1:(x-L).abs=(x-M).abs
 ·rw[if_pos (qcm.2 h1)]at hc
  by_cases h2:(d:Rat)=(f:Rat)
  ·rw[if_pos (qcm.2 h2)]at hc
   have h2:=Rat.intCast_inj.1 h2
   constructor
   ·intro h
    rw[hc]at h
    exact .inr ⟨h1,.inr ⟨by omega,Rat.not_lt.1 fun k=>h (qdE.2 k)⟩⟩
   intro h
   rw[hc]at h
   exact .inr ⟨h1.symm,.inr ⟨by omega,Rat.le_of_lt (qdE.1 h)⟩⟩
  rw[if_neg (fun k=>h2 (qcm.1 k))]at hc
  constructor
  ·intro h
   rw[hc]at h
   have h:=Rat.not_lt.1 (fun k=>h (qdE.2 k))
   have h3:d≠f:=fun k=>h2 (by rw[k])
   have:=Rat.intCast_le_intCast.1 h
   exact .inr ⟨h1,.inl (by omega)⟩
  intro h
  rw[hc]at h
  have:=Rat.intCast_lt_intCast.1 (qdE.1 h)
  exact .inr ⟨h1.symm,.inl (by omega)⟩
 rw[if_neg (fun k=>h1 (qcm.1 k))]at hc
 constructor
 ·intro h
  rw[hc]at h
  have h:=Rat.not_lt.1 (fun k=>h (qdE.2 k))
  exact .inl (Rat.lt_of_le_of_ne h h1)
 intro h
 rw[hc]at h
 exact .inl (qdE.1 h)
theorem qoF {z:Int} {n:Nat} (h:Fit z n) (hn:0<n):(Lib.decDigits z.natAbs).length<=20*n:=by
 refine(xI (by omega)).2 ?_
 have h1:(z.natAbs:Int)<W^n:=h
 have h2:=(qcC (x:=W) (y:=100000000000000000000) (by decide) (by decide) n).2
 have h3:(100000000000000000000:Int)^n=((10^(20*n):Nat):Int):=by
  rw[Nat.pow_mul,Int.natCast_pow]
  rfl
 omega
theorem qe0 {q:Rat} {n:Nat} (h:vw q n) (hn:0<n):Sml q (20*n):=by
 have:=qoF h.2 hn
 rw[Int.natAbs_natCast]at this
 exact⟨qoF h.1 hn,this⟩
theorem qjw {q:Rat} {n:Nat} (h:vw q n):vw q.abs n:=by
 rw[qfq]
 split
 ·exact qgX h
 exact h
theorem qks {p q:Rat} {n:Nat} (hp:vw p n) (hq:vw q n):vw (p-q) (n+n+1):=by
 rw[Rat.sub_eq_add_neg]
 exact qm1 hp (qgX hq)
theorem qhr {N:Nat} (hN:600000<N) {x:Rat} {m:Nat} (hm1:1<=m) (hm:m<=1000) (sx:Sml x 60) (cx:chk (T x)=0): ∃R,yh N (T x) (m:Int)=some (T R,0)/\qeX x m R/\Sml R 600:=by
 have fx:vw x 4:=qoq sx (by omega) (by omega)
 have lx:=qcS sx
 obtain⟨fm,e1,im⟩:=F_eq (n:=(m:Int)) (by omega) (by omega)
 obtain⟨f0,e2,i0⟩:=F_eq (n:=0) (by decide) (by decide)
 obtain⟨f1,e3,i1⟩:=F_eq (n:=1) (by decide) (by decide)
 obtain⟨fr,e4,ir⟩:=qpD hN (sx.mono (show 60<=9000 by omega))
 have z0:Fit (0:Int) 5:=xH (m:=1) (by decide) (by decide) (by omega) (by omega)
 have z1:Fit (1:Int) 5:=xH (m:=1) (by decide) (by decide) (by omega) (by omega)
 have st:Cvg x m 0 1 1 0 x:={b0:=by decide,d0:=by decide,bm:=by omega,dm:=by omega,st:= .inl ⟨rfl,rfl⟩,fr:=fx,za:=z0,zc:=z1,eq:=by rw[show((0:Int):Rat)=0 from rfl,show((1:Int):Rat)=1 from rfl];grind,det:= .inl (by decide)}
 have A:=qlk hN hm1 hm fx (sx.mono (by omega)) im N f0 f1 f1 f0 fr 0 1 1 0 x ⟨i0,i1,i1,i0,ir⟩ st (by simp;omega)
 unfold yh qW
 rw[qmB hN (by omega),cx,ZB,if_neg (by omega),decide_eq_false (by omega),if_neg (by simp),ZB,qji (by omega),if_pos rfl,ZB,ZB]
 simp only
 rw[if_neg (by simp),e1,ZB,e2,ZB,e3,ZB,ZB,ZB,e4,ZB]
 rcases A with⟨A1,A2⟩|⟨fa,fb,fc,fd,fs,a,b,c,d,r,A1,⟨ia,ib,ic,id,is⟩,h,hk⟩
 ·rw[A1,ZB]
  exact⟨x,rfl,qmG A2,sx.mono (by omega)⟩
 rw[A1,ZB]
 simp only
 have d1:1<=d/\1<r:=by
  rcases h.st with⟨s1,s2⟩|s
  ·rw[s1,s2]at hk
   simp at hk
   omega
  exact s
 have hb0:=h.b0
 have hbm:=h.bm
 have hdm:=h.dm
 have zb:=xH h.b0 h.bm hm (n:=5) (by omega)
 have zd:=xH h.d0 h.dm hm (n:=5) (by omega)
 have zmb:Fit ((m:Int)-b) 5:=xH (m:=m) (by omega) (by omega) hm (by omega)
 have dne:(d:Rat)≠0:=by
  rw[Ne,Rat.intCast_eq_zero_iff]
  omega
 obtain⟨r66,b1,j1⟩:=qgw hN im ib (n:=5) (by omega) (qR ((xH (m:=m) (by omega) (Int.le_refl _) hm (by omega):Fit (m:Int) 5)) (by omega)) (qR zb (by omega))
 rw[<-Rat.intCast_sub]at j1
 obtain⟨r67,b2,j2⟩:=qgt hN j1 id (n:=5) (by omega) (by omega) (qR zmb (by omega)) (qR zd (by omega)) dne
 have fq:vw ((((m:Int)-b:Int):Rat)/(d:Rat)) 10:=by
  rw[Rat.div_def]
  exact(qfu (n:=5) (qR zmb (by omega)) (qfA (qR zd (by omega)) (by omega))).mono (by omega)
 obtain⟨r68,b3,j3⟩:=qoz hN j2 (fq.mono (by omega))
 have t1:(((((m:Int)-b:Int):Rat)/(d:Rat)).floor:Int)*d<=(m:Int)-b:=by
  have:=Rat.floor_le ((((m:Int)-b:Int):Rat)/(d:Rat))
  have:=Rat.mul_le_mul_of_nonneg_right this (show(0:Rat)<=(d:Rat)from Rat.intCast_nonneg.2 (by omega))
  rw[Rat.div_mul_cancel dne,<-Rat.intCast_mul,Rat.intCast_le_intCast]at this
  exact this
 have t2:(m:Int)-b<((((((m:Int)-b:Int):Rat)/(d:Rat)).floor:Int)+1)*d:=by
  have:=Rat.lt_floor_add_one ((((m:Int)-b:Int):Rat)/(d:Rat))
  have:=Rat.mul_lt_mul_of_pos_right this (show(0:Rat)<(d:Rat)from Rat.intCast_pos.2 (by omega))
  rw[Rat.div_mul_cancel dne,<-Rat.intCast_mul,Rat.intCast_lt_intCast]at this
  exact this
 have zt:Fit ((((m:Int)-b:Int):Rat)/(d:Rat)).floor 10:=qiv fq.1
 generalize ((((m:Int)-b:Int):Rat)/(d:Rat)).floor=t at*
 have t0:0<=t:=by
  rcases Int.lt_or_le t 0 with k|k
  ·have:=Int.mul_le_mul_of_nonneg_right (show t+1<=0 by omega) (show 0<=d by omega)
   rw[Int.zero_mul]at this
   omega
  exact k
 have tk:t+1<=r.floor:=by
  rcases Int.lt_or_le t r.floor with k|k
  ·omega
  have:=Yc k (show 0<=d by omega)
  rw[Int.mul_comm d t]at this
  omega
 rw[Int.add_mul,Int.one_mul,Int.mul_comm t d]at t2
 rw[Int.mul_comm t d]at t1
 have E1:1<=d*t+b:=by
  rcases Int.lt_or_le 0 t with k|k
  ·have:=Yc (show 1<=t by omega) (show 0<=d by omega)
   omega
  have t00:t=0:=by omega
  rw[t00]at t2⊢
  omega
 obtain⟨u,v,b4,iu,iv⟩:=qjI hN ic id j3 ia ib (n:=10) (by omega) (by omega) (h.zc.mono (by omega)) (zd.mono (by omega)) zt (h.za.mono (by omega)) (zb.mono (by omega))
 have zv:Fit (d*t+b) 11:=xH (m:=m) (by omega) (by omega) hm (by omega)
 have zu:Fit (c*t+a) 21:=(qfi (n:=10+10) (yz (h.zc.mono (show 5<=10 by omega)) zt) (h.za.mono (by omega))).mono (by omega)
 have Ene:(((d*t+b:Int):Rat))≠0:=by
  rw[Ne,Rat.intCast_eq_zero_iff]
  omega
 obtain⟨r70,b5,j5⟩:=qgt hN ic id (n:=5) (by omega) (by omega) (qR h.zc (by omega)) (qR zd (by omega)) dne
 obtain⟨r71,b6,j6⟩:=qgt hN iu iv (n:=21) (by omega) (by omega) (qR zu (by omega)) (qR (zv.mono (by omega)) (by omega)) Ene
 have hL:=Rat.div_mul_cancel (a:=(c:Rat)) dne
 have hM:=Rat.div_mul_cancel (a:=((c*t+a:Int):Rat)) Ene
 have fL:vw ((c:Rat)/(d:Rat)) 22:=by
  rw[Rat.div_def]
  exact(qfu (qR h.zc (by omega)) (qfA (qR zd (by omega)) (by omega))).mono (by omega)
 have fM:vw (((c*t+a:Int):Rat)/((d*t+b:Int):Rat)) 22:=by
  have e:=Rat.divInt_eq_div (c*t+a) (d*t+b)
  rw[<-e]
  exact(qcZ (by omega) (zu.mono (by omega)) (zv.mono (by omega)):vw _ 21).mono (by omega)
 have det:c*(d*t+b)-d*(c*t+a)=1\/c*(d*t+b)-d*(c*t+a)= -1:=by
  have:c*(d*t+b)-d*(c*t+a)=c*b-d*a:=by grind
  rw[this]
  exact h.det
 generalize hLe:(c:Rat)/(d:Rat)=L at*
 generalize hMe:((c*t+a:Int):Rat)/((d*t+b:Int):Rat)=M at*
 have fx22:vw x 22:=fx.mono (by omega)
 obtain⟨r73,b7,j7⟩:=qnW hN j5 ir (n:=22) (by omega) fL fx22
 obtain⟨r75,b8,j8⟩:=qnW hN j6 ir (n:=22) (by omega) fM fx22
 have b9:=qfz hN j7 j8 (n:=45) (by omega) ((qjw (qks (n:=22) fx22 fL)).mono (by omega)) ((qjw (qks (n:=22) fx22 fM)).mono (by omega))
 have b10:=qfz hN id iv (n:=22) (by omega) (qR (zd.mono (by omega)) (by omega)) (qR (zv.mono (by omega)) (by omega))
 have b11:=qfz hN j5 j6 (n:=22) (by omega) fL fM
 have nL:=qde (L:=L) (c:=c) (e:=c*t+a) (f:=d*t+b) (by omega) hL det
 have nM:(M.den:Int)=d*t+b:=by
  refine qde (e:=c) (f:=d) (by omega) hM ?_
  rcases det with k|k
  ·right
   rw[Int.mul_comm _ d,Int.mul_comm _ c]
   omega
  left
  rw[Int.mul_comm _ d,Int.mul_comm _ c]
  omega
 rw[show vI N fm (⟨⟨fb.Num.s,fb.Num.w⟩,⟨fb.Den.s,fb.Den.w⟩⟩:qj)=some r66 from b1,ZB,show jM N r66 (⟨⟨fd.Num.s,fd.Num.w⟩,⟨fd.Den.s,fd.Den.w⟩⟩:qj)=some r67 from b2,ZB,b3,ZB,
  show ko N ⟨⟨⟨fc.Num.s,fc.Num.w⟩,⟨fc.Den.s,fc.Den.w⟩⟩,⟨⟨fd.Num.s,fd.Num.w⟩,⟨fd.Den.s,fd.Den.w⟩⟩⟩ r68 ⟨⟨⟨fa.Num.s,fa.Num.w⟩,⟨fa.Den.s,fa.Den.w⟩⟩,⟨⟨fb.Num.s,fb.Num.w⟩,⟨fb.Den.s,fb.Den.w⟩⟩⟩=some ⟨u,v⟩from b4,ZB,
  show jM N (⟨⟨fc.Num.s,fc.Num.w⟩,⟨fc.Den.s,fc.Den.w⟩⟩:qj) (⟨⟨fd.Num.s,fd.Num.w⟩,⟨fd.Den.s,fd.Den.w⟩⟩:qj)=some r70 from b5,ZB,b6,ZB,ZB,b7,ZB,ZB,b8,ZB,b9,ZB,
  show jO N (⟨⟨fd.Num.s,fd.Num.w⟩,⟨fd.Den.s,fd.Den.w⟩⟩:qj) v=_ from b10,ZB,b11,ZB,qnb (by omega),ZB]
 obtain⟨p1,p2⟩:=pick (x:=x) nL nM rfl
 generalize (if(if(x-L).abs<(x-M).abs then-1 else if(x-L).abs=(x-M).abs then 0 else 1:Int)=0 then(if(if(d:Rat)<((d*t+b:Int):Rat)then-1 else if(d:Rat)=((d*t+b:Int):Rat)then 0 else 1:Int)=0 then(if L<M then-1 else if L=M then 0 else 1)else(if(d:Rat)<((d*t+b:Int):Rat)then-1 else if(d:Rat)=((d*t+b:Int):Rat)then 0 else 1))else(if(x-L).abs<(x-M).abs then-1 else if(x-L).abs=(x-M).abs then 0 else 1):Int)=cc at*
 have hx:(M<=x/\x<=L/\c*(d*t+b)-d*(c*t+a)=1)\/(L<=x/\x<=M/\c*(d*t+b)-d*(c*t+a)= -1):=by
  have w0:0<r-(t:Rat):=by
   have a1:=Rat.intCast_le_intCast.2 tk
   have a2:=Rat.floor_le r
   rw[Rat.intCast_add,show((1:Int):Rat)=1 from rfl]at a1
   grind
  have hd':(0:Rat)<(d:Rat):=Rat.intCast_pos.2 (by omega)
  have hE':(0:Rat)<((d*t+b:Int):Rat):=Rat.intCast_pos.2 (by omega)
  have key:(x-L)*((d:Rat)*(r-(t:Rat)))=(M-x)*((d*t+b:Int):Rat):=by
   have q1:=h.eq
   have q2:((d*t+b:Int):Rat)=(d:Rat)*(t:Rat)+(b:Rat):=by rw[Rat.intCast_add,Rat.intCast_mul]
   have q3:((c*t+a:Int):Rat)=(c:Rat)*(t:Rat)+(a:Rat):=by rw[Rat.intCast_add,Rat.intCast_mul]
   rw[q3,q2]at hM
   rw[q2]
   generalize (d:Rat)=D at*
   generalize (c:Rat)=C at*
   generalize (a:Rat)=A at*
   generalize (b:Rat)=B at*
   generalize (t:Rat)=Tt at*
   have l1:(x-L)*(D*(r-Tt))=x*(D*r+B)-x*(D*Tt+B)-(L*D)*(r-Tt):=by grind
   have l2:(M-x)*(D*Tt+B)=M*(D*Tt+B)-x*(D*Tt+B):=by grind
   rw[l1,l2,q1,hL,hM]
   grind
  have hdw:=Rat.mul_pos hd' w0
  have up:L<=x->x<=M:=by
   intro k
   have k1:0<=(x-L)*((d:Rat)*(r-(t:Rat))):=Rat.mul_nonneg (by grind) (Rat.le_of_lt hdw)
   rw[key]at k1
   rw[<-Rat.not_lt]
   intro k2
   have:=Rat.mul_lt_mul_of_pos_right (show M-x<0 by grind) hE'
   rw[Rat.zero_mul]at this
   exact absurd this (Rat.not_lt.2 k1)
  have dn:x<=L->M<=x:=by
   intro k
   rw[<-Rat.not_lt]
   intro k2
   have k1:0<(M-x)*((d*t+b:Int):Rat):=Rat.mul_pos (by grind) hE'
   rw[<-key]at k1
   have:=Rat.mul_le_mul_of_nonneg_right (show x-L<=0 by grind) (Rat.le_of_lt hdw)
   rw[Rat.zero_mul]at this
   exact absurd k1 (Rat.not_lt.2 this)
  have cr:=qcX (y:=M) (M:=L) (p:=c*t+a) (q:=d*t+b) (e:=c) (f:=d) (by omega) (by omega) hM hL
  have cr2:=qcX (y:=L) (M:=M) (p:=c) (q:=d) (e:=c*t+a) (f:=d*t+b) (by omega) (by omega) hL hM
  rcases det with k|k
  ·left
   have:M<=L:=cr.2 (by rw[Int.mul_comm _ d];omega)
   rcases Rat.le_total (a:=x) (b:=L)with e|e
   ·exact⟨dn e,e,k⟩
   have:=up e
   have e2:x=L:=Rat.le_antisymm (Rat.le_trans this ‹M<=L›) e
   exact⟨by rw[e2];assumption,by rw[e2];exact Rat.le_refl,k⟩
  right
  have:L<=M:=cr2.2 (by rw[Int.mul_comm _ d];omega)
  rcases Rat.le_total (a:=L) (b:=x)with e|e
  ·exact⟨e,up e,k⟩
  have:=dn e
  have e2:x=L:=Rat.le_antisymm e (Rat.le_trans ‹L<=M› this)
  exact⟨by rw[e2];exact Rat.le_refl,by rw[e2];assumption,k⟩
 by_cases hcc:cc>0
 ·rw[if_pos hcc,ZB,show vK N (⟨⟨r71.Num.s,r71.Num.w⟩,⟨r71.Den.s,r71.Den.w⟩⟩:qj)=_ from qfJ hN j6 (fM.mono (by omega)),qhq ((qe0 fM (by omega)).mono (by omega))]
  exact⟨M,rfl,ql7 (by omega) (by omega) hdm (by omega) (by omega) hL hM hx (.inr rfl) (p2 hcc) (qe8 x M),(qe0 fM (by omega)).mono (by omega)⟩
 rw[if_neg hcc,ZB,show vK N (⟨⟨r70.Num.s,r70.Num.w⟩,⟨r70.Den.s,r70.Den.w⟩⟩:qj)=_ from qfJ hN j5 (fL.mono (by omega)),qhq ((qe0 fL (by omega)).mono (by omega))]
 exact⟨L,rfl,ql7 (by omega) (by omega) hdm (by omega) (by omega) hL hM hx (.inl rfl) (qe8 x L) (p1 hcc),(qe0 fL (by omega)).mono (by omega)⟩
end Go.Av
end
section
namespace Go.Av
end Go.Av
end
section
namespace Go.Av
theorem qnf {n:Nat}:Lib.decDigits n=[48]↔n=0:=by
 constructor
 ·intro h
  exact qkE (h.trans (by rw[jd (by decide)];rfl))
 rintro rfl
 rw[jd (by decide)]
 rfl
theorem qp3 {n:Nat}:Lib.decDigits n=[49]↔n=1:=by
 constructor
 ·intro h
  exact qkE (h.trans (by rw[jd (by decide)];rfl))
 rintro rfl
 rw[jd (by decide)]
 rfl
theorem qj5 {q:Rat} (h:Sml q 600):chk (T q)=0:=by
 have n47:=no47 (qaT q.num.natAbs)
 have es:=qhf n47 q
 have et:(bdy (T q)).take (slA (bdy (T q)))=Lib.decDigits q.num.natAbs:=by
  rw[qkn,es,List.take_append_of_le_length (Nat.le_refl _),List.take_length]
 have hd:=den_pos q
 have ed:slA (bdy (T q))<(bdy (T q)).length↔q.den≠1:=by
  rw[qkn,es,Yq]
  unfold tl
  by_cases c:q.den=1
  ·rw[if_pos c]
   simp[c]
  rw[if_neg c]
  simp[c]
 have er:(bdy (T q)).drop (slA (bdy (T q))+1)=if q.den=1 then[]else Lib.decDigits q.den:=by
  rw[qkn,es]
  unfold tl
  by_cases c:q.den=1
  ·rw[if_pos c,if_pos c,YQ,List.drop_of_length_le (by omega)]
  rw[if_neg c,if_neg c,List.drop_append,List.drop_of_length_le (by omega),List.nil_append,show(Lib.decDigits q.num.natAbs).length+1-(Lib.decDigits q.num.natAbs).length=1 by omega]
  rfl
 have hok:okF (T q)=true:=by
  unfold okF
  rw[et,qjL]
  refine decide_eq_true ⟨qnT _,?_⟩
  rintro⟨h1,h2⟩
  have h1:=of_decide_eq_true h1
  have:=qnf.1 h2
  omega
 have hbad:qgO (T q)=false:=by
  unfold qgO
  refine decide_eq_false ?_
  rintro⟨h1,h2⟩
  have c:=ed.1 h1
  rw[er,if_neg c]at h2
  exact h2 ⟨qnT _,fun e=>by have:=qnf.1 e;omega,fun e=>c (qp3.1 e)⟩
 unfold chk
 rw[if_neg (by rw[hok,hbad];simp),et,er,if_neg,if_neg]
 ·rintro⟨h1,h2⟩
  have c:=ed.1 h1
  rw[if_neg c,qcb,qcb]at h2
  exact h2 q.reduced
 have h1:=h.1
 have h2:=h.2
 split<;>simp<;>omega
theorem Num_T {N:Nat} (hN:100000<N) {q:Rat} (hl:(T q).length<=50000):qcM N (T q)=some (Lib.itoa q.num):=by
 have hs:=qb1 (N:=N) (s:=T q) (by omega) (by omega)
 unfold qcM
 rw[hs,ZB]
 by_cases c:q.den=1
 ·obtain⟨t1,t2⟩:=qeo q c
  rw[yR (by omega),ZB,t2,List.take_length,t1]
 obtain⟨t1,t2,t3⟩:=qfy q c
 rw[yR (by omega),ZB,t2]
theorem Den_T {N:Nat} (hN:100000<N) {q:Rat} (hl:(T q).length<=50000):qcL N (T q)=some (Lib.decDigits q.den):=by
 have hs:=qb1 (N:=N) (s:=T q) (by omega) (by omega)
 unfold qcL
 rw[hs,ZB]
 by_cases c:q.den=1
 ·obtain⟨t1,t2⟩:=qeo q c
  rw[if_pos (by omega),c,jd (by decide)]
  rfl
 obtain⟨t1,t2,t3⟩:=qfy q c
 rw[if_neg (by omega),zK (by omega),xC (by omega),ZB,t3]
theorem qmv {z:Int} (hl:(Lib.itoa z).length<=50000):yS (Lib.itoa z)=some (Lib.decDigits z.natAbs):=by
 have hs:=qhs (z:Rat)
 rw[qpL,Rat.num_intCast]at hs
 unfold yS
 rw[hs,ZB]
 by_cases c:z<0
 ·have h1:=xC (l:=(45:UInt8)::Lib.decDigits z.natAbs) (k:=1) (by simp)
  rw[if_pos c,if_pos (by decide),vV c,show(1:Int)=((1:Nat):Int)from rfl,h1]
  rfl
 rw[if_neg c,if_neg (by split<;>decide),je (by omega)]
theorem qqb {N:Nat} (hN:600000<N) {s:Str} {d:Nat} (hd:0<d) (hd2:d<=1000): ∃b,qcU N s (d:Int)=some b/\(b=true-> ∃q:Rat,s=T q/\Sml q d/\chk (T q)=0):=by
 unfold qcU
 rw[qh (n:=2*(d:Int)) (by omega) (by omega),qh (n:=2*(d:Int)+2) (by omega) (by omega)]
 by_cases c:(s.length:Int)<=2*(d:Int)+2
 ·rw[if_pos c,qeh hN (by omega),ZB]
  by_cases hc:chk s=0
  ·obtain⟨q,rfl,q1,q2⟩:=qoo hc
   have li:=qgv q.num
   rw[if_pos hc,Num_T (by omega) (by omega),ZB,qmv (by omega),ZB,Den_T (by omega) (by omega),ZB]
   by_cases e:(Lib.decDigits q.num.natAbs).length<=d
   ·rw[if_pos (by omega),ZB]
    exact⟨_,rfl,fun h=>⟨q,rfl,⟨e,by have:=of_decide_eq_true h;omega⟩,hc⟩⟩
   rw[if_neg (by omega),ZB]
   exact⟨_,rfl,fun h=>by cases h⟩
  rw[if_neg hc,ZB]
  exact⟨_,rfl,fun h=>by cases h⟩
 rw[if_neg c,ZB]
 exact⟨_,rfl,fun h=>by cases h⟩
end Go.Av
end
section
namespace Go.Av
theorem qjc {q:Rat} {n z:Int} (h:q*(n:Rat)=(z:Rat)):(q.den:Int)∣n:=by
 have h1:=qdb q
 have e1:q.num*n=z*(q.den:Int):=by
  rw[<-Rat.intCast_inj,Rat.intCast_mul,Rat.intCast_mul,<-h1,<-h]
  grind
 refine qdZ (a:=q.num) ⟨z,by rw[e1,Int.mul_comm]⟩ ?_
 have:=q.reduced
 rw[Int.gcd,Int.natAbs_natCast,Nat.gcd_comm]
 exact this
theorem qmu {q:Rat} {n:Nat} {z:Int} (hn:0<n) (h:q*(((n:Nat):Int):Rat)=(z:Rat)):q.den<=n:=Nat.le_of_dvd hn (Int.ofNat_dvd.1 (qjc h))
theorem qbw (r:Rat) (c:Int):(r+(c:Rat)).den=r.den:=by
 have h1:(r+(c:Rat))*((r.den:Int):Rat)=((r.num+c*(r.den:Int):Int):Rat):=by
  rw[Rat.intCast_add,Rat.intCast_mul,<-qdb r]
  grind
 have h2:r*(((r+(c:Rat)).den:Int):Rat)=(((r+(c:Rat)).num-c*((r+(c:Rat)).den:Int):Int):Rat):=by
  rw[Rat.intCast_sub,Rat.intCast_mul,<-qdb (r+(c:Rat))]
  grind
 exact Nat.dvd_antisymm (Int.ofNat_dvd.1 (qjc h1)) (Int.ofNat_dvd.1 (qjc h2))
theorem qeX.far {x r:Rat} {m:Nat} (h:qeX x m r) {y:Rat} (hy:y.den<=m):(x-r).abs<=(x-y).abs:=by
 rcases h.2 y hy with k|⟨k,_⟩
 ·exact Rat.le_of_lt k
 rw[k]
 exact Rat.le_refl
theorem qeX.move {x r:Rat} {m:Nat} (h:qeX x m r) (c:Int):qeX (x+(c:Rat)) m (r+(c:Rat)):=by
 refine⟨by rw[qbw];exact h.1,fun y hy=>?_⟩
 have hy':(y+((-c:Int):Rat)).den<=m:=by rw[qbw];exact hy
 have k:=h.2 _ hy'
 unfold le3 at*
 rw[qbw]at k⊢
 have e1:x+(c:Rat)-(r+(c:Rat))=x-r:=by grind
 have e2:x+(c:Rat)-y=x-(y+((-c:Int):Rat)):=by
  rw[Rat.intCast_neg]
  grind
 rw[e1,e2]
 rcases k with k|⟨k1,k|⟨k2,k3⟩⟩
 ·exact .inl k
 ·exact .inr ⟨k1,.inl k⟩
 refine .inr ⟨k1,.inr ⟨k2,?_⟩⟩
 rw[Rat.intCast_neg]at k3
 grind
theorem qeX.neg_far {x r s:Rat} {m:Nat} (h:qeX x m r) (k:qeX (-x) m s):(-x-s).abs=(x-r).abs:=by
 have a1:=h.far (y:= -s) (by rw[Rat.neg_den];exact k.1)
 have a2:=k.far (y:= -r) (by rw[Rat.neg_den];exact h.1)
 have e1:(x- -s).abs=(-x-s).abs:=by
  rw[<-Rat.abs_neg]
  congr 1
  grind
 have e2:(-x- -r).abs=(x-r).abs:=by
  rw[<-Rat.abs_neg]
  congr 1
  grind
 rw[e1]at a1
 rw[e2]at a2
 exact Rat.le_antisymm a2 a1
theorem qfr {x y:Rat} (h1:(x-y).abs<=(x-(x.floor:Rat)).abs) (h2:(x-y).abs<=(x-((x.floor:Rat)+1)).abs):(x.floor:Rat)<=y/\y<=(x.floor:Rat)+1:=by
 have f1:=Rat.floor_le x
 have f2:=Rat.lt_floor_add_one x
 rw[Rat.intCast_add,show((1:Int):Rat)=1 from rfl]at f2
 rw[Rat.abs_of_nonneg (show 0<=x-(x.floor:Rat)by grind)]at h1
 rw[Rat.abs_of_nonpos (show x-((x.floor:Rat)+1)<=0 by grind)]at h2
 rcases Rat.le_total (a:=x) (b:=y)with c|c
 ·rw[Rat.abs_of_nonpos (by grind)]at h1 h2
  constructor<;>grind
 rw[Rat.abs_of_nonneg (by grind)]at h1 h2
 constructor<;>grind
noncomputable def hit (x far:Rat) (low:Int) (d i:Nat):Bool:=decide (Int.gcd (i:Int) (d:Int)=1/\(x-((low:Rat)+Rat.divInt (i:Int) (d:Int))).abs=far)
noncomputable def hits (x far:Rat) (low:Int) (d n:Nat):List (Nat×Nat):=(List.range' d n).flatMap fun e=>((List.range' 0 (e+1)).map fun i=>(e,i)).filter fun q=>hit x far low q.1 q.2
theorem qmP {low:Int} {i d:Nat} (hd:0<d):((low:Rat)+Rat.divInt (i:Int) (d:Int)).den<=d:=by
 have e:Rat.divInt (i:Int) (d:Int)*(((d:Nat):Int):Rat)=((i:Int):Rat):=by
  rw[Rat.divInt_eq_div]
  refine Rat.div_mul_cancel ?_
  rw[Ne,Rat.intCast_eq_zero_iff]
  omega
 refine qmu (z:=low*(d:Int)+(i:Int)) hd ?_
 rw[Rat.intCast_add,Rat.intCast_mul,<-e]
 grind
theorem qoN {x far y:Rat} {low:Int} (h1:(low:Rat)<=y) (h2:y<=(low:Rat)+1) (hf:(x-y).abs=far): ∃i:Nat,i<=y.den/\y=(low:Rat)+Rat.divInt (i:Int) (y.den:Int)/\hit x far low y.den i=true:=by
 have hd:=y.den_pos
 have nd:=qdb y
 have hd':(0:Rat)<((y.den:Int):Rat):=Rat.intCast_pos.2 (by omega)
 have a1:low*(y.den:Int)<=y.num:=by
  rw[<-Rat.intCast_le_intCast,Rat.intCast_mul,<-nd]
  exact Rat.mul_le_mul_of_nonneg_right h1 (Rat.le_of_lt hd')
 have a2:y.num<=low*(y.den:Int)+(y.den:Int):=by
  rw[<-Rat.intCast_le_intCast,Rat.intCast_add,Rat.intCast_mul,<-nd]
  have:=Rat.mul_le_mul_of_nonneg_right h2 (Rat.le_of_lt hd')
  grind
 have hi:((y.num-low*(y.den:Int)).toNat:Int)=y.num-low*(y.den:Int):=by omega
 have e:Rat.divInt (y.num-low*(y.den:Int)) (y.den:Int)=y-(low:Rat):=by
  have h0:((y.den:Int):Rat)≠0:=Rat.ne_of_gt hd'
  have:(y-(low:Rat))*((y.den:Int):Rat)=((y.num-low*(y.den:Int):Int):Rat):=by
   rw[Rat.intCast_sub,Rat.intCast_mul,<-nd]
   grind
  rw[Rat.divInt_eq_div,<-this,Rat.mul_div_cancel h0]
 have ey:y=(low:Rat)+Rat.divInt ((y.num-low*(y.den:Int)).toNat:Int) (y.den:Int):=by
  rw[hi,e]
  grind
 refine⟨(y.num-low*(y.den:Int)).toNat,by omega,ey,decide_eq_true ⟨?_,by rw[<-ey];exact hf⟩⟩
 rw[hi]
 have hr:=y.reduced
 have g:(Int.gcd (y.num-low*(y.den:Int)) (y.den:Int):Int)∣y.num:=by
  have d1:=Int.gcd_dvd_left (y.num-low*(y.den:Int)) (y.den:Int)
  have d2:=Int.gcd_dvd_right (y.num-low*(y.den:Int)) (y.den:Int)
  have:=Int.dvd_add d1 (Int.dvd_mul_of_dvd_right (b:=low) d2)
  rw[Int.sub_add_cancel]at this
  exact this
 have g2:=Int.gcd_dvd_right (y.num-low*(y.den:Int)) (y.den:Int)
 have g3:Int.gcd (y.num-low*(y.den:Int)) (y.den:Int)∣Nat.gcd y.num.natAbs y.den:=Nat.dvd_gcd (Int.natAbs_dvd_natAbs.2 g) (Int.ofNat_dvd.1 g2)
 rw[show Nat.gcd y.num.natAbs y.den=1 from hr]at g3
 exact Nat.dvd_one.1 g3
theorem qkc {x far:Rat} {low:Int} {m d i:Nat} (hd:1<=d) (hm:d<=m) (hi:i<=d) (h:hit x far low d i=true):(d,i)∈hits x far low 1 m:=by
 unfold hits
 rw[List.mem_flatMap]
 refine⟨d,List.mem_range'_1.2 ⟨hd,by omega⟩,?_⟩
 rw[List.mem_filter]
 exact⟨List.mem_map.2 ⟨i,List.mem_range'_1.2 ⟨Nat.zero_le _,by omega⟩,rfl⟩,h⟩
end Go.Av
end
section
namespace Go.Av
section loops
variable {N:Nat} (hN:600000<N) {x far:Rat} {low:Int} {m:Nat} (hm:m<=12) (sx:Sml x 60) (sl:Sml ((low:Int):Rat) 60) (sf:Sml far 1300) (hmin: ∀y:Rat,y.den<=m->far<=(x-y).abs)
include hN hm sx sl sf hmin
theorem qlA {d:Nat} (hd:1<=d) (hdm:d<=m): ∀(K i n:Nat),i<=d+1->d+1<K+i->n+(d+1-i)<=1000->qG N (T x) (T far) (T (low:Rat)) (d:Int) K (n:Int) (i:Int)=some (.inl ((n+((List.range' i (d+1-i)).filter (hit x far low d)).length:Nat):Int))
 |0,i,n,hi,hK,_=>by omega
 |K+1,i,n,hi,hK,hn=>by
  rw[qG]
  by_cases c:i<=d
  ·have el:d+1-i=(d+1-(i+1))+1:=by omega
   rw[if_pos (by omega),el,List.range'_succ]
   have eg:qcJ N (i:Int) (d:Int)=some ((Int.gcd (i:Int) (d:Int):Nat):Int):=by
    unfold qcJ
    rw[rabs (by omega) (by omega),rabs (by omega) (by omega),qlh (by omega) (by omega) (by omega) (by omega),ZB]
    rfl
   rw[eg,ZB]
   by_cases g:Int.gcd (i:Int) (d:Int)=1
   ·have s1:Sml (Rat.divInt (i:Int) (d:Int)) 9:=by
     have:=qgb (a:=(i:Int)) (b:=(d:Int)) (n:=1) (by omega) (by show(((i:Int).natAbs:Nat):Int)<1000000000^1;omega) (by show(((d:Int).natAbs:Nat):Int)<1000000000^1;omega)
     exact qfC this.1 this.2 (by omega)
    have s2:Sml ((low:Rat)+Rat.divInt (i:Int) (d:Int)) 135:=(qgs (n:=7) (by omega) (sl.mono (by omega)) (s1.mono (by omega))).mono (by omega)
    have s3:Sml (x-((low:Rat)+Rat.divInt (i:Int) (d:Int))) 279:=by
     rw[Rat.sub_eq_add_neg]
     exact(qgs (n:=15) (by omega) (sx.mono (by omega)) ((qe2 s2).mono (by omega))).mono (by omega)
    have l3:=qcS s3
    have hy:=hmin ((low:Rat)+Rat.divInt (i:Int) (d:Int)) (Nat.le_trans (qmP (by omega)) hdm)
    rw[if_neg (by rw[g];decide),qnm (by omega) (by omega) (by omega) (by omega) (by omega) (by omega),ZB,qgk hN (k:=60) (by omega) (by omega) sl (s1.mono (by omega)),ZB,qgx hN (k:=135) (by omega) (by omega) (sx.mono (by omega)) s2,ZB,qkL (by omega),ZB,qpd hN (k:=1300) (by omega) (by omega) ((qlZ s3).mono (by omega)) sf,ZB,if_neg (fun h=>absurd (qqq.1 h) (Rat.not_lt.2 hy))]
    by_cases e:(x-((low:Rat)+Rat.divInt (i:Int) (d:Int))).abs=far
    ·have hh:hit x far low d i=true:=decide_eq_true ⟨g,e⟩
     rw[if_pos (qcm.2 e),ZB]
     simp only
     rw[List.filter_cons_of_pos hh,Yr,zK (by omega),zK (by omega),qlA hd hdm K (i+1) (n+1) (by omega) (by omega) (by omega)]
     congr 2
     omega
    have hh: ¬hit x far low d i=true:=fun h=>e (of_decide_eq_true h).2
    rw[if_neg (fun h=>e (qcm.1 h)),ZB]
    simp only
    rw[List.filter_cons_of_neg hh,zK (by omega),qlA hd hdm K (i+1) n (by omega) (by omega) (by omega)]
   have hh: ¬hit x far low d i=true:=fun h=>g (of_decide_eq_true h).1
   rw[if_pos (by rw[decide_eq_false (by omega)];rfl),ZB]
   simp only
   rw[List.filter_cons_of_neg hh,zK (by omega),qlA hd hdm K (i+1) n (by omega) (by omega) (by omega)]
  rw[if_neg (by omega),show d+1-i=0 by omega]
  rfl
theorem qpI: ∀(K d n:Nat),1<=d->d<=m+1->m+1<K+d->n+13*(m+1-d)<=1000->qF N (T x) (m:Int) (T far) (T (low:Rat)) K (n:Int) (d:Int)=some (.inl ((n+(hits x far low d (m+1-d)).length:Nat):Int))
 |0,d,n,h1,hd,hK,_=>by omega
 |K+1,d,n,h1,hd,hK,hn=>by
  rw[qF]
  by_cases c:d<=m
  ·have el:m+1-d=(m+1-(d+1))+1:=by omega
   have hl:((List.range' 0 (d+1)).filter (hit x far low d)).length<=d+1:=by
    have:=List.length_filter_le (hit x far low d) (List.range' 0 (d+1))
    rw[List.length_range']at this
    exact this
   have e:=qlA hN hm sx sl sf hmin h1 c N 0 n (by omega) (by omega) (by omega)
   rw[show((0:Nat):Int)=0 from rfl,Nat.sub_zero]at e
   rw[if_pos (by omega),e,ZB]
   simp only
   have eh:(hits x far low d ((m+1-(d+1))+1)).length=((List.range' 0 (d+1)).filter (hit x far low d)).length+(hits x far low (d+1) (m+1-(d+1))).length:=by
    unfold hits
    rw[List.range'_succ,List.flatMap_cons,Yq,List.filter_map,List.length_map]
    rfl
   rw[zK (by omega),qpI K (d+1) _ (by omega) (by omega) (by omega) (by omega),el,eh,Nat.add_assoc]
  rw[if_neg (by omega),show m+1-d=0 by omega]
  rfl
end loops
theorem qjZ {N:Nat} {q:Rat} {k:Nat} (h:Sml q k) (hk:k<=9000):yM (T q)=some (T (-q)):=by
 have:=qcS h
 exact qoy (N:=N) (by omega)
theorem qcO {N:Nat} (hN:600000<N) (s:Str) (most move:Int):jf N s most move=some true:=by
 obtain⟨b,hb,hf⟩:=qqb hN (s:=s) (d:=5) (by omega) (by omega)
 unfold jf
 rw[show(5:Int)=((5:Nat):Int)from rfl,hb,ZB]
 cases b with
 |false=>rw[if_pos (show(!false)=true from rfl),ZB,if_pos rfl];rfl
 |true=>
  obtain⟨x,rfl,s5,cx⟩:=hf rfl
  rw[if_neg (by simp)]
  by_cases c1:most<1
  ·rw[if_pos c1,ZB,if_pos rfl];rfl
  rw[if_neg c1]
  by_cases c2:most>12
  ·rw[if_pos c2,ZB,if_pos rfl];rfl
  rw[if_neg c2]
  by_cases c3:move< -1000
  ·rw[if_pos c3,ZB,if_pos rfl];rfl
  rw[if_neg c3]
  by_cases c4:move>1000
  ·rw[decide_eq_true c4,ZB,if_pos rfl];rfl
  rw[decide_eq_false c4,ZB,if_neg (by simp)]
  obtain⟨m,rfl⟩: ∃m:Nat,most=(m:Int):=⟨most.toNat,by omega⟩
  have sx:Sml x 60:=s5.mono (by omega)
  have smv:=qpx (n:=move) (by omega) (by omega)
  have sxn:Sml (-x) 60:=qe2 sx
  have fmv:zN move 1:=by show(move.natAbs:Int)<1000000000^1;omega
  have smv9:Sml ((move:Int):Rat) 9:=qfC (n:=1) (by rw[Rat.num_intCast];exact fmv) (by rw[Rat.den_intCast];decide) (by omega)
  have sxm:Sml (x+(move:Rat)) 60:=(qgs (n:=1) (by omega) (s5.mono (by omega)) smv9).mono (by omega)
  obtain⟨R,r1,nr,sR⟩:=qhr hN (x:=x) (m:=m) (by omega) (by omega) sx cx
  obtain⟨O,o1,no,sO⟩:=qhr hN (x:= -x) (m:=m) (by omega) (by omega) sxn (qj5 (sxn.mono (by omega)))
  obtain⟨M,m1,nm,sM⟩:=qhr hN (x:=x+(move:Rat)) (m:=m) (by omega) (by omega) sxm (qj5 (sxm.mono (by omega)))
  have eM:M=R+(move:Rat):=nm.uniq (nr.move move)
  have eO:=nr.neg_far no
  have l1:=qcS sR
  have l2:=qcS sO
  have l3:=qcS sM
  have dif: ∀{a r:Rat},Sml a 60->Sml r 600->Sml (a-r) 1300:=fun {a r} h k=>by
   rw[Rat.sub_eq_add_neg]
   exact(qgs (n:=67) (by omega) (h.mono (by omega)) ((qe2 k).mono (by omega))).mono (by omega)
  have sd:=dif sx sR
  have sd2:=dif sxn sO
  have l4:=qcS sd
  have l5:=qcS sd2
  have sl:Sml ((x.floor:Int):Rat) 60:=qmD sx (by omega)
  have L:=qpI hN (m:=m) (by omega) sx sl (qlZ sd) (fun y hy=>nr.far hy) N 1 0 (by omega) (by omega) (by omega) (by omega)
  rw[show((0:Nat):Int)=0 from rfl,show((1:Nat):Int)=1 from rfl,Nat.zero_add,Nat.add_sub_cancel]at L
  have b1:=qfr (nr.far (y:=(x.floor:Rat)) (by rw[Rat.den_intCast];omega)) (nr.far (y:=(x.floor:Rat)+1) (by have:=qbw (x.floor:Rat) 1;rw[show((1:Int):Rat)=1 from rfl]at this;rw[this,Rat.den_intCast];omega))
  obtain⟨i,i1,i2,i3⟩:=qoN b1.1 b1.2 (rfl:(x-R).abs=(x-R).abs)
  have mem1:=qkc R.den_pos nr.1 i1 i3
  have eOx:(x- -O).abs=(x-R).abs:=by
   rw[<-eO,<-Rat.abs_neg]
   congr 1
   grind
  have b2:=qfr (x:=x) (y:= -O) (by rw[eOx];exact nr.far (by rw[Rat.den_intCast];omega)) (by rw[eOx];exact nr.far (by have:=qbw (x.floor:Rat) 1;rw[show((1:Int):Rat)=1 from rfl]at this;rw[this,Rat.den_intCast];omega))
  obtain⟨j,j1,j2,j3⟩:=qoN b2.1 b2.2 eOx
  have mem2:=qkc (-O).den_pos (by rw[Rat.neg_den];exact no.1) j1 j3
  rw[r1,ZB,qjZ (N:=N) sx (by omega),ZB,o1,ZB,qkA (by omega) (by omega) (by omega),ZB,qgk hN (k:=60) (by omega) (by omega) sx (smv.mono (by omega)),ZB,m1,ZB]
  simp only
  rw[if_neg (show¬(!decide (w64 (w64 (0+0)+0)=0))=true by decide),qeh hN (by omega),qj5 sR,ZB,qeh hN (by omega),qj5 sO,ZB,qeh hN (by omega),qj5 sM,ZB,ZB,if_neg (by decide),qgx hN (k:=600) (by omega) (by omega) (sx.mono (by omega)) sR,ZB,qkL (by omega),ZB,qmJ hN (k:=60) (by omega) (by omega) sx,ZB,L,ZB]
  simp only
  have hpos:0<(hits x (x-R).abs x.floor 1 m).length:=List.length_pos_of_mem mem1
  have B:(if(((hits x (x-R).abs x.floor 1 m).length:Nat):Int)=0 then some true else(some (T (-x))).bind fun r53=>(qak N r53 (T O)).bind fun r54=>(yS r54).bind fun r55=>if(!(r55==T (x-R).abs))=true then some true else if(((hits x (x-R).abs x.floor 1 m).length:Nat):Int)=1 then(yM (T R)).bind fun r58=>some (!(T O==r58))else some false:Option Bool)=some false:=by
   rw[if_neg (by omega),ZB,qgx hN (k:=600) (by omega) (by omega) (sxn.mono (by omega)) sO,ZB,qkL (by omega),ZB,eO,if_neg (by simp)]
   by_cases h1:(((hits x (x-R).abs x.floor 1 m).length:Nat):Int)=1
   ·obtain⟨c,hc⟩:=List.length_eq_one_iff.1 (show(hits x (x-R).abs x.floor 1 m).length=1 by omega)
    rw[hc,List.mem_singleton]at mem1 mem2
    have hh:=mem1.trans mem2.symm
    have h1:R.den=(-O).den:=congrArg Prod.fst hh
    have h2:i=j:=congrArg Prod.snd hh
    have hR:R= -O:=by rw[i2,j2,h1,h2]
    rw[if_pos (by rw[hc];rfl),qjZ (N:=N) sR (by omega),ZB,hR,Rat.neg_neg]
    simp
   rw[if_neg h1]
  rw[B,ZB,if_neg (by simp),ZB,qgk hN (k:=600) (by omega) (by omega) sR (smv.mono (by omega)),ZB,eM,if_pos (by simp)]
  rfl
end Go.Av
end
