/-
  The reference's numerals.
-/
import Derived.Test.YtlhmomppjidoiaaGreatDoorMyPa
import Derived.Test.YtlhmomppjidoiaaGreatDoorAvPt
noncomputable section
set_option linter.unusedVariables false
set_option linter.unusedSimpArgs false
set_option maxRecDepth 100000
section
namespace Go.Av
theorem qbq {a b:Str} (h:a.length+b.length<=1000000000):cat a b=some (a++b):=by
 unfold cat
 rw[if_pos (by omega)]
theorem dcut {d:Nat} (h:d<10):cut ([48,49,50,51,52,53,54,55,56,57]:Str) (d:Int) (w64 ((d:Int)+1))=some [dch d]:=by
 rw[zH (by omega)]
 rcases(show d=0\/d=1\/d=2\/d=3\/d=4\/d=5\/d=6\/d=7\/d=8\/d=9 by omega)with e|e|e|e|e|e|e|e|e|e<;>subst e<;>decide
theorem tm10 (n:Nat):(n:Int).tmod 10=((n%10:Nat):Int):=by rw[Int.tmod_eq_emod_of_nonneg (by omega)];omega
theorem td10 (n:Nat):(n:Int).tdiv 10=((n/10:Nat):Int):=by rw[YF (by omega)];omega
theorem qf5 {least:Int} {K n:Nat} {s:Str} (j:n<9223372036854775808) (hs:s.length<=1000) (h:0<n\/(s.length:Int)<least):qN least (K+1) (n:Int) s=qN least K ((n/10:Nat):Int) (dch (n%10)::s):=by
 have d:(if(n:Int)>0 then some true else some (decide ((s.length:Int)<least)):Option Bool)=some true:=by
  by_cases c:(n:Int)>0
  ·rw[if_pos c]
  rw[if_neg c,decide_eq_true (by omega)]
 rw[qN,d,ZB,if_pos rfl,tm10,td10,dcut (by omega),ZB,qbq (by simp;omega),ZB,qf (by omega) (by omega)]
 rfl
theorem qf2 {least:Int} {K:Nat} {s:Str} (h: ¬(s.length:Int)<least):qN least (K+1) 0 s=some s:=by
 rw[qN,if_neg (by omega),decide_eq_false h,ZB,if_neg (by simp)]
theorem qj5: ∀(k K n:Nat) (s:Str),n<10^k->s.length+k=9->k<K->qN 9 K (n:Int) s=some (qdT k n++s)
 |k,0,n,s,_,_,h=>by omega
 |0,K+1,n,s,hn,hs,h=>by
  simp at hn
  subst hn
  exact qf2 (by omega)
 |k+1,K+1,n,s,hn,hs,h=>by
  have d:(10:Nat)^(k+1)<=10^9:=Nat.pow_le_pow_right (by omega) (by omega)
  rw[Nat.pow_succ]at hn
  rw[qf5 (by rw[Nat.pow_succ]at d;omega) (by omega) (.inr (by omega)),qj5 k K (n/10) _ (by omega) (by simp;omega) (by omega),qdT,Yz]
  rfl
theorem qj9: ∀(k K n:Nat) (s:Str),0<n->n<10^k->n<9223372036854775808->s.length+k<=900->k<K->qN 1 K (n:Int) s=some (Lib.decDigits n++s)
 |k,0,n,s,_,_,_,_,h=>by omega
 |0,K+1,n,s,h0,hn,_,hs,h=>by simp at hn;omega
 |k+1,K+1,n,s,h0,hn,h63,hs,h=>by
  rw[Nat.pow_succ]at hn
  rw[qf5 h63 (by omega) (.inl h0)]
  by_cases c:n<10
  ·obtain⟨K2,rfl⟩: ∃K2,K=K2+1:=⟨K-1,by omega⟩
   rw[show n/10=0 by omega,jc c,show n%10=n by omega]
   exact qf2 (by simp;omega)
  rw[qj9 k K (n/10) _ (by omega) (by omega) (by omega) (by simp;omega) (by omega),qe8 c,Yz]
  rfl
theorem qoc {N n:Nat} (hN:100<N) (h:n<1000000000):zB N (n:Int) 9=some (qdT 9 n):=by
 unfold zB
 rw[qj5 9 N n [] h rfl (by omega),ZB,YQ]
theorem qhQ {N n:Nat} (hN:100<N) (h:n<9223372036854775808):zB N (n:Int) 1=some (Lib.decDigits n):=by
 unfold zB
 rcases Nat.eq_zero_or_pos n with e|e
 ·subst e
  obtain⟨K,rfl⟩: ∃K,N=K+1+1:=⟨N-2,by omega⟩
  have j:=qf5 (least:=1) (K:=K+1) (n:=0) (s:=[]) (by omega) (by simp) (.inr (by simp))
  rw[j,Nat.zero_div]
  have d:=qf2 (least:=1) (K:=K) (s:=[dch (0%10)]) (by simp)
  have d:qN 1 (K+1) ((0:Nat):Int) [dch (0%10)]=_:=d
  rw[d,ZB,jc (by decide)]
 rw[qj9 19 N n [] e (by omega) h (by simp) (by omega),ZB,YQ]
theorem qhX: ∀k:Nat,E9^k=((10^(9*k):Nat):Int)
 |0=>rfl
 |k+1=>by
  rw[Int.pow_succ,qhX k,Nat.mul_succ,Nat.pow_add,Int.natCast_mul]
  rfl
def nv (w:List Int):Nat:=(dv E9 w).toNat
theorem qjs {w:List Int} (h:Dg E9 w):(nv w:Int)=dv E9 w:=by
 have:=qD E0 h
 unfold nv
 omega
theorem nv_lt {w:List Int} (h:Dg E9 w):nv w<10^(9*w.length):=by
 have d:=yO E0 h
 rw[qhX,<-qjs h]at d
 omega
theorem qiL {w:List Int} (h:Dg E9 w):(Lib.decDigits (nv w)).length<=9*w.length+1:=by
 refine(xu (by omega)).2 ?_
 have:=nv_lt h
 rw[Nat.pow_succ]
 omega
theorem qme {w:List Int} (h:Dg E9 w) {i:Nat} (hi:i<w.length):nv (w.drop i)=w[i].toNat+1000000000*nv (w.drop (i+1)):=by
 have d:=qjs (h.drop i)
 have j:=qjs (h.drop (i+1))
 have h3:=(h.at hi).1
 rw[qg7 w hi]at d
 have u:E9*dv E9 (w.drop (i+1))=1000000000*dv E9 (w.drop (i+1)):=rfl
 omega
theorem qkF {N:Nat} (hN:100<N) {a:qC} (j:Dg E9 a.w) (a0:a.w.length<=100000): ∀(K i:Nat),i<=a.w.length->i<K->0<nv (a.w.drop i)->vH N a K (Lib.decDigits (nv (a.w.drop i))) ((i:Int)-1)=some (Lib.decDigits (nv a.w))
 |0,i,_,h,_=>by omega
 |K+1,0,_,_,_=>by
  rw[vH,if_neg (by omega),YR]
 |K+1,i+1,hi,h,hp=>by
  have d:i<a.w.length:=by omega
  have ax:=j.at d
  have ax2:a.w[i]<1000000000:=ax.2
  have ei:((i+1:Nat):Int)-1=(i:Int):=by omega
  have ed:a.w[i]=(a.w[i].toNat:Int):=by omega
  have el:=qme j d
  have ll:=qiL (j.drop (i+1))
  rw[YJ]at ll
  rw[vH,ei,if_pos (by omega),qz,Ya d,ZB]
  have e9:zB N a.w[i] 9=some (qdT 9 a.w[i].toNat):=by
   conv=>lhs;rw[ed]
   exact qoc hN (by omega)
  rw[e9,ZB,qbq (by rw[qhj];omega),ZB,qf (by omega) (by omega)]
  have u:Lib.decDigits (nv (a.w.drop (i+1)))++qdT 9 a.w[i].toNat=Lib.decDigits (nv (a.w.drop i)):=by
   have h9:(10:Nat)^9=1000000000:=rfl
   have q:nv (a.w.drop i)/10^9=nv (a.w.drop (i+1)):=by rw[h9];omega
   have r:nv (a.w.drop i)%10^9=a.w[i].toNat:=by rw[h9];omega
   rw[qif 9 (nv (a.w.drop i)) (by rw[q];exact hp),q,r]
  rw[u]
  exact qkF hN j a0 K i (by omega) (by omega) (by omega)
theorem vO {z:Int} (h:z<0):Lib.itoa z=45::Lib.decDigits z.natAbs:=by unfold Lib.itoa;rw[if_pos h]
theorem zN {z:Int} (h: ¬z<0):Lib.itoa z=Lib.decDigits z.natAbs:=by
 unfold Lib.itoa
 rw[if_neg h,show z.toNat=z.natAbs by omega]
theorem qgZ {N:Nat} (hN:60000<N) {z:Int} (h:zM z 50000):qab N (rI z)=some (Lib.itoa z):=by
 obtain⟨c,e⟩:=qgd z
 have l:(rI z).w.length<=50000:=h.len
 have en:nv (rI z).w=z.natAbs:=by unfold nv;rw[e];omega
 have ng:(rI z).neg=decide (z<0):=rfl
 unfold qab
 by_cases h0:(rI z).w.length=0
 ·have d:z=0:=by
   rw[YL.1 h0,ky]at e
   omega
  rw[if_pos (by omega),d]
  have:Lib.itoa 0=[48]:=by rw[zN (by decide)];exact jc (by decide)
  rw[this]
 have j:(rI z).w.length-1<(rI z).w.length:=by omega
 have ax:=c.1.at j
 have ax2:(rI z).w[(rI z).w.length-1]<1000000000:=ax.2
 have an:(rI z).w[(rI z).w.length-1]≠0:=c.2 _ (by rw[List.getLast?_eq_getElem?];exact Ya j)
 have ed:(rI z).w[(rI z).w.length-1]=((rI z).w[(rI z).w.length-1].toNat:Int):=by omega
 have u:nv ((rI z).w.drop ((rI z).w.length-1))=(rI z).w[(rI z).w.length-1].toNat:=by
  rw[qme c.1 j,List.drop_of_length_le (by omega)]
  rfl
 have e2:zB N (rI z).w[(rI z).w.length-1] 1=some (Lib.decDigits (nv ((rI z).w.drop ((rI z).w.length-1)))):=by
  conv=>lhs;rw[ed]
  rw[u]
  exact qhQ (by omega) (by omega)
 have e3:=qkF (N:=N) (by omega) c.1 (by omega) N ((rI z).w.length-1) (by omega) (by omega) (by rw[u];omega)
 have ll:=qiL c.1
 rw[if_neg (by omega),qjz (by omega) (by omega),qz,Ya j,ZB,e2,ZB,show w64 (((rI z).w.length:Int)-2)=(((rI z).w.length-1:Nat):Int)-1 by rw[qf (by omega) (by omega)];omega,e3,ZB,ng]
 by_cases d:z<0
 ·rw[decide_eq_true d,if_pos rfl,qbq (by simp;omega),ZB,vO d,en]
  rfl
 rw[decide_eq_false d,if_neg (by simp),zN d,en]
theorem qk0 {s:Str} (j:s.all vQ=true) (u:s.length<=18): ∀(K i:Nat),i<=s.length->s.length<K+i->jZ s K ((qO 0 (s.take i):Nat):Int) (i:Int)=some ((qO 0 s:Nat):Int)
 |0,i,h,hK=>by omega
 |K+1,i,h,hK=>by
  rw[jZ]
  by_cases hi:i<s.length
  ·have ht:s.take (i+1)=s.take i++[s[i]]:=List.take_succ_eq_append_getElem hi
   have d:vQ s[i]=true:=Yp.1 j _ (List.getElem_mem hi)
   obtain⟨_,hc2⟩:=qmx d
   have hc1:48<=s[i].toNat:=by
    unfold vQ at d
    rw[Bool.and_eq_true,decide_eq_true_eq]at d
    exact d.1
   have hv:=qeE (s.take i) 0 (Yp.2 fun x hx=>Yp.1 j x (List.mem_of_mem_take hx))
   have hp:(10:Nat)^(s.take i).length<=10^17:=Nat.pow_le_pow_right (by omega) (by rw[Ym];omega)
   have a0:(10:Nat)^17=100000000000000000:=rfl
   rw[if_pos (by omega),qz,Ya hi,ZB,qf (n:=10*((qO 0 (s.take i):Nat):Int)) (by omega) (by omega),qf (n:=(s[i].toNat:Int)) (by omega) (by omega),qf (n:=10*((qO 0 (s.take i):Nat):Int)+(s[i].toNat:Int)) (by omega) (by omega),qf (by omega) (by omega),zH (by omega)]
   have e:10*((qO 0 (s.take i):Nat):Int)+(s[i].toNat:Int)-48=((qO 0 (s.take (i+1)):Nat):Int):=by rw[ht,qgk];omega
   rw[e]
   exact qk0 j u K (i+1) (by omega) (by omega)
  rw[if_neg (by omega),List.take_of_length_le (by omega)]
theorem qfr {N:Nat} (hN:100<N) {s:Str} (h:s.all vQ=true) (d:s.length<=18):y9 N s=some ((qO 0 s:Nat):Int):=by
 have e:=qk0 h d N 0 (by omega) (by omega)
 have e:jZ s N 0 0=_:=e
 unfold y9
 rw[e,ZB]
theorem qip {s:Str} (h:s.all vQ=true) (k:Nat):(s.take k).all vQ=true:=Yp.2 fun x hx=>Yp.1 h x (List.mem_of_mem_take hx)
theorem qhJ {s:Str} (h:s.all vQ=true) (k:Nat):(s.drop k).all vQ=true:=Yp.2 fun x hx=>Yp.1 h x (List.mem_of_mem_drop hx)
theorem qke {N:Nat} (hN:100<N): ∀(K:Nat) (l:List Int) (s:Str),s.all vQ=true->l.length+s.length<=90000->s.length<K->Dg E9 l->
 ∃d s',vR N K l s=some (d,s')/\s'.length<=9/\s'.all vQ=true/\Dg E9 d/\d.length<=90000/\dv E9 d+E9^d.length*(qO 0 s':Nat)=dv E9 l+E9^l.length*(qO 0 s:Nat)
 |0,l,s,_,_,h,_=>by omega
 |K+1,l,s,hd,hl,h,hg=>by
  rw[vR]
  by_cases c:s.length>9
  ·have u:(s.drop (s.length-9)).length=9:=by rw[YJ];omega
   have hv:=qfr (N:=N) hN (qhJ hd (s.length-9)) (by omega)
   have j:=qeE _ 0 (qhJ hd (s.length-9))
   rw[u]at j
   rw[if_pos (by omega),show w64 ((s.length:Int)-9)=((s.length-9:Nat):Int)by rw[qf (by omega) (by omega)];omega,xA (by omega),ZB,hv,ZB,qcP (by simp;omega) (by simp;omega),ZB,yx (by omega),ZB]
   obtain⟨d,s',f1,f2,f3,f4,f5,f6⟩:=qke hN K (l++[((qO 0 (s.drop (s.length-9)):Nat):Int)]) (s.take (s.length-9)) (qip hd _) (by simp;omega) (by rw[Ym];omega) (hg.append (Dg.cons ⟨by omega,show((qO 0 (s.drop (s.length-9)):Nat):Int)<1000000000 by omega⟩ Dg.nil))
   refine⟨d,s',f1,f2,f3,f4,f5,?_⟩
   rw[f6,qeG,Yq,List.length_singleton,Int.pow_succ,Int.mul_assoc]
   have e:qO 0 s=qO 0 (s.take (s.length-9))*1000000000+qO 0 (s.drop (s.length-9)):=by
    have:=qel (s.take (s.length-9)) (s.drop (s.length-9))
    rw[YS,u]at this
    exact this
   have e2:((qO 0 s:Nat):Int)=((qO 0 (s.drop (s.length-9)):Nat):Int)+E9*((qO 0 (s.take (s.length-9)):Nat):Int):=by
    have h4:E9*((qO 0 (s.take (s.length-9)):Nat):Int)=1000000000*((qO 0 (s.take (s.length-9)):Nat):Int):=rfl
    omega
   rw[e2,Int.mul_add]
   omega
  rw[if_neg (by omega)]
  exact⟨l,s,rfl,by omega,hd,hg,by omega,rfl⟩
def sgn (s:Str):Bool:=decide (s[0]? =some 45)
def bdy (s:Str):Str:=if sgn s=true then s.drop 1 else s
theorem qfO (s:Str):(if(s.length:Int)>0 then(idx s 0).bind fun c=>some (decide ((c.toNat:Int)=45))else some false:Option Bool)=some (sgn s):=by
 unfold sgn
 cases s with
 |nil=>rfl
 |cons c t=>
  rw[if_pos (by simp),qcb]
  have e:((c.toNat:Int)=45)↔(some c=some (45:UInt8)):=⟨fun h=>congrArg some (UInt8.toNat_inj.1 (show c.toNat=45 by omega)),fun h=>by rw[Ye h];rfl⟩
  simp only[Yj,ZB]
  congr 1
  exact decide_eq_decide.2 e
theorem qlp (s:Str):(if sgn s=true then(cut s 1 (s.length:Int)).bind fun x=>some x else some s:Option Str)=some (bdy s):=by
 unfold bdy
 cases h:sgn s with
 |false=>rw[if_neg (by simp),if_neg (by simp)]
 |true=>
  have d:1<=s.length:=by
   cases s with
   |nil=>simp[sgn]at h
   |cons=>simp
  have:=xA d
  have e:cut s 1 (s.length:Int)=some (s.drop 1):=this
  rw[if_pos rfl,if_pos rfl,e,ZB]
def qjy (s:Str):Int:=if sgn s=true then-((qO 0 (bdy s):Nat):Int)else((qO 0 (bdy s):Nat):Int)
theorem qft {N:Nat} (hN:100000<N) {s:Str} (hd:(bdy s).all vQ=true) (hl:(bdy s).length<=80000):yB N s=some (rI (qjy s)):=by
 unfold yB
 rw[qfO,ZB,qlp,ZB]
 obtain⟨l,t,h,f2,d,f4,f5,f6⟩:=qke (N:=N) (by omega) N [] (bdy s) hd (by simp;omega) (by omega) Dg.nil
 have hv:=qfr (N:=N) (by omega) d (by omega)
 have u:=qeE _ 0 d
 have hp:(10:Nat)^t.length<=10^9:=Nat.pow_le_pow_right (by omega) f2
 rw[h,ZB]
 simp only
 have j:=f4.append (r:=[((qO 0 t:Nat):Int)]) (Dg.cons ⟨by omega,show((qO 0 t:Nat):Int)<1000000000 by omega⟩ Dg.nil)
 rw[hv,ZB,qcP (by simp;omega) (by simp;omega),ZB,vP _ j (by simp;omega) (by simp;omega),ZB,qeG,f6]
 simp only[ky,List.length_nil,Int.pow_zero,Int.one_mul,Int.zero_add]
 rfl
theorem qfS (z:Int):sgn (Lib.itoa z)=decide (z<0):=by
 unfold sgn
 by_cases h:z<0
 ·rw[vO h,decide_eq_true h];rfl
 rw[zN h,decide_eq_false h]
 refine decide_eq_false fun e=>?_
 have d:(45:UInt8)∈Lib.decDigits z.natAbs:=Yn e
 have:=Yp.1 (qaM z.natAbs) _ d
 exact absurd this (by decide)
theorem qbM (z:Int):bdy (Lib.itoa z)=Lib.decDigits z.natAbs:=by
 unfold bdy
 rw[qfS]
 by_cases h:z<0
 ·rw[decide_eq_true h,if_pos rfl,vO h];rfl
 rw[decide_eq_false h,if_neg (by simp),zN h]
theorem qb8 (z:Int):qjy (Lib.itoa z)=z:=by
 unfold qjy
 rw[qfS,qbM,qbT]
 by_cases h:z<0
 ·rw[decide_eq_true h,if_pos rfl];omega
 rw[decide_eq_false h,if_neg (by simp)];omega
def slA:Str->Nat
 |[]=>0
 |c::s=>if c=47 then 0 else slA s+1
theorem qgj: ∀s:Str,slA s<=s.length
 |[]=>Nat.le_refl _
 |c::s=>by
  rw[slA,Yr]
  have:=qgj s
  split<;>omega
theorem qkK {s:Str} (d:s.length<=1000000): ∀(K i:Nat),i<=s.length->s.length<K+i->jP s K (i:Int)=some (if i+slA (s.drop i)<s.length then .inr ((i+slA (s.drop i):Nat):Int)else .inl ())
 |0,i,h,hK=>by omega
 |K+1,i,h,hK=>by
  rw[jP]
  by_cases hi:i<s.length
  ·have j:s.drop i=s[i]::s.drop (i+1):=YG hi
   rw[if_pos (by omega),qz,Ya hi,ZB,j,slA]
   by_cases c:s[i]=47
   ·rw[if_pos c,if_pos (by rw[c];rfl),Nat.add_zero,if_pos hi]
   rw[if_neg c,if_neg (fun e=>c (UInt8.toNat_inj.1 (show s[i].toNat=47 by omega))),zH (by omega),qkK d K (i+1) (by omega) (by omega),show i+1+slA (s.drop (i+1))=i+(slA (s.drop (i+1))+1)by omega]
  rw[if_neg (by omega),List.drop_of_length_le (by omega),if_neg (by omega)]
theorem qce {N:Nat} {s:Str} (d:s.length<=1000000) (hN:s.length<N):vJ N s=some (slA s:Int):=by
 have e:=qkK d N 0 (by omega) (by omega)
 have e:jP s N 0=_:=e
 have h:=qgj s
 unfold vJ
 rw[e,YR,Nat.zero_add]
 by_cases c:slA s<s.length
 ·rw[if_pos c];rfl
 rw[if_neg c]
 have:slA s=s.length:=by omega
 rw[this]
 rfl
theorem qjp: ∀(s t:Str),(∀c∈s,c≠47)->slA (s++47::t)=s.length/\slA s=s.length
 |[],t,_=>⟨by simp[slA],rfl⟩
 |c::s,t,h=>by
  have d:=qjp s t fun x hx=>h x (List.mem_cons_of_mem _ hx)
  rw[List.cons_append,slA,slA,if_neg (h c (List.mem_cons_self ..)),if_neg (h c (List.mem_cons_self ..)),d.1,d.2]
  exact⟨rfl,rfl⟩
end Go.Av
end
section
namespace Go.Av
theorem and1 {n:Nat} (h:n<4611686018427387904):qA .i64 (n:Int) 1=((n%2:Nat):Int):=by
 show IntKind.wrap .i64 _=_
 have e:(BitVec.ofInt IntKind.i64.bits (n:Int)&&&BitVec.ofInt IntKind.i64.bits 1).toNat=n%2:=by
  rw[BitVec.toNat_and]
  show(BitVec.ofInt 64 (n:Int)).toNat&&&(BitVec.ofInt 64 1).toNat=_
  rw[qb9 (by omega) (by omega),qb9 (by omega) (by omega)]
  exact Nat.and_one_is_mod n
 rw[e]
 show w64 _=_
 exact qf (by omega) (by omega)
theorem shr1 (n:Nat):qw .i64 (n:Int) 1=((n/2:Nat):Int):=by
 show(n:Int).fdiv 2=_
 rw[Int.fdiv_eq_ediv_of_nonneg _ (by decide)]
 omega
theorem qot {N:Nat} (hN:11000<N): ∀(K n:Nat) (b d:qm) (x y:Int) (mb ma:Nat),n<100000->n<K->IsZ b x->IsZ d y->Fit x mb->Fit y ma->ma+mb*n<=3900->
 ∃r,jS N K b.s b.w d.s d.w (n:Int)=some (r.s,r.w)/\IsZ r (y*x^n)
 |0,n,_,_,_,_,_,_,_,h,_,_,_,_,_=>by omega
 |K+1,n,b,d,x,y,mb,ma,hn,hK,hb,hacc,fx,fy,hm=>by
  rw[jS]
  by_cases h0:n=0
  ·subst h0
   rw[if_neg (by omega)]
   exact⟨d,rfl,by simpa using hacc⟩
  have hmb:mb<=mb*n:=Nat.le_mul_of_pos_right _ (by omega)
  obtain⟨m,r,hr,hmr⟩: ∃m r,r<2/\n=2*m+r:=⟨n/2,n%2,by omega,by omega⟩
  have emb:mb*n=mb*m+mb*m+mb*r:=by rw[hmr,Nat.mul_add,<-Nat.mul_assoc,Nat.mul_comm mb 2,Nat.two_mul,Nat.add_mul]
  have S1: ∃(j:qm) (m2:Nat),(if(qA .i64 (n:Int) 1)=1 then(qW N (⟨d.s,d.w⟩:qm) (⟨b.s,b.w⟩:qm)).bind fun r20=>some (r20.s,r20.w)else some (d.s,d.w):Option (Int×(List Int)))=some (j.s,j.w)/\IsZ j (y*x^r)/\Fit (y*x^r) m2/\m2=ma+mb*r:=by
   rw[and1 (by omega),show n%2=r by omega]
   rcases(show r=0\/r=1 by omega)with e|e<;>subst e
   ·rw[if_neg (by simp)]
    exact⟨d,ma,rfl,by simpa using hacc,by simpa using fy,by simp⟩
   obtain⟨p,e1,h1⟩:=qfc hN hacc hb (fy.mono (by omega)) (fx.mono (by omega))
   have e1:qW N (⟨d.s,d.w⟩:qm) (⟨b.s,b.w⟩:qm)=some p:=e1
   rw[if_pos (by simp),e1,ZB]
   exact⟨p,ma+mb,rfl,by rw[Int.pow_one];exact h1,by rw[Int.pow_one];exact qey fy fx,by simp⟩
  obtain⟨j,m2,e1,h1,f1,em2⟩:=S1
  have S2: ∃(u:qm) (x2:Int) (m3:Nat),(if(n:Int)>1 then(qW N (⟨b.s,b.w⟩:qm) (⟨b.s,b.w⟩:qm)).bind fun r22=>some (r22.s,r22.w,j.s,j.w)else some (b.s,b.w,j.s,j.w):Option (Int×(List Int)×Int×(List Int)))=some (u.s,u.w,j.s,j.w)/\IsZ u x2/\Fit x2 m3/\m3*m=mb*m+mb*m/\x2^m=(x*x)^m:=by
   by_cases c:(n:Int)>1
   ·have hm1:1<=m:=by omega
    have h3:mb<=mb*m:=Nat.le_mul_of_pos_right _ hm1
    obtain⟨p,e2,h2⟩:=qfc hN hb hb (fx.mono (by omega)) (fx.mono (by omega))
    have e2:qW N (⟨b.s,b.w⟩:qm) (⟨b.s,b.w⟩:qm)=some p:=e2
    rw[if_pos c,e2,ZB]
    exact⟨p,x*x,mb+mb,rfl,h2,qey fx fx,Nat.add_mul _ _ _,rfl⟩
   have hm0:m=0:=by omega
   subst hm0
   rw[if_neg c]
   exact⟨b,x,mb,rfl,hb,fx,by simp,by simp⟩
  obtain⟨u,x2,m3,e2,h2,f2,em3,ex⟩:=S2
  have S:((if(qA .i64 (n:Int) 1)=1 then(qW N (⟨d.s,d.w⟩:qm) (⟨b.s,b.w⟩:qm)).bind fun r20=>some (r20.s,r20.w)else some (d.s,d.w):Option (Int×(List Int)))).bind (fun(n16,l17)=>
   if(n:Int)>1 then(qW N (⟨b.s,b.w⟩:qm) (⟨b.s,b.w⟩:qm)).bind fun r22=>some (r22.s,r22.w,n16,l17)else some (b.s,b.w,n16,l17))=some (u.s,u.w,j.s,j.w):=by
   rw[e1,ZB]
   exact e2
  obtain⟨r',e3,h3⟩:=qot hN K m u j x2 (y*x^r) m3 m2 (by omega) (by omega) h2 h1 f2 f1 (by omega)
  rw[if_pos (by omega),S,ZB]
  simp only
  rw[shr1,show n/2=m by omega]
  refine⟨r',e3,?_⟩
  have hx2:x*x=x^2:=by rw[Int.pow_succ,Int.pow_succ,Int.pow_zero,Int.one_mul]
  rw[ex,Int.mul_assoc,hx2,<-Int.pow_mul,<-Int.pow_add,show r+2*m=n by omega]at h3
  exact h3
theorem qqT {N:Nat} (hN:110000<N) {b:qm} {x:Int} {n mb:Nat} (u:n<100000) (hb:IsZ b x) (j:Fit x mb) (d:1+mb*n<=3900): ∃r,qbH N b (n:Int)=some r/\IsZ r (x^n):=by
 obtain⟨r,e,h⟩:=qot (N:=N) (by omega) N n b ⟨1,[]⟩ x 1 mb 1 u (by omega) hb (Ud (by decide) (by decide)) j (F1 (by omega)) d
 have e:jS N N b.s b.w 1 [] (n:Int)=some (r.s,r.w):=e
 unfold qbH
 rw[qhU,ZB]
 simp only
 rw[e,ZB]
 exact⟨r,rfl,by rw[Int.one_mul]at h;exact h⟩
theorem qfW {z:Int} {p n:Nat} (h:(z.natAbs:Int)<((10^p:Nat):Int)) (hp:p<=19*n):Fit z n:=by
 have j:(10:Nat)^p<=10^(19*n):=Nat.pow_le_pow_right (by omega) hp
 have d:((10^(19*n):Nat):Int)<=W^n:=by
  rw[Nat.pow_mul]
  have:=(qd9 (x:=10000000000000000000) (y:=W) (by decide) (by decide) n).2
  rw[Int.natCast_pow]
  exact this
 unfold Fit
 omega
theorem qct (s:Str):strings_HasPrefix s [45]=some (sgn s):=by
 unfold strings_HasPrefix stringslite_HasPrefix sgn
 cases s with
 |nil=>rfl
 |cons c t=>
  rw[if_pos (by simp;omega)]
  have e:cut (c::t) 0 (([45]:Str).length:Int)=some [c]:=yx (l:=c::t) (k:=1) (by simp)
  rw[e]
  simp only[ZB,Yj]
  congr 1
  rw[Bool.eq_iff_iff,beq_iff_eq,decide_eq_true_eq]
  constructor
  ·intro h;injection h with h;rw[h]
  intro h;rw[Ye h]
theorem qjm {s:Str} (h:sgn s=true):1<=s.length:=by
 cases s with
 |nil=>simp[sgn]at h
 |cons=>simp
theorem qeX (s:Str):strings_TrimPrefix s [45]=some (bdy s):=by
 unfold strings_TrimPrefix stringslite_TrimPrefix
 have e:stringslite_HasPrefix s [45]=some (sgn s):=by
  have:=qct s
  unfold strings_HasPrefix at this
  cases h:stringslite_HasPrefix s [45]with
  |none=>rw[h]at this;cases this
  |some b=>rw[h]at this;exact this
 rw[e,ZB]
 unfold bdy
 cases h:sgn s with
 |false=>rw[if_neg (by simp),if_neg (by simp),ZB]
 |true=>
  have d:cut s (([45]:Str).length:Int) (s.length:Int)=some (s.drop 1):=xA (qjm h)
  rw[if_pos rfl,if_pos rfl,d,ZB,ZB]
theorem qji (s:Str):strings_CutPrefix s [45]=some (bdy s,sgn s):=by
 unfold strings_CutPrefix stringslite_CutPrefix
 have e:stringslite_HasPrefix s [45]=some (sgn s):=by
  have:=qct s
  unfold strings_HasPrefix at this
  cases h:stringslite_HasPrefix s [45]with
  |none=>rw[h]at this;cases this
  |some b=>rw[h]at this;exact this
 rw[e,ZB]
 unfold bdy
 cases h:sgn s with
 |false=>rw[if_pos (by simp),if_neg (by simp),ZB]
 |true=>
  have d:cut s (([45]:Str).length:Int) (s.length:Int)=some (s.drop 1):=xA (qjm h)
  rw[if_neg (by simp),if_pos rfl,d,ZB,ZB]
theorem qma {N:Nat} (hN:600000<N): ∀(K:Nat) (x:qm) (y:Int) (s:Str) (p:Nat),IsZ x y->0<=y->y<((10^p:Nat):Int)->p+s.length<=19000->s.all vQ=true->s.length<K->
 ∃r,xc N K x.s x.w s=some (r.s,r.w)/\IsZ r (y*((10^s.length:Nat):Int)+(qO 0 s:Nat))
 |0,_,_,_,_,_,_,_,_,_,h=>by omega
 |K+1,x,y,s,p,hx,y0,y1,hp,hd,hK=>by
  rw[xc]
  by_cases h0:s.length=0
  ·rw[if_neg (by omega)]
   have:s=[]:=YL.1 h0
   subst this
   exact⟨x,rfl,by simpa[qcs]using hx⟩
  rw[if_pos (by omega)]
  obtain⟨g,hg,hg0,hgl,hg18⟩: ∃g:Nat,(if(s.length:Int)<18 then(s.length:Int)else 18)=(g:Int)/\0<g/\g<=s.length/\g<=18:=by
   by_cases c:(s.length:Int)<18
   ·exact⟨s.length,by rw[if_pos c],by omega,by omega,by omega⟩
   exact⟨18,by rw[if_neg c];rfl,by omega,by omega,by omega⟩
  have lt:(s.take g).length=g:=by rw[Ym];omega
  have ea:=qkV (s:=s.take g) (by omega) (qip hd g)
  have et:qkb (s.take g)=some (((qO 0 (s.take g):Nat):Int),()):=by
   unfold qkb
   rw[if_pos (by omega),ea]
   rfl
  have hv:=qeE (s.take g) 0 (qip hd g)
  rw[lt]at hv
  have a2:(10:Nat)^g<=10^18:=Nat.pow_le_pow_right (by omega) hg18
  have h18:(10:Nat)^18=1000000000000000000:=rfl
  rw[hg,yx hgl,ZB,et,ZB,qhU,ZB]
  obtain⟨r1,e1,h1⟩:=qqT (N:=N) (by omega) (b:=⟨10,[]⟩) (x:=10) (n:=g) (mb:=1) (by omega) (Ud (by decide) (by decide)) (qfW (p:=2) (by decide) (by omega)) (by omega)
  have ep:(10:Int)^g=((10^g:Nat):Int):=by rw[Int.natCast_pow];rfl
  rw[ep]at h1
  have fg:Fit ((10^g:Nat):Int) 1000:=qfW (p:=19) (by
   rw[Int.natAbs_natCast]
   have u:(10:Nat)^19=10000000000000000000:=rfl
   omega) (by omega)
  have fy:Fit y 1000:=qfW (p:=p) (by omega) (by omega)
  have a1:0<10^g:=Nat.pow_pos (by decide)
  have yg0:0<=y*((10^g:Nat):Int):=Yv y0 (by omega)
  have d:(y+1)*((10^g:Nat):Int)<=((10^(p+g):Nat):Int):=by
   rw[Nat.pow_add,Int.natCast_mul]
   exact Int.mul_le_mul_of_nonneg_right (by omega) (by omega)
  rw[Int.add_mul,Int.one_mul]at d
  obtain⟨r2,j,h2⟩:=qfc (N:=N) (by omega) hx h1 (fy.mono (by omega)) (fg.mono (by omega))
  have j:qW N (⟨x.s,x.w⟩:qm) r1=some r2:=j
  have a0:IsZ ⟨((qO 0 (s.take g):Nat):Int),[]⟩ ((qO 0 (s.take g):Nat):Int):=Ud (by omega) (by omega)
  obtain⟨r3,e3,h3⟩:=qlg (N:=N) (by omega) h2 a0 (qfW (p:=p+g) (by omega) (by omega)) (qfW (p:=19) (by
   rw[Int.natAbs_natCast]
   have u:(10:Nat)^19=10000000000000000000:=rfl
   omega) (by omega))
  rw[e1,ZB,j,ZB,qhU,ZB,e3,ZB,xA hgl,ZB]
  have ld:(s.drop g).length=s.length-g:=by rw[YJ]
  obtain⟨r,e4,h4⟩:=qma hN K r3 _ (s.drop g) (p+g) h3 (by omega) (by omega) (by omega) (qhJ hd g) (by omega)
  refine⟨r,e4,?_⟩
  have e5:=qel (s.take g) (s.drop g)
  rw[YS]at e5
  have e6:(10:Nat)^s.length=10^g*10^(s.drop g).length:=by rw[<-Nat.pow_add,ld];congr 1;omega
  rw[e5,e6]
  rw[Int.add_mul]at h4
  rw[Int.natCast_mul,Int.natCast_add,Int.natCast_mul,<-Int.mul_assoc,<-Int.add_assoc]
  exact h4
theorem qg0 {N:Nat} (hN:600000<N) {s:Str} (u:(bdy s).all vQ=true) (hl:(bdy s).length<=19000): ∃r,qa1 N s=some r/\IsZ r (qjy s):=by
 obtain⟨r,e,h⟩:=qma hN N ⟨0,[]⟩ 0 (bdy s) 0 (Ud (by decide) (by decide)) (by omega) (by decide) (by omega) u (by omega)
 have e:xc N N 0 [] (bdy s)=some (r.s,r.w):=e
 rw[Int.zero_mul,Int.zero_add]at h
 unfold qa1
 rw[qct,ZB,qeX,ZB,e,ZB]
 unfold qjy
 cases hs:sgn s with
 |false=>
  rw[if_neg (by simp)]
  exact⟨r,rfl,by simpa using h⟩
 |true=>
  obtain⟨j,d,h2⟩:=qfe h
  have d:zi (⟨r.s,r.w⟩:qm)=some j:=d
  simp only[if_true]
  rw[d]
  exact⟨j,rfl,h2⟩
end Go.Av
end
section
namespace Go.Av
theorem qmE: ∀n:Nat,Lib.repeatL [48] n=List.replicate n 48
 |0=>rfl
 |n+1=>by rw[Lib.repeatL,qmE,List.replicate_succ];rfl
theorem qiZ: ∀k:Nat,qdT k 0=List.replicate k 48
 |0=>rfl
 |k+1=>by
  rw[qdT,Nat.zero_div,qiZ k,List.replicate_succ']
  rfl
theorem qj0: ∀(k n:Nat),n<10^(k+1)->qdT (k+1) n=List.replicate (k+1-(Lib.decDigits n).length) 48++Lib.decDigits n
 |0,n,h=>by
  have h:n<10:=by simpa using h
  rw[jc h,qdT,qdT,Nat.mod_eq_of_lt h]
  rfl
 |k+1,n,h=>by
  rw[qdT]
  by_cases c:n<10
  ·rw[jc c,Nat.div_eq_of_lt c,qiZ,Nat.mod_eq_of_lt c]
   rfl
  rw[Nat.pow_succ]at h
  rw[qj0 k (n/10) (by omega),qe8 c,Yz,Yq,List.length_singleton,show k+1+1-((Lib.decDigits (n/10)).length+1)=k+1-(Lib.decDigits (n/10)).length by omega]
theorem qeD (n:Nat):Lib.itoa (n:Int)=Lib.decDigits n:=by rw[zN (by omega),Int.natAbs_natCast]
theorem qo2 {r:Nat} (h:r<1000000000000000000) (c: ¬r=0):dg W (r:Int)=[(r:Int)]:=by
 rw[qid (by omega) (by unfold W;omega)]
theorem qnJ {r:Nat} (h:r<1000000000000000000):qhp (r:Int) 10=some (Lib.decDigits r):=by
 unfold qhp
 rw[if_pos ⟨by omega,by omega,rfl⟩,qeD]
theorem qnx:(if((dg W ((0:Nat):Int)).length:Int)>0 then(idx (dg W ((0:Nat):Int)) 0).bind fun x13=>(qhp x13 10).bind fun r14=>some r14 else some [48]:Option Str)=some (Lib.decDigits 0):=by
 rw[show((0:Nat):Int)=0 from rfl,qdB,if_neg (by simp),jc (by decide)]
 rfl
theorem qpV {r:Nat} (h:r<1000000000000000000):(if((dg W (r:Int)).length:Int)>0 then(idx (dg W (r:Int)) 0).bind fun x13=>(qhp x13 10).bind fun r14=>some r14 else some [48]:Option Str)=some (Lib.decDigits r):=by
 by_cases c:r=0
 ·rw[c]
  exact qnx
 rw[qo2 h c,if_pos (show((([(r:Int)]:List Int).length:Nat):Int)>0 from by rw[List.length_singleton];decide),qcb,Yj,ZB,qnJ h]
 rfl
theorem p18:(10:Nat)^18=1000000000000000000:=rfl
theorem qpS {q r:Nat} (h:r<1000000000000000000): ∃t:Str,(if((dg W (q:Int)).length:Int)>0 then(qeu [48] (w64 (18-((Lib.decDigits r).length:Int)))).bind fun r18=>(cat r18 (Lib.decDigits r)).bind fun s19=>some s19 else some (Lib.decDigits r):Option Str)=some t/\0<t.length/\Lib.decDigits (1000000000000000000*q+r)=(if q=0 then[]else Lib.decDigits q)++t:=by
 have u:r<10^18:=by rw[p18];exact h
 have lD:(Lib.decDigits r).length<=18:=(xu (by decide)).2 u
 have j:=qf1 r
 by_cases c:q=0
 ·subst c
  rw[show((0:Nat):Int)=0 from rfl,qdB,if_neg (by simp),if_pos rfl,Nat.mul_zero,Nat.zero_add]
  exact⟨_,rfl,j,rfl⟩
 have d:dg W (q:Int)≠[]:=fun e=>by have:=(qhK W1 (by omega)).1 e;omega
 have hlen:0<(dg W (q:Int)).length:=List.length_pos_iff.2 d
 have et:qeu [48] (w64 (18-((Lib.decDigits r).length:Int)))=some (List.replicate (18-(Lib.decDigits r).length) 48):=by
  rw[qf (by omega) (by omega)]
  unfold qeu
  rw[if_pos ⟨by omega,by omega,by simp;omega⟩,qmE]
  congr 2
  omega
 have hp:=qj0 17 r u
 have hl:(qdT (17+1) r).length=18:=qhj _ _
 have hs:=qif 18 (1000000000000000000*q+r)
 rw[p18,Nat.mul_add_div (by omega),Nat.div_eq_of_lt h,Nat.add_zero,Nat.mul_add_mod,Nat.mod_eq_of_lt h]at hs
 rw[if_pos (by omega),et,ZB,qbq (by simp;omega),ZB,<-hp,if_neg c]
 exact⟨_,rfl,by omega,hs (by omega)⟩
theorem qrc {N:Nat} (hN:600000<N) (B:Nat) (hB:B<=3900) (K:Nat): ∀(k m:Nat) (l:List Str),m<10^(18*k)->k<K->k+l.length<=100000->Fit (m:Int) B->(∀t∈l,0<t.length)->
 ∃l',ji N K l (dg W (m:Int))=some l'/\(∀t∈l',0<t.length)/\l'.length<=k+l.length/\l'.reverse.flatten=(if m=0 then[]else Lib.decDigits m)++l.reverse.flatten:=by
 induction K with
 |zero=>intro k m l _ h;omega
 |succ K ih=>
  intro k m l hm hK hl fm hp
  rw[ji]
  by_cases h0:m=0
  ·subst h0
   rw[show((0:Nat):Int)=0 from rfl,qdB,if_neg (by simp),if_pos rfl]
   exact⟨l,rfl,hp,by omega,rfl⟩
  obtain⟨j,hj⟩: ∃j,k=j+1:=⟨k-1,by
   rcases Nat.eq_zero_or_pos k with e|e
   ·subst e;simp at hm;omega
   omega⟩
  rw[hj]at hm hK hl
  have d:(0:Int)<=(m:Int):=by omega
  have hne:dg W (m:Int)≠[]:=fun e=>by have:=(qhK W1 d).1 e;omega
  have hlen:0<(dg W (m:Int)).length:=List.length_pos_iff.2 hne
  have ln:(dg W (m:Int)).length<=3900:=Nat.le_trans fm.len hB
  have cB:Can W [1000000000000000000]:=by
   have:=zy W1 (show(0:Int)<=1000000000000000000 by decide)
   rw[qid (by decide) (by decide)]at this
   exact this
  have vB:dv W [1000000000000000000]=1000000000000000000:=by rw[zl,ky,Int.mul_zero,Int.add_zero]
  have ed:=qiR (N:=N) (by omega) (zy W1 d) cB (by omega) (by rw[vB];decide)
  rw[vB,jg W1 d]at ed
  obtain⟨q,r,hq,hr⟩: ∃q r,m=1000000000000000000*q+r/\r<1000000000000000000:=⟨m/1000000000000000000,m%1000000000000000000,by omega,by omega⟩
  have eq:(m:Int)/1000000000000000000=(q:Int):=by omega
  have er:(m:Int)%1000000000000000000=(r:Int):=by omega
  rw[eq,er]at ed
  obtain⟨t,et,t0,eD⟩:=qpS (q:=q) hr
  rw[<-hq]at eD
  rw[if_pos (by omega),ed,ZB]
  simp only
  rw[qpV hr,ZB,et,ZB,qcP (by simp;omega) (by simp;omega),ZB]
  have hk:q<10^(18*j):=by
   rw[Nat.mul_succ,Nat.pow_add,p18,Nat.mul_comm]at hm
   refine Nat.lt_of_mul_lt_mul_left (a:=1000000000000000000) ?_
   omega
  obtain⟨l',f1,f2,f3,f4⟩:=ih j q (l++[t]) hk (by omega) (by simp;omega) (qby (by omega) fm) (fun u hu=>by
   rcases List.mem_append.1 hu with hu|hu
   ·exact hp u hu
   rw[List.mem_singleton.1 hu];exact t0)
  refine⟨l',f1,f2,by simp at f3;omega,?_⟩
  rw[f4,if_neg h0,eD,List.reverse_append,List.flatten_append,Yz]
  simp
def byN (s:Str):List Int:=s.map fun x=>(x.toNat:Int)
theorem qgK (s:Str):(byN s).length=s.length:=by unfold byN;rw[List.length_map]
theorem qod {l:List Str} (hp: ∀t∈l,0<t.length) (hl:l.length<=100000): ∀(K i:Nat) (o:Option (List Int)),i<=l.length->i<K->(hof o).length+(l.take i).flatten.length<=1000000000->
 ∃j,zm l K o.isSome o ((i:Int)-1)=some (j.isSome,j)/\hof j=hof o++byN (l.take i).reverse.flatten
 |0,i,o,_,h,_=>by omega
 |K+1,0,o,hi,h,hb=>by
  rw[zm,if_neg (by omega)]
  exact⟨o,rfl,by simp[byN]⟩
 |K+1,i+1,o,hi,h,hb=>by
  have d:i<l.length:=by omega
  have ei:((i+1:Nat):Int)-1=(i:Int):=by omega
  have u:l.take (i+1)=l.take i++[l[i]]:=List.take_succ_eq_append_getElem d
  have h1:=hp l[i] (List.getElem_mem d)
  rw[u,List.flatten_append,Yq]at hb
  simp only[List.flatten_cons,List.flatten_nil,YQ]at hb
  have ew:bWr o.isSome o l[i]=some (hof o++byN l[i]):=by
   unfold bWr
   rw[if_pos ⟨rfl,by omega,h1⟩]
   rfl
  rw[zm,ei,if_pos (by omega),qz,Ya d,ZB,ew,ZB,qf (by omega) (by omega)]
  obtain⟨j,f1,f2⟩:=qod hp hl K i (some (hof o++byN l[i])) (by omega) (by omega) (by
   show(hof o++byN l[i]).length+_<=_
   rw[Yq,qgK];omega)
  refine⟨j,f1,?_⟩
  rw[f2,u,List.reverse_append,List.flatten_append]
  show hof o++byN l[i]++_=_
  rw[Yz]
  unfold byN
  simp
theorem qo3 (s:Str):(byN s).map (fun n=>UInt8.ofNat n.toNat)=s:=by
 unfold byN
 rw[List.map_map]
 conv=>rhs;rw[<-List.map_id s]
 refine List.map_congr_left fun x _=>?_
 show UInt8.ofNat ((x.toNat:Int)).toNat=x
 rw[Int.toNat_natCast,UInt8.ofNat_toNat]
theorem qqa (s:Str):(byN s).all (fun n=>decide (0<=n)&&decide (n<256))=true:=by
 unfold byN
 rw[List.all_map,Yp]
 intro x _
 have:x.toNat<256:=x.toNat_lt
 simp
 omega
theorem qjT: ∀l:List Str,l.reverse.flatten.length=l.flatten.length:=fun l=>by
 rw[List.length_flatten,List.length_flatten,List.map_reverse,List.sum_reverse]
theorem qeB {N:Nat} (hN:600000<N) {x:qm} {z:Int} (h:IsZ x z) (fz:Fit z 3900):jW N x=some (Lib.itoa z):=by
 unfold jW
 cases e:x.w.isEmpty with
 |true=>
  obtain⟨j,h2,h3⟩:=h.emp e
  rw[if_pos rfl,j]
  unfold qmC
  rw[if_pos ⟨h2,h3⟩,ZB]
 |false=>
  have hz:z.natAbs≠0:=by
   rcases h with⟨hw,_⟩|⟨_,_,j,_⟩
   ·rw[hw]at e;cases e
   omega
  obtain⟨B8,hB8⟩: ∃B8:Nat,B8=8000:=⟨_,rfl⟩
  have pw:((10^(18*B8):Nat):Int)=(1000000000000000000:Int)^B8:=by
   rw[Nat.pow_mul,Int.natCast_pow]
   rfl
  have hm:z.natAbs<10^(18*B8):=by
   have j:W^3900<=(1000000000000000000:Int)^B8:=by
    have a1:(1000000000000000000:Int)^B8=((1000000000000000000:Int)^2)^4000:=by rw[<-Int.pow_mul,hB8]
    have a2:W^4000<=((1000000000000000000:Int)^2)^4000:=(qd9 (by decide) (by decide) 4000).2
    have a3:W^3900<=W^4000:=yw (by decide) (by decide)
    rw[a1]
    exact Int.le_trans a3 a2
   rw[<-pw]at j
   unfold Fit at fz
   omega
  obtain⟨l,f1,f2,f3,u⟩:=qrc hN 3900 (Nat.le_refl _) N B8 z.natAbs [] hm (by omega) (by simp;omega) (by unfold Fit;rw[Int.natAbs_natCast];exact fz) (fun t ht=>by cases ht)
  rw[if_neg hz]at u
  simp only[List.reverse_nil,List.flatten_nil,YQ,List.length_nil,Nat.add_zero]at f3 u
  have lD:(Lib.decDigits z.natAbs).length<=18*B8:=(xu (by omega)).2 hm
  have lf:l.flatten.length<=18*B8:=by rw[<-qjT,u];exact lD
  have lpos:=qf1 z.natAbs
  rw[if_neg (by simp),parts_eq h,ZB]
  simp only
  rw[f1,ZB]
  have el:w64 ((l.length:Int)-1)=(l.length:Int)-1:=qf (by omega) (by omega)
  have d: ∀(o:Option (List Int)) (pre:Str),hof o=byN pre->pre.length<=10->((zm l N o.isSome o (w64 ((l.length:Int)-1))).bind fun(ok30,o31)=>(qmW ok30 o31).bind fun t38=>some t38)=some (pre++Lib.decDigits z.natAbs):=by
   intro o pre ho hpre
   obtain⟨o',g1,g2⟩:=qod f2 (by omega) N l.length o (Nat.le_refl _) (by omega) (by rw[ho,qgK,List.take_of_length_le (Nat.le_refl _)];omega)
   rw[List.take_of_length_le (Nat.le_refl _),u,ho]at g2
   have g3:hof o'=byN (pre++Lib.decDigits z.natAbs):=by
    rw[g2]
    unfold byN
    rw[List.map_append]
   have hs:o'.isSome=true:=by
    cases o' with
    |none=>
     have:=congrArg List.length g3
     rw[qgK,Yq]at this
     simp at this
     omega
    |some q=>rfl
   rw[el,g1,ZB]
   simp only
   unfold qmW
   rw[if_pos ⟨hs,by rw[g3,qgK,Yq];omega,by rw[g3];exact qqa _⟩,g3,qo3,ZB]
  by_cases c:z<0
  ·have eb:bWr false (none:Option (List Int)) [45]=some [45]:=rfl
   rw[decide_eq_true c,if_pos rfl,eb,ZB,ZB]
   simp only
   have:=d (some [45]) [45] rfl (by simp)
   rw[vO c]
   exact this
  rw[decide_eq_false c,if_neg (by simp),ZB]
  simp only
  have:=d none [] rfl (by simp)
  rw[zN c]
  exact this
end Go.Av
end
section
namespace Go.Av
theorem qqi {x:qm} {z:Int} (h:IsZ x z) (fz:Fit z 3900): ∃b:Nat,qa8 x=some (b:Int)/\(z.natAbs:Int)<2^b:=by
 unfold qa8
 rw[parts_eq h,ZB]
 simp only
 have hz:(0:Int)<=(z.natAbs:Int):=by omega
 have cc:=zy W1 hz
 have u:=jg W1 hz
 have ll:=fz.len
 generalize dg W (z.natAbs:Int)=w at*
 by_cases h0:w.length=0
 ·rw[if_pos (by omega)]
  rw[YL.1 h0,ky]at u
  exact⟨0,rfl,by rw[<-u];decide⟩
 have hk:w.length-1<w.length:=by omega
 have ax:=cc.1.at hk
 obtain⟨l,e,hl⟩:=qkU ax.1 ax.2
 have hl0:0<=l/\l<=64:=by
  rcases hl with⟨_,h⟩|⟨d,j,_⟩<;>omega
 have hl2:w[w.length-1]<2^l.toNat:=by
  rcases hl with⟨d,j⟩|⟨_,_,_,h⟩
  ·rw[d,j];decide
  exact h
 rw[if_neg (by omega),qjz (by omega) (by omega),qz,Ya hk,ZB,e,ZB,qf (n:=64*((w.length-1:Nat):Int)) (by omega) (by omega),qf (by omega) (by omega)]
 refine⟨64*(w.length-1)+l.toNat,by congr 1;omega,?_⟩
 have e1:=qp W w (w.length-1) hk
 rw[List.take_of_length_le (by omega),u]at e1
 have d:=yO W0 (cc.1.take (w.length-1))
 rw[Ym,Nat.min_eq_left (by omega)]at d
 have e2:(2:Int)^(64*(w.length-1)+l.toNat)=W^(w.length-1)*2^l.toNat:=by
  rw[Int.pow_add,Int.pow_mul]
  rfl
 have j:W^(w.length-1)*(w[w.length-1]+1)<=W^(w.length-1)*2^l.toNat:=Yc (by omega) (Int.le_of_lt (pow_pos W0 _))
 rw[Int.mul_add,Int.mul_one]at j
 rw[e2]
 omega
theorem pow8: ∀n:Nat,(8:Int)^(n+1)<((10^(n+1):Nat):Int)
 |0=>by decide
 |n+1=>by
  have d:=pow8 n
  have h:=pow_pos (show(0:Int)<8 by decide) (n+1)
  rw[Int.pow_succ,Nat.pow_succ,Int.natCast_mul]
  omega
theorem qq7 (n:Nat):(2:Int)^(3*n)=(8:Int)^n:=by
 rw[Int.pow_mul]
 rfl
theorem qqc {n m:Nat} (d:m=3*(n+1)):(2:Int)^m<((10^(n+1):Nat):Int):=by
 rw[d,qq7]
 exact pow8 n
def lng (z:Int):Bool:=decide (600<(Lib.decDigits z.natAbs).length)
theorem qmA {N:Nat} (hN:600000<N) {x:qm} {z:Int} (h:IsZ x z) (fz:Fit z 3900):qcW N x=some (lng z):=by
 obtain⟨b,e,hb⟩:=qqi h fz
 unfold qcW
 rw[e,ZB]
 by_cases c:(b:Int)>1800
 ·rw[if_pos c,qeB hN h fz,ZB,qeX,qbM,ZB,ZB]
  congr 1
  exact decide_eq_decide.2 (by omega)
 rw[if_neg c,ZB]
 congr 1
 obtain⟨m,hm⟩: ∃m:Nat,m=3*(599+1):=⟨_,rfl⟩
 have j:(2:Int)^b<=2^m:=yw (by decide) (by omega)
 have u:=qqc hm
 have d:z.natAbs<10^(599+1):=by omega
 have:=(xu (n:=z.natAbs) (k:=599+1) (by decide)).2 d
 unfold lng
 rw[decide_eq_false (by omega)]
def qix (q:Rat):Bool:=lng q.num||lng q.den
theorem qnV {N:Nat} (hN:600000<N) {f:qJ} {q:Rat} (h:IsF f q) (d:qb2 q 3900):qal N f=some (qix q):=by
 unfold qal qix
 rw[qmA hN h.1 d.1,ZB]
 cases lng q.num with
 |true=>rw[if_pos rfl,ZB,Bool.true_or]
 |false=>rw[if_neg (by simp),qmA hN h.2 d.2,ZB,ZB,Bool.false_or]
def T (q:Rat):Str:=Lib.itoa q.num++(if q.den=1 then[]else 47::Lib.decDigits q.den)
theorem Fit.itoaLen {z:Int} (h:Fit z 3900):(Lib.itoa z).length<=200001:=by
 have u:(Lib.decDigits z.natAbs).length<=20*10000:=by
  refine(xu (by decide)).2 ?_
  obtain⟨B,hB⟩: ∃B:Nat,B=10000:=⟨_,rfl⟩
  rw[<-hB]
  have d:W^3900<=W^B:=yw (by decide) (by omega)
  have h3:W^B<=(100000000000000000000:Int)^B:=(qd9 (by decide) (by decide) B).2
  have j:((10^(20*B):Nat):Int)=(100000000000000000000:Int)^B:=by
   rw[Nat.pow_mul,Int.natCast_pow]
   rfl
  unfold Fit at h
  generalize W^3900=p at*
  omega
 by_cases c:z<0
 ·rw[vO c,Yr];omega
 rw[zN c];omega
theorem qp8 {N:Nat} (hN:600000<N) {f:qJ} {q:Rat} (h:IsF f q) (d:qb2 q 3900):qaD N f=some (T q):=by
 unfold qaD T
 rw[qlD h,ZB]
 by_cases c:q.den=1
 ·rw[decide_eq_true c,if_pos rfl,qeB hN h.1 d.1,ZB,if_pos c,YQ]
 have u:=Fit.itoaLen d.1
 have j:=Fit.itoaLen d.2
 rw[decide_eq_false c,if_neg (by simp),qeB hN h.1 d.1,ZB,qbq (by simp;omega),ZB,qeB hN h.2 d.2,ZB,qbq (by simp;omega),ZB,if_neg c,qeD,Yz]
 rfl
theorem qpJ {α:Type} {b:Bool} {x y:α}:zJ b x y=if b=true then x else y:=by cases b<;>rfl
theorem qkO: ∀(s:Str) (j:Nat),qiG 47 s j=if slA s<s.length then((j+slA s:Nat):Int)else-1
 |[],j=>rfl
 |c::s,j=>by
  show zJ (Nat.beq c.toNat 47) (Int.ofNat j) (qiG 47 s (j+1))=_
  rw[qpJ,qkO s (j+1),slA,Yr]
  by_cases h:c=47
  ·subst h
   rw[if_pos (by decide),if_pos rfl,if_pos (by omega)]
   rfl
  have d:c.toNat≠47:=fun e=>h (UInt8.toNat_inj.1 (by rw[e];rfl))
  rw[if_neg (by rw[qcD d];simp),if_neg h]
  by_cases c2:slA s<s.length
  ·rw[if_pos c2,if_pos (by omega)]
   congr 1
   omega
  rw[if_neg c2,if_neg (by omega)]
theorem qo5 {s:Str}:stringslite_Index s [47]=some (qiG 47 s 0):=by
 unfold stringslite_Index stringslite_IndexByte qjd
 have h: ¬(([47]:Str).length:Int)=0:=by simp
 have d:(([47]:Str).length:Int)=1:=by simp
 rw[if_neg h]
 simp only[ZB]
 by_cases hs:(([47]:Str)==s)=true
 ·have:s=[47]:=(beq_iff_eq.1 hs).symm
  subst this
  rfl
 rw[if_neg hs,if_pos d,qcb,show([47]:Str)[0]? =some 47 from rfl,ZB,if_pos (by decide)]
 rfl
theorem qoi {s:Str} (d:s.length<=1000000):strings_Cut s [47]=some (if slA s<s.length then(s.take (slA s),s.drop (slA s+1),true)else(s,[],false)):=by
 have h:=qgj s
 unfold strings_Cut stringslite_Cut
 rw[qo5,qkO,ZB]
 by_cases c:slA s<s.length
 ·rw[if_pos c,if_pos (by omega),if_pos c,Nat.zero_add,yx h,ZB,show w64 ((slA s:Int)+(([47]:Str).length:Int))=((slA s+1:Nat):Int)from zH (by omega),xA (by omega),ZB,ZB]
 rw[if_neg c,if_neg (by omega),if_neg c,ZB]
theorem qfY {s:Str} (d:s.length<=1000000):jF s=some (decide (Dec s)):=by
 have j:qj3 s [48,49,50,51,52,53,54,55,56,57]=some (Lib.trimS s [48,49,50,51,52,53,54,55,56,57]):=by
  unfold qj3
  rw[if_pos ⟨d,by decide,by decide⟩]
 unfold jF
 rw[j]
 simp only[ZB,qm7]
 cases s with
 |nil=>rfl
 |cons c t=>
  rw[if_pos (by rfl),qcb]
  simp only[Yj,ZB]
  cases hd:(c::t).all vQ with
  |false=>
   rw[if_neg (by simp),ZB,decide_eq_false fun h=>by rw[h.2.1]at hd;cases hd]
  |true=>
   rw[if_pos rfl]
   by_cases h:c=48
   ·subst h
    rw[if_neg (by decide),ZB]
    congr 1
    rw[Bool.eq_iff_iff,beq_iff_eq,decide_eq_true_eq]
    exact⟨fun e=>by rw[e];exact qmQ (by decide),fun h=>h.2.2 rfl⟩
   rw[if_pos (by simp[ne48 h]),ZB,decide_eq_true (show Dec (c::t)from⟨by simp,hd,fun e=>absurd (Ye e) h⟩)]
theorem qh4 {s:Str} (d:s.length<=1000000): ∀(K i:Nat),i<=s.length->s.length<K+i->jC s K (i:Int)=some (if(s.drop i).all vQ=true then .inl ()else .inr false)
 |0,i,h,hK=>by omega
 |K+1,i,h,hK=>by
  rw[jC]
  by_cases hi:i<s.length
  ·have j:s.drop i=s[i]::s.drop (i+1):=YG hi
   rw[if_pos (by omega),qz,Ya hi,ZB,j,List.all_cons]
   generalize s[i]=c
   have e:(if(c.toNat:Int)<48 then some true else some (decide ((c.toNat:Int)>57)):Option Bool)=some (!vQ c):=by
    by_cases h1:(c.toNat:Int)<48
    ·rw[if_pos h1]
     congr 1
     unfold vQ
     rw[decide_eq_false (by omega)]
     rfl
    rw[if_neg h1]
    congr 1
    unfold vQ
    rw[decide_eq_true (p:=48<=c.toNat) (by omega),Bool.true_and,<-decide_not]
    exact decide_eq_decide.2 (by omega)
   rw[e,ZB]
   cases hc:vQ c with
   |true=>rw[if_neg (by simp),zH (by omega),qh4 d K (i+1) (by omega) (by omega),Bool.true_and]
   |false=>rw[if_pos (by simp),Bool.false_and,if_neg (by simp)]
  rw[if_neg (by omega),List.drop_of_length_le (by omega)]
  rfl
theorem qhP {N:Nat} {s:Str} (j:s.length<=1000000) (hN:s.length<N):jl N s=some (decide (Dec s)):=by
 have e:=qh4 j N 0 (by omega) (by omega)
 have e:jC s N 0=_:=e
 have d:qa4 N s=some (s.all vQ):=by
  unfold qa4
  rw[e,YR]
  cases s.all vQ<;>rfl
 unfold jl
 cases s with
 |nil=>rfl
 |cons c t=>
  rw[if_neg (by simp;omega)]
  by_cases h1:((c::t).length:Int)>1
  ·rw[if_pos h1,qcb]
   simp only[Yj,ZB]
   by_cases h:c=48
   ·subst h
    rw[if_pos (by decide),decide_eq_false fun hD=>?_]
    have:=congrArg List.length (hD.2.2 rfl)
    rw[List.length_singleton]at this
    omega
   rw[if_neg (by simp[ne48 h]),d,ZB]
   congr 1
   rw[Bool.eq_iff_iff,decide_eq_true_eq]
   exact⟨fun hd=>⟨by simp,hd,fun e=>absurd (Ye e) h⟩,fun hD=>hD.2.1⟩
  rw[if_neg h1,ZB,if_neg (by simp),d,ZB]
  have u:t=[]:=YL.1 (by simp at h1;omega)
  subst u
  congr 1
  rw[Bool.eq_iff_iff,decide_eq_true_eq]
  exact⟨fun hd=>qmQ (by simpa using hd),fun hD=>hD.2.1⟩
end Go.Av
end
section
namespace Go.Av
theorem qjh {z:Int} {p n:Nat} (h:(z.natAbs:Int)<((10^p:Nat):Int)) (hp:p<=9*n):zM z n:=by
 have d:(10:Nat)^p<=10^(9*n):=Nat.pow_le_pow_right (by omega) hp
 unfold zM
 rw[qhX]
 omega
theorem qmy {N:Nat} (hN:10<N) (a b:Int):yE N [a,b]=some (if a=0 then b else a):=by
 obtain⟨K,rfl⟩: ∃K,N=K+1+1+1:=⟨N-3,by omega⟩
 unfold yE
 by_cases ha:a=0
 ·by_cases hb:b=0
  ·subst ha;subst hb
   rfl
  have d:zD [a,b] (K+1+1+1) 0=some (.inr b):=by
   rw[zD,if_pos (by simp),qcb]
   simp only[Yj,ZB]
   rw[if_neg (by simp[ha]),zD,show w64 ((0:Int)+1)=1 from rfl,if_pos (by simp),idx_1]
   simp only[List.getElem?_cons_succ,Yj,ZB]
   rw[if_pos (by simp[hb])]
  rw[d,if_pos ha]
  rfl
 have d:zD [a,b] (K+1+1+1) 0=some (.inr a):=by
  rw[zD,if_pos (by simp),qcb]
  simp only[Yj,ZB]
  rw[if_pos (by simp[ha])]
 rw[d,if_neg ha]
 rfl
def okF (s:Str):Bool:=decide (Dec ((bdy s).take (slA (bdy s)))/\ ¬(sgn s=true/\(bdy s).take (slA (bdy s))=[48]))
def qhl (s:Str):Bool:=decide (slA (bdy s)<(bdy s).length/\ ¬(Dec ((bdy s).drop (slA (bdy s)+1))/\(bdy s).drop (slA (bdy s)+1)≠[48]/\(bdy s).drop (slA (bdy s)+1)≠[49]))
def chk (s:Str):Int:=
 if okF s=false\/qhl s=true then 1
 else if 600<((bdy s).take (slA (bdy s))).length\/600<((bdy s).drop (slA (bdy s)+1)).length then 4
 else if slA (bdy s)<(bdy s).length/\Nat.gcd (qO 0 ((bdy s).take (slA (bdy s)))) (qO 0 ((bdy s).drop (slA (bdy s)+1)))≠1 then 1
 else 0
theorem qbe {s:Str} (h:s.all vQ=true):sgn s=false/\bdy s=s:=by
 have e:sgn s=false:=decide_eq_false fun e=>by
  have d:(45:UInt8)∈s:=Yn e
  exact absurd (Yp.1 h _ d) (by decide)
 exact⟨e,by unfold bdy;rw[e];rfl⟩
theorem qcd {s:Str} (h:s.all vQ=true):qjy s=(qO 0 s:Nat):=by
 obtain⟨j,d⟩:=qbe h
 unfold qjy
 rw[j,d]
 rfl
theorem qfX (s:Str):(bdy s).length<=s.length:=by
 unfold bdy
 split
 ·rw[YJ];omega
 exact Nat.le_refl _
theorem qev {s:Str} {k:Nat} (h:Dec s) (d:s.length<=k):((qO 0 s:Nat):Int).natAbs<10^k:=by
 have u:=qeE s 0 h.2.1
 have j:(10:Nat)^s.length<=10^k:=Nat.pow_le_pow_right (by omega) d
 omega
theorem qfh {s:Str} (h:Dec s) (d:s≠[48]):0<qO 0 s:=by
 rcases Nat.eq_zero_or_pos (qO 0 s)with e|e
 ·have:=h.eq
  rw[e,jc (by decide)]at this
  exact absurd this d
 exact e
theorem qf6 {N:Nat} (hN:600000<N) {s:Str} (hl:s.length<=10000):qax N s=some (chk s):=by
 have hb:=qfX s
 have hk:=qgj (bdy s)
 have lt:((bdy s).take (slA (bdy s))).length=slA (bdy s):=by rw[Ym];omega
 have ld:((bdy s).drop (slA (bdy s)+1)).length=(bdy s).length-(slA (bdy s)+1):=by rw[YJ]
 unfold qax
 rw[qji,ZB]
 simp only
 have C:strings_Cut (bdy s) [47]=some ((bdy s).take (slA (bdy s)),(bdy s).drop (slA (bdy s)+1),decide (slA (bdy s)<(bdy s).length)):=by
  rw[qoi (by omega)]
  by_cases c:slA (bdy s)<(bdy s).length
  ·rw[if_pos c,decide_eq_true c]
  rw[if_neg c,decide_eq_false c,List.take_of_length_le (by omega),List.drop_of_length_le (by omega)]
 rw[C,ZB]
 unfold chk okF qhl
 generalize hn:(bdy s).take (slA (bdy s))=n at*
 generalize hd:(bdy s).drop (slA (bdy s)+1)=d at*
 generalize slA (bdy s)=k at*
 generalize (bdy s).length=m at*
 simp only
 rw[qfY (by omega),ZB]
 have B6:(if decide (Dec n)=true then if(!sgn s)=true then some true else some (!(n==[48]))else some false:Option Bool)=some (decide (Dec n/\ ¬(sgn s=true/\n=[48]))):=by
  by_cases u:Dec n
  ·cases h2:sgn s with
   |false=>simp[u]
   |true=>
    by_cases h3:n=[48]<;>simp[u,h3]
  simp[u]
 rw[B6,ZB]
 generalize hf:decide (Dec n/\ ¬(sgn s=true/\n=[48]))=ok at*
 have B8:(if decide (k<m)=true then(if ok=true then(jF d).bind fun r12=>if r12=true then if(!(d==[48]))=true then some (!(d==[49]))else some false else some false else some false:Option Bool).bind fun b15=>some b15 else some ok:Option Bool)=some (ok&&!decide (k<m/\ ¬(Dec d/\d≠[48]/\d≠[49]))):=by
  by_cases u:k<m
  ·cases ok with
   |false=>simp[u]
   |true=>
    rw[qfY (by omega)]
    by_cases h2:Dec d
    ·by_cases h3:d=[48]
     ·simp[u,h2,h3]
     by_cases h4:d=[49]<;>simp[u,h2,h3,h4]
    simp[u,h2]
  simp[u]
 rw[B8,ZB]
 generalize hg:decide (k<m/\ ¬(Dec d/\d≠[48]/\d≠[49]))=bd at*
 have B:((zx (!(ok&&!bd)) 1).bind fun r17=>if(n.length:Int)>600 then(zx true 4).bind fun r19=>(yE N ([r17,r19]:List Int)).bind fun r20=>some (r17,r19,r20)else(zx (decide ((d.length:Int)>600)) 4).bind fun r21=>(yE N ([r17,r21]:List Int)).bind fun r22=>some (r17,r21,r22):Option (Int×Int×Int))=some (if ok=false\/bd=true then 1 else 0,if 600<n.length\/600<d.length then 4 else 0,if ok=false\/bd=true then 1 else if 600<n.length\/600<d.length then 4 else 0):=by
  have w1:zx (!(ok&&!bd)) 1=some (if ok=false\/bd=true then 1 else 0):=by
   unfold zx
   cases ok<;>cases bd<;>rfl
  rw[w1,ZB]
  by_cases c:(n.length:Int)>600
  ·rw[if_pos c,show zx true 4=some 4 from rfl,ZB,qmy (by omega),ZB,if_pos (show 600<n.length\/600<d.length from .inl (by omega))]
   by_cases c2:ok=false\/bd=true
   ·simp only[if_pos c2];rfl
   simp only[if_neg c2];rfl
  have w2:zx (decide ((d.length:Int)>600)) 4=some (if 600<n.length\/600<d.length then 4 else 0):=by
   unfold zx
   by_cases c2:(d.length:Int)>600
   ·rw[decide_eq_true c2,if_pos rfl,if_pos (.inr (by omega))]
   rw[decide_eq_false c2,if_neg (by simp),if_neg (by omega)]
  rw[if_neg c,w2,ZB,qmy (by omega),ZB]
  by_cases c2:ok=false\/bd=true
  ·simp only[if_pos c2];rfl
  simp only[if_neg c2];rfl
 rw[B,ZB]
 simp only
 by_cases c1:ok=false\/bd=true
 ·simp only[if_pos c1];rfl
 simp only[if_neg c1]
 by_cases c2:600<n.length\/600<d.length
 ·simp only[if_pos c2];rfl
 simp only[if_neg c2]
 rw[if_neg (show¬((!decide True)=true)by decide)]
 have ho:ok=true:=by cases ok<;>simp at c1⊢
 have hbd:bd=false:=by cases bd<;>simp at c1⊢
 have a0:=(of_decide_eq_true (hf.trans ho)).1
 by_cases c3:k<m
 ·have j:Dec d/\d≠[48]/\d≠[49]:=Classical.byContradiction fun hc=>of_decide_eq_false (hg.trans hbd) ⟨c3,hc⟩
  obtain⟨r1,e1,u⟩:=qg0 hN (s:=n) (by rw[(qbe a0.2.1).2];exact a0.2.1) (by rw[(qbe a0.2.1).2];omega)
  obtain⟨r2,e2,h2⟩:=qg0 hN (s:=d) (by rw[(qbe j.1.2.1).2];exact j.1.2.1) (by rw[(qbe j.1.2.1).2];omega)
  rw[qcd a0.2.1]at u
  rw[qcd j.1.2.1]at h2
  have f1:Fit ((qO 0 n:Nat):Int) 40:=qfW (p:=600) (by have:=qev a0 (k:=600) (by omega);omega) (by omega)
  have f2:Fit ((qO 0 d:Nat):Int) 40:=qfW (p:=600) (by have:=qev j.1 (k:=600) (by omega);omega) (by omega)
  obtain⟨g,e3,h3⟩:=qn6 hN u h2 (f1.mono (by omega)) (f2.mono (by omega))
  have eg:Int.gcd ((qO 0 n:Nat):Int) ((qO 0 d:Nat):Int)=Nat.gcd (qO 0 n) (qO 0 d):=rfl
  rw[eg]at h3
  have hgp:0<Nat.gcd (qO 0 n) (qO 0 d):=Nat.gcd_pos_of_pos_right _ (qfh j.1 j.2.1)
  have fg:Fit ((Nat.gcd (qO 0 n) (qO 0 d):Nat):Int) 40:=qby (by
   have:=Nat.le_of_dvd (qfh j.1 j.2.1) (Nat.gcd_dvd_right (qO 0 n) (qO 0 d))
   omega) f2
  have e4:=qou (N:=N) (by omega) h3 (Ud (z:=1) (by decide) (by decide)) (fg.mono (by omega)) (F1 (by omega))
  rw[decide_eq_true c3,if_pos rfl,e1,ZB,e2,ZB,e3,ZB,qhU,ZB,e4,ZB,ZB]
  unfold zx
  by_cases c4:Nat.gcd (qO 0 n) (qO 0 d)=1
  ·rw[if_neg (show¬((Nat.gcd (qO 0 n) (qO 0 d):Nat):Int)<1 by omega),if_pos (show((Nat.gcd (qO 0 n) (qO 0 d):Nat):Int)=1 by omega),if_neg (show¬(k<m/\Nat.gcd (qO 0 n) (qO 0 d)≠1)from fun h=>h.2 c4)]
   rfl
  have: ¬((Nat.gcd (qO 0 n) (qO 0 d):Nat):Int)<1:=by omega
  rw[if_neg this,if_neg (show¬(((Nat.gcd (qO 0 n) (qO 0 d):Nat):Int)=1)by omega),if_pos (show k<m/\Nat.gcd (qO 0 n) (qO 0 d)≠1 from⟨c3,c4⟩)]
  rfl
 rw[decide_eq_false c3,if_neg (by simp),ZB,if_neg (by omega)]
 rfl
end Go.Av
end
section
namespace Go.Av
theorem qlu:dg E9 1=[1]:=qid (by decide) (by decide)
theorem qrb {N:Nat} (hN:100<N):vM N 1=some (rI 1):=by
 obtain⟨K,rfl⟩: ∃K,N=K+1+1:=⟨N-2,by omega⟩
 have h:zO (K+1+1) [] 1=some [1]:=by
  rw[zO,if_pos (by decide),if_neg (by decide),ZB,qcP (by simp) (by simp),ZB,show w64 ((1:Int).tdiv 1000000000)=0 from rfl,zO,if_neg (by decide)]
  rfl
 unfold vM
 rw[h,ZB,decide_eq_false (by decide),vP false (w:=[1]) (Dg.cons ⟨by decide,by decide⟩ Dg.nil) (by simp) (by simp),ZB]
 rfl
theorem qiJ {N:Nat} (hN:600000<N) {s:Str} (hl:s.length<=10000) (hk:slA s<s.length) (d:(bdy (s.take (slA s))).all vQ=true) (j:(bdy (s.drop (slA s+1))).all vQ=true):jd N s=some (rI (qjy (s.take (slA s))),rI (qjy (s.drop (slA s+1)))):=by
 have h:=qfX (s.take (slA s))
 have u:=qfX (s.drop (slA s+1))
 rw[Ym]at h
 rw[YJ]at u
 unfold jd
 rw[qce (by omega) (by omega),ZB,if_neg (by omega),yx (by omega),ZB,qft (by omega) d (by omega),ZB,zH (by omega),xA (by omega),ZB,qft (by omega) j (by omega),ZB]
theorem qga {N:Nat} (hN:600000<N) {s:Str} (hl:s.length<=10000):qaa N s=some (chk s):=by
 have hb:=qfX s
 have hk:=qgj (bdy s)
 have lt:((bdy s).take (slA (bdy s))).length=slA (bdy s):=by rw[Ym];omega
 have ld:((bdy s).drop (slA (bdy s)+1)).length=(bdy s).length-(slA (bdy s)+1):=by rw[YJ]
 unfold qaa
 rw[qfO,ZB,qlp,ZB,qce (by omega) (by omega),ZB,yx hk,ZB,qhP (by omega) (by omega),ZB]
 have I:Dec ((bdy s).take (slA (bdy s)))->((idx s 0).bind fun c13=>if(c13.toNat:Int)=45 then(some ((bdy s).take (slA (bdy s)))).bind fun s15=>some (s15==[48])else some false:Option Bool)=some (sgn s&&((bdy s).take (slA (bdy s))==[48])):=by
  intro hD
  have h1:=hD.1
  have hs:=qfO s
  rw[if_pos (by omega)]at hs
  rw[qcb]at hs⊢
  cases e:s[0]? with
  |none=>rw[e]at hs;cases hs
  |some c=>
   rw[e,ZB]at hs
   rw[ZB,<-Ye hs]
   by_cases c2:(c.toNat:Int)=45
   ·rw[if_pos c2,decide_eq_true c2,ZB,Bool.true_and]
   rw[if_neg c2,decide_eq_false c2,Bool.false_and]
 have S16:(if(!decide (Dec ((bdy s).take (slA (bdy s)))))=true then some true else(idx s 0).bind fun c13=>if(c13.toNat:Int)=45 then(some ((bdy s).take (slA (bdy s)))).bind fun s15=>some (s15==[48])else some false:Option Bool)=some (!okF s):=by
  unfold okF
  by_cases hD:Dec ((bdy s).take (slA (bdy s)))
  ·rw[if_neg (by simp[hD]),I hD]
   congr 1
   rw[Bool.eq_iff_iff]
   simp[hD]
  rw[if_pos (by simp[hD])]
  simp[hD]
 rw[S16,ZB]
 have S26:(if(slA (bdy s):Int)<((bdy s).length:Int)then(cut (bdy s) (w64 ((slA (bdy s):Int)+1)) ((bdy s).length:Int)).bind fun s20=>(jl N s20).bind fun r21=>if(!r21)=true then some true else(cut (bdy s) (w64 ((slA (bdy s):Int)+1)) ((bdy s).length:Int)).bind fun s23=>if(s23==[48])=true then some true else(cut (bdy s) (w64 ((slA (bdy s):Int)+1)) ((bdy s).length:Int)).bind fun s25=>some (s25==[49])else some false:Option Bool)=some (qhl s):=by
  unfold qhl
  by_cases c:slA (bdy s)<(bdy s).length
  ·rw[if_pos (by omega),zH (by omega),xA (by omega),ZB,qhP (by omega) (by omega),ZB]
   by_cases hD:Dec ((bdy s).drop (slA (bdy s)+1))
   ·rw[if_neg (by simp[hD]),ZB]
    by_cases h3:(bdy s).drop (slA (bdy s)+1)=[48]
    ·rw[if_pos (by simp[h3])]
     simp[c,h3]
    rw[if_neg (by simp[h3]),ZB]
    congr 1
    rw[Bool.eq_iff_iff]
    simp[c,h3,hD]
   rw[if_pos (by simp[hD])]
   simp[c,hD]
  rw[if_neg (by omega)]
  simp[c]
 have S30:(if(slA (bdy s):Int)>600 then some true else some (decide ((w64 ((w64 (((bdy s).length:Int)-(slA (bdy s):Int)))-1))>600)):Option Bool)=some (decide (600<((bdy s).take (slA (bdy s))).length\/600<((bdy s).drop (slA (bdy s)+1)).length)):=by
  rw[lt,ld]
  by_cases c:(slA (bdy s):Int)>600
  ·rw[if_pos c,decide_eq_true (.inl (by omega))]
  rw[if_neg c,qf (n:=((bdy s).length:Int)-(slA (bdy s):Int)) (by omega) (by omega),qf (by omega) (by omega)]
  congr 1
  exact decide_eq_decide.2 (by omega)
 unfold chk
 by_cases h1:okF s=true
 ·rw[h1,if_neg (by simp),S26,ZB]
  by_cases h2:qhl s=true
  ·rw[h2,if_pos rfl,if_pos (.inr rfl)]
  have a0:qhl s=false:=by simpa using h2
  rw[a0,if_neg (by simp),S30,ZB,if_neg (show¬(true=false\/false=true)by simp)]
  by_cases h3:600<((bdy s).take (slA (bdy s))).length\/600<((bdy s).drop (slA (bdy s)+1)).length
  ·rw[decide_eq_true h3,if_pos rfl,if_pos h3]
  rw[decide_eq_false h3,if_neg (by simp),if_neg h3]
  by_cases c:slA (bdy s)<(bdy s).length
  ·have u:=(of_decide_eq_true h1).1
   have j:Dec ((bdy s).drop (slA (bdy s)+1))/\(bdy s).drop (slA (bdy s)+1)≠[48]/\(bdy s).drop (slA (bdy s)+1)≠[49]:=Classical.byContradiction fun hc=>of_decide_eq_false a0 ⟨c,hc⟩
   have ep:=qiJ hN (s:=bdy s) (by omega) c (by rw[(qbe u.2.1).2];exact u.2.1) (by rw[(qbe j.1.2.1).2];exact j.1.2.1)
   rw[qcd u.2.1,qcd j.1.2.1]at ep
   rw[if_pos (by omega),ep,ZB]
   simp only
   have v1:=qev u (k:=600) (by omega)
   have v2:=qev j.1 (k:=600) (by omega)
   have v3:=qfh j.1 j.2.1
   generalize qO 0 ((bdy s).take (slA (bdy s)))=n at*
   generalize qO 0 ((bdy s).drop (slA (bdy s)+1))=d at*
   have f1:zM ((n:Nat):Int) 8000:=(qjh (p:=600) (n:=70) (by omega) (by omega)).mono (by omega)
   have f2:zM ((d:Nat):Int) 8000:=(qjh (p:=600) (n:=70) (by omega) (by omega)).mono (by omega)
   have e1:(rI ((n:Nat):Int)).w=dg E9 ((n:Nat):Int):=by
    show dg E9 (((n:Nat):Int).natAbs:Int)=_
    rw[Int.natAbs_natCast]
   have e2:(rI ((d:Nat):Int)).w=dg E9 ((d:Nat):Int):=by
    show dg E9 (((d:Nat):Int).natAbs:Int)=_
    rw[Int.natAbs_natCast]
   have ec:=qiV (N:=N) hN (a:=((n:Nat):Int)) (b:=((d:Nat):Int)) (by omega) (by omega) f1 f2
   have eg:Int.gcd ((n:Nat):Int) ((d:Nat):Int)=Nat.gcd n d:=rfl
   rw[eg]at ec
   rw[e1,e2,ec,ZB]
   have hg:0<Nat.gcd n d:=Nat.gcd_pos_of_pos_right _ v3
   have cc:=zy E1 (show(0:Int)<=((Nat.gcd n d:Nat):Int)by omega)
   have vv:=jg E1 (show(0:Int)<=((Nat.gcd n d:Nat):Int)by omega)
   by_cases h4:Nat.gcd n d=1
   ·have:dg E9 ((Nat.gcd n d:Nat):Int)=[1]:=by rw[show((Nat.gcd n d:Nat):Int)=1 by omega];exact qlu
    rw[this,if_neg (by simp),qcb,if_neg (fun h=>h.2 h4)]
    rfl
   rw[if_pos (show slA (bdy s)<(bdy s).length/\Nat.gcd n d≠1 from⟨c,h4⟩)]
   by_cases h5:(dg E9 ((Nat.gcd n d:Nat):Int)).length=1
   ·obtain⟨x,hx⟩:=List.length_eq_one_iff.1 h5
    rw[hx,zl,ky,Int.mul_zero,Int.add_zero]at vv
    have hx1:x≠1:=by omega
    rw[hx,if_neg (by simp),qcb]
    simp only[Yj,ZB,decide_eq_false hx1]
    rfl
   rw[if_pos (by simp;omega)]
   rfl
  rw[if_neg (by omega),if_neg (by omega)]
  rfl
 have h1':okF s=false:=by simpa using h1
 rw[h1',if_pos (by simp),if_pos (.inl rfl)]
end Go.Av
end
section
namespace Go.Av
def tl (q:Rat):Str:=if q.den=1 then[]else 47::Lib.decDigits q.den
theorem qnp (q:Rat):T q=Lib.itoa q.num++tl q:=rfl
theorem qpt {s:Str} (h:s.all vQ=true): ∀c∈s,c≠47:=fun c hc e=>by
 have:=Yp.1 h c hc
 rw[e]at this
 exact absurd this (by decide)
theorem qg8: ∀{s:Str},(∀c∈s,c≠47)->slA s=s.length:=fun {s} h=>(qjp s [] h).2
theorem qim {s:Str} (h: ∀c∈s,c≠47) (q:Rat):slA (s++tl q)=s.length:=by
 unfold tl
 by_cases c:q.den=1
 ·rw[if_pos c,YQ]
  exact qg8 h
 rw[if_neg c]
 exact(qjp s _ h).1
theorem qex (z:Int): ∀c∈Lib.itoa z,c≠47:=by
 by_cases h:z<0
 ·rw[vO h]
  intro c hc
  rcases List.mem_cons.1 hc with e|e
  ·rw[e];decide
  exact qpt (qaM _) c e
 rw[zN h]
 exact qpt (qaM _)
theorem qp3 {s t:Str} (h:0<s.length):sgn (s++t)=sgn s:=by
 unfold sgn
 rw[Yf h]
theorem qkm (z:Int):0<(Lib.itoa z).length:=by
 by_cases h:z<0
 ·rw[vO h];simp
 rw[zN h];exact qf1 _
theorem qkG (q:Rat):sgn (T q)=decide (q.num<0):=by rw[qnp,qp3 (qkm _),qfS]
theorem qky (q:Rat):bdy (T q)=Lib.decDigits q.num.natAbs++tl q:=by
 unfold bdy
 rw[qkG,qnp]
 by_cases h:q.num<0
 ·rw[decide_eq_true h,if_pos rfl,vO h]
  rfl
 rw[decide_eq_false h,if_neg (by simp),zN h]
theorem qo7 {p q:Rat} (h:T p=T q):p=q:=by
 have u:=congrArg slA h
 have e1:slA (T p)=(Lib.itoa p.num).length:=qim (qex _) p
 have e2:slA (T q)=(Lib.itoa q.num).length:=qim (qex _) q
 rw[e1,e2]at u
 rw[qnp,qnp]at h
 obtain⟨h2,j⟩:=List.append_inj h u
 have n1:p.num=q.num:=by rw[<-qb8 p.num,h2,qb8]
 have n2:p.den=q.den:=by
  unfold tl at j
  by_cases c:p.den=1
  ·by_cases d:q.den=1
   ·rw[c,d]
   rw[if_pos c,if_neg d]at j;cases j
  by_cases d:q.den=1
  ·rw[if_neg c,if_pos d]at j;cases j
  rw[if_neg c,if_neg d]at j
  injection j with _ j
  exact qlN j
 exact Rat.ext n1 n2
theorem ql9: ∀{s:Str},slA s<s.length->s=s.take (slA s)++47::s.drop (slA s+1)
 |[],h=>by simp at h
 |c::s,h=>by
  rw[slA]at h⊢
  by_cases e:c=47
  ·rw[if_pos e,e]
   rfl
  rw[if_neg e,Yr]at h
  rw[if_neg e,List.take_succ_cons,List.drop_succ_cons,List.cons_append,<-ql9 (show slA s<s.length by omega)]
theorem qp9 (s:Str):s=if sgn s=true then 45::bdy s else bdy s:=by
 unfold bdy
 cases h:sgn s with
 |false=>rw[if_neg (by simp),if_neg (by simp)]
 |true=>
  rw[if_pos rfl,if_pos rfl]
  cases s with
  |nil=>cases h
  |cons c t=>
   have e:=of_decide_eq_true h
   simp only[Yj]at e
   rw[Ye e]
   rfl
theorem qii {s:Str} (h:chk s=0): ∃q:Rat,s=T q/\(Lib.decDigits q.num.natAbs).length<=600/\(Lib.decDigits q.den).length<=600:=by
 have hk:=qgj (bdy s)
 have lt:((bdy s).take (slA (bdy s))).length=slA (bdy s):=by rw[Ym];omega
 have hs:=qp9 s
 have hsp:=@ql9 (bdy s)
 unfold chk at h
 by_cases h1:okF s=false\/qhl s=true
 ·rw[if_pos h1]at h;cases h
 rw[if_neg h1]at h
 by_cases h2:600<((bdy s).take (slA (bdy s))).length\/600<((bdy s).drop (slA (bdy s)+1)).length
 ·rw[if_pos h2]at h;cases h
 rw[if_neg h2]at h
 by_cases h3:slA (bdy s)<(bdy s).length/\Nat.gcd (qO 0 ((bdy s).take (slA (bdy s)))) (qO 0 ((bdy s).drop (slA (bdy s)+1)))≠1
 ·rw[if_pos h3]at h;cases h
 have ho:okF s=true:=by cases e:okF s with|true=>rfl|false=>exact absurd (.inl e) h1
 have hb:qhl s=false:=by cases e:qhl s with|false=>rfl|true=>exact absurd (.inr e) h1
 obtain⟨j,hng⟩:=of_decide_eq_true ho
 have en:=j.eq
 obtain⟨z,hz1,hz2⟩: ∃z:Int,z.natAbs=qO 0 ((bdy s).take (slA (bdy s)))/\(z<0↔sgn s=true):=by
  cases e:sgn s with
  |false=>exact⟨((qO 0 ((bdy s).take (slA (bdy s))):Nat):Int),by omega,by simp⟩
  |true=>
   have:=qfh j fun c=>hng ⟨e,c⟩
   exact⟨-((qO 0 ((bdy s).take (slA (bdy s))):Nat):Int),by omega,by simp;omega⟩
 have hT: ∀t:Str,bdy s=(bdy s).take (slA (bdy s))++t->s=Lib.itoa z++t:=by
  intro t ht
  rw[hs]
  by_cases c:z<0
  ·rw[if_pos (hz2.1 c),vO c,hz1,<-en,List.cons_append,<-ht]
  rw[if_neg fun e=>c (hz2.2 e),zN c,hz1,<-en,<-ht]
 by_cases c:slA (bdy s)<(bdy s).length
 ·have d:Dec ((bdy s).drop (slA (bdy s)+1))/\(bdy s).drop (slA (bdy s)+1)≠[48]/\(bdy s).drop (slA (bdy s)+1)≠[49]:=Classical.byContradiction fun hc=>of_decide_eq_false hb ⟨c,hc⟩
  have u:=d.1.eq
  have hd0:=qfh d.1 d.2.1
  have hd1:qO 0 ((bdy s).drop (slA (bdy s)+1))≠1:=fun e=>by
   rw[e,jc (by decide)]at u
   exact d.2.2 u
  have hg:Nat.gcd z.natAbs (qO 0 ((bdy s).drop (slA (bdy s)+1)))=1:=by
   rw[hz1]
   exact Classical.byContradiction fun e=>h3 ⟨c,e⟩
  refine⟨⟨z,qO 0 ((bdy s).drop (slA (bdy s)+1)),by omega,hg⟩,?_,?_,?_⟩
  ·have:=hT _ (hsp c)
   unfold T
   rw[if_neg hd1]
   show s=Lib.itoa z++47::Lib.decDigits (qO 0 ((bdy s).drop (slA (bdy s)+1)))
   rw[<-u]
   exact this
  ·show(Lib.decDigits z.natAbs).length<=600
   rw[hz1,<-en]
   omega
  show(Lib.decDigits (qO 0 ((bdy s).drop (slA (bdy s)+1)))).length<=600
  rw[<-u]
  omega
 refine⟨(z:Rat),?_,?_,?_⟩
 ·have:=hT [] (by rw[YQ,List.take_of_length_le (by omega)])
  unfold T
  rw[Rat.den_intCast,if_pos rfl,Rat.num_intCast]
  exact this
 ·rw[Rat.num_intCast,hz1,<-en]
  omega
 rw[Rat.den_intCast,jc (by decide)]
 simp
end Go.Av
end
section
namespace Go.Av
def Sml (q:Rat) (k:Nat):Prop:=(Lib.decDigits q.num.natAbs).length<=k/\(Lib.decDigits q.den).length<=k
theorem qje (z:Int):(Lib.itoa z).length<=(Lib.decDigits z.natAbs).length+1:=by
 by_cases h:z<0
 ·rw[vO h];simp
 rw[zN h];omega
theorem qfI (q:Rat) (h:q.den≠1):slA (T q)<(T q).length/\(T q).take (slA (T q))=Lib.itoa q.num/\(T q).drop (slA (T q)+1)=Lib.decDigits q.den:=by
 have e:slA (T q)=(Lib.itoa q.num).length:=qim (qex _) q
 have d:T q=Lib.itoa q.num++47::Lib.decDigits q.den:=by unfold T;rw[if_neg h]
 rw[e,d]
 refine⟨by rw[Yq,Yr];omega,?_,?_⟩
 ·rw[List.take_append_of_le_length (Nat.le_refl _),List.take_of_length_le (Nat.le_refl _)]
 rw[List.drop_append,List.drop_of_length_le (by omega),show(Lib.itoa q.num).length+1-(Lib.itoa q.num).length=1 by omega]
 rfl
theorem qez (q:Rat) (h:q.den=1):T q=Lib.itoa q.num/\slA (T q)=(T q).length:=by
 have d:T q=Lib.itoa q.num:=by unfold T;rw[if_pos h,YQ]
 refine⟨d,?_⟩
 rw[d]
 exact qg8 (qex _)
theorem qi6 {q:Rat} {k:Nat} (h:Sml q k):(T q).length<=2*k+2:=by
 have j:=qje q.num
 have d:=h.1
 have u:=h.2
 unfold T
 rw[Yq]
 split
 ·simp;omega
 rw[Yr];omega
theorem qbB {N:Nat} (hN:600000<N) {q:Rat} (h:Sml q 9000): ∃f,jV N (T q)=some f/\IsF f q:=by
 have hl:=qi6 h
 have h1:=h.1
 have h2:=h.2
 unfold jV
 rw[qoi (by omega),ZB]
 obtain⟨r1,e1,i1⟩:=qg0 hN (s:=Lib.itoa q.num) (by rw[qbM];exact qaM _) (by rw[qbM];omega)
 rw[qb8]at i1
 by_cases c:q.den=1
 ·obtain⟨t1,t2⟩:=qez q c
  rw[if_neg (show¬slA (T q)<(T q).length by omega)]
  obtain⟨f,u,d⟩:=qkA i1
  rw[if_pos (by rfl),t1,e1,ZB,u,ZB]
  refine⟨f,rfl,?_⟩
  have:(q.num:Rat)=q:=Rat.ext (by simp) (by simp[c])
  rw[this]at d
  exact d
 obtain⟨t1,t2,t3⟩:=qfI q c
 rw[if_pos t1]
 have j:=qaM q.den
 obtain⟨r2,u,d⟩:=qg0 hN (s:=Lib.decDigits q.den) (by rw[(qbe j).2];exact j) (by rw[(qbe j).2];omega)
 rw[qcd j,qbT]at d
 rw[if_neg (by simp),t2,t3,e1,ZB,u,ZB]
 exact⟨⟨r1,r2⟩,rfl,i1,d⟩
theorem qb3 {N:Nat} (hN:600000<N) {q:Rat} (h:Sml q 4000):jd N (T q)=some (rI q.num,rI (q.den:Int)):=by
 have hl:=qi6 h
 have h1:=h.1
 have h2:=h.2
 by_cases c:q.den=1
 ·obtain⟨u,d⟩:=qez q c
  unfold jd
  rw[qce (by omega) (by omega),ZB,d,if_pos rfl,u,qft (by omega) (by rw[qbM];exact qaM _) (by rw[qbM];omega),ZB,qrb (by omega),ZB,qb8,c]
  rfl
 obtain⟨u,d,t3⟩:=qfI q c
 have j:=qaM q.den
 rw[qiJ hN (by omega) u (by rw[d,qbM];exact qaM _) (by rw[t3,(qbe j).2];exact j),d,t3,qb8,qcd j,qbT]
end Go.Av
end
section
namespace Go.Av
theorem rI_w (z:Int):(rI z).w=dg E9 (z.natAbs:Int):=rfl
theorem qnu {n:Nat} (h:0<n):(if((dg E9 (n:Int)).length:Int)=1 then(idx (dg E9 (n:Int)) 0).bind fun x15=>some (decide (x15=1))else some false:Option Bool)=some (decide (n=1)):=by
 have u:=jg E1 (show(0:Int)<=(n:Int)by omega)
 by_cases h4:n=1
 ·rw[show(n:Int)=1 by omega,qlu,if_pos (by simp),qcb,h4]
  rfl
 rw[decide_eq_false h4]
 by_cases h5:(dg E9 (n:Int)).length=1
 ·obtain⟨x,j⟩:=List.length_eq_one_iff.1 h5
  rw[j,zl,ky,Int.mul_zero,Int.add_zero]at u
  have d:x≠1:=by omega
  rw[j,if_pos (by simp),qcb]
  simp only[Yj,ZB,decide_eq_false d]
 rw[if_neg (by omega)]
theorem zM.abs {z:Int} {n:Nat} (h:zM z n):zM (z.natAbs:Int) n:=by
 unfold zM at h⊢
 rw[Int.natAbs_natCast]
 exact h
theorem zM.le {a b:Int} {n:Nat} (h:(a.natAbs:Int)<=(b.natAbs:Int)) (k:zM b n):zM a n:=Int.lt_of_le_of_lt h k
theorem zM.itoaLen {z:Int} {n:Nat} (h:zM z n) (hn:0<n):(Lib.itoa z).length<=9*n+1:=by
 have d:z.natAbs<10^(9*n):=by
  have h:(z.natAbs:Int)<E9^n:=h
  rw[qhX]at h
  exact Int.ofNat_lt.1 h
 have u:=(xu (show 0<9*n by omega)).2 d
 have j:=qje z
 omega
theorem qjU {N:Nat} (hN:60000<N) {x y:Int} (d:0<=x) (h:0<y) {B:Nat} (u:B<=8000) (j:zM x B):zX N (dg E9 x) (dg E9 y)=some (dg E9 (x/y),dg E9 (x%y)):=by
 have l:=j.len
 rw[show(x.natAbs:Int)=x by omega]at l
 rw[qdH hN (zy E1 d) (zy E1 (by omega)) (by omega) (by rw[jg E1 (by omega)];exact h),jg E1 d,jg E1 (by omega)]
theorem den_pos (q:Rat):0<q.den:=Nat.pos_of_ne_zero q.den_nz
theorem qil {a b:Int} (d:b≠0):(b.sign*a).natAbs=a.natAbs:=by rw[Int.natAbs_mul,Int.natAbs_sign_of_ne_zero d,Nat.one_mul]
theorem qmG (a b:Int):Int.gcd (a.natAbs:Int) (b.natAbs:Int)=Int.gcd b a:=by
 rw[Int.gcd_comm]
 rfl
theorem qdm {N:Nat} (hN:600000<N) {B:Nat} (d:0<B) (u:B<=8000) {a b:Int} (fa:zM a B) (j:zM b B) (hb:b≠0):jQ N (rI a) (rI b)=some (T (Rat.divInt a b)):=by
 have hg:0<Int.gcd b a:=Int.gcd_pos_of_ne_zero_left _ hb
 have ea:=qil (a:=a) hb
 have S:(if(rI b).neg=true then(xh N (rI a)).bind fun r7=>(xh N (rI b)).bind fun r8=>some (r7.neg,r7.w,r8.neg,r8.w)else some ((rI a).neg,(rI a).w,(rI b).neg,(rI b).w):Option (Bool×(List Int)×Bool×(List Int)))=some (decide (b.sign*a<0),dg E9 (a.natAbs:Int),false,dg E9 (b.natAbs:Int)):=by
  by_cases h:b<0
  ·rw[if_pos (show(rI b).neg=true from decide_eq_true h),qk2 (by omega) (fa.mono (by omega)),ZB,qk2 (by omega) (j.mono (by omega)),ZB,Int.sign_eq_neg_one_of_neg h,Int.neg_mul,Int.one_mul]
   show some (decide (-a<0),dg E9 (((-a).natAbs:Nat):Int),decide (-b<0),dg E9 (((-b).natAbs:Nat):Int))=_
   rw[decide_eq_false (show¬ -b<0 by omega),Int.natAbs_neg,Int.natAbs_neg]
  rw[if_neg (show¬(rI b).neg=true from fun c=>h (of_decide_eq_true c)),Int.sign_eq_one_of_pos (by omega),Int.one_mul]
  show some (decide (a<0),dg E9 ((a.natAbs:Nat):Int),decide (b<0),dg E9 ((b.natAbs:Nat):Int))=_
  rw[decide_eq_false h]
 have en:(Rat.divInt a b).num=b.sign*a/(Int.gcd b a:Int):=Rat.num_divInt ..
 have ed:(b.natAbs:Int)/(Int.gcd b a:Int)=((Rat.divInt a b).den:Int):=by rw[Rat.den_divInt,if_neg hb,Int.natCast_ediv]
 have hd:=den_pos (Rat.divInt a b)
 have dvd:(Int.gcd b a:Int)∣b.sign*a:=Int.dvd_mul_of_dvd_right (Int.gcd_dvd_right ..)
 have fn:zM (Rat.divInt a b).num B:=by
  rw[en]
  exact zM.le (Int.le_trans (vg _ (by omega)) (by rw[ea];exact Int.le_refl _)) fa
 have fd:zM ((Rat.divInt a b).den:Int) B:=by
  rw[<-ed]
  exact zM.le (Int.le_trans (vg _ (by omega)) (Int.le_refl _)) j.abs
 have vn:(if decide (b.sign*a<0)=true then-dv E9 (dg E9 ((a.natAbs:Int)/(Int.gcd b a:Int)))else dv E9 (dg E9 ((a.natAbs:Int)/(Int.gcd b a:Int))))=(Rat.divInt a b).num:=by
  have p0:0<=(a.natAbs:Int)/(Int.gcd b a:Int):=Int.ediv_nonneg (by omega) (by omega)
  rw[jg E1 p0,en]
  by_cases c:b.sign*a<0
  ·rw[if_pos (decide_eq_true c),show(a.natAbs:Int)= -(b.sign*a)by omega,Int.neg_ediv_of_dvd dvd,Int.neg_neg]
  rw[if_neg (fun h=>c (of_decide_eq_true h)),show(a.natAbs:Int)=b.sign*a by omega]
 unfold jQ
 rw[S,ZB]
 simp only
 rw[qiV hN (by omega) (by omega) (fa.abs.mono u) (j.abs.mono u),ZB,qmG,qjU (by omega) (by omega) (by omega) u fa.abs,ZB,qjU (by omega) (by omega) (by omega) u j.abs,ZB]
 simp only
 have p0:0<=(a.natAbs:Int)/(Int.gcd b a:Int):=Int.ediv_nonneg (by omega) (by omega)
 have ln:(dg E9 ((a.natAbs:Int)/(Int.gcd b a:Int))).length<=B:=by
  have:=(zM.le (Int.le_trans (vg _ (by omega)) (Int.le_refl _)) fa.abs:zM ((a.natAbs:Int)/(Int.gcd b a:Int)) B).len
  rw[show(((a.natAbs:Int)/(Int.gcd b a:Int)).natAbs:Int)=(a.natAbs:Int)/(Int.gcd b a:Int)by omega]at this
  exact this
 have ld:(dg E9 ((Rat.divInt a b).den:Int)).length<=B:=by
  have:=fd.len
  rw[Int.natAbs_natCast]at this
  exact this
 rw[vP _ (zy E1 p0).1 (by omega) (by omega),ZB,vn,qgZ (by omega) (fn.mono (by omega)),ZB,ed,qnu hd,ZB]
 have l1:=fn.itoaLen d
 have l2:=fd.itoaLen d
 unfold T
 by_cases c:(Rat.divInt a b).den=1
 ·rw[if_pos (decide_eq_true c),if_pos c,YQ]
 rw[if_neg (fun h=>c (of_decide_eq_true h)),if_neg c,qbq (by simp;omega),ZB,vP _ (zy E1 (by omega)).1 (by omega) (by omega),ZB,if_neg (by simp),jg E1 (by omega),qgZ (by omega) (fd.mono (by omega)),ZB,qbq (by simp;omega),ZB,qeD,Yz]
 rfl
theorem qqx {a b:Int} (d:0<=a) (h:0<b):qek .i64 a b=some (a%b):=by
 unfold qek
 rw[if_neg (by omega),Int.tmod_eq_emod_of_nonneg d]
theorem qqF {a b:Int} (d:0<b) (u: -4000000000000000000<=a) (j:a<=4000000000000000000) (h:b∣a):qcr .i64 a b=some (a/b):=by
 have:=vg a d
 unfold qcr
 rw[if_neg (by omega),Int.tdiv_eq_ediv_of_dvd h]
 show some (w64 _)=_
 rw[qf (by omega) (by omega)]
theorem ql2: ∀(k K:Nat) (a b:Int),0<=a->0<=b->b<2^k->2*k+2<=K->jN K a b=some (Int.gcd a b:Int)
 |k,0,a,b,_,_,_,hK=>by omega
 |k,K+1,a,b,ha,hb,hk,hK=>by
  have u:(a.natAbs:Int)=a:=by omega
  have nb:(b.natAbs:Int)=b:=by omega
  rcases(show b=0\/0<b by omega)with h0|h0
  ·rw[h0,jN,if_neg (by omega),Int.gcd_zero,u]
  match k,hk,hK with
  |0,hk,hK=>simp at hk;omega
  |k+1,hk,hK=>
   have h:=Int.emod_nonneg a (show b≠0 by omega)
   have m1:=Int.emod_lt_of_pos a h0
   rw[jN,if_pos (by omega),qqx ha h0,ZB,qcY ha hb]
   match K,hK with
   |0,hK=>omega
   |K+1,hK=>
    rcases(show a%b=0\/0<a%b by omega)with g0|g0
    ·rw[g0,jN,if_neg (by omega),Int.gcd_zero,nb]
    have j:=Int.emod_nonneg b (show a%b≠0 by omega)
    have n1:=Int.emod_lt_of_pos b g0
    have d:b%(a%b)<2^k:=by
     have d1:=Int.mul_ediv_add_emod b (a%b)
     have d2:1<=b/(a%b):=by
      rw[Int.le_ediv_iff_mul_le g0]
      omega
     have d3:a%b*1<=a%b*(b/(a%b)):=Yc d2 (by omega)
     rw[Int.pow_succ]at hk
     omega
    rw[jN,if_pos (by omega),qqx hb g0,ZB,qcY hb h]
    exact ql2 k K (a%b) (b%(a%b)) h j d (by omega)
theorem qpY {N:Nat} (hN:200<N) {a b:Int} (d:0<=a) (j:0<=b) (h:b<9223372036854775808):qcU N a b=some (Int.gcd a b:Int):=by
 unfold qcU
 rw[ql2 63 N a b d j h (by omega),ZB]
theorem rabs {z:Int} (h: -9223372036854775807<=z) (d:z<=9223372036854775807):(if w64 (0-z)>z then w64 (0-z)else z)=(z.natAbs:Int):=by
 rw[qf (by omega) (by omega)]
 split<;>omega
theorem qqw {n:Nat} (h:n<=4000000000000000000):(Lib.decDigits n).length<=19:=(xu (by decide)).2 (by omega)
theorem qnz {N:Nat} (hN:1000<N) {a b:Int} (a1: -4000000000000000000<=a) (a2:a<=4000000000000000000) (b1: -4000000000000000000<=b) (b2:b<=4000000000000000000) (d:b≠0):qc0 N a b=some (T (Rat.divInt a b)):=by
 have hg:0<Int.gcd b a:=Int.gcd_pos_of_ne_zero_left _ d
 have ea:=qil (a:=a) d
 have S:(if b<0 then some (w64 (0-a),w64 (0-b))else some (a,b):Option (Int×Int))=some (b.sign*a,(b.natAbs:Int)):=by
  by_cases h:b<0
  ·rw[if_pos h,qf (by omega) (by omega),qf (by omega) (by omega),Int.sign_eq_neg_one_of_neg h,show(-1:Int)*a=0-a by omega,show(b.natAbs:Int)=0-b by omega]
  rw[if_neg h,Int.sign_eq_one_of_pos (by omega),Int.one_mul,show(b.natAbs:Int)=b by omega]
 have en:(Rat.divInt a b).num=b.sign*a/(Int.gcd b a:Int):=Rat.num_divInt ..
 have ed:(b.natAbs:Int)/(Int.gcd b a:Int)=((Rat.divInt a b).den:Int):=by rw[Rat.den_divInt,if_neg d,Int.natCast_ediv]
 have hd:=den_pos (Rat.divInt a b)
 have j:(Int.gcd b a:Int)∣b.sign*a:=Int.dvd_mul_of_dvd_right (Int.gcd_dvd_right ..)
 have u:(Int.gcd b a:Int)∣(b.natAbs:Int):=by
  rw[Int.dvd_natAbs]
  exact Int.gcd_dvd_left ..
 have n1:=vg (b.sign*a) (show(0:Int)<(Int.gcd b a:Int)by omega)
 have n2:=vg (b.natAbs:Int) (show(0:Int)<(Int.gcd b a:Int)by omega)
 rw[<-en,ea]at n1
 rw[ed,Int.natAbs_natCast,Int.natAbs_natCast]at n2
 unfold qc0
 rw[if_neg (show¬a< -4000000000000000000 by omega),if_neg (show¬a>4000000000000000000 by omega),if_neg (show¬b< -4000000000000000000 by omega),decide_eq_false (show¬b>4000000000000000000 by omega),ZB,if_neg (by simp),S,ZB]
 simp only
 rw[rabs (by omega) (by omega),ea,qpY (by omega) (by omega) (by omega) (by omega),ZB,qmG,qqF (by omega) (by omega) (by omega) j,ZB,qqF (by omega) (by omega) (by omega) u,ZB,<-en,ed,rabs (by omega) (by omega),qhQ (by omega) (by omega),qhQ (by omega) (by omega)]
 generalize Rat.divInt a b=q at*
 have l1:=qqw (n:=q.num.natAbs) (by omega)
 have l2:=qqw (n:=q.den) (by omega)
 have S2:((if q.num<0 then some [45]else some []:Option Str).bind fun s17=>(some (Lib.decDigits q.num.natAbs)).bind fun r20=>(cat s17 r20).bind fun s21=>(if(q.den:Int)>1 then(cat s21 [47]).bind fun s25=>(some (Lib.decDigits q.den)).bind fun r26=>(cat s25 r26).bind fun s27=>some s27 else some s21:Option Str).bind fun s22=>some s22)=some (T q):=by
  have li:(Lib.itoa q.num).length<=20:=by have:=qje q.num;omega
  have I:((if q.num<0 then some [45]else some []:Option Str).bind fun s17=>(some (Lib.decDigits q.num.natAbs)).bind fun r20=>(cat s17 r20).bind fun s21=>(if(q.den:Int)>1 then(cat s21 [47]).bind fun s25=>(some (Lib.decDigits q.den)).bind fun r26=>(cat s25 r26).bind fun s27=>some s27 else some s21:Option Str).bind fun s22=>some s22)=((if(q.den:Int)>1 then(cat (Lib.itoa q.num) [47]).bind fun s25=>(some (Lib.decDigits q.den)).bind fun r26=>(cat s25 r26).bind fun s27=>some s27 else some (Lib.itoa q.num):Option Str).bind fun s22=>some s22):=by
   by_cases c:q.num<0
   ·rw[if_pos c,ZB,ZB,qbq (by simp;omega),ZB,vO c]
    rfl
   rw[if_neg c,ZB,ZB,qbq (by simp;omega),ZB,zN c]
   rfl
  rw[I]
  unfold T
  by_cases c:q.den=1
  ·rw[if_neg (by omega),if_pos c,ZB,YQ]
  rw[if_pos (by omega),if_neg c,qbq (by simp;omega),ZB,ZB,qbq (by simp;omega),ZB,ZB,Yz]
  rfl
 exact S2
end Go.Av
end
section
namespace Go.Av
theorem Sml.mono {q:Rat} {m n:Nat} (h:Sml q m) (d:m<=n):Sml q n:=⟨Nat.le_trans h.1 d,Nat.le_trans h.2 d⟩
theorem qcB {q:Rat} {k n:Nat} (h:Sml q k) (d:0<k) (j:k<=9*n):zM q.num n:=qjh (p:=k) (Int.ofNat_lt.2 ((xu d).1 h.1)) j
theorem qdv {q:Rat} {k n:Nat} (h:Sml q k) (d:0<k) (j:k<=9*n):zM (q.den:Int) n:=qjh (p:=k) (by rw[Int.natAbs_natCast];exact Int.ofNat_lt.2 ((xu d).1 h.2)) j
theorem yY {q:Rat} {k n:Nat} (h:Sml q k) (d:0<k) (j:k<=19*n):qb2 q n:=⟨qfW (p:=k) (Int.ofNat_lt.2 ((xu d).1 h.1)) j,qfW (p:=k) (by rw[Int.natAbs_natCast];exact Int.ofNat_lt.2 ((xu d).1 h.2)) j⟩
theorem qmu {z:Int} {n:Nat} (h:zM z n) (d:0<n):(Lib.decDigits z.natAbs).length<=9*n:=by
 refine(xu (by omega)).2 ?_
 have h:(z.natAbs:Int)<E9^n:=h
 rw[qhX]at h
 exact Int.ofNat_lt.1 h
theorem qkD {q:Rat} {n:Nat} (u:zM q.num n) (j:zM (q.den:Int) n) (h:0<n):Sml q (9*n):=by
 have d:=qmu j h
 rw[Int.natAbs_natCast]at d
 exact⟨qmu u h,d⟩
theorem qkZ {a b:Int} {n:Nat} (d:b≠0) (fa:zM a n) (h:zM b n):zM (Rat.divInt a b).num n/\zM ((Rat.divInt a b).den:Int) n:=by
 have j:0<Int.gcd b a:=Int.gcd_pos_of_ne_zero_left _ d
 constructor
 ·rw[Rat.num_divInt]
  exact zM.le (Int.le_trans (vg _ (by omega)) (by rw[qil d];exact Int.le_refl _)) fa
 rw[Rat.den_divInt,if_neg d,Int.natCast_ediv]
 exact zM.le (Int.le_trans (vg _ (by omega)) (Int.le_refl _)) h.abs
theorem qa9 {a b:Int} {m n:Nat} (d:zM a m) (h:zM b n):zM (a*b) (m+n):=by
 unfold zM at*
 rw[Int.natAbs_mul,Int.natCast_mul,Int.pow_add]
 have u:(a.natAbs:Int)*(b.natAbs:Int)<=(a.natAbs:Int)*E9^n:=Yc (Int.le_of_lt h) (by omega)
 have j:(a.natAbs:Int)*E9^n<E9^m*E9^n:=YH d (pow_pos E0 n)
 omega
theorem qoO {a b:Int} {n:Nat} (d:zM a n) (h:zM b n):zM (a+b) (n+1):=by
 unfold zM at*
 rw[Int.pow_succ]
 have hp:=pow_pos E0 n
 have:((a+b).natAbs:Int)<=(a.natAbs:Int)+(b.natAbs:Int):=by omega
 unfold E9 at*
 omega
theorem qj7 (s:Str):vX s=some (if s=[48]then 0 else if sgn s=true then-1 else 1):=by
 unfold vX
 by_cases c:s=[48]
 ·rw[if_pos (by simp[c]),if_pos c]
 rw[if_neg (by simp[c]),qfO,ZB,if_neg c]
 cases sgn s<;>rfl
theorem qqA:Lib.itoa 0=[48]:=by
 rw[zN (by decide),show(0:Int).natAbs=0 from rfl,jc (by decide)]
 rfl
theorem qnq {z:Int}:Lib.itoa z=[48]↔z=0:=by
 constructor
 ·intro h
  have d:=qb8 z
  rw[h]at d
  exact d.symm
 intro h
 rw[h]
 exact qqA
theorem T0:T 0=[48]:=by
 rw[(qez 0 rfl).1]
 exact qqA
theorem qoN {q:Rat}:T q=[48]↔q=0:=by
 constructor
 ·intro h
  exact qo7 (h.trans T0.symm)
 intro h
 rw[h]
 exact T0
theorem qjH (q:Rat):vX (T q)=some (if q.num<0 then-1 else if q.num=0 then 0 else 1):=by
 rw[qj7,qkG]
 by_cases c:q=0
 ·rw[if_pos (qoN.2 c),c]
  rfl
 rw[if_neg (fun h=>c (qoN.1 h)),if_neg (show¬q.num=0 from fun h=>c (Rat.num_eq_zero.1 h))]
 by_cases d:q.num<0
 ·rw[decide_eq_true d,if_pos rfl,if_pos d]
 rw[decide_eq_false d,if_neg (by simp),if_neg d]
theorem qrr (q:Rat):tl (-q)=tl q:=by
 unfold tl
 rw[Rat.neg_den]
theorem Neg_T {N:Nat} {q:Rat} (h:(T q).length<=100000):qcR (T q)=some (T (-q)):=by
 unfold qcR
 rw[qjH,ZB]
 have e:T (-q)=Lib.itoa (-q.num)++tl q:=by rw[qnp,qrr,Rat.neg_num]
 by_cases c:q.num<0
 ·have hs:sgn (T q)=true:=by rw[qkG];exact decide_eq_true c
  have j:(T q).drop 1=bdy (T q):=by unfold bdy;rw[if_pos hs]
  have u:=qjm hs
  rw[if_pos c,if_pos (by decide),show(1:Int)=((1:Nat):Int)from rfl,xA u,ZB,j,qky,e,zN (by omega),Int.natAbs_neg]
 rw[if_neg c,if_neg (by split<;>decide),ZB]
 by_cases d:q.num=0
 ·rw[if_pos d,if_pos rfl,Rat.num_eq_zero.1 d]
  rfl
 rw[if_neg d,if_neg (by decide),qbq (by simp;omega),ZB,e,vO (by omega),Int.natAbs_neg,qnp,zN c]
 rfl
theorem qqr {N:Nat} (hN:100000<N) {q:Rat} {k:Nat} (h:Sml q k) (hk:k<=9000):qbN N (T q)=some (if qix q=true then 4 else 0):=by
 have hl:=qi6 h
 have hs:=qce (N:=N) (s:=T q) (by omega) (by omega)
 have hnum:qdb N (T q)=some (Lib.itoa q.num):=by
  unfold qdb
  rw[hs,ZB]
  by_cases c:q.den=1
  ·obtain⟨t1,t2⟩:=qez q c
   rw[yx (by omega),ZB,t2,List.take_length,t1]
  obtain⟨t1,t2,t3⟩:=qfI q c
  rw[yx (by omega),ZB,t2]
 have u:qdf (Lib.itoa q.num)=some (Lib.decDigits q.num.natAbs):=by
  have hs:=qfS q.num
  have hb:=qbM q.num
  unfold qdf
  rw[qj7,ZB,hs]
  unfold bdy at hb
  rw[hs]at hb
  by_cases c:q.num<0
  ·rw[if_neg (show¬Lib.itoa q.num=[48]from fun h=>by have:=qnq.1 h;omega),if_pos (decide_eq_true c),if_pos (by decide),show(1:Int)=((1:Nat):Int)from rfl,xA (qkm _),ZB]
   rw[if_pos (decide_eq_true c)]at hb
   rw[hb]
  rw[decide_eq_false c,if_neg (by split<;>simp),zN c]
 have j:qde N (T q)=some (Lib.decDigits q.den):=by
  unfold qde
  rw[hs,ZB]
  by_cases c:q.den=1
  ·obtain⟨t1,t2⟩:=qez q c
   rw[if_pos (by omega),c,jc (by decide)]
   rfl
  obtain⟨t1,t2,t3⟩:=qfI q c
  rw[if_neg (by omega),zH (by omega),xA (by omega),ZB,t3]
 unfold qbN
 rw[hnum,ZB,u,ZB,j]
 unfold qix lng
 rw[Int.natAbs_natCast]
 by_cases c:600<(Lib.decDigits q.num.natAbs).length
 ·rw[if_pos (by omega),decide_eq_true c,Bool.true_or]
  rfl
 rw[if_neg (by omega),decide_eq_false c,Bool.false_or,ZB]
 by_cases d:600<(Lib.decDigits q.den).length
 ·rw[decide_eq_true (by omega),decide_eq_true d]
  rfl
 rw[decide_eq_false (by omega),decide_eq_false d]
 rfl
theorem qg6 {N:Nat} (hN:100000<N) {q:Rat} {k:Nat} (h:Sml q k) (hk:k<=9000):jT N (T q)=some (0,0,false)\/(jT N (T q)=some (q.num,(q.den:Int),true)/\q.num.natAbs<1000000000/\q.den<1000000000):=by
 have hl:=qi6 h
 have hb:=qfX (T q)
 have eb:=qky q
 have es:slA (Lib.decDigits q.num.natAbs++tl q)=(Lib.decDigits q.num.natAbs).length:=qim (qpt (qaM _)) q
 have u:(Lib.decDigits q.num.natAbs++tl q).length=(Lib.decDigits q.num.natAbs).length+(tl q).length:=Yq
 rw[eb]at hb
 unfold jT
 by_cases c:((T q).length:Int)>20
 ·left
  rw[if_pos c]
 rw[if_neg c,qfO,ZB,qlp,ZB,eb,qce (by omega) (by omega),ZB,es,qkG]
 by_cases c1:(Lib.decDigits q.num.natAbs).length>9
 ·left
  rw[if_pos (by omega),ZB,if_pos rfl]
 rw[if_neg (by omega),qf (by omega) (by omega)]
 by_cases c2:(tl q).length>10
 ·left
  rw[decide_eq_true (by omega),ZB,if_pos rfl]
 right
 rw[decide_eq_false (by omega),ZB,if_neg (by simp),yx (by omega),ZB,List.take_left',qfr (by omega) (qaM _) (by omega),ZB,qbT]
 ·have hn:q.num.natAbs<1000000000:=(xu (show 0<9 by decide)).1 (by omega)
  have sg:(if decide (q.num<0)=true then some (w64 (0-(q.num.natAbs:Int)))else some (q.num.natAbs:Int):Option Int)=some q.num:=by
   by_cases d:q.num<0
   ·rw[if_pos (decide_eq_true d),qf (by omega) (by omega)]
    congr 1
    omega
   rw[if_neg (fun h=>d (of_decide_eq_true h))]
   congr 1
   omega
  by_cases d:q.den=1
  ·have j:tl q=[]:=by unfold tl;rw[if_pos d]
   rw[j]at u
   rw[List.length_nil]at u
   rw[j,if_neg (by omega),ZB,sg,ZB,d]
   exact⟨rfl,hn,by decide⟩
  have j:tl q=47::Lib.decDigits q.den:=by unfold tl;rw[if_neg d]
  rw[j,Yr]at u c2
  have hd:q.den<1000000000:=(xu (show 0<9 by decide)).1 (by omega)
  rw[j,if_pos (by omega),zH (by omega),xA (by omega),ZB,List.drop_append,List.drop_of_length_le (by omega),show(Lib.decDigits q.num.natAbs).length+1-(Lib.decDigits q.num.natAbs).length=1 by omega,List.nil_append,List.drop_succ_cons,YR,qfr (by omega) (qaM _) (by omega),ZB,ZB,sg,ZB,qbT]
  exact⟨rfl,hn,hd⟩
 rfl
theorem qmB {N:Nat} (hN:100000<N) {p q:Rat} {k:Nat} (u:k<=9000) (hp:Sml p k) (hq:Sml q k) {Fq:(Int×Int×Bool)->(Int×Int×Bool)->Option Str} {d:Option Str} {t:Str}
 (h1:p.num.natAbs<1000000000->p.den<1000000000->q.num.natAbs<1000000000->q.den<1000000000->Fq (p.num,(p.den:Int),true) (q.num,(q.den:Int),true)=some t) (h2:d=some t):
 ((jT N (T p)).bind fun r1=>(jT N (T q)).bind fun r2=>(if r1.2.2=true then some r2.2.2 else some false:Option Bool).bind fun b4=>if b4=true then(Fq r1 r2).bind fun r7=>some r7 else d)=some t:=by
 rcases qg6 hN hp u with j|⟨j,a1,a2⟩
 ·rcases qg6 hN hq u with h|⟨h,b1,b2⟩
  ·rw[j,ZB,h,ZB]
   exact h2
  rw[j,ZB,h,ZB]
  exact h2
 rcases qg6 hN hq u with h|⟨h,b1,b2⟩
 ·rw[j,ZB,h,ZB]
  exact h2
 rw[j,ZB,h,ZB]
 show((Fq (p.num,(p.den:Int),true) (q.num,(q.den:Int),true)).bind fun r7=>some r7)=some t
 rw[h1 a1 a2 b1 b2,ZB]
theorem qog {a b:Int} (d:a.natAbs<1000000000) (j:b.natAbs<1000000000): -1000000000000000000<=a*b/\a*b<=1000000000000000000:=by
 have h:(a*b).natAbs<=1000000000*1000000000:=by
  rw[Int.natAbs_mul]
  exact Nat.mul_le_mul (by omega) (by omega)
 omega
theorem qqg {N:Nat} (hN:600000<N) {p q:Rat} {k:Nat} (d:0<k) (hk:k<=4000) (hp:Sml p k) (hq:Sml q k):qcX N (T p) (T q)=some (T (p+q)):=by
 unfold qcX
 obtain⟨n,hn⟩: ∃n:Nat,n=500:=⟨_,rfl⟩
 have u:=qcB (n:=n) hp d (by omega)
 have j:=qdv (n:=n) hp d (by omega)
 have q1:=qcB (n:=n) hq d (by omega)
 have h:=qdv (n:=n) hq d (by omega)
 refine qmB (N:=N) (by omega) (show k<=9000 by omega) hp hq (fun a1 a2 b1 b2=>?_) ?_
 ·have m1:=qog a1 (show((q.den:Int)).natAbs<1000000000 by omega)
  have m2:=qog b1 (show((p.den:Int)).natAbs<1000000000 by omega)
  have m3:=qog (show((p.den:Int)).natAbs<1000000000 by omega) (show((q.den:Int)).natAbs<1000000000 by omega)
  have:=qfb p q
  simp only
  rw[qf (n:=p.num*(q.den:Int)) (by omega) (by omega),qf (n:=q.num*(p.den:Int)) (by omega) (by omega),qf (n:=(p.den:Int)*(q.den:Int)) (by omega) (by omega),qf (by omega) (by omega),qnz (by omega) (by omega) (by omega) (by omega) (by omega) (qfb p q),<-qhE]
 rw[qb3 hN (hp.mono (by omega)),ZB,qb3 hN (hq.mono (by omega)),ZB]
 simp only
 rw[qd4 (by omega) (u.mono (by omega)) (h.mono (by omega)),ZB,qd4 (by omega) (q1.mono (by omega)) (j.mono (by omega)),ZB,qqh (by omega) ((qa9 u h).mono (by omega)) ((qa9 q1 j).mono (by omega)),ZB,qd4 (by omega) (j.mono (by omega)) (h.mono (by omega)),ZB,qdm hN (B:=n+n+1) (by omega) (by omega) (qoO (qa9 u h) (qa9 q1 j)) ((qa9 j h).mono (by omega)) (qfb p q),ZB,<-qhE]
theorem qjk {N:Nat} (hN:600000<N) {p q:Rat} {k:Nat} (d:0<k) (hk:k<=4000) (hp:Sml p k) (hq:Sml q k):qbr N (T p) (T q)=some (T (p*q)):=by
 unfold qbr
 obtain⟨n,hn⟩: ∃n:Nat,n=500:=⟨_,rfl⟩
 have u:=qcB (n:=n) hp d (by omega)
 have j:=qdv (n:=n) hp d (by omega)
 have q1:=qcB (n:=n) hq d (by omega)
 have h:=qdv (n:=n) hq d (by omega)
 refine qmB (N:=N) (by omega) (show k<=9000 by omega) hp hq (fun a1 a2 b1 b2=>?_) ?_
 ·have m1:=qog a1 b1
  have m3:=qog (show((p.den:Int)).natAbs<1000000000 by omega) (show((q.den:Int)).natAbs<1000000000 by omega)
  simp only
  rw[qf (n:=p.num*q.num) (by omega) (by omega),qf (n:=(p.den:Int)*(q.den:Int)) (by omega) (by omega),qnz (by omega) (by omega) (by omega) (by omega) (by omega) (qfb p q),<-qdj]
 rw[qb3 hN (hp.mono (by omega)),ZB,qb3 hN (hq.mono (by omega)),ZB]
 simp only
 rw[qd4 (by omega) (u.mono (by omega)) (q1.mono (by omega)),ZB,qd4 (by omega) (j.mono (by omega)) (h.mono (by omega)),ZB,qdm hN (B:=n+n) (by omega) (by omega) (qa9 u q1) (qa9 j h) (qfb p q),ZB,<-qdj]
theorem qfz {p q:Rat} {n:Nat} (hn:0<n) (hp:Sml p (9*n)) (hq:Sml q (9*n)):Sml (p*q) (9*(n+n)):=by
 have u:=qcB (n:=n) hp (by omega) (by omega)
 have h:=qdv (n:=n) hp (by omega) (by omega)
 have q1:=qcB (n:=n) hq (by omega) (by omega)
 have d:=qdv (n:=n) hq (by omega) (by omega)
 rw[qdj]
 obtain⟨j,f2⟩:=qkZ (qfb p q) (qa9 u q1) (qa9 h d)
 exact qkD j f2 (by omega)
theorem qfR {p:Rat} {k:Nat} (h:Sml p k):Sml (-p) k:=by
 unfold Sml
 rw[Rat.neg_num,Rat.neg_den,Int.natAbs_neg]
 exact h
theorem qmF {p:Rat} {k:Nat} (h:Sml p k) (j:p≠0):Sml p⁻¹ k:=by
 have d:p.num≠0:=fun c=>j (Rat.num_eq_zero.1 c)
 unfold Sml
 rw[Rat.num_inv,Rat.den_inv,if_neg d,Int.natAbs_mul,Int.natAbs_sign_of_ne_zero d,Nat.one_mul,Int.natAbs_natCast]
 exact⟨h.2,h.1⟩
theorem qjr {N:Nat} (hN:600000<N) {p q:Rat} {k:Nat} (d:0<k) (h:k<=4000) (hp:Sml p k) (hq:Sml q k):qbu N (T p) (T q)=some (T (p-q)):=by
 have j:=qi6 hq
 unfold qbu
 rw[Neg_T (N:=N) (by omega),ZB,qqg hN d h hp (qfR hq),ZB,Rat.sub_eq_add_neg]
theorem qjM {N:Nat} (hN:600000<N) {p q:Rat} {k:Nat} (d:0<k) (u:k<=4000) (hp:Sml p k) (hq:Sml q k):qaS N (T p) (T q)=some (if p<q then-1 else if p=q then 0 else 1):=by
 unfold qaS
 rw[qjr hN d u hp hq,ZB,qjH,ZB]
 have a1:((p-q).num<0)=(p<q):=by
  apply propext
  rw[<-Rat.not_le,Rat.le_iff_sub_nonneg q p,<-Rat.num_nonneg]
  omega
 have j:((p-q).num=0)=(p=q):=by
  apply propext
  rw[Rat.num_eq_zero]
  constructor
  ·intro h
   have:p-q+q=p:=Rat.sub_add_cancel
   rw[h,Rat.zero_add]at this
   exact this.symm
  intro h
  rw[h,Rat.sub_self]
 simp only[a1,j]
theorem qpI {N:Nat} (hN:600000<N) {p:Rat} {k:Nat} (d:0<k) (hk:k<=4000) (hp:Sml p k) (u:p≠0):yS N (T p)=some (T p⁻¹):=by
 obtain⟨n,hn⟩: ∃n:Nat,n=500:=⟨_,rfl⟩
 have j:=qcB (n:=n) hp d (by omega)
 have h:=qdv (n:=n) hp d (by omega)
 unfold yS
 rw[qb3 hN (hp.mono (by omega)),ZB]
 simp only
 rw[qdm hN (B:=n) (by omega) (by omega) h j (fun c=>u (Rat.num_eq_zero.1 c)),ZB,<-Rat.inv_def]
theorem qms {N:Nat} (hN:600000<N) {p q:Rat} {k:Nat} (d:0<k) (h:k<=4000) (hp:Sml p k) (hq:Sml q k) (j:q≠0):qb5 N (T p) (T q)=some (T (p/q)):=by
 unfold qb5
 rw[qpI hN d h hq j,ZB,qjk hN d h hp (qmF hq j),ZB,<-Rat.div_def]
end Go.Av
end
section
namespace Go.Av
def res (q:Rat):Str×Int:=if qix q=true then([],4)else(T q,0)
section ops
variable {N:Nat} (hN:600000<N)
include hN
variable {p q:Rat} (hp:Sml p 600) (hq:Sml q 600) (cp:chk (T p)=0) (cq:chk (T q)=0)
include hp hq cp cq
end ops
end Go.Av
end
section
namespace Go.Av
theorem qkI {s:Str} {k:Nat} {c:UInt8} (h:s[k]? =some c):((⟨s.toArray⟩:ByteArray).get! k)=c:=by
 have d:=(Yb.1 h).1
 show s.toArray[k]! =c
 rw[getElem!_def]
 simp[h]
theorem qlB {s:Str} {k:Nat} {c:UInt8} (h:s[k]? =some c) (d:c.toNat<128):yl s k=c.toNat/\runeLen s k=1:=by
 have e:=qkI h
 unfold yl runeLen Utf8.decode
 simp only[Nat.add_zero,e,if_pos d,and_self]
theorem qm5 {s:Str} {k:Nat} {c:UInt8} (h:s[k]? =some c) (d:128<=c.toNat):128<=yl s k:=by
 have e:=qkI h
 unfold yl Utf8.decode
 simp only[Nat.add_zero,e,if_neg (Nat.not_lt.2 d)]
 have j:(128:Nat)<=Utf8.runeError:=by decide
 repeat' split
 all_goals first|(simp only[Bool.and_eq_true,decide_eq_true_eq]at*;omega)|(simp;omega)|omega
def qjO (c:Int):Bool:=(decide (97<=c)&&decide (c<=122))||(decide (65<=c)&&decide (c<=90))
theorem qgx (c:Int):yu c=some (qjO c):=by
 unfold yu qjO
 by_cases h1:c>=97<;>by_cases h2:c<=122<;>by_cases h3:c>=65<;>by_cases h4:c<=90<;>simp[h1,h2,h3,h4]<;>omega
def qlX (k:Nat) (c:Int):Bool:=!qjO c&&(decide (k=0)||(!decide (c=95)&&(decide (c<48)||decide (c>57))))
def qiU (s:Str):Bool:=decide (1<=s.length)&&decide (s.length<=24)&&!((List.range s.length).any fun k=>qlX k (s.getD k 0).toNat)
theorem qoh {k:Nat} {c:Int} (h:128<=c):qlX k c=true:=by
 unfold qlX qjO
 simp
 omega
def qbd (s:Str) (k:Nat):Bool:=(List.range (s.length-k)).any fun j=>qlX (k+j) (s.getD (k+j) 0).toNat
theorem qfk {s:Str} {k:Nat} {c:UInt8} (h:s[k]? =some c):qbd s k=(qlX k c.toNat||qbd s (k+1)):=by
 have d:=(Yb.1 h).1
 unfold qbd
 rw[show s.length-k=(s.length-(k+1))+1 by omega,List.range_succ_eq_map,List.any_cons,List.any_map]
 congr 1
 ·simp[List.getD,h]
 congr 1
 funext j
 simp only[Function.comp,Nat.succ_eq_add_one]
 rw[show k+(j+1)=k+1+j by omega]
theorem qgz {s:Str} {k:Nat} (h:s.length<=k):qbd s k=false:=by
 unfold qbd
 rw[show s.length-k=0 by omega]
 rfl
theorem qi7 (s:Str): ∀(K k:Nat),k<=s.length->s.length<K+k->jG s K k=some (if qbd s k then .inr false else .inl ())
 |0,k,h,hK=>by omega
 |K+1,k,h,hK=>by
  unfold jG
  by_cases hk:k<s.length
  ·have j:s[k]? =some s[k]:=Ya hk
   rw[if_pos hk,qgx,qfk j]
   by_cases ha:(s[k]).toNat<128
   ·obtain⟨e1,e2⟩:=qlB j ha
    rw[e1,e2,qi7 s K (k+1) (by omega) (by omega)]
    have ek:((k:Int)=0)↔k=0:=by omega
    unfold qlX
    generalize ((s[k]).toNat:Int)=c
    cases d:qjO c<;>by_cases h0:k=0<;>by_cases u:c=95<;>by_cases h2:c<48<;>by_cases h3:57<c<;>
     simp[d,h0,u,h2,h3]
   have hw:=qm5 j (by omega)
   rw[qoh (show(128:Int)<=((s[k]).toNat:Int)by omega)]
   have d:qjO (yl s k)=false:=by unfold qjO;simp;omega
   have u: ¬yl s k=95:=by omega
   have h2: ¬yl s k<48:=by omega
   have h3:yl s k>57:=by omega
   have ek:((k:Int)=0)↔k=0:=by omega
   simp only[d,ZB,Bool.not_false,if_true,u,h2,h3,decide_true,decide_false,if_false,Bool.true_or,ek]
   by_cases h0:k=0
   ·simp only[h0,if_true,ZB]
   simp only[h0,if_false,ZB,if_true]
  rw[if_neg hk,qgz (by omega)]
  rfl
theorem qki (s:Str):qiU s=(decide (1<=s.length)&&decide (s.length<=24)&&!qbd s 0):=by
 unfold qiU qbd
 simp
theorem qjc {N:Nat} {s:Str} (h:s.length<N):xK N s=some (qiU s):=by
 unfold xK
 rw[qi7 s N 0 (Nat.zero_le _) (by omega),qki]
 cases hb:qbd s 0
 ·cases s with
  |nil=>simp
  |cons x xs=>
   have e:((x::xs)==([]:Str))=false:=rfl
   simp only[ZB,ZF,if_false,e,Bool.not_false,if_true,Bool.and_true,ZI]
   have:(1<=(x::xs).length):=by simp
   rw[Bool.eq_iff_iff]
   simp only[decide_eq_true_eq,Bool.and_eq_true,this,true_and]
   omega
 simp
theorem qhs (s:Str) (hs:s.length<4611686018427387904): ∀(K k:Nat),k<=s.length->s.length<K+k->vw s K (k:Int)=some (if qbd s k then .inr false else .inl ())
 |0,k,h,hK=>by omega
 |K+1,k,h,hK=>by
  unfold vw
  by_cases hk:k<s.length
  ·have u:s[k]? =some s[k]:=Ya hk
   rw[if_pos (by omega),qz,u,qfk u,zH (by omega),qhs s hs K (k+1) (by omega) (by omega)]
   simp only[ZB]
   have ek:((k:Int)=0)↔k=0:=by omega
   unfold qlX
   generalize ((s[k]).toNat:Int)=c
   rw[show(if c>=97 then if c<=122 then some true else if c>=65 then some (decide (c<=90))else some false else if c>=65 then some (decide (c<=90))else some false:Option Bool)=some (qjO c)from by
    have:=qgx c
    unfold yu at this
    rw[<-this]
    cases(if c>=97 then if c<=122 then some true else if c>=65 then some (decide (c<=90))else some false else if c>=65 then some (decide (c<=90))else some false:Option Bool)<;>rfl]
   simp only[ZB,ek]
   cases qjO c
   ·by_cases h5:k=0
    ·simp[h5]
    by_cases h6:c>=48
    ·by_cases h7:c<=57
     ·have d: ¬c<48:=by omega
      have j: ¬c>57:=by omega
      simp[h5,h6,h7,d,j]
     have d: ¬c<48:=by omega
     have j:c>57:=by omega
     by_cases h8:c=95<;>simp[h5,h6,h7,h8,d,j]
    have d:c<48:=by omega
    by_cases h8:c=95<;>simp[h5,h6,h8,d]
   simp
  rw[if_neg (by omega),qgz (by omega)]
  rfl
theorem qho {N:Nat} {s:Str} (h:s.length<N) (hs:s.length<4611686018427387904):qav N s=some (qiU s):=by
 unfold qav
 rw[show(0:Int)=((0:Nat):Int)from rfl,qhs s hs N 0 (Nat.zero_le _) (by omega),qki]
 by_cases h1:s.length<1
 ·rw[if_pos (by omega)]
  simp[show¬1<=s.length by omega]
 by_cases h2:s.length>24
 ·rw[if_neg (by omega)]
  simp only[ZB,show((s.length:Int)>24)by omega,decide_true,if_true,show¬s.length<=24 by omega,decide_false,Bool.and_false,Bool.false_and]
 rw[if_neg (by omega)]
 simp only[ZB,show¬((s.length:Int)>24)by omega,decide_false,ZF,if_false,show 1<=s.length by omega,show s.length<=24 by omega,decide_true,Bool.true_and]
 cases hb:qbd s 0<;>rfl
end Go.Av
end
section
namespace Go.Av
theorem qm6 {N:Nat} (hN:600000<N) {f:qJ} {q:Rat} (h:IsF f q) (d:qb2 q 3900): ∃r,qam N f=some r/\IsZ r q.floor:=by
 obtain⟨a,b,e,j,u⟩:=qeA (N:=N) (by omega) h.1 h.2 d.1 d.2 (by have:=q.den_pos;omega)
 refine⟨a,?_,?_⟩
 ·unfold qam
  rw[e,ZB]
 rw[Rat.floor_def]
 exact j
theorem qp5 {m n:Nat} (h:m<=n):(Lib.decDigits m).length<=(Lib.decDigits n).length:=by
 have d:=qf1 n
 exact(xu d).2 (Nat.lt_of_le_of_lt h ((xu d).1 (Nat.le_refl _)))
theorem qi1 {q:Rat} {k:Nat} (h:Sml q k) (d:0<k):Sml ((q.floor:Int):Rat) k:=by
 constructor
 ·rw[Rat.num_intCast,Rat.floor_def]
  have:=vg q.num (show(0:Int)<(q.den:Int)by have:=q.den_pos;omega)
  exact Nat.le_trans (qp5 (by omega)) h.1
 rw[Rat.den_intCast]
 exact(xu d).2 (Nat.one_lt_pow (by omega) (by decide))
theorem qkJ {N:Nat} (hN:600000<N) {a b:Int} {B:Nat} (hB:B<=8000) (fa:zM a B) (h:0<b):qak N (rI a) (rI b)=some (rI (a/b)):=by
 have d:0<=(a.natAbs:Int)/b:=Int.ediv_nonneg (by omega) (by omega)
 have r0:=Int.emod_nonneg (a.natAbs:Int) (show b≠0 by omega)
 have r1:=Int.emod_lt_of_pos (a.natAbs:Int) h
 have dm:=Int.mul_ediv_add_emod (a.natAbs:Int) b
 have fq:zM ((a.natAbs:Int)/b) B:=zM.le (Int.le_trans (vg _ h) (Int.le_refl _)) fa.abs
 have ql:(dg E9 ((a.natAbs:Int)/b)).length<=B:=by
  have:=fq.len
  rw[show((((a.natAbs:Int)/b).natAbs:Nat):Int)=(a.natAbs:Int)/b by omega]at this
  exact this
 have eb:(rI b).w=dg E9 b:=by rw[rI_w,show(b.natAbs:Int)=b by omega]
 unfold qak
 rw[eb,rI_w,qjU (by omega) (by omega) h hB fa.abs,ZB]
 simp only
 by_cases hn:a<0
 ·rw[if_pos (show(rI a).neg=true from decide_eq_true hn),ZB]
  by_cases hr:(a.natAbs:Int)%b=0
  ·have u:dg E9 ((a.natAbs:Int)%b)=[]:=by rw[hr];rfl
   have j:a/b= -((a.natAbs:Int)/b):=by
    rw[show a= -(a.natAbs:Int)by omega,Int.natAbs_neg,Int.natAbs_natCast,Int.neg_ediv_of_dvd (Int.dvd_of_emod_eq_zero hr)]
   rw[u,if_neg (by simp),ZB,vP _ (zy E1 d).1 (by omega) (by omega),ZB,if_pos (show(rI a).neg=true from decide_eq_true hn),jg E1 d,j]
  have u: ¬(dg E9 ((a.natAbs:Int)%b)).length=0:=by
   intro c
   have:=jg E1 r0
   rw[List.eq_nil_of_length_eq_zero c]at this
   exact hr this.symm
  have j:a/b= -((a.natAbs:Int)/b+1):=by
   have:a=b*(-((a.natAbs:Int)/b+1))+(b-(a.natAbs:Int)%b):=by
    rw[Int.mul_neg,Int.mul_add,Int.mul_one]
    omega
   conv=>lhs;rw[this]
   rw[Int.add_comm,Int.add_mul_ediv_left _ _ (by omega),Int.ediv_eq_zero_of_lt (by omega) (by omega),Int.zero_add]
  obtain⟨l,e,hd,hl,hv⟩:=qfV (N:=N) (zy E1 d).1 (b:=[1]) (by rw[<-qlu];exact(zy E1 (by decide)).1) (by omega) (by decide) (by omega)
  rw[decide_eq_true (show((dg E9 ((a.natAbs:Int)%b)).length:Int)>0 by omega),if_pos rfl,e,ZB,ZB,vP _ hd (by omega) (by omega),ZB,if_pos (show(rI a).neg=true from decide_eq_true hn),hv,jg E1 d,show dv E9 [1]=1 from rfl,j]
 rw[if_neg (show¬(rI a).neg=true from fun c=>hn (of_decide_eq_true c)),ZB,if_neg (by simp),ZB,vP _ (zy E1 d).1 (by omega) (by omega),ZB,if_neg (show¬(rI a).neg=true from fun c=>hn (of_decide_eq_true c)),jg E1 d,show(a.natAbs:Int)=a by omega]
theorem qkR {q:Rat} (h:q.den=1):((q.floor:Int):Rat)=q:=by
 apply Rat.ext
 ·rw[Rat.num_intCast,Rat.floor_def,h]
  exact Int.ediv_one _
 rw[Rat.den_intCast,h]
theorem qmS {N:Nat} (hN:600000<N) {q:Rat} {k:Nat} (d:0<k) (hk:k<=4000) (h:Sml q k):qbL N (T q)=some (T ((q.floor:Int):Rat)):=by
 have hl:=qi6 h
 have W:vL N (T q)=some (decide (q.den=1)):=by
  unfold vL
  rw[qce (by omega) (by omega),ZB]
  by_cases c:q.den=1
  ·rw[(qez q c).2,decide_eq_true c,decide_eq_true rfl]
  have:=(qfI q c).1
  rw[decide_eq_false c,decide_eq_false (by omega)]
 unfold qbL
 rw[W,ZB]
 by_cases c:q.den=1
 ·rw[if_pos (decide_eq_true c),qkR c]
 rw[if_neg (fun x=>c (of_decide_eq_true x)),qb3 hN (h.mono hk),ZB]
 have j:=qcB (n:=500) h d (by omega)
 have hd:=den_pos q
 have u:zM (q.num/(q.den:Int)) 500:=zM.le (Int.le_trans (vg _ (by omega)) (Int.le_refl _)) j
 simp only
 rw[qkJ hN (by omega) j (by omega),ZB,qgZ (by omega) (u.mono (by omega)),ZB]
 unfold T
 rw[Rat.num_intCast,Rat.den_intCast,if_pos rfl,YQ,Rat.floor_def]
end Go.Av
end
section
namespace Go.Av
open Classical
theorem qih {q:Rat} {k:Nat} (d:0<k) (h:(T q).length<=k):Sml q k:=by
 have j:(Lib.decDigits q.num.natAbs).length<=(Lib.itoa q.num).length:=by
  by_cases c:q.num<0
  ·rw[vO c,Yr]
   omega
  rw[zN c]
  exact Nat.le_refl _
 unfold T at h
 rw[Yq]at h
 refine⟨by omega,?_⟩
 by_cases c:q.den=1
 ·rw[c]
  exact(xu d).2 (Nat.one_lt_pow (by omega) (by decide))
 rw[if_neg c,Yr]at h
 omega
theorem qjq {s:Str} {k:Nat} (d:0<k) (j:s.length<=k) (h:chk s=0): ∃q:Rat,s=T q/\Sml q k/\chk (T q)=0:=by
 obtain⟨q,rfl,_,_⟩:=qii h
 exact⟨q,rfl,qih d j,h⟩
theorem ncmp {N:Nat} (hN:600000<N) {p q:Rat} (hp:Sml p 600) (hq:Sml q 600): ∃f g,jV N (T p)=some f/\jV N (T q)=some g/\xq N f g=some (if p<q then-1 else if p=q then 0 else 1):=by
 have j:=yY (n:=32) hp (by omega) (by omega)
 have f2:=yY (n:=32) hq (by omega) (by omega)
 obtain⟨f,u,i1⟩:=qbB hN (hp.mono (show 600<=9000 by omega))
 obtain⟨g,d,h⟩:=qbB hN (hq.mono (show 600<=9000 by omega))
 exact⟨f,g,u,d,qqe hN i1 h (n:=32) (by omega) j f2⟩
theorem qgg {p q:Rat}:((if p<q then-1 else if p=q then 0 else 1:Int)>0)↔q<p:=by
 by_cases h:p<q
 ·rw[if_pos h]
  exact⟨fun c=>absurd c (by decide),fun c=>absurd c (Rat.not_lt.2 (Rat.le_of_lt h))⟩
 rw[if_neg h]
 by_cases e:p=q
 ·rw[if_pos e]
  exact⟨fun c=>absurd c (by decide),fun c=>absurd (e▸c) Rat.lt_irrefl⟩
 rw[if_neg e]
 refine⟨fun _=>?_,fun _=>by decide⟩
 exact Rat.lt_of_le_of_ne (Rat.not_lt.1 h) (Ne.symm e)
def IsL:List qJ->List Rat->Prop
 |[],[]=>True
 |f::l,q::r=>IsF f q/\IsL l r
 |_,_=>False
theorem IsL.get: ∀{l:List qJ} {r:List Rat},IsL l r->l.length=r.length/\ ∀(i:Nat) (q:Rat),r[i]? =some q-> ∃f,l[i]? =some f/\IsF f q
 |[],[],_=>⟨rfl,fun i q h=>by simp at h⟩
 |f::l,q::r,h=>by
  obtain⟨j,d⟩:=h
  obtain⟨a,b⟩:=IsL.get d
  refine⟨by simp[a],fun i x hx=>?_⟩
  match i,hx with
  |0,hx=>
   simp at hx
   exact⟨f,rfl,hx▸j⟩
  |i+1,hx=>
   rw[List.getElem?_cons_succ]at hx⊢
   exact b i x hx
 |[],_::_,h=>h.elim
 |_::_,[],h=>h.elim
end Go.Av
end
section
namespace Go.Av
theorem qpq {q:Rat}:0<q.num↔0<q:=by
 have j:=Rat.num_nonneg (q:=q)
 have d:=Rat.num_eq_zero (q:=q)
 constructor
 ·intro h
  exact Rat.lt_of_le_of_ne (j.1 (by omega)) (fun e=>by have:=d.2 e.symm;omega)
 intro h
 have h3:=j.2 (Rat.le_of_lt h)
 have u:q.num≠0:=fun e=>Rat.ne_of_gt h (d.1 e)
 omega
theorem qkc {f:qJ} {q:Rat} (h:IsF f q):qaF f=some (if q.num<0 then-1 else if q.num=0 then 0 else 1):=by
 unfold qaF
 rw[qdC h.1,ZB]
theorem qmH {q:Rat}:((if q.num<0 then-1 else if q.num=0 then 0 else 1:Int)<=0)↔q<=0:=by
 rw[<-Rat.not_lt,<-qpq]
 constructor
 ·intro h c
  rw[if_neg (by omega),if_neg (by omega)]at h
  omega
 intro h
 split
 ·omega
 rw[if_pos (by omega)]
 omega
section ops
variable {N:Nat} (hN:600000<N)
include hN
variable {p p' q q':Rat} (hp:Sml p 60) (hp':Sml p' 60) (hq:Sml q 60) (hq':Sml q' 60) (cp:chk (T p)=0) (cp':chk (T p')=0) (cq:chk (T q)=0) (cq':chk (T q')=0) (hpp:p<=p') (hqq:q<=q')
include hp hp' hq hq' cp cp' cq cq' hpp hqq
end ops
end Go.Av
end
section
namespace Go.Av
theorem tdm {n:Int}:((n.tdiv 1000000000).natAbs:Int)=(n.natAbs:Int)/1000000000/\((n.tmod 1000000000).natAbs:Int)=(n.natAbs:Int)%1000000000/\(n.tmod 1000000000<0->n<0):=by
 rcases Int.lt_or_le n 0 with h|h
 ·obtain⟨m,rfl⟩: ∃m,n= -m:=⟨-n,by omega⟩
  rw[Int.neg_tdiv,Int.neg_tmod,YF (by omega),Int.tmod_eq_emod_of_nonneg (by omega)]
  omega
 rw[YF h,Int.tmod_eq_emod_of_nonneg h]
 omega
theorem qkq: ∀(k K:Nat) (l:List Int) (n:Int),(n.natAbs:Int)<E9^k->k<=3->k<K-> -9223372036854775808<=n->n<=9223372036854775807->l.length+k<=1000-> ∃w,zO K l n=some (l++w)/\Dg E9 w/\dv E9 w=(n.natAbs:Int)/\w.length<=k
 |k,0,l,n,_,_,hK,_,_,_=>by omega
 |k,K+1,l,n,hn,hk,hK,h1,h2,hl=>by
  rw[zO]
  by_cases h0:n=0
  ·rw[if_neg (by simp[h0]),h0]
   exact⟨[],by simp,Dg.nil,rfl,by simp⟩
  match k,hn,hk,hK with
  |0,hn,hk,hK=>
   rw[Int.pow_zero]at hn
   omega
  |k+1,hn,hk,hK=>
   obtain⟨d,t2,t3⟩:=tdm (n:=n)
   have h:(if n.tmod 1000000000<0 then some (w64 (0-n.tmod 1000000000))else some (n.tmod 1000000000):Option Int)=some ((n.natAbs:Int)%1000000000):=by
    by_cases c:n.tmod 1000000000<0
    ·rw[if_pos c,qf (by omega) (by omega)]
     congr 1
     omega
    rw[if_neg c]
    congr 1
    omega
   have e9:E9^(k+1)=E9^k*E9:=Int.pow_succ ..
   have hq:((n.tdiv 1000000000).natAbs:Int)<E9^k:=by
    rw[d]
    exact Int.ediv_lt_of_lt_mul (by decide) (by rw[<-e9];exact hn)
   rw[if_pos (by simp[h0]),h,ZB,qcP (by simp;omega) (by simp;omega),ZB,qf (by omega) (by omega)]
   obtain⟨w,e,j,u,d3⟩:=qkq k K (l++[(n.natAbs:Int)%1000000000]) (n.tdiv 1000000000) hq (by omega) (by omega) (by omega) (by omega) (by simp;omega)
   refine⟨(n.natAbs:Int)%1000000000::w,by rw[e,Yz];rfl,Dg.cons ⟨by omega,by show _<(1000000000:Int);omega⟩ j,?_,by simp;omega⟩
   rw[zl,u,d]
   show(n.natAbs:Int)%1000000000+1000000000*((n.natAbs:Int)/1000000000)=_
   omega
theorem qnP {N:Nat} (hN:100<N) {n:Int} (d: -9223372036854775808<=n) (u:n<=9223372036854775807):vM N n=some (rI n):=by
 obtain⟨w,e,j,d2,d3⟩:=qkq 3 N [] n (by show _<(1000000000:Int)^3;omega) (by omega) (by omega) d u (by simp)
 unfold vM
 rw[e,ZB,List.nil_append,vP _ j (by omega) (by omega),ZB,d2]
 congr 2
 by_cases c:n<0
 ·rw[if_pos (decide_eq_true c)]
  omega
 rw[if_neg (fun h=>c (of_decide_eq_true h))]
 omega
theorem qqv (n:Int):T (n:Rat)=Lib.itoa n:=by
 unfold T
 rw[Rat.num_intCast,Rat.den_intCast,if_pos rfl,YQ]
theorem qpy {n:Int} (h: -9223372036854775808<=n) (d:n<=9223372036854775807):zM n 3:=by
 show(n.natAbs:Int)<(1000000000:Int)^3
 omega
theorem qhw {N:Nat} (hN:60000<N) {n:Int} (h: -9223372036854775808<=n) (d:n<=9223372036854775807):yK N n=some (T (n:Rat)):=by
 unfold yK
 rw[qnP (by omega) h d,ZB,qgZ hN ((qpy h d).mono (by omega)),ZB,qqv]
theorem qqo {n:Int} (h: -9223372036854775808<=n) (d:n<=9223372036854775807):Sml (n:Rat) 27:=by
 refine qkD (n:=3) ?_ ?_ (by omega)
 ·rw[Rat.num_intCast]
  exact qpy h d
 rw[Rat.den_intCast]
 exact qpy (by decide) (by decide)
def bst (x b y:Rat):Rat:=if(x-y).abs<(x-b).abs then y else b
def cnd (x:Rat) (i:Nat):Rat:=Rat.divInt ((x*((i/2:Nat):Rat)).floor+((i%2:Nat):Int)) ((i/2:Nat):Int)
def Fst (x b:Rat) (n:Nat):Prop:= ∃i,2<=i/\i<n/\b=cnd x i/\ ∀j,2<=j->j<n->(x-b).abs<(x-cnd x j).abs\/((x-b).abs=(x-cnd x j).abs/\i<=j)
theorem Fst.step {x b:Rat} {n:Nat} (h:Fst x b n):Fst x (bst x b (cnd x n)) (n+1):=by
 obtain⟨i,u,h2,h3,d⟩:=h
 unfold bst
 by_cases c:(x-cnd x n).abs<(x-b).abs
 ·rw[if_pos c]
  refine⟨n,by omega,by omega,rfl,fun j j1 j2=>?_⟩
  by_cases e:j=n
  ·exact .inr ⟨by rw[e],by omega⟩
  rcases d j j1 (by omega)with k|⟨k,_⟩
  ·exact .inl (qqy c k)
  exact .inl (k▸c)
 rw[if_neg c]
 refine⟨i,u,by omega,h3,fun j j1 j2=>?_⟩
 by_cases e:j=n
 ·rw[e]
  rcases Rat.le_iff_lt_or_eq.1 (Rat.not_lt.1 c)with k|k
  ·exact .inl k
  exact .inr ⟨k,by omega⟩
 exact d j j1 (by omega)
end Go.Av
end
section
namespace Go.Av
theorem qon {n:Nat}:Lib.decDigits n=[48]↔n=0:=by
 constructor
 ·intro h
  exact qlN (h.trans (by rw[jc (by decide)];rfl))
 rintro rfl
 rw[jc (by decide)]
 rfl
theorem qq4 {n:Nat}:Lib.decDigits n=[49]↔n=1:=by
 constructor
 ·intro h
  exact qlN (h.trans (by rw[jc (by decide)];rfl))
 rintro rfl
 rw[jc (by decide)]
 rfl
theorem qqD {q:Rat} (h:Sml q 600):chk (T q)=0:=by
 have a1:=qpt (qaM q.num.natAbs)
 have es:=qim a1 q
 have et:(bdy (T q)).take (slA (bdy (T q)))=Lib.decDigits q.num.natAbs:=by
  rw[qky,es,List.take_append_of_le_length (Nat.le_refl _),List.take_length]
 have hd:=den_pos q
 have ed:slA (bdy (T q))<(bdy (T q)).length↔q.den≠1:=by
  rw[qky,es,Yq]
  unfold tl
  by_cases c:q.den=1
  ·rw[if_pos c]
   simp[c]
  rw[if_neg c]
  simp[c]
 have er:(bdy (T q)).drop (slA (bdy (T q))+1)=if q.den=1 then[]else Lib.decDigits q.den:=by
  rw[qky,es]
  unfold tl
  by_cases c:q.den=1
  ·rw[if_pos c,if_pos c,YQ,List.drop_of_length_le (by omega)]
  rw[if_neg c,if_neg c,List.drop_append,List.drop_of_length_le (by omega),List.nil_append,show(Lib.decDigits q.num.natAbs).length+1-(Lib.decDigits q.num.natAbs).length=1 by omega]
  rfl
 have a0:okF (T q)=true:=by
  unfold okF
  rw[et,qkG]
  refine decide_eq_true ⟨qnB _,?_⟩
  rintro⟨j,d⟩
  have j:=of_decide_eq_true j
  have:=qon.1 d
  omega
 have u:qhl (T q)=false:=by
  unfold qhl
  refine decide_eq_false ?_
  rintro⟨j,d⟩
  have c:=ed.1 j
  rw[er,if_neg c]at d
  exact d ⟨qnB _,fun e=>by have:=qon.1 e;omega,fun e=>c (qq4.1 e)⟩
 unfold chk
 rw[if_neg (by rw[a0,u];simp),et,er,if_neg,if_neg]
 ·rintro⟨j,d⟩
  have c:=ed.1 j
  rw[if_neg c,qbT,qbT]at d
  exact d q.reduced
 have j:=h.1
 have d:=h.2
 split<;>simp<;>omega
theorem dec_T (n:Nat):Lib.decDigits n=T ((n:Int):Rat):=by rw[qqv,qeD]
theorem qob {N:Nat} (hN:600000<N) {n:Nat} (hn:n<1000000000):qaV N (Lib.decDigits n)=some ((n:Int),true):=by
 have hl:(Lib.decDigits n).length<=9:=(xu (by omega)).2 hn
 have h:=qaM n
 obtain⟨b1,j⟩:=qbe h
 have hw:vL N (Lib.decDigits n)=some true:=by
  unfold vL
  rw[qce (by omega) (by omega),ZB,qg8 (qpt h),decide_eq_true rfl]
 have hp:yB N (Lib.decDigits n)=some (rI (n:Int)):=by
  rw[qft (by omega) (by rw[j];exact h) (by rw[j];omega),qcd h,qbT]
 unfold qaV
 rw[hw,ZB,if_neg (by simp),decide_eq_false (by omega),ZB,if_neg (by simp),hp,ZB,rI_w,show(((n:Int).natAbs:Nat):Int)=(n:Int)by omega]
 obtain⟨K,hK⟩: ∃K,N=K+1+1:=⟨N-2,by omega⟩
 have L: ∀m:Int,zU (rI (n:Int)) N 0 m=zU (rI (n:Int)) (K+1+1) 0 m:=fun m=>by rw[<-hK]
 have d:(rI (n:Int)).neg=false:=by
  show decide ((n:Int)<0)=false
  exact decide_eq_false (by omega)
 by_cases h0:n=0
 ·subst h0
  rw[show dg E9 ((0:Nat):Int)=[]from rfl,L,zU,if_neg (by decide),ZB]
  rfl
 have u:dg E9 (n:Int)=[(n:Int)]:=qid (by omega) (by show(n:Int)<1000000000;omega)
 rw[u,L,show w64 ((([(n:Int)]:List Int).length:Int)-1)=((0:Nat):Int)from rfl,zU,if_pos (by decide),rI_w,show(((n:Int).natAbs:Nat):Int)=(n:Int)by omega,u,qz,Yj,ZB,d,if_neg (by simp),ZB,if_neg (by decide),if_neg (by decide),if_neg (by decide),if_neg (by decide),ZB,if_neg (by simp),show w64 (w64 (0*1000000000)+(n:Int))=(n:Int)by rw[show w64 (0*1000000000)=0 from rfl,Int.zero_add,qf (by omega) (by omega)],show w64 (((0:Nat):Int)-1)= -1 from rfl,zU,if_neg (by decide),ZB]
end Go.Av
end
section
namespace Go.Av
theorem F_eq {n:Int} (h: -9223372036854775808<=n) (d:n<=9223372036854775807): ∃f,qkS n=some f/\IsF f (n:Rat):=by
 obtain⟨f,e,i⟩:=qkA (Ud h d)
 refine⟨f,?_,i⟩
 unfold qkS
 rw[qhU,ZB,e,ZB]
theorem qjX (r:Rat):r-(r.floor:Rat)=Rat.divInt (r.num%(r.den:Int)) (r.den:Int):=by
 have h:((r.den:Int):Rat)≠0:=by
  rw[Ne,Rat.intCast_eq_zero_iff]
  have:=r.den_pos
  omega
 have e:(r-(r.floor:Rat))*((r.den:Int):Rat)=((r.num%(r.den:Int):Int):Rat):=by
  rw[Rat.sub_eq_add_neg,Rat.add_mul,qqd,Rat.floor_def,Int.emod_def,Rat.intCast_sub,Rat.intCast_mul]
  grind
 rw[Rat.divInt_eq_div,<-e,Rat.mul_div_cancel h]
theorem qm2 {r:Rat} {n:Nat} (h:qb2 r n):qb2 (r-(r.floor:Rat)) n:=by
 rw[qjX]
 have d:=r.den_pos
 refine qlc (by omega) ?_ h.2
 refine qby ?_ h.2
 have:=Int.emod_nonneg r.num (show(r.den:Int)≠0 by omega)
 have:=Int.emod_lt_of_pos r.num (show(0:Int)<(r.den:Int)by omega)
 omega
theorem qld {x:Rat} {n:Nat} (h:qb2 x n):x<=((W^n:Int):Rat)/\ -((W^n:Int):Rat)<=x:=by
 have u:=x.den_pos
 have j:(x.num.natAbs:Int)<W^n:=h.1
 have hp:(0:Int)<=W^n:=by omega
 have d:W^n*1<=W^n*(x.den:Int):=Yc (by omega) hp
 rw[<-Rat.intCast_neg]
 constructor
 ·rw[Rat.le_iff,Rat.num_intCast,Rat.den_intCast]
  omega
 rw[Rat.le_iff,Rat.num_intCast,Rat.den_intCast,Int.neg_mul]
 omega
theorem qoa {x:Rat} {n m:Nat} (hx:qb2 x n) {c d:Int} (u:0<=d) (hd:d<=m) (hm:m<=1000) (h1:(c:Rat)-x*(d:Rat)<=1) (h2: -1<=(c:Rat)-x*(d:Rat)):Fit c (n+1):=by
 obtain⟨b1,b2⟩:=qld hx
 have h:(0:Rat)<=(d:Rat):=Rat.intCast_nonneg.2 u
 have hW:(1:Int)<=W^n:=pow_pos (show(0:Int)<W by decide) n
 have m1:=Rat.mul_le_mul_of_nonneg_right b1 h
 have m2:=Rat.mul_le_mul_of_nonneg_right b2 h
 have u1:(c:Rat)<=((W^n*d+1:Int):Rat):=by
  rw[Rat.intCast_add,Rat.intCast_mul,show((1:Int):Rat)=1 from rfl]
  grind
 have j:((-(W^n*d+1):Int):Rat)<=(c:Rat):=by
  rw[Rat.intCast_neg,Rat.intCast_add,Rat.intCast_mul,show((1:Int):Rat)=1 from rfl]
  grind
 rw[Rat.intCast_le_intCast]at u1 j
 have m3:W^n*d<=W^n*1000:=Yc (by omega) (by omega)
 have e:W^(n+1)=W^n*W:=Int.pow_succ ..
 have m4:W^n*1001<W^n*W:=Int.mul_lt_mul_of_pos_left (by decide) (by omega)
 unfold Fit
 omega
structure Cvg (x:Rat) (m:Nat) (a b c d:Int) (r:Rat):Prop where
 b0:0<=b
 d0:0<=d
 bm:b<=m
 dm:d<=m
 st:(b=1/\d=0)\/(1<=d/\1<r)
 fr:qb2 r 4
 za:Fit a 5
 zc:Fit c 5
 eq:x*((d:Rat)*r+(b:Rat))=(c:Rat)*r+(a:Rat)
 det:c*b-d*a=1\/c*b-d*a= -1
theorem qnj {r:Rat} (h:1<r):1<=r.floor:=by
 rw[Rat.le_floor_iff]
 exact Rat.le_of_lt h
theorem Cvg.next {x:Rat} {m:Nat} {a b c d:Int} {r:Rat} (h:Cvg x m a b c d r) (hm1:1<=m) (hm:m<=1000) (fx:qb2 x 4) (hd:d*r.floor+b<=m) (hr:r≠(r.floor:Rat)):
 Cvg x m c d (c*r.floor+a) (d*r.floor+b) (r-(r.floor:Rat))⁻¹/\1<=d*r.floor+b/\b+d+1<=d+(d*r.floor+b)+(if d=0 then 1 else 0):=by
 have j:0<r-(r.floor:Rat):=by
  rw[<-Rat.lt_iff_sub_pos]
  exact Rat.lt_of_le_of_ne (Rat.floor_le _) (Ne.symm hr)
 have hlt:r-(r.floor:Rat)<1:=by
  have:=Rat.lt_floor_add_one r
  rw[Rat.intCast_add,show((1:Int):Rat)=1 from rfl]at this
  grind
 have hne:r-(r.floor:Rat)≠0:=Rat.ne_of_gt j
 have k1:1<=d*r.floor+b/\b+d+1<=d+(d*r.floor+b)+(if d=0 then 1 else 0):=by
  rcases h.st with⟨e1,e2⟩|⟨e1,e2⟩
  ·rw[e1,e2]
   simp
  have f1:=qnj e2
  have:=Yc f1 h.d0
  have:=h.b0
  rw[if_neg (by omega)]
  omega
 have u:=Rat.mul_inv_cancel _ hne
 have hs:(1:Rat)<(r-(r.floor:Rat))⁻¹:=by
  have p:=Rat.inv_pos.2 j
  have:=Rat.mul_lt_mul_of_pos_right hlt p
  rw[u,Rat.one_mul]at this
  exact this
 generalize hg:(r-(r.floor:Rat))⁻¹=s at*
 have er:r=(r.floor:Rat)+s⁻¹:=by
  rw[<-hg,Rat.inv_inv]
  grind
 generalize hk:r.floor=k at*
 have es:(r-(k:Rat))*s=1:=u
 have e2:x*(((d*k+b:Int):Rat)*s+(d:Rat))=((c*k+a:Int):Rat)*s+(c:Rat):=by
  have h1:=h.eq
  rw[Rat.intCast_add,Rat.intCast_mul,Rat.intCast_add,Rat.intCast_mul]
  have h2:x*((d:Rat)*r+(b:Rat))*s=((c:Rat)*r+(a:Rat))*s:=by rw[h1]
  have h3:r*s=1+(k:Rat)*s:=by grind
  have h4:x*((d:Rat)*(r*s)+(b:Rat)*s)=(c:Rat)*(r*s)+(a:Rat)*s:=by grind
  rw[h3]at h4
  grind
 have dt:(c*k+a)*d-(d*k+b)*c=1\/(c*k+a)*d-(d*k+b)*c= -1:=by
  have:(c*k+a)*d-(d*k+b)*c= -(c*b-d*a):=by grind
  rcases h.det with e|e
  ·right;rw[this,e]
  left;rw[this,e];rfl
 refine⟨?_,k1⟩
 have D1:(1:Rat)<=((d*k+b:Int):Rat)*s+(d:Rat):=by
  have a1:(1:Rat)<=((d*k+b:Int):Rat):=by
   have:=Rat.intCast_le_intCast.2 k1.1
   exact this
  have a2:(0:Rat)<=(d:Rat):=Rat.intCast_nonneg.2 h.d0
  have a3:=Rat.mul_le_mul_of_nonneg_right a1 (show(0:Rat)<=s from Rat.le_trans (by decide) (Rat.le_of_lt hs))
  rw[Rat.one_mul]at a3
  have:=Rat.le_of_lt hs
  grind
 have zz:(((c*k+a:Int):Rat)-x*((d*k+b:Int):Rat))*(((d*k+b:Int):Rat)*s+(d:Rat))=(((c*k+a)*d-(d*k+b)*c:Int):Rat):=by
  rw[Rat.intCast_sub,Rat.intCast_mul,Rat.intCast_mul]
  generalize ((c*k+a:Int):Rat)=C at*
  generalize ((d*k+b:Int):Rat)=E at*
  generalize (c:Rat)=c' at*
  generalize (d:Rat)=d' at*
  have:(C-x*E)*(E*s+d')=C*(E*s+d')-E*(x*(E*s+d')):=by grind
  rw[this,e2]
  grind
 have hz:((c*k+a:Int):Rat)-x*((d*k+b:Int):Rat)<=1/\ -1<=((c*k+a:Int):Rat)-x*((d*k+b:Int):Rat):=by
  generalize ((c*k+a:Int):Rat)-x*((d*k+b:Int):Rat)=z at*
  generalize ((d*k+b:Int):Rat)*s+(d:Rat)=D at*
  have hD0:(0:Rat)<=D:=Rat.le_trans (by decide) D1
  have hb:z*D=1\/z*D= -1:=by
   rw[zz]
   rcases dt with e|e
   ·left;rw[e];rfl
   right;rw[e];rfl
  constructor
  ·rw[<-Rat.not_lt]
   intro hc
   have:=Rat.mul_lt_mul_of_pos_right hc (show(0:Rat)<D by grind)
   rw[Rat.one_mul]at this
   grind
  rw[<-Rat.not_lt]
  intro hc
  have:=Rat.mul_lt_mul_of_pos_right hc (show(0:Rat)<D by grind)
  grind
 exact {b0:=h.d0,d0:=by omega,bm:=h.dm,dm:=hd,st:= .inr ⟨k1.1,hs⟩,fr:=by rw[<-hg];exact qkY (by rw[<-hk];exact qm2 h.fr) (by omega),za:=h.zc,zc:=qoa fx (by omega) hd hm hz.1 hz.2,eq:=e2,det:=dt}
end Go.Av
end
section
namespace Go.Av
theorem qgY {N:Nat} (hN:10<N) (a b:Int):zI N [a,b]=some (if a=0 then b else a):=by
 obtain⟨K,rfl⟩: ∃K,N=K+1+1+1:=⟨N-3,by omega⟩
 have j:w64 1=1:=rfl
 have u:w64 2=2:=rfl
 have d: ∀a b:Int,idx [a,b] 0=some a:=fun _ _=>rfl
 have h: ∀a b:Int,idx [a,b] 1=some b:=fun _ _=>rfl
 unfold zI
 by_cases ha:a=0
 ·by_cases hb:b=0
  ·simp[qj,d,h,ha,hb,j,u]
  simp[qj,d,h,ha,hb,j,u]
 simp[qj,d,ha]
theorem qmr {N:Nat} (hN:10<N) (a b c:Int):zI N [a,b,c]=some (if a=0 then(if b=0 then c else b)else a):=by
 obtain⟨K,rfl⟩: ∃K,N=K+1+1+1+1:=⟨N-4,by omega⟩
 have j:w64 1=1:=rfl
 have u:w64 2=2:=rfl
 have w3:w64 3=3:=rfl
 have d: ∀a b c:Int,idx [a,b,c] 0=some a:=fun _ _ _=>rfl
 have h: ∀a b c:Int,idx [a,b,c] 1=some b:=fun _ _ _=>rfl
 have i2: ∀a b c:Int,idx [a,b,c] 2=some c:=fun _ _ _=>rfl
 unfold zI
 by_cases ha:a=0
 ·by_cases hb:b=0
  ·by_cases hc:c=0
   ·simp[qj,d,h,i2,ha,hb,hc,j,u,w3]
   simp[qj,d,h,i2,ha,hb,hc,j,u,w3]
  simp[qj,d,h,ha,hb,j,u]
 simp[qj,d,ha]
theorem qph {N:Nat} (hN:10<N) (a b:Int):jB N [a,b]=some (if a=0 then b else a):=by
 obtain⟨K,rfl⟩: ∃K,N=K+1+1+1:=⟨N-3,by omega⟩
 have j:w64 1=1:=rfl
 have u:w64 2=2:=rfl
 have d: ∀a b:Int,idx [a,b] 0=some a:=fun _ _=>rfl
 have h: ∀a b:Int,idx [a,b] 1=some b:=fun _ _=>rfl
 unfold jB
 by_cases ha:a=0
 ·by_cases hb:b=0
  ·simp[zb,d,h,ha,hb,j,u]
  simp[zb,d,h,ha,hb,j,u]
 simp[zb,d,ha]
theorem qhD {N:Nat} (hN:10<N) (a b c:Int):jB N [a,b,c]=some (if a=0 then(if b=0 then c else b)else a):=by
 obtain⟨K,rfl⟩: ∃K,N=K+1+1+1+1:=⟨N-4,by omega⟩
 have j:w64 1=1:=rfl
 have u:w64 2=2:=rfl
 have w3:w64 3=3:=rfl
 have d: ∀a b c:Int,idx [a,b,c] 0=some a:=fun _ _ _=>rfl
 have h: ∀a b c:Int,idx [a,b,c] 1=some b:=fun _ _ _=>rfl
 have i2: ∀a b c:Int,idx [a,b,c] 2=some c:=fun _ _ _=>rfl
 unfold jB
 by_cases ha:a=0
 ·by_cases hb:b=0
  ·by_cases hc:c=0
   ·simp[zb,d,h,i2,ha,hb,hc,j,u,w3]
   simp[zb,d,h,i2,ha,hb,hc,j,u,w3]
  simp[zb,d,h,ha,hb,j,u]
 simp[zb,d,ha]
theorem qiw (n:Int):qaW n 1 999999999=some (if n<1\/999999999<n then 3 else 0):=by
 unfold qaW jr
 by_cases h1:n<1
 ·simp[h1]
 by_cases h2:999999999<n
 ·simp[h1,h2]
 simp[h1,h2]
theorem qnM {N:Nat} (hN:600000<N) {s:Str} (j:s.length<=600): ∃e,qaE N s=some e/\xX N s=some e/\(e=0-> ∃q:Rat,s=T q/\Sml q 600/\0<q):=by
 unfold qaE qbw xX jr
 rw[qf6 hN (by omega),qga hN (by omega),ZB,ZB]
 by_cases hc:chk s=0
 ·obtain⟨q,rfl,sq,_⟩:=qjq (by omega) j hc
  obtain⟨f,u,i1⟩:=qbB hN (sq.mono (show 600<=9000 by omega))
  rw[hc,if_neg (by decide),if_pos rfl,u,ZB,qkc i1,ZB,qjH,ZB]
  by_cases h:q<=0
  ·have d:=(qmH (q:=q)).2 h
   refine⟨3,?_,?_,fun c=>absurd c (by decide)⟩
   ·rw[if_pos (decide_eq_true (Int.lt_of_le_of_lt d (by decide)))];rfl
   rw[decide_eq_true d];rfl
  have d: ¬_<=(0:Int):=fun c=>h ((qmH (q:=q)).1 c)
  refine⟨0,?_,?_,fun _=>⟨q,rfl,sq,Rat.not_le.1 h⟩⟩
  ·rw[if_neg (by rw[decide_eq_true_eq];omega)];rfl
  rw[decide_eq_false d];rfl
 refine⟨chk s,?_,?_,fun c=>absurd c hc⟩
 ·rw[if_pos (by simp[hc])];rfl
 rw[if_neg hc];rfl
def qm9 (q:Rat):Str×Int:=if qix q=true then([],4)else(T q,0)
theorem qh2 {N:Nat} (hN:600000<N) {f:qJ} {q:Rat} (h:IsF f q) (d:qb2 q 3900):qaT N f=some (qm9 q):=by
 unfold qaT qm9
 rw[qnV hN h d,ZB]
 by_cases c:qix q=true
 ·rw[if_pos c,if_pos c]
 rw[if_neg c,if_neg c,qp8 hN h d,ZB]
theorem qpA {N:Nat} (hN:600000<N) {q:Rat} {k:Nat} (h:Sml q k) (u:k<=9000):qaj N (T q) 0=some (qm9 q):=by
 have L:xZ N [T q]=some (if qix q=true then 4 else 0):=by
  obtain⟨K,hK⟩: ∃K,N=K+1+1:=⟨N-2,by omega⟩
  have l:=qqr (N:=N) (by omega) h u
  have j:w64 (0+1)=1:=rfl
  have d:idx [T q] 0=some (T q):=rfl
  unfold xZ
  by_cases c:qix q=true
  ·rw[if_pos c]at l
   have e:qF N [T q] N 0=some (.inr 4):=by
    rw[show qF N [T q] N 0=qF N [T q] (K+1+1) 0 by rw[<-hK],qF,if_pos (show(0:Int)<(([T q]:List Str).length:Int)from Int.zero_lt_one),d,ZB,l,ZB,if_pos (by decide)]
   rw[e,if_pos c];rfl
  rw[if_neg c]at l
  have e:qF N [T q] N 0=some (.inl ()):=by
   rw[show qF N [T q] N 0=qF N [T q] (K+1+1) 0 by rw[<-hK],qF,if_pos (show(0:Int)<(([T q]:List Str).length:Int)from Int.zero_lt_one),d,ZB,l,ZB,if_neg (by decide),j,qF,if_neg (show¬(1:Int)<(([T q]:List Str).length:Int)from Int.lt_irrefl 1)]
  rw[e,if_neg c];rfl
 unfold qaj qm9
 rw[if_pos rfl,L,ZB,ZB]
 by_cases c:qix q=true
 ·rw[if_pos c,if_pos c];rfl
 rw[if_neg c,if_neg c];rfl
theorem qqO {N:Nat} (s:Str) {e:Int} (h:e≠0):qaj N s e=some ([],e):=by
 unfold qaj
 rw[if_neg h,ZB,if_pos (by simp[h])]
theorem qgO {p q:Rat} {n:Nat} (h:0<n) (hp:Sml p (9*n)) (hq:Sml q (9*n)) (d:q≠0):Sml (p/q) (9*(n+n)):=by
 rw[Rat.div_def]
 exact qfz h hp (qmF hq d)
end Go.Av
end
section
namespace Go.Av
end Go.Av
end
section
namespace Go.Av
end Go.Av
end
section
namespace Go.Av
end Go.Av
end
section
namespace Go.Av
theorem qeF {n:Int} (j: -9223372036854775808<=n) (d:n<=9223372036854775807) {k:Nat} (h:27<=k):Sml (n:Rat) k:=(qqo j d).mono h
def qcV (q:Rat):Int:= -((-q).floor)
theorem qnv (q:Rat):q<=(qcV q:Rat):=by
 have:=Rat.floor_le (-q)
 unfold qcV
 rw[Rat.intCast_neg]
 grind
end Go.Av
end
section
namespace Go.Av
theorem qg2 {p q:Rat}:((if p<q then-1 else if p=q then 0 else 1:Int)=0)↔p=q:=by
 by_cases h:p<q
 ·rw[if_pos h]
  exact⟨fun c=>absurd c (by decide),fun c=>absurd (c▸h) Rat.lt_irrefl⟩
 rw[if_neg h]
 by_cases e:p=q
 ·rw[if_pos e]
  exact⟨fun _=>e,fun _=>rfl⟩
 rw[if_neg e]
 exact⟨fun c=>absurd c (by decide),fun c=>absurd c e⟩
end Go.Av
end
section
namespace Go.Av
theorem pick {x L M:Rat} {d f:Int} (nL:(L.den:Int)=d) (nM:(M.den:Int)=f) {c:Int}
 (j:c=if(if(x-L).abs<(x-M).abs then-1 else if(x-L).abs=(x-M).abs then 0 else 1:Int)=0 then(if(if(d:Rat)<(f:Rat)then-1 else if(d:Rat)=(f:Rat)then 0 else 1:Int)=0 then(if L<M then-1 else if L=M then 0 else 1)else(if(d:Rat)<(f:Rat)then-1 else if(d:Rat)=(f:Rat)then 0 else 1))else(if(x-L).abs<(x-M).abs then-1 else if(x-L).abs=(x-M).abs then 0 else 1)):
 (¬c>0->le3 x L M)/\(c>0->le3 x M L):=by
 by_cases h1:(x-L).abs=(x-M).abs
 ·rw[if_pos (qg2.2 h1)]at j
  by_cases u:(d:Rat)=(f:Rat)
  ·rw[if_pos (qg2.2 u)]at j
   have u:=Rat.intCast_inj.1 u
   constructor
   ·intro h
    rw[j]at h
    exact .inr ⟨h1,.inr ⟨by omega,Rat.not_lt.1 fun k=>h (qgg.2 k)⟩⟩
   intro h
   rw[j]at h
   exact .inr ⟨h1.symm,.inr ⟨by omega,Rat.le_of_lt (qgg.1 h)⟩⟩
  rw[if_neg (fun k=>u (qg2.1 k))]at j
  constructor
  ·intro h
   rw[j]at h
   have h:=Rat.not_lt.1 (fun k=>h (qgg.2 k))
   have h3:d≠f:=fun k=>u (by rw[k])
   have:=Rat.intCast_le_intCast.1 h
   exact .inr ⟨h1,.inl (by omega)⟩
  intro h
  rw[j]at h
  have:=Rat.intCast_lt_intCast.1 (qgg.1 h)
  exact .inr ⟨h1.symm,.inl (by omega)⟩
 rw[if_neg (fun k=>h1 (qg2.1 k))]at j
 constructor
 ·intro h
  rw[j]at h
  have h:=Rat.not_lt.1 (fun k=>h (qgg.2 k))
  exact .inl (Rat.lt_of_le_of_ne h h1)
 intro h
 rw[j]at h
 exact .inl (qgg.1 h)
end Go.Av
end
section
namespace Go.Av
end Go.Av
end
section
namespace Go.Av
theorem qpk {N:Nat} (hN:600000<N) {a b:Str} (ha:chk a=0) (hb:chk b=0): ∃f g c,jV N a=some f/\jV N b=some g/\xq N f g=some c/\qaS N a b=some c:=by
 obtain⟨p,rfl,j,h⟩:=qii ha
 obtain⟨q,rfl,u,d⟩:=qii hb
 obtain⟨f,g,e1,e2,e3⟩:=ncmp hN (p:=p) (q:=q) ⟨j,h⟩ ⟨u,d⟩
 exact⟨f,g,_,e1,e2,e3,qjM hN (k:=600) (by omega) (by omega) ⟨j,h⟩ ⟨u,d⟩⟩
end Go.Av
end
section
namespace Go.Av
theorem qh7 {N:Nat} (hN:600000<N) {s:Str} {k:Nat} (hk:0<k) (a0:k<=600) (u:s.length<=k): ∃e,zY N s=some e/\kL N s=some e/\(e=0-> ∃q:Rat,s=T q/\Sml q k/\0<=q):=by
 unfold zY qbw kL jr
 rw[qf6 hN (by omega),qga hN (by omega),ZB,ZB]
 by_cases hc:chk s=0
 ·obtain⟨q,rfl,sq,_⟩:=qjq hk u hc
  obtain⟨f,e1,i1⟩:=qbB hN (sq.mono (show k<=9000 by omega))
  rw[hc,if_neg (by decide),if_pos rfl,e1,ZB,qkc i1,ZB,qjH,ZB]
  by_cases h:0<=q
  ·have j:0<=q.num:=Rat.num_nonneg.2 h
   have d: ¬(if q.num<0 then-1 else if q.num=0 then 0 else 1:Int)<0:=by split;omega;split<;>omega
   refine⟨0,?_,?_,fun _=>⟨q,rfl,sq,h⟩⟩
   ·rw[if_neg (by rw[decide_eq_true_eq];exact d)];rfl
   rw[decide_eq_false d];rfl
  have j:q.num<0:=Int.not_le.1 fun c=>h (Rat.num_nonneg.1 c)
  have d:(if q.num<0 then-1 else if q.num=0 then 0 else 1:Int)<0:=by rw[if_pos j];decide
  refine⟨3,?_,?_,fun c=>absurd c (by decide)⟩
  ·rw[if_pos (decide_eq_true d)];rfl
  rw[decide_eq_true d];rfl
 refine⟨chk s,?_,?_,fun c=>absurd c hc⟩
 ·rw[if_pos (by simp[hc])];rfl
 rw[if_neg hc];rfl
def qia (l:List xN) (i:Nat):Prop:= ∀j,i<=j-> ∀p,l[j]? =some p->p.X.length<=60/\p.Y.length<=60
theorem qkp (y:yH): ∀(K i:Nat),i<=y.Strength.length->y.Strength.length<K+i->y.Strength.length<=1000->(kr y K (i:Int)=some (.inl ())/\qia y.Strength i)\/kr y K (i:Int)=some (.inr false)
 |0,i,h,hK,hl=>by omega
 |K+1,i,h,hK,hl=>by
  unfold kr
  by_cases hi:i<y.Strength.length
  ·have hp:y.Strength[i]? =some y.Strength[i]:=Ya hi
   rw[if_pos (by omega),qz,hp,ZB]
   by_cases h1:((y.Strength[i]).X.length:Int)>60
   ·rw[if_pos h1,ZB,if_pos rfl]
    exact .inr rfl
   by_cases h2:((y.Strength[i]).Y.length:Int)>60
   ·rw[if_neg h1,decide_eq_true h2,ZB,if_pos rfl]
    exact .inr rfl
   rw[if_neg h1,decide_eq_false h2,ZB,if_neg (by decide),zH (by omega)]
   rcases qkp y K (i+1) (by omega) (by omega) hl with⟨e,f⟩|e
   ·refine .inl ⟨e,fun j hj p hp'=>?_⟩
    by_cases hij:i=j
    ·subst hij
     rw[hp]at hp'
     obtain rfl:=Ye hp'
     omega
    exact f j (by omega) p hp'
   exact .inr e
  rw[if_neg (by omega)]
  refine .inl ⟨rfl,fun j hj p hp=>?_⟩
  rw[Yg (by omega)]at hp
  cases hp
theorem qom {N:Nat} (hN:600000<N) (y:yH): ∃b,xB N y=some b/\(b=true->y.Name.length<=60/\y.Density.length<=60/\y.Twist.length<=60/\y.Dye.length<=60/\(y.Strength.length<=8\/257<=y.Strength.length)/\y.Strength.length<=259/\qia y.Strength 0):=by
 unfold xB
 by_cases h1:(y.Name.length:Int)>60
 ·exact⟨false,by rw[if_pos h1];rfl,fun c=>by cases c⟩
 by_cases h2:(y.Density.length:Int)>60
 ·exact⟨false,by rw[if_neg h1,if_pos h2];rfl,fun c=>by cases c⟩
 by_cases h3:(y.Twist.length:Int)>60
 ·exact⟨false,by rw[if_neg h1,if_neg h2,if_pos h3];rfl,fun c=>by cases c⟩
 by_cases h4:(y.Dye.length:Int)>60
 ·exact⟨false,by rw[if_neg h1,if_neg h2,if_neg h3,if_pos h4];rfl,fun c=>by cases c⟩
 rw[if_neg h1,if_neg h2,if_neg h3,if_neg h4]
 have R: ∀x:Option Bool,(x=some true\/(x=some false/\(y.Strength.length<=8\/257<=y.Strength.length)/\y.Strength.length<=259))-> ∃b,(x.bind fun b7=>if b7=true then some false else(kr y N 0).bind (fun|(.inl ())=>some true|(.inr q19)=>some q19))=some b/\(b=true->y.Name.length<=60/\y.Density.length<=60/\y.Twist.length<=60/\y.Dye.length<=60/\(y.Strength.length<=8\/257<=y.Strength.length)/\y.Strength.length<=259/\qia y.Strength 0):=by
  intro x hx
  rcases hx with rfl|⟨rfl,d,h⟩
  ·exact⟨false,rfl,fun c=>by cases c⟩
  rcases qkp y N 0 (by omega) (by omega) (by omega)with⟨e,f⟩|e
  ·refine⟨true,?_,fun _=>⟨by omega,by omega,by omega,by omega,d,h,f⟩⟩
   rw[ZB,if_neg (by decide),show(0:Int)=((0:Nat):Int)from rfl,e]
   rfl
  refine⟨false,?_,fun c=>by cases c⟩
  rw[ZB,if_neg (by decide),show(0:Int)=((0:Nat):Int)from rfl,e]
  rfl
 apply R
 by_cases d:(y.Strength.length:Int)>8
 ·by_cases h:(y.Strength.length:Int)<=256
  ·left;rw[if_pos d,if_pos h]
  by_cases h7:(y.Strength.length:Int)>259
  ·left;rw[if_pos d,if_neg h,decide_eq_true h7]
  right;exact⟨by rw[if_pos d,if_neg h,decide_eq_false h7],by omega,by omega⟩
 right;exact⟨by rw[if_neg d,decide_eq_false (by omega)],by omega,by omega⟩
def PtOK (p:xN):Prop:= ∃a b:Rat,p=⟨T a,T b⟩/\Sml a 60/\Sml b 60/\0<=a/\0<=b
def qhn (l:List xN) (i:Nat):Prop:=(∀j,j<i-> ∀p,l[j]? =some p->PtOK p)/\ ∀j,j+1<i-> ∀a b a' b',l[j]? =some ⟨T a,T b⟩->l[j+1]? =some ⟨T a',T b'⟩->a<a'
theorem qpu {N:Nat} (hN:600000<N) (y:yH) (hs:qia y.Strength 0) (hl:y.Strength.length<=1000): ∀(K i:Nat),i<=y.Strength.length->y.Strength.length<K+i->qhn y.Strength i->(qH N y.Strength K (i:Int)=some (.inl ())/\qI N y K (i:Int)=some (.inl ())/\qhn y.Strength y.Strength.length)\/ ∃e,e≠0/\qH N y.Strength K (i:Int)=some (.inr e)/\qI N y K (i:Int)=some (.inr e)
 |0,i,h,hK,ok=>by omega
 |K+1,i,h,hK,ok=>by
  unfold qH qI
  by_cases hi:i<y.Strength.length
  case neg=>
   rw[if_neg (by omega),if_neg (by omega)]
   have:i=y.Strength.length:=by omega
   subst this
   exact .inl ⟨rfl,rfl,ok⟩
  have hp:y.Strength[i]? =some y.Strength[i]:=Ya hi
  obtain⟨l1,l2⟩:=hs i (Nat.zero_le _) _ hp
  rw[if_pos (by omega),if_pos (by omega),qz,hp,ZB,ZB,yx (by omega),ZB]
  generalize y.Strength[i]=p at*
  obtain⟨d,x1,y1,z1⟩:=qh7 hN (by omega) (by omega) l1
  obtain⟨e2,x2,y2,z2⟩:=qh7 hN (by omega) (by omega) l2
  unfold qaH
  rw[x1,ZB,x2,ZB,qgY (by omega),ZB,y1,ZB]
  have hE:(if d=0 then(kL N p.Y).bind fun r20=>some r20 else some d:Option Int)=some (if d=0 then e2 else d):=by
   by_cases c:d=0
   ·rw[if_pos c,if_pos c,y2,ZB]
   rw[if_neg c,if_neg c]
  rw[hE,ZB]
  by_cases he:(if d=0 then e2 else d)=0
  case neg=>
   have hz:(!decide ((if d=0 then e2 else d)=0))=true:=by rw[decide_eq_false he];rfl
   simp only[if_pos hz,ZB,if_true]
   exact .inr ⟨_,he,rfl,rfl⟩
  have hE2:d=0/\e2=0:=by
   split at he
   ·rename_i c;exact⟨c,he⟩
   rename_i c;exact absurd he c
  obtain⟨rfl,rfl⟩:=hE2
  obtain⟨a,ea,sa,a0⟩:=z1 rfl
  obtain⟨b,eb,sb,b0⟩:=z2 rfl
  have ep:p=⟨T a,T b⟩:=by cases p;simp_all
  subst ep
  rw[if_pos rfl,if_neg (by decide)]
  have nxt:qhn y.Strength (i+1)->((qH N y.Strength K ((i+1:Nat):Int)=some (.inl ())/\qI N y K ((i+1:Nat):Int)=some (.inl ())/\qhn y.Strength y.Strength.length)\/ ∃e,e≠0/\qH N y.Strength K ((i+1:Nat):Int)=some (.inr e)/\qI N y K ((i+1:Nat):Int)=some (.inr e)):=fun ok'=>qpu hN y hs hl K (i+1) (by omega) (by omega) ok'
  have tl:(List.take i y.Strength).length=i:=by rw[Ym];omega
  rw[tl]
  by_cases i0:i=0
  ·subst i0
   rw[decide_eq_true (show((0:Nat):Int)=0 from rfl),ZB,if_pos rfl,ZB,if_neg (by decide),if_neg (show¬((0:Nat):Int)>0 by omega),ZB,if_neg (by decide),zH (by omega)]
   refine nxt ⟨fun j hj q hq=>?_,fun j hj=>by omega⟩
   obtain rfl:j=0:=by omega
   rw[hp]at hq
   obtain rfl:=Ye hq
   exact⟨a,b,rfl,sa,sb,a0,b0⟩
  obtain⟨k,rfl⟩: ∃k,i=k+1:=⟨i-1,by omega⟩
  have hk:y.Strength[k]? =some y.Strength[k]:=Ya (by omega)
  obtain⟨a',b',ep',sa',sb',a0',b0'⟩:=ok.1 k (by omega) _ hk
  rw[ep']at hk
  have w1:w64 (((k+1:Nat):Int)-1)=(k:Int):=by rw[qf (by omega) (by omega)];omega
  obtain⟨f,g,c,g1,g2,g3,g4⟩:=qpk hN (a:=T a) (b:=T a') (qqD (sa.mono (by omega))) (qqD (sa'.mono (by omega)))
  have g5:=qjM hN (k:=60) (by omega) (by omega) sa sa'
  rw[g4]at g5
  rw[decide_eq_false (show¬(((k+1:Nat):Int)=0)by omega),ZB,if_neg (by decide),w1,qz,List.getElem?_take_of_lt (by omega),hk,ZB,if_neg (by decide),if_pos (show(((k+1:Nat):Int)>0)by omega),qz,hk,ZB]
  simp only
  rw[g1,ZB,g2,ZB,g3,ZB,g4,ZB]
  unfold jr
  by_cases hc:c<=0
  ·rw[decide_eq_true hc,if_pos rfl,ZB,ZB,if_pos (by decide),ZB,if_pos rfl]
   exact .inr ⟨11,by decide,rfl,rfl⟩
  rw[decide_eq_false hc,if_neg (by decide),ZB,ZB,if_neg (by decide),ZB,if_neg (by decide),zH (by omega)]
  have lt:a'<a:=by
   have g6:=Ye g5
   by_cases h1:a<a'
   ·rw[if_pos h1]at g6;omega
   by_cases h2:a=a'
   ·rw[if_neg h1,if_pos h2]at g6;omega
   grind
  refine nxt ⟨fun j hj q hq=>?_,fun j hj u v u' v' hu hv=>?_⟩
  ·by_cases hjk:j=k+1
   ·subst hjk
    rw[hp]at hq
    obtain rfl:=Ye hq
    exact⟨a,b,rfl,sa,sb,a0,b0⟩
   exact ok.1 j (by omega) q hq
  by_cases hjk:j=k
  ·subst hjk
   rw[hp]at hv
   rw[hk]at hu
   have h1:=Ye hu
   have h2:=Ye hv
   injection h1 with h3 _
   injection h2 with h4 _
   rw[<-qo7 h3,<-qo7 h4]
   exact lt
  exact ok.2 j (by omega) u v u' v' hu hv
structure qqS (y:yH) where
 d:Rat
 t:Rat
 ed:y.Density=T d
 sd:Sml d 60
 d0:0<d
 et:y.Twist=T t
 st:Sml t 60
 ne:0<y.Strength.length
 few:y.Strength.length<=256
 pts:qhn y.Strength y.Strength.length
theorem qjP {N:Nat} (hN:10<N) (a b c d e f:Int):zI N [a,b,c,d,e,f]=some (if a=0 then if b=0 then if c=0 then if d=0 then if e=0 then f else e else d else c else b else a):=by
 obtain⟨K,rfl⟩: ∃K,N=K+1+1+1+1+1+1+1:=⟨N-7,by omega⟩
 have w0:w64 (0+1)=1:=rfl
 have w1:w64 (1+1)=2:=rfl
 have w2:w64 (2+1)=3:=rfl
 have w3:w64 (3+1)=4:=rfl
 have w4:w64 (4+1)=5:=rfl
 have w5:w64 (5+1)=6:=rfl
 have j:(([a,b,c,d,e,f]:List Int).length:Int)=6:=rfl
 have i0:idx [a,b,c,d,e,f] 0=some a:=rfl
 have i1:idx [a,b,c,d,e,f] 1=some b:=rfl
 have i2:idx [a,b,c,d,e,f] 2=some c:=rfl
 have i3:idx [a,b,c,d,e,f] 3=some d:=rfl
 have i4:idx [a,b,c,d,e,f] 4=some e:=rfl
 have i5:idx [a,b,c,d,e,f] 5=some f:=rfl
 have u: ∀{x:Int},x≠0->(!decide (x=0))=true:=fun h=>by simp[h]
 unfold zI
 by_cases ha:a=0
 case neg=>rw[if_neg ha,qj,j,if_pos (by decide),i0,ZB,if_pos (u ha)];rfl
 by_cases hb:b=0
 case neg=>rw[if_pos ha,if_neg hb,qj,j,if_pos (by decide),i0,ZB,if_neg (by simp[ha]),w0,qj,j,if_pos (by decide),i1,ZB,if_pos (u hb)];rfl
 by_cases hc:c=0
 case neg=>rw[if_pos ha,if_pos hb,if_neg hc,qj,j,if_pos (by decide),i0,ZB,if_neg (by simp[ha]),w0,qj,j,if_pos (by decide),i1,ZB,if_neg (by simp[hb]),w1,qj,j,if_pos (by decide),i2,ZB,if_pos (u hc)];rfl
 by_cases hd:d=0
 case neg=>rw[if_pos ha,if_pos hb,if_pos hc,if_neg hd,qj,j,if_pos (by decide),i0,ZB,if_neg (by simp[ha]),w0,qj,j,if_pos (by decide),i1,ZB,if_neg (by simp[hb]),w1,qj,j,if_pos (by decide),i2,ZB,if_neg (by simp[hc]),w2,qj,j,if_pos (by decide),i3,ZB,if_pos (u hd)];rfl
 by_cases he:e=0
 case neg=>rw[if_pos ha,if_pos hb,if_pos hc,if_pos hd,if_neg he,qj,j,if_pos (by decide),i0,ZB,if_neg (by simp[ha]),w0,qj,j,if_pos (by decide),i1,ZB,if_neg (by simp[hb]),w1,qj,j,if_pos (by decide),i2,ZB,if_neg (by simp[hc]),w2,qj,j,if_pos (by decide),i3,ZB,if_neg (by simp[hd]),w3,qj,j,if_pos (by decide),i4,ZB,if_pos (u he)];rfl
 rw[if_pos ha,if_pos hb,if_pos hc,if_pos hd,if_pos he,qj,j,if_pos (by decide),i0,ZB,if_neg (by simp[ha]),w0,qj,j,if_pos (by decide),i1,ZB,if_neg (by simp[hb]),w1,qj,j,if_pos (by decide),i2,ZB,if_neg (by simp[hc]),w2,qj,j,if_pos (by decide),i3,ZB,if_neg (by simp[hd]),w3,qj,j,if_pos (by decide),i4,ZB,if_neg (by simp[he]),w4,qj,j,if_pos (by decide),i5,ZB]
 by_cases hf:f=0
 ·rw[if_neg (by simp[hf]),w5,qj,j,if_neg (by decide),hf];rfl
 rw[if_pos (u hf)];rfl
theorem qne {N:Nat} (hN:600000<N) {y:yH} (h1:y.Name.length<=60) (h2:y.Density.length<=60) (h3:y.Twist.length<=60) (h4:y.Dye.length<=60) (h6:y.Strength.length<=259) (hs:qia y.Strength 0): ∃e,zR N y=some e/\vD N y=some e/\(e=0->Nonempty (qqS y)):=by
 have P0:qhn y.Strength 0:=⟨fun j hj=>by omega,fun j hj=>by omega⟩
 obtain⟨e,x1,y1,z1⟩:=qnM hN (s:=y.Density) (by omega)
 have c1:=qf6 hN (s:=y.Twist) (by omega)
 have c2:=qga hN (s:=y.Twist) (by omega)
 have n1:=qjc (N:=N) (s:=y.Name) (by omega)
 have n2:=qho (N:=N) (s:=y.Name) (by omega) (by omega)
 have d1:=qjc (N:=N) (s:=y.Dye) (by omega)
 have d2:=qho (N:=N) (s:=y.Dye) (by omega) (by omega)
 have D: ∃b:Bool,qaG N y.Dye=some (if b=true then 0 else 8)/\qbK N y.Dye=some b:=by
  unfold qaG qbK jr
  cases hb:(y.Dye==[])with
  |true=>exact⟨true,rfl,rfl⟩
  |false=>
   rw[d1,d2]
   cases qiU y.Dye with
   |true=>exact⟨true,rfl,rfl⟩
   |false=>exact⟨false,rfl,rfl⟩
 obtain⟨db,D1,D2⟩:=D
 have E: ∃r:Int,vY N y.Strength 256=some r/\(256<y.Strength.length->r=5)/\(y.Strength.length<=256->(r=0/\qI N y N 0=some (.inl ())/\qhn y.Strength y.Strength.length)\/(r≠0/\qI N y N 0=some (.inr r))):=by
  unfold vY
  by_cases hl:256<y.Strength.length
  ·exact⟨5,by rw[if_pos (by omega)],fun _=>rfl,fun c=>by omega⟩
  rcases qpu hN y hs (by omega) N 0 (by omega) (by omega) P0 with⟨g1,g2,g3⟩|⟨r,g0,g1,g2⟩
  ·exact⟨0,by rw[if_neg (by omega),show(0:Int)=((0:Nat):Int)from rfl,g1];rfl,fun c=>by omega,fun _=> .inl ⟨rfl,g2,g3⟩⟩
  exact⟨r,by rw[if_neg (by omega),show(0:Int)=((0:Nat):Int)from rfl,g1];rfl,fun c=>by omega,fun _=> .inr ⟨g0,g2⟩⟩
 obtain⟨r,E1,E2,E3⟩:=E
 have nz: ∀{x:Int},x≠0->(!decide (x=0))=true:=fun h=>by simp[h]
 unfold zR vD qdG jr
 rw[n1,ZB,x1,c1,E1,D1,n2,ZB,y1,c2,D2]
 cases hn:qiU y.Name with
 |false=>
  refine⟨8,?_,rfl,fun c=>absurd c (by decide)⟩
  simp only[Bool.not_false,if_true,ZB]
  by_cases hz:(y.Strength.length:Int)=0
  ·simp only[decide_eq_true hz,if_true,ZB,qjP (show 10<N by omega)];rfl
  simp only[decide_eq_false hz,ZF,if_false,ZB,qjP (show 10<N by omega)];rfl
 |true=>
  simp only[Bool.not_true,ZF,if_false,ZB]
  have Z: ∀v:Int,(if decide ((y.Strength.length:Int)=0)=true then some 12 else some 0:Option Int)=some v-> ∃u,(Option.bind (if decide ((y.Strength.length:Int)=0)=true then some 12 else some 0:Option Int) fun r4=>(zI N [0,e,chk y.Twist,r4,r,if db=true then 0 else 8]).bind fun r7=>some r7)=some u/\u=(if e=0 then if chk y.Twist=0 then if v=0 then if r=0 then(if db=true then 0 else 8)else r else v else chk y.Twist else e):=by
   intro v hv
   rw[hv,ZB,qjP (by omega),ZB,if_pos rfl]
   exact⟨_,rfl,rfl⟩
  by_cases hz:y.Strength.length=0
  ·obtain⟨u,q1,q2⟩:=Z 12 (by rw[if_pos (by simp[hz])])
   refine⟨u,q1,?_,fun c=>?_⟩
   ·rw[q2]
    by_cases he:e=0
    ·rw[if_pos he,if_pos he,ZB]
     by_cases hc:chk y.Twist=0
     ·rw[if_pos hc,hc,if_neg (by decide),if_pos (by omega),if_neg (by decide)]
     rw[if_neg hc,if_pos (nz hc)]
    rw[if_neg he,if_neg he,ZB,if_pos (nz he)]
   exfalso
   rw[q2]at c
   split at c
   ·split at c
    ·rw[if_neg (by decide)]at c;omega
    contradiction
   contradiction
  obtain⟨u,q1,q2⟩:=Z 0 (by rw[if_neg (by simp[hz])])
  rw[if_pos rfl]at q2
  refine⟨u,q1,?_,fun c=>?_⟩
  ·rw[q2]
   by_cases he:e=0
   ·rw[if_pos he,if_pos he,ZB]
    by_cases hc:chk y.Twist=0
    ·rw[if_pos hc,hc,if_neg (by decide),if_neg (by omega)]
     by_cases hl:256<y.Strength.length
     ·rw[if_pos (by omega),E2 hl,if_neg (by decide)]
     rw[if_neg (by omega)]
     rcases E3 (by omega)with⟨r0,g,_⟩|⟨r0,g⟩
     ·rw[g,r0,if_pos rfl]
      cases db<;>rfl
     rw[g,if_neg r0]
     rfl
    rw[if_neg hc,if_pos (nz hc)]
   rw[if_neg he,if_neg he,ZB,if_pos (nz he)]
  rw[q2]at c
  by_cases he:e=0
  ·rw[if_pos he]at c
   by_cases hc:chk y.Twist=0
   ·rw[if_pos hc]at c
    by_cases hr:r=0
    ·have hl:y.Strength.length<=256:=by
      rcases Nat.lt_or_ge 256 y.Strength.length with h|h
      ·have:=E2 h;omega
      exact h
     rcases E3 hl with⟨_,_,g3⟩|⟨r0,_⟩
     ·obtain⟨d,ed,sd,d0⟩:=z1 he
      obtain⟨t,et,st,_⟩:=qjq (by omega) h3 hc
      have sd':Sml d 60:=qih (by omega) (by rw[<-ed];exact h2)
      exact⟨⟨d,t,ed,sd',d0,et,st,by omega,hl,g3⟩⟩
     exact absurd hr r0
    rw[if_neg hr]at c
    exact absurd c hr
   rw[if_neg hc]at c
   exact absurd c hc
  rw[if_neg he]at c
  exact absurd c he
end Go.Av
end
section
namespace Go.Av
theorem qlW {x:Int} (h:x≠0):(!decide (x=0))=true:=by rw[decide_eq_false h];rfl
theorem qn5 {N:Nat} (hN:600000<N) {y:yH} {d q:Rat} (hy:zR N y=some 0) (ed:y.Density=T d) (hq:zY N (T q)=some 0) (h:Sml d 108) (sq:Sml q 108):qbo N y (T q)=some (qm9 (d*q)):=by
 obtain⟨f,u,i1⟩:=qbB hN (h.mono (show 108<=9000 by omega))
 obtain⟨g,e2,j⟩:=qbB hN (sq.mono (show 108<=9000 by omega))
 obtain⟨r,e3,i3⟩:=qjv hN i1 j (n:=200) (by omega) (yY h (by omega) (by omega)) (yY sq (by omega) (by omega))
 have s3:Sml (d*q) 216:=qfz (n:=12) (by omega) h sq
 unfold qbo
 rw[hy,ZB,hq,ZB,qgY (by omega),if_pos rfl,ZB,if_neg (by decide),ed,u,ZB,e2,ZB,e3,ZB,qh2 hN i3 (yY s3 (by omega) (by omega)),ZB]
theorem qp4 {N:Nat} (hN:600000<N) {y:yH} {d m:Rat} (hy:zR N y=some 0) (ed:y.Density=T d) (hm:zY N (T m)=some 0) (j:Sml d 216) (u:0<d) (h:Sml m 216):qaf N y (T m)=some (qm9 (m/d)):=by
 obtain⟨f,e1,i1⟩:=qbB hN (j.mono (show 216<=9000 by omega))
 obtain⟨g,e2,i2⟩:=qbB hN (h.mono (show 216<=9000 by omega))
 obtain⟨r,e3,i3⟩:=qmO hN i2 i1 (n:=200) (by omega) (by omega) (yY h (by omega) (by omega)) (yY j (by omega) (by omega)) (Rat.ne_of_gt u)
 have s3:Sml (m/d) 432:=qgO (n:=24) (by omega) h j (Rat.ne_of_gt u)
 unfold qaf
 rw[hy,ZB,hm,ZB,qgY (by omega),if_pos rfl,ZB,if_neg (by decide),e2,ZB,ed,e1,ZB,e3,ZB,qh2 hN i3 (yY s3 (by omega) (by omega)),ZB]
theorem qmk {d q:Rat} {c:Int} (u:0<d) (q0:0<=q) (c1:1<=c):0<=qcV (d*q/(c:Rat)):=by
 have h:0<(c:Rat):=Rat.intCast_pos.2 (by omega)
 have j:0<=d*q/(c:Rat):=by
  rw[Rat.div_def]
  exact Rat.mul_nonneg (Rat.mul_nonneg (Rat.le_of_lt u) q0) (Rat.le_of_lt (Rat.inv_pos.2 h))
 exact Rat.intCast_nonneg.1 (Rat.le_trans j (qnv _))
theorem qql {N:Nat} (hN:600000<N) {y:yH} {d q:Rat} {c:Int} (hy:zR N y=some 0) (ed:y.Density=T d) (hq:zY N (T q)=some 0) (j:Sml d 108) (d0:0<d) (sq:Sml q 108) (q0:0<=q) (c1:1<=c) (c2:c<=999999999):
 xm N y c (T q)=some (if 999999999<qcV (d*q/(c:Rat))then(0,4)else(qcV (d*q/(c:Rat)),0))/\xJ N y c (T q)=some (T (qcV (d*q/(c:Rat)):Rat)):=by
 obtain⟨f,e1,i1⟩:=qbB hN (j.mono (show 108<=9000 by omega))
 obtain⟨g,e2,i2⟩:=qbB hN (sq.mono (show 108<=9000 by omega))
 obtain⟨r,e3,i3⟩:=qjv hN i1 i2 (n:=200) (by omega) (yY j (by omega) (by omega)) (yY sq (by omega) (by omega))
 have s3:Sml (d*q) 216:=qfz (n:=12) (by omega) j sq
 obtain⟨cc,e4,i4⟩:=F_eq (n:=c) (by omega) (by omega)
 have sc:Sml (c:Rat) 216:=qeF (by omega) (by omega) (by omega)
 have c0:(c:Rat)≠0:=Rat.ne_of_gt (Rat.intCast_pos.2 (by omega))
 obtain⟨x,e5,i5⟩:=qmO hN i3 i4 (n:=200) (by omega) (by omega) (yY s3 (by omega) (by omega)) (yY sc (by omega) (by omega)) c0
 have s5:Sml (d*q/(c:Rat)) 432:=qgO (n:=24) (by omega) s3 sc c0
 obtain⟨u,e6,i6⟩:=qqn i5
 obtain⟨z,e7,i7⟩:=qm6 hN i6 (yY (qfR s5) (by omega) (by omega))
 obtain⟨w,e8,i8⟩:=qfe i7
 have h0:=qmk (q:=q) d0 q0 c1
 change IsZ w (qcV (d*q/(c:Rat)))at i8
 constructor
 ·unfold xm qbD qbA
  rw[hy,ZB,qiw,if_neg (by omega),ZB,hq,ZB,qmr (by omega),if_pos rfl,if_pos rfl,ZB,if_neg (by decide),ed,e1,ZB,e2,ZB,e3,ZB,e4,ZB,e5,ZB,e6,ZB,e7,ZB,e8,ZB,ZB,ZB]
  rcases i8 with⟨w1,w2,_⟩|⟨_,w1,w2,_⟩
  ·rw[w1,w2]
   by_cases h:999999999<qcV (d*q/(c:Rat))
   ·simp[h]
   simp[h]
  rw[show w.w.isEmpty=false by simpa using w1]
  rw[if_pos (by rfl),ZB,if_pos rfl,if_pos (by omega)]
 have sz:Sml (0:Rat) 432:=qeF (n:=0) (by omega) (by omega) (by omega)
 have sn:Sml (-(d*q/(c:Rat))) 432:=qfR s5
 have sf:=qi1 sn (by omega)
 have e0:(0:Rat)-d*q/(c:Rat)= -(d*q/(c:Rat)):=by grind
 have e9:(0:Rat)-(((-(d*q/(c:Rat))).floor:Int):Rat)=(qcV (d*q/(c:Rat)):Rat):=by
  unfold qcV
  rw[Rat.intCast_neg]
  grind
 unfold xJ
 rw[ed,qjk hN (k:=108) (by omega) (by omega) j sq,ZB,qhw (by omega) (by omega) (by omega),ZB,qms hN (k:=216) (by omega) (by omega) s3 sc c0,ZB,<-T0,qjr hN (k:=432) (by omega) (by omega) sz s5,e0,ZB,qmS hN (k:=432) (by omega) (by omega) sn,ZB,qjr hN (k:=432) (by omega) (by omega) sz sf,e9,ZB]
theorem qhL (b:Bool) (e:Int):qad b e=some (if b=true then e else 0):=by
 unfold qad
 cases b<;>rfl
theorem qfM {N:Nat} (hN:600000<N) (y:yH) (c:Int) (s:Str):xO N y c s=some true:=by
 unfold xO
 obtain⟨b,hb,fb⟩:=qom hN y
 rw[hb,ZB]
 cases b with
 |false=>rfl
 |true=>
 obtain⟨h1,j,u,h4,h5,h6,hs⟩:=fb rfl
 rw[if_neg (by decide)]
 by_cases hl:(s.length:Int)>60
 ·rw[decide_eq_true hl];rfl
 rw[decide_eq_false hl,ZB,if_neg (by decide)]
 obtain⟨e,x1,x2,x3⟩:=qne hN h1 j u h4 h6 hs
 obtain⟨f,y1,y2,y3⟩:=qh7 hN (s:=s) (k:=60) (by omega) (by omega) (by omega)
 have C: ∃g:Int,qaW c 1 999999999=some g/\(((vD N y).bind fun r13=>if c<1 then(qad true 3).bind fun r15=>(kL N s).bind fun r16=>(jB N ([r13,r15,r16]:List Int)).bind fun r17=>some (r13,r15,r16,r17)else(qad (decide (c>999999999)) 3).bind fun r18=>(kL N s).bind fun r19=>(jB N ([r13,r18,r19]:List Int)).bind fun r20=>some (r13,r18,r19,r20):Option (Int×Int×Int×Int))=some (e,g,f,if e=0 then if g=0 then f else g else e))/\(g=0->1<=c/\c<=999999999):=by
  rw[qiw,x2,ZB]
  by_cases k1:c<1
  ·refine⟨3,by rw[if_pos (.inl k1)],?_,fun k=>absurd k (by decide)⟩
   rw[if_pos k1,qhL,ZB,y2,ZB,if_pos rfl,qhD (by omega),ZB]
  by_cases k2:999999999<c
  ·refine⟨3,by rw[if_pos (.inr k2)],?_,fun k=>absurd k (by decide)⟩
   rw[if_neg k1,qhL,ZB,y2,ZB,if_pos (decide_eq_true k2),qhD (by omega),ZB]
  refine⟨0,by rw[if_neg (by omega)],?_,fun _=>by omega⟩
  rw[if_neg k1,qhL,ZB,y2,ZB,if_neg (by rw[decide_eq_true_eq];exact k2),qhD (by omega),ZB]
 obtain⟨g,C1,C2,C3⟩:=C
 have fin: ∀(x:Option Bool),x=some true-> ∀(r1 r2:Str×Int) (r3:Int×Int),(if r1.2=r1.2 then if(r1.1==r1.1)=true then if r2.2=r2.2 then if(r2.1==r2.1)=true then if r3.2=r3.2 then if r3.1=r3.1 then x else some false else some false else some false else some false else some false else some false:Option Bool)=some true:=by
  intro x h r1 r2 r3
  simp[h]
 obtain⟨o3,ho3⟩: ∃o:Int,o=(if e=0 then if g=0 then f else g else e):=⟨_,rfl⟩
 rw[<-ho3]at C2
 obtain⟨o1,ho1⟩: ∃o:Int,o=(if e=0 then f else e):=⟨_,rfl⟩
 have l1:jB N [e,f]=some o1:=by rw[ho1];exact qph (by omega) _ _
 have y4:zI N [e,f]=some o1:=by rw[ho1];exact qgY (by omega) _ _
 have y5:zI N [e,g,f]=some o3:=by rw[ho3];exact qmr (by omega) _ _ _
 have B: ∃v:Int×Int,xm N y c s=some v/\((if o3=0 then(xJ N y c s).bind fun r36=>(yK N 999999999).bind fun r37=>(qaS N r36 r37).bind fun r38=>if r38>0 then some (4,0)else(qaV N r36).bind fun r40=>some (o3,r40.1)else some (o3,0):Option (Int×Int))=some (v.2,v.1)):=by
  by_cases u:o3=0
  ·have hz:e=0/\g=0/\f=0:=by
    rw[ho3]at u
    split at u
    ·split at u
     ·exact⟨by assumption,by assumption,u⟩
     contradiction
    contradiction
   obtain⟨rfl,rfl,rfl⟩:=hz
   obtain⟨⟨d,t,ed,sd,d0,et,st,ne,few,pts⟩⟩:=x3 rfl
   obtain⟨q,rfl,sq,q0⟩:=y3 rfl
   obtain⟨k1,k2⟩:=C3 rfl
   obtain⟨b1,b2⟩:=qql hN x1 ed y1 (sd.mono (by omega)) d0 (sq.mono (by omega)) q0 k1 k2
   have cn:=qmk (q:=q) d0 q0 k1
   have sc:Sml (c:Rat) 126:=qeF (by omega) (by omega) (by omega)
   have c0:(c:Rat)≠0:=Rat.ne_of_gt (Rat.intCast_pos.2 (by omega))
   have sdq:Sml (d*q) 126:=qfz (n:=7) (by omega) (sd.mono (by omega)) (sq.mono (by omega))
   have sx:Sml (d*q/(c:Rat)) 252:=qgO (n:=14) (by omega) sdq sc c0
   have sce:Sml ((qcV (d*q/(c:Rat)):Int):Rat) 252:=by
    unfold qcV
    rw[Rat.intCast_neg]
    exact qfR (qi1 (qfR sx) (by omega))
   refine⟨_,b1,?_⟩
   rw[if_pos u,b2,ZB,qhw (by omega) (by omega) (by omega),ZB,qjM hN (k:=252) (by omega) (by omega) sce (qeF (by omega) (by omega) (by omega)),ZB]
   generalize qcV (d*q/(c:Rat))=z at*
   by_cases h:999999999<z
   ·have l1:((999999999:Int):Rat)<(z:Rat):=Rat.intCast_lt_intCast.2 h
    have ne: ¬(z:Rat)=((999999999:Int):Rat):=fun e=>absurd l1 (by rw[e];exact Rat.lt_irrefl)
    rw[if_neg (Rat.not_lt.2 (Rat.le_of_lt l1)),if_neg ne,if_pos (by decide),if_pos h]
   have l1:(z:Rat)<=((999999999:Int):Rat):=Rat.intCast_le_intCast.2 (by omega)
   obtain⟨m,rfl⟩: ∃m:Nat,z=(m:Int):=⟨z.toNat,by omega⟩
   rw[if_neg (by split;omega;split;omega;exact absurd l1 (by grind)),<-dec_T,qob hN (by omega),ZB,if_neg h,u]
  refine⟨(0,o3),?_,by rw[if_neg u]⟩
  unfold xm
  rw[x1,ZB,C1,ZB,y1,ZB,y5,ZB,if_pos (qlW u)]
 obtain⟨v,B1,B2⟩:=B
 by_cases j:o1=0
 ·have hz:e=0/\f=0:=by
   rw[ho1]at j
   split at j
   ·exact⟨by assumption,j⟩
   contradiction
  obtain⟨rfl,rfl⟩:=hz
  obtain⟨⟨d,t,ed,sd,d0,et,st,ne,few,pts⟩⟩:=x3 rfl
  obtain⟨q,rfl,sq,q0⟩:=y3 rfl
  have s1:Sml (d*q) 126:=qfz (n:=7) (by omega) (sd.mono (by omega)) (sq.mono (by omega))
  have s2:Sml (q/d) 126:=qgO (n:=7) (by omega) (sq.mono (by omega)) (sd.mono (by omega)) (Rat.ne_of_gt d0)
  rw[qn5 hN x1 ed y1 (sd.mono (by omega)) (sq.mono (by omega)),ZB,qp4 hN x1 ed y1 (sd.mono (by omega)) d0 (sq.mono (by omega)),ZB,B1,ZB,C2,x2,ZB,y2,ZB,l1,ZB,ZB]
  simp only
  rw[B2,j,if_pos rfl,ed,qjk hN (k:=60) (by omega) (by omega) sd sq,ZB,qms hN (k:=60) (by omega) (by omega) sq sd (Rat.ne_of_gt d0),ZB,ZB,ZB]
  simp only
  rw[qpA hN s1 (by omega),ZB,qpA hN s2 (by omega),ZB]
  simp[awk]
 have M:qbo N y s=some ([],o1):=by
  unfold qbo
  rw[x1,ZB,y1,ZB,y4,ZB,if_pos (qlW j)]
 have M':qaf N y s=some ([],o1):=by
  unfold qaf
  rw[x1,ZB,y1,ZB,y4,ZB,if_pos (qlW j)]
 rw[M,ZB,M',ZB,B1,ZB,C2,x2,ZB,y2,ZB,l1,ZB,ZB]
 simp only
 rw[B2,if_neg j,ZB,ZB]
 simp only
 rw[qqO _ j,ZB,ZB]
 simp[awk]
end Go.Av
end
