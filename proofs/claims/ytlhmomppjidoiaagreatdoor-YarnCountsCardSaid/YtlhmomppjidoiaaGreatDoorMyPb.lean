/-
  The reference's numerals.
-/
import Derived.Test.YtlhmomppjidoiaaGreatDoorMyPa
import Derived.Test.YtlhmomppjidoiaaGreatDoorAvPt
noncomputable section
set_option linter.unusedVariables false
set_option linter.unusedSimpArgs false
set_option maxRecDepth 100000
section
namespace Go.Av
theorem qa6 {a b:Str} (h:a.length+b.length<=1000000000):cat a b=some (a++b):=by
 unfold cat
 rw[if_pos (by omega)]
theorem dcut {d:Nat} (h:d<10):cut ([48,49,50,51,52,53,54,55,56,57]:Str) (d:Int) (w64 ((d:Int)+1))=some [dch d]:=by
 rw[jC (by omega)]
 rcases(show d=0\/d=1\/d=2\/d=3\/d=4\/d=5\/d=6\/d=7\/d=8\/d=9 by omega)with e|e|e|e|e|e|e|e|e|e<;>subst e<;>decide
theorem tm10 (n:Nat):(n:Int).tmod 10=((n%10:Nat):Int):=by rw[Int.tmod_eq_emod_of_nonneg (by omega)];omega
theorem td10 (n:Nat):(n:Int).tdiv 10=((n/10:Nat):Int):=by rw[YF (by omega)];omega
theorem qe9 {least:Int} {K n:Nat} {s:Str} (j:n<9223372036854775808) (hs:s.length<=1000) (h:0<n\/(s.length:Int)<least):qK least (K+1) (n:Int) s=qK least K ((n/10:Nat):Int) (dch (n%10)::s):=by
 have d:(if(n:Int)>0 then some true else some (decide ((s.length:Int)<least)):Option Bool)=some true:=by
  by_cases c:(n:Int)>0
  ·rw[if_pos c]
  rw[if_neg c,decide_eq_true (by omega)]
 rw[qK,d,ZB,if_pos rfl,tm10,td10,dcut (by omega),ZB,qa6 (by simp;omega),ZB,qg (by omega) (by omega)]
 rfl
theorem qe6 {least:Int} {K:Nat} {s:Str} (h: ¬(s.length:Int)<least):qK least (K+1) 0 s=some s:=by
 rw[qK,if_neg (by omega),decide_eq_false h,ZB,if_neg (by simp)]
theorem qiL: ∀(k K n:Nat) (s:Str),n<10^k->s.length+k=9->k<K->qK 9 K (n:Int) s=some (qcQ k n++s)
 |k,0,n,s,_,_,h=>by omega
 |0,K+1,n,s,hn,hs,h=>by
  simp at hn
  subst hn
  exact qe6 (by omega)
 |k+1,K+1,n,s,hn,hs,h=>by
  have d:(10:Nat)^(k+1)<=10^9:=Nat.pow_le_pow_right (by omega) (by omega)
  rw[Nat.pow_succ]at hn
  rw[qe9 (by rw[Nat.pow_succ]at d;omega) (by omega) (.inr (by omega)),qiL k K (n/10) _ (by omega) (by simp;omega) (by omega),qcQ,Yz]
  rfl
theorem qjr: ∀(k K n:Nat) (s:Str),0<n->n<10^k->n<9223372036854775808->s.length+k<=900->k<K->qK 1 K (n:Int) s=some (Lib.decDigits n++s)
 |k,0,n,s,_,_,_,_,h=>by omega
 |0,K+1,n,s,h0,hn,_,hs,h=>by simp at hn;omega
 |k+1,K+1,n,s,h0,hn,h63,hs,h=>by
  rw[Nat.pow_succ]at hn
  rw[qe9 h63 (by omega) (.inl h0)]
  by_cases c:n<10
  ·obtain⟨K2,rfl⟩: ∃K2,K=K2+1:=⟨K-1,by omega⟩
   rw[show n/10=0 by omega,vo c,show n%10=n by omega]
   exact qe6 (by simp;omega)
  rw[qjr k K (n/10) _ (by omega) (by omega) (by omega) (by simp;omega) (by omega),qeT c,Yz]
  rfl
theorem qnw {N n:Nat} (hN:100<N) (h:n<1000000000):zt N (n:Int) 9=some (qcQ 9 n):=by
 unfold zt
 rw[qiL 9 N n [] h rfl (by omega),ZB,YQ]
theorem qgq {N n:Nat} (hN:100<N) (h:n<9223372036854775808):zt N (n:Int) 1=some (Lib.decDigits n):=by
 unfold zt
 rcases Nat.eq_zero_or_pos n with e|e
 ·subst e
  obtain⟨K,rfl⟩: ∃K,N=K+1+1:=⟨N-2,by omega⟩
  have j:=qe9 (least:=1) (K:=K+1) (n:=0) (s:=[]) (by omega) (by simp) (.inr (by simp))
  rw[j,Nat.zero_div]
  have d:=qe6 (least:=1) (K:=K) (s:=[dch (0%10)]) (by simp)
  have d:qK 1 (K+1) ((0:Nat):Int) [dch (0%10)]=_:=d
  rw[d,ZB,vo (by decide)]
 rw[qjr 19 N n [] e (by omega) h (by simp) (by omega),ZB,YQ]
theorem qgU: ∀k:Nat,E9^k=((10^(9*k):Nat):Int)
 |0=>rfl
 |k+1=>by
  rw[Int.pow_succ,qgU k,Nat.mul_succ,Nat.pow_add,Int.natCast_mul]
  rfl
def nv (w:List Int):Nat:=(dv E9 w).toNat
theorem qh7 {w:List Int} (h:Dg E9 w):(nv w:Int)=dv E9 w:=by
 have:=qA E0 h
 unfold nv
 omega
theorem nv_lt {w:List Int} (h:Dg E9 w):nv w<10^(9*w.length):=by
 have d:=yz E0 h
 rw[qgU,<-qh7 h]at d
 omega
theorem qho {w:List Int} (h:Dg E9 w):(Lib.decDigits (nv w)).length<=9*w.length+1:=by
 refine(qac (by omega)).2 ?_
 have:=nv_lt h
 rw[Nat.pow_succ]
 omega
theorem qkE {w:List Int} (h:Dg E9 w) {i:Nat} (hi:i<w.length):nv (w.drop i)=w[i].toNat+1000000000*nv (w.drop (i+1)):=by
 have d:=qh7 (h.drop i)
 have u:=qh7 (h.drop (i+1))
 have h3:=(h.at hi).1
 rw[qgR w hi]at d
 have j:E9*dv E9 (w.drop (i+1))=1000000000*dv E9 (w.drop (i+1)):=rfl
 omega
theorem qiC {N:Nat} (hN:100<N) {a:qO} (j:Dg E9 a.w) (a0:a.w.length<=100000): ∀(K i:Nat),i<=a.w.length->i<K->0<nv (a.w.drop i)->ve N a K (Lib.decDigits (nv (a.w.drop i))) ((i:Int)-1)=some (Lib.decDigits (nv a.w))
 |0,i,_,h,_=>by omega
 |K+1,0,_,_,_=>by
  rw[ve,if_neg (by omega),YR]
 |K+1,i+1,hi,h,hp=>by
  have d:i<a.w.length:=by omega
  have ax:=j.at d
  have ax2:a.w[i]<1000000000:=ax.2
  have ei:((i+1:Nat):Int)-1=(i:Int):=by omega
  have ed:a.w[i]=(a.w[i].toNat:Int):=by omega
  have el:=qkE j d
  have ll:=qho (j.drop (i+1))
  rw[YJ]at ll
  rw[ve,ei,if_pos (by omega),qy,Ya d,ZB]
  have e9:zt N a.w[i] 9=some (qcQ 9 a.w[i].toNat):=by
   conv=>lhs;rw[ed]
   exact qnw hN (by omega)
  rw[e9,ZB,qa6 (by rw[qf3];omega),ZB,qg (by omega) (by omega)]
  have u:Lib.decDigits (nv (a.w.drop (i+1)))++qcQ 9 a.w[i].toNat=Lib.decDigits (nv (a.w.drop i)):=by
   have h9:(10:Nat)^9=1000000000:=rfl
   have q:nv (a.w.drop i)/10^9=nv (a.w.drop (i+1)):=by rw[h9];omega
   have r:nv (a.w.drop i)%10^9=a.w[i].toNat:=by rw[h9];omega
   rw[qgZ 9 (nv (a.w.drop i)) (by rw[q];exact hp),q,r]
  rw[u]
  exact qiC hN j a0 K i (by omega) (by omega) (by omega)
theorem vM {z:Int} (h:z<0):Lib.itoa z=45::Lib.decDigits z.natAbs:=by unfold Lib.itoa;rw[if_pos h]
theorem zX {z:Int} (h: ¬z<0):Lib.itoa z=Lib.decDigits z.natAbs:=by
 unfold Lib.itoa
 rw[if_neg h,show z.toNat=z.natAbs by omega]
theorem qkJ {N:Nat} (hN:60000<N) {z:Int} (h:jh z 50000):qaH N (rI z)=some (Lib.itoa z):=by
 obtain⟨c,e⟩:=qh4 z
 have l:(rI z).w.length<=50000:=h.len
 have en:nv (rI z).w=z.natAbs:=by unfold nv;rw[e];omega
 have ng:(rI z).neg=decide (z<0):=rfl
 unfold qaH
 by_cases h0:(rI z).w.length=0
 ·have d:z=0:=by
   rw[YL.1 h0,kg]at e
   omega
  rw[if_pos (by omega),d]
  have:Lib.itoa 0=[48]:=by rw[zX (by decide)];exact vo (by decide)
  rw[this]
 have j:(rI z).w.length-1<(rI z).w.length:=by omega
 have ax:=c.1.at j
 have ax2:(rI z).w[(rI z).w.length-1]<1000000000:=ax.2
 have an:(rI z).w[(rI z).w.length-1]≠0:=c.2 _ (by rw[List.getLast?_eq_getElem?];exact Ya j)
 have ed:(rI z).w[(rI z).w.length-1]=((rI z).w[(rI z).w.length-1].toNat:Int):=by omega
 have u:nv ((rI z).w.drop ((rI z).w.length-1))=(rI z).w[(rI z).w.length-1].toNat:=by
  rw[qkE c.1 j,List.drop_of_length_le (by omega)]
  rfl
 have e2:zt N (rI z).w[(rI z).w.length-1] 1=some (Lib.decDigits (nv ((rI z).w.drop ((rI z).w.length-1)))):=by
  conv=>lhs;rw[ed]
  rw[u]
  exact qgq (by omega) (by omega)
 have e3:=qiC (N:=N) (by omega) c.1 (by omega) N ((rI z).w.length-1) (by omega) (by omega) (by rw[u];omega)
 have ll:=qho c.1
 rw[if_neg (by omega),qhO (by omega) (by omega),qy,Ya j,ZB,e2,ZB,show w64 (((rI z).w.length:Int)-2)=(((rI z).w.length-1:Nat):Int)-1 by rw[qg (by omega) (by omega)];omega,e3,ZB,ng]
 by_cases d:z<0
 ·rw[decide_eq_true d,if_pos rfl,qa6 (by simp;omega),ZB,vM d,en]
  rfl
 rw[decide_eq_false d,if_neg (by simp),zX d,en]
theorem qjl {s:Str} (j:s.all vg=true) (hl:s.length<=18): ∀(K i:Nat),i<=s.length->s.length<K+i->jI s K ((qN 0 (s.take i):Nat):Int) (i:Int)=some ((qN 0 s:Nat):Int)
 |0,i,h,hK=>by omega
 |K+1,i,h,hK=>by
  rw[jI]
  by_cases hi:i<s.length
  ·have ht:s.take (i+1)=s.take i++[s[i]]:=List.take_succ_eq_append_getElem hi
   have d:vg s[i]=true:=Yp.1 j _ (List.getElem_mem hi)
   obtain⟨_,u⟩:=qkD d
   have hc1:48<=s[i].toNat:=by
    unfold vg at d
    rw[Bool.and_eq_true,decide_eq_true_eq]at d
    exact d.1
   have hv:=qdE (s.take i) 0 (Yp.2 fun x hx=>Yp.1 j x (List.mem_of_mem_take hx))
   have hp:(10:Nat)^(s.take i).length<=10^17:=Nat.pow_le_pow_right (by omega) (by rw[Ym];omega)
   have a0:(10:Nat)^17=100000000000000000:=rfl
   rw[if_pos (by omega),qy,Ya hi,ZB,qg (n:=10*((qN 0 (s.take i):Nat):Int)) (by omega) (by omega),qg (n:=(s[i].toNat:Int)) (by omega) (by omega),qg (n:=10*((qN 0 (s.take i):Nat):Int)+(s[i].toNat:Int)) (by omega) (by omega),qg (by omega) (by omega),jC (by omega)]
   have e:10*((qN 0 (s.take i):Nat):Int)+(s[i].toNat:Int)-48=((qN 0 (s.take (i+1)):Nat):Int):=by rw[ht,qeW];omega
   rw[e]
   exact qjl j hl K (i+1) (by omega) (by omega)
  rw[if_neg (by omega),List.take_of_length_le (by omega)]
theorem qeK {N:Nat} (hN:100<N) {s:Str} (d:s.all vg=true) (h:s.length<=18):yI N s=some ((qN 0 s:Nat):Int):=by
 have e:=qjl d h N 0 (by omega) (by omega)
 have e:jI s N 0 0=_:=e
 unfold yI
 rw[e,ZB]
theorem qgG {s:Str} (h:s.all vg=true) (k:Nat):(s.take k).all vg=true:=Yp.2 fun x hx=>Yp.1 h x (List.mem_of_mem_take hx)
theorem qgA {s:Str} (h:s.all vg=true) (k:Nat):(s.drop k).all vg=true:=Yp.2 fun x hx=>Yp.1 h x (List.mem_of_mem_drop hx)
theorem qiZ {N:Nat} (hN:100<N): ∀(K:Nat) (l:List Int) (s:Str),s.all vg=true->l.length+s.length<=90000->s.length<K->Dg E9 l->
 ∃d s',vC N K l s=some (d,s')/\s'.length<=9/\s'.all vg=true/\Dg E9 d/\d.length<=90000/\dv E9 d+E9^d.length*(qN 0 s':Nat)=dv E9 l+E9^l.length*(qN 0 s:Nat)
 |0,l,s,_,_,h,_=>by omega
 |K+1,l,s,hd,hl,h,hg=>by
  rw[vC]
  by_cases c:s.length>9
  ·have u:(s.drop (s.length-9)).length=9:=by rw[YJ];omega
   have hv:=qeK (N:=N) hN (qgA hd (s.length-9)) (by omega)
   have j:=qdE _ 0 (qgA hd (s.length-9))
   rw[u]at j
   rw[if_pos (by omega),show w64 ((s.length:Int)-9)=((s.length-9:Nat):Int)by rw[qg (by omega) (by omega)];omega,xg (by omega),ZB,hv,ZB,qeX (by simp;omega) (by simp;omega),ZB,yh (by omega),ZB]
   obtain⟨d,s',f1,f2,f3,f4,f5,f6⟩:=qiZ hN K (l++[((qN 0 (s.drop (s.length-9)):Nat):Int)]) (s.take (s.length-9)) (qgG hd _) (by simp;omega) (by rw[Ym];omega) (hg.append (Dg.cons ⟨by omega,show((qN 0 (s.drop (s.length-9)):Nat):Int)<1000000000 by omega⟩ Dg.nil))
   refine⟨d,s',f1,f2,f3,f4,f5,?_⟩
   rw[f6,qfA,Yq,List.length_singleton,Int.pow_succ,Int.mul_assoc]
   have e:qN 0 s=qN 0 (s.take (s.length-9))*1000000000+qN 0 (s.drop (s.length-9)):=by
    have:=qdu (s.take (s.length-9)) (s.drop (s.length-9))
    rw[YS,u]at this
    exact this
   have e2:((qN 0 s:Nat):Int)=((qN 0 (s.drop (s.length-9)):Nat):Int)+E9*((qN 0 (s.take (s.length-9)):Nat):Int):=by
    have h4:E9*((qN 0 (s.take (s.length-9)):Nat):Int)=1000000000*((qN 0 (s.take (s.length-9)):Nat):Int):=rfl
    omega
   rw[e2,Int.mul_add]
   omega
  rw[if_neg (by omega)]
  exact⟨l,s,rfl,by omega,hd,hg,by omega,rfl⟩
def sgn (s:Str):Bool:=decide (s[0]? =some 45)
def bdy (s:Str):Str:=if sgn s=true then s.drop 1 else s
theorem qeA (s:Str):(if(s.length:Int)>0 then(idx s 0).bind fun c=>some (decide ((c.toNat:Int)=45))else some false:Option Bool)=some (sgn s):=by
 unfold sgn
 cases s with
 |nil=>rfl
 |cons c t=>
  rw[if_pos (by simp),qby]
  have e:((c.toNat:Int)=45)↔(some c=some (45:UInt8)):=⟨fun h=>congrArg some (UInt8.toNat_inj.1 (show c.toNat=45 by omega)),fun h=>by rw[Ye h];rfl⟩
  simp only[Yj,ZB]
  congr 1
  exact decide_eq_decide.2 e
theorem qjG (s:Str):(if sgn s=true then(cut s 1 (s.length:Int)).bind fun x=>some x else some s:Option Str)=some (bdy s):=by
 unfold bdy
 cases h:sgn s with
 |false=>rw[if_neg (by simp),if_neg (by simp)]
 |true=>
  have d:1<=s.length:=by
   cases s with
   |nil=>simp[sgn]at h
   |cons=>simp
  have:=xg d
  have e:cut s 1 (s.length:Int)=some (s.drop 1):=this
  rw[if_pos rfl,if_pos rfl,e,ZB]
def qim (s:Str):Int:=if sgn s=true then-((qN 0 (bdy s):Nat):Int)else((qN 0 (bdy s):Nat):Int)
theorem qf5 {N:Nat} (hN:100000<N) {s:Str} (hd:(bdy s).all vg=true) (hl:(bdy s).length<=80000):xh N s=some (rI (qim s)):=by
 unfold xh
 rw[qeA,ZB,qjG,ZB]
 obtain⟨l,t,u,h,d,f4,f5,f6⟩:=qiZ (N:=N) (by omega) N [] (bdy s) hd (by simp;omega) (by omega) Dg.nil
 have j:=qeK (N:=N) (by omega) d (by omega)
 have a0:=qdE _ 0 d
 have hp:(10:Nat)^t.length<=10^9:=Nat.pow_le_pow_right (by omega) h
 rw[u,ZB]
 simp only
 have hg:=f4.append (r:=[((qN 0 t:Nat):Int)]) (Dg.cons ⟨by omega,show((qN 0 t:Nat):Int)<1000000000 by omega⟩ Dg.nil)
 rw[j,ZB,qeX (by simp;omega) (by simp;omega),ZB,qbh _ hg (by simp;omega) (by simp;omega),ZB,qfA,f6]
 simp only[kg,List.length_nil,Int.pow_zero,Int.one_mul,Int.zero_add]
 rfl
theorem qeD (z:Int):sgn (Lib.itoa z)=decide (z<0):=by
 unfold sgn
 by_cases h:z<0
 ·rw[vM h,decide_eq_true h];rfl
 rw[zX h,decide_eq_false h]
 refine decide_eq_false fun e=>?_
 have d:(45:UInt8)∈Lib.decDigits z.natAbs:=Yn e
 have:=Yp.1 (qa7 z.natAbs) _ d
 exact absurd this (by decide)
theorem qaW (z:Int):bdy (Lib.itoa z)=Lib.decDigits z.natAbs:=by
 unfold bdy
 rw[qeD]
 by_cases h:z<0
 ·rw[decide_eq_true h,if_pos rfl,vM h];rfl
 rw[decide_eq_false h,if_neg (by simp),zX h]
theorem qbi (z:Int):qim (Lib.itoa z)=z:=by
 unfold qim
 rw[qeD,qaW,qda]
 by_cases h:z<0
 ·rw[decide_eq_true h,if_pos rfl];omega
 rw[decide_eq_false h,if_neg (by simp)];omega
def slA:Str->Nat
 |[]=>0
 |c::s=>if c=47 then 0 else slA s+1
theorem qe7: ∀s:Str,slA s<=s.length
 |[]=>Nat.le_refl _
 |c::s=>by
  rw[slA,Yr]
  have:=qe7 s
  split<;>omega
theorem qiH {s:Str} (j:s.length<=1000000): ∀(K i:Nat),i<=s.length->s.length<K+i->jH s K (i:Int)=some (if i+slA (s.drop i)<s.length then .inr ((i+slA (s.drop i):Nat):Int)else .inl ())
 |0,i,h,hK=>by omega
 |K+1,i,h,hK=>by
  rw[jH]
  by_cases hi:i<s.length
  ·have d:s.drop i=s[i]::s.drop (i+1):=YG hi
   rw[if_pos (by omega),qy,Ya hi,ZB,d,slA]
   by_cases c:s[i]=47
   ·rw[if_pos c,if_pos (by rw[c];rfl),Nat.add_zero,if_pos hi]
   rw[if_neg c,if_neg (fun e=>c (UInt8.toNat_inj.1 (show s[i].toNat=47 by omega))),jC (by omega),qiH j K (i+1) (by omega) (by omega),show i+1+slA (s.drop (i+1))=i+(slA (s.drop (i+1))+1)by omega]
  rw[if_neg (by omega),List.drop_of_length_le (by omega),if_neg (by omega)]
theorem qdg {N:Nat} {s:Str} (d:s.length<=1000000) (hN:s.length<N):vP N s=some (slA s:Int):=by
 have e:=qiH d N 0 (by omega) (by omega)
 have e:jH s N 0=_:=e
 have h:=qe7 s
 unfold vP
 rw[e,YR,Nat.zero_add]
 by_cases c:slA s<s.length
 ·rw[if_pos c];rfl
 rw[if_neg c]
 have:slA s=s.length:=by omega
 rw[this]
 rfl
theorem qh9: ∀(s t:Str),(∀c∈s,c≠47)->slA (s++47::t)=s.length/\slA s=s.length
 |[],t,_=>⟨by simp[slA],rfl⟩
 |c::s,t,h=>by
  have d:=qh9 s t fun x hx=>h x (List.mem_cons_of_mem _ hx)
  rw[List.cons_append,slA,slA,if_neg (h c (List.mem_cons_self ..)),if_neg (h c (List.mem_cons_self ..)),d.1,d.2]
  exact⟨rfl,rfl⟩
end Go.Av
end
section
namespace Go.Av
theorem and1 {n:Nat} (h:n<4611686018427387904):qx .i64 (n:Int) 1=((n%2:Nat):Int):=by
 show IntKind.wrap .i64 _=_
 have e:(BitVec.ofInt IntKind.i64.bits (n:Int)&&&BitVec.ofInt IntKind.i64.bits 1).toNat=n%2:=by
  rw[BitVec.toNat_and]
  show(BitVec.ofInt 64 (n:Int)).toNat&&&(BitVec.ofInt 64 1).toNat=_
  rw[qbm (by omega) (by omega),qbm (by omega) (by omega)]
  exact Nat.and_one_is_mod n
 rw[e]
 show w64 _=_
 exact qg (by omega) (by omega)
theorem shr1 (n:Nat):ql .i64 (n:Int) 1=((n/2:Nat):Int):=by
 show(n:Int).fdiv 2=_
 rw[Int.fdiv_eq_ediv_of_nonneg _ (by decide)]
 omega
theorem qnG {N:Nat} (hN:11000<N): ∀(K n:Nat) (b d:qj) (x y:Int) (mb ma:Nat),n<100000->n<K->IsZ b x->IsZ d y->Fit x mb->Fit y ma->ma+mb*n<=3900->
 ∃r,jK N K b.s b.w d.s d.w (n:Int)=some (r.s,r.w)/\IsZ r (y*x^n)
 |0,n,_,_,_,_,_,_,_,h,_,_,_,_,_=>by omega
 |K+1,n,b,d,x,y,mb,ma,hn,hK,hb,hacc,fx,fy,hm=>by
  rw[jK]
  by_cases h0:n=0
  ·subst h0
   rw[if_neg (by omega)]
   exact⟨d,rfl,by simpa using hacc⟩
  have hmb:mb<=mb*n:=Nat.le_mul_of_pos_right _ (by omega)
  obtain⟨m,r,hr,hmr⟩: ∃m r,r<2/\n=2*m+r:=⟨n/2,n%2,by omega,by omega⟩
  have emb:mb*n=mb*m+mb*m+mb*r:=by rw[hmr,Nat.mul_add,<-Nat.mul_assoc,Nat.mul_comm mb 2,Nat.two_mul,Nat.add_mul]
  have S1: ∃(j:qj) (m2:Nat),(if(qx .i64 (n:Int) 1)=1 then(ze N (⟨d.s,d.w⟩:qj) (⟨b.s,b.w⟩:qj)).bind fun r20=>some (r20.s,r20.w)else some (d.s,d.w):Option (Int×(List Int)))=some (j.s,j.w)/\IsZ j (y*x^r)/\Fit (y*x^r) m2/\m2=ma+mb*r:=by
   rw[and1 (by omega),show n%2=r by omega]
   rcases(show r=0\/r=1 by omega)with e|e<;>subst e
   ·rw[if_neg (by simp)]
    exact⟨d,ma,rfl,by simpa using hacc,by simpa using fy,by simp⟩
   obtain⟨p,e1,h1⟩:=qg7 hN hacc hb (fy.mono (by omega)) (fx.mono (by omega))
   have e1:ze N (⟨d.s,d.w⟩:qj) (⟨b.s,b.w⟩:qj)=some p:=e1
   rw[if_pos (by simp),e1,ZB]
   exact⟨p,ma+mb,rfl,by rw[Int.pow_one];exact h1,by rw[Int.pow_one];exact qfQ fy fx,by simp⟩
  obtain⟨j,m2,e1,h1,f1,em2⟩:=S1
  have S2: ∃(u:qj) (x2:Int) (m3:Nat),(if(n:Int)>1 then(ze N (⟨b.s,b.w⟩:qj) (⟨b.s,b.w⟩:qj)).bind fun r22=>some (r22.s,r22.w,j.s,j.w)else some (b.s,b.w,j.s,j.w):Option (Int×(List Int)×Int×(List Int)))=some (u.s,u.w,j.s,j.w)/\IsZ u x2/\Fit x2 m3/\m3*m=mb*m+mb*m/\x2^m=(x*x)^m:=by
   by_cases c:(n:Int)>1
   ·have hm1:1<=m:=by omega
    have h3:mb<=mb*m:=Nat.le_mul_of_pos_right _ hm1
    obtain⟨p,e2,h2⟩:=qg7 hN hb hb (fx.mono (by omega)) (fx.mono (by omega))
    have e2:ze N (⟨b.s,b.w⟩:qj) (⟨b.s,b.w⟩:qj)=some p:=e2
    rw[if_pos c,e2,ZB]
    exact⟨p,x*x,mb+mb,rfl,h2,qfQ fx fx,Nat.add_mul _ _ _,rfl⟩
   have hm0:m=0:=by omega
   subst hm0
   rw[if_neg c]
   exact⟨b,x,mb,rfl,hb,fx,by simp,by simp⟩
  obtain⟨u,x2,m3,e2,h2,f2,em3,ex⟩:=S2
  have S:((if(qx .i64 (n:Int) 1)=1 then(ze N (⟨d.s,d.w⟩:qj) (⟨b.s,b.w⟩:qj)).bind fun r20=>some (r20.s,r20.w)else some (d.s,d.w):Option (Int×(List Int)))).bind (fun(n16,l17)=>
   if(n:Int)>1 then(ze N (⟨b.s,b.w⟩:qj) (⟨b.s,b.w⟩:qj)).bind fun r22=>some (r22.s,r22.w,n16,l17)else some (b.s,b.w,n16,l17))=some (u.s,u.w,j.s,j.w):=by
   rw[e1,ZB]
   exact e2
  obtain⟨r',e3,h3⟩:=qnG hN K m u j x2 (y*x^r) m3 m2 (by omega) (by omega) h2 h1 f2 f1 (by omega)
  rw[if_pos (by omega),S,ZB]
  simp only
  rw[shr1,show n/2=m by omega]
  refine⟨r',e3,?_⟩
  have hx2:x*x=x^2:=by rw[Int.pow_succ,Int.pow_succ,Int.pow_zero,Int.one_mul]
  rw[ex,Int.mul_assoc,hx2,<-Int.pow_mul,<-Int.pow_add,show r+2*m=n by omega]at h3
  exact h3
theorem qpn {N:Nat} (hN:110000<N) {b:qj} {x:Int} {n mb:Nat} (d:n<100000) (j:IsZ b x) (fx:Fit x mb) (u:1+mb*n<=3900): ∃r,qaT N b (n:Int)=some r/\IsZ r (x^n):=by
 obtain⟨r,e,h⟩:=qnG (N:=N) (by omega) N n b ⟨1,[]⟩ x 1 mb 1 d (by omega) j (Ud (by decide) (by decide)) fx (F1 (by omega)) u
 have e:jK N N b.s b.w 1 [] (n:Int)=some (r.s,r.w):=e
 unfold qaT
 rw[qgT,ZB]
 simp only
 rw[e,ZB]
 exact⟨r,rfl,by rw[Int.one_mul]at h;exact h⟩
theorem qey {z:Int} {p n:Nat} (h:(z.natAbs:Int)<((10^p:Nat):Int)) (hp:p<=19*n):Fit z n:=by
 have d:(10:Nat)^p<=10^(19*n):=Nat.pow_le_pow_right (by omega) hp
 have j:((10^(19*n):Nat):Int)<=W^n:=by
  rw[Nat.pow_mul]
  have:=(qdk (x:=10000000000000000000) (y:=W) (by decide) (by decide) n).2
  rw[Int.natCast_pow]
  exact this
 unfold Fit
 omega
theorem qbp (s:Str):strings_HasPrefix s [45]=some (sgn s):=by
 unfold strings_HasPrefix stringslite_HasPrefix sgn
 cases s with
 |nil=>rfl
 |cons c t=>
  rw[if_pos (by simp;omega)]
  have e:cut (c::t) 0 (([45]:Str).length:Int)=some [c]:=yh (l:=c::t) (k:=1) (by simp)
  rw[e]
  simp only[ZB,Yj]
  congr 1
  rw[Bool.eq_iff_iff,beq_iff_eq,decide_eq_true_eq]
  constructor
  ·intro h;injection h with h;rw[h]
  intro h;rw[Ye h]
theorem qkv {s:Str} (h:sgn s=true):1<=s.length:=by
 cases s with
 |nil=>simp[sgn]at h
 |cons=>simp
theorem qd1 (s:Str):strings_TrimPrefix s [45]=some (bdy s):=by
 unfold strings_TrimPrefix stringslite_TrimPrefix
 have e:stringslite_HasPrefix s [45]=some (sgn s):=by
  have:=qbp s
  unfold strings_HasPrefix at this
  cases h:stringslite_HasPrefix s [45]with
  |none=>rw[h]at this;cases this
  |some b=>rw[h]at this;exact this
 rw[e,ZB]
 unfold bdy
 cases h:sgn s with
 |false=>rw[if_neg (by simp),if_neg (by simp),ZB]
 |true=>
  have d:cut s (([45]:Str).length:Int) (s.length:Int)=some (s.drop 1):=xg (qkv h)
  rw[if_pos rfl,if_pos rfl,d,ZB,ZB]
theorem qib (s:Str):strings_CutPrefix s [45]=some (bdy s,sgn s):=by
 unfold strings_CutPrefix stringslite_CutPrefix
 have e:stringslite_HasPrefix s [45]=some (sgn s):=by
  have:=qbp s
  unfold strings_HasPrefix at this
  cases h:stringslite_HasPrefix s [45]with
  |none=>rw[h]at this;cases this
  |some b=>rw[h]at this;exact this
 rw[e,ZB]
 unfold bdy
 cases h:sgn s with
 |false=>rw[if_pos (by simp),if_neg (by simp),ZB]
 |true=>
  have d:cut s (([45]:Str).length:Int) (s.length:Int)=some (s.drop 1):=xg (qkv h)
  rw[if_neg (by simp),if_pos rfl,d,ZB,ZB]
theorem qkp {N:Nat} (hN:600000<N): ∀(K:Nat) (x:qj) (y:Int) (s:Str) (p:Nat),IsZ x y->0<=y->y<((10^p:Nat):Int)->p+s.length<=19000->s.all vg=true->s.length<K->
 ∃r,yD N K x.s x.w s=some (r.s,r.w)/\IsZ r (y*((10^s.length:Nat):Int)+(qN 0 s:Nat))
 |0,_,_,_,_,_,_,_,_,_,h=>by omega
 |K+1,x,y,s,p,hx,y0,y1,hp,hd,hK=>by
  rw[yD]
  by_cases h0:s.length=0
  ·rw[if_neg (by omega)]
   have:s=[]:=YL.1 h0
   subst this
   exact⟨x,rfl,by simpa[qbD]using hx⟩
  rw[if_pos (by omega)]
  obtain⟨g,hg,hg0,hgl,hg18⟩: ∃g:Nat,(if(s.length:Int)<18 then(s.length:Int)else 18)=(g:Int)/\0<g/\g<=s.length/\g<=18:=by
   by_cases c:(s.length:Int)<18
   ·exact⟨s.length,by rw[if_pos c],by omega,by omega,by omega⟩
   exact⟨18,by rw[if_neg c];rfl,by omega,by omega,by omega⟩
  have lt:(s.take g).length=g:=by rw[Ym];omega
  have ea:=qiE (s:=s.take g) (by omega) (qgG hd g)
  have et:qi1 (s.take g)=some (((qN 0 (s.take g):Nat):Int),()):=by
   unfold qi1
   rw[if_pos (by omega),ea]
   rfl
  have hv:=qdE (s.take g) 0 (qgG hd g)
  rw[lt]at hv
  have hp18:(10:Nat)^g<=10^18:=Nat.pow_le_pow_right (by omega) hg18
  have h18:(10:Nat)^18=1000000000000000000:=rfl
  rw[hg,yh hgl,ZB,et,ZB,qgT,ZB]
  obtain⟨r1,e1,h1⟩:=qpn (N:=N) (by omega) (b:=⟨10,[]⟩) (x:=10) (n:=g) (mb:=1) (by omega) (Ud (by decide) (by decide)) (qey (p:=2) (by decide) (by omega)) (by omega)
  have ep:(10:Int)^g=((10^g:Nat):Int):=by rw[Int.natCast_pow];rfl
  rw[ep]at h1
  have fg:Fit ((10^g:Nat):Int) 1000:=qey (p:=19) (by
   rw[Int.natAbs_natCast]
   have d:(10:Nat)^19=10000000000000000000:=rfl
   omega) (by omega)
  have fy:Fit y 1000:=qey (p:=p) (by omega) (by omega)
  have hpos:0<10^g:=Nat.pow_pos (by decide)
  have yg0:0<=y*((10^g:Nat):Int):=Yv y0 (by omega)
  have u:(y+1)*((10^g:Nat):Int)<=((10^(p+g):Nat):Int):=by
   rw[Nat.pow_add,Int.natCast_mul]
   exact Int.mul_le_mul_of_nonneg_right (by omega) (by omega)
  rw[Int.add_mul,Int.one_mul]at u
  obtain⟨r2,j,h2⟩:=qg7 (N:=N) (by omega) hx h1 (fy.mono (by omega)) (fg.mono (by omega))
  have j:ze N (⟨x.s,x.w⟩:qj) r1=some r2:=j
  have a0:IsZ ⟨((qN 0 (s.take g):Nat):Int),[]⟩ ((qN 0 (s.take g):Nat):Int):=Ud (by omega) (by omega)
  obtain⟨r3,e3,h3⟩:=qjF (N:=N) (by omega) h2 a0 (qey (p:=p+g) (by omega) (by omega)) (qey (p:=19) (by
   rw[Int.natAbs_natCast]
   have d:(10:Nat)^19=10000000000000000000:=rfl
   omega) (by omega))
  rw[e1,ZB,j,ZB,qgT,ZB,e3,ZB,xg hgl,ZB]
  have ld:(s.drop g).length=s.length-g:=by rw[YJ]
  obtain⟨r,e4,h4⟩:=qkp hN K r3 _ (s.drop g) (p+g) h3 (by omega) (by omega) (by omega) (qgA hd g) (by omega)
  refine⟨r,e4,?_⟩
  have e5:=qdu (s.take g) (s.drop g)
  rw[YS]at e5
  have e6:(10:Nat)^s.length=10^g*10^(s.drop g).length:=by rw[<-Nat.pow_add,ld];congr 1;omega
  rw[e5,e6]
  rw[Int.add_mul]at h4
  rw[Int.natCast_mul,Int.natCast_add,Int.natCast_mul,<-Int.mul_assoc,<-Int.add_assoc]
  exact h4
theorem qfB {N:Nat} (hN:600000<N) {s:Str} (u:(bdy s).all vg=true) (hl:(bdy s).length<=19000): ∃r,qak N s=some r/\IsZ r (qim s):=by
 obtain⟨r,e,h⟩:=qkp hN N ⟨0,[]⟩ 0 (bdy s) 0 (Ud (by decide) (by decide)) (by omega) (by decide) (by omega) u (by omega)
 have e:yD N N 0 [] (bdy s)=some (r.s,r.w):=e
 rw[Int.zero_mul,Int.zero_add]at h
 unfold qak
 rw[qbp,ZB,qd1,ZB,e,ZB]
 unfold qim
 cases hs:sgn s with
 |false=>
  rw[if_neg (by simp)]
  exact⟨r,rfl,by simpa using h⟩
 |true=>
  obtain⟨j,d,h2⟩:=qgh h
  have d:zF (⟨r.s,r.w⟩:qj)=some j:=d
  simp only[if_true]
  rw[d]
  exact⟨j,rfl,h2⟩
end Go.Av
end
section
namespace Go.Av
theorem qkW: ∀n:Nat,Lib.repeatL [48] n=List.replicate n 48
 |0=>rfl
 |n+1=>by rw[Lib.repeatL,qkW,List.replicate_succ];rfl
theorem qhq: ∀k:Nat,qcQ k 0=List.replicate k 48
 |0=>rfl
 |k+1=>by
  rw[qcQ,Nat.zero_div,qhq k,List.replicate_succ']
  rfl
theorem qjz: ∀(k n:Nat),n<10^(k+1)->qcQ (k+1) n=List.replicate (k+1-(Lib.decDigits n).length) 48++Lib.decDigits n
 |0,n,h=>by
  have h:n<10:=by simpa using h
  rw[vo h,qcQ,qcQ,Nat.mod_eq_of_lt h]
  rfl
 |k+1,n,h=>by
  rw[qcQ]
  by_cases c:n<10
  ·rw[vo c,Nat.div_eq_of_lt c,qhq,Nat.mod_eq_of_lt c]
   rfl
  rw[Nat.pow_succ]at h
  rw[qjz k (n/10) (by omega),qeT c,Yz,Yq,List.length_singleton,show k+1+1-((Lib.decDigits (n/10)).length+1)=k+1-(Lib.decDigits (n/10)).length by omega]
theorem qe8 (n:Nat):Lib.itoa (n:Int)=Lib.decDigits n:=by rw[zX (by omega),Int.natAbs_natCast]
theorem qnj {r:Nat} (h:r<1000000000000000000) (c: ¬r=0):dg W (r:Int)=[(r:Int)]:=by
 rw[qhN (by omega) (by unfold W;omega)]
theorem qmV {r:Nat} (h:r<1000000000000000000):qfZ (r:Int) 10=some (Lib.decDigits r):=by
 unfold qfZ
 rw[if_pos ⟨by omega,by omega,rfl⟩,qe8]
theorem qmg:(if((dg W ((0:Nat):Int)).length:Int)>0 then(idx (dg W ((0:Nat):Int)) 0).bind fun x13=>(qfZ x13 10).bind fun r14=>some r14 else some [48]:Option Str)=some (Lib.decDigits 0):=by
 rw[show((0:Nat):Int)=0 from rfl,qcu,if_neg (by simp),vo (by decide)]
 rfl
theorem qn8 {r:Nat} (h:r<1000000000000000000):(if((dg W (r:Int)).length:Int)>0 then(idx (dg W (r:Int)) 0).bind fun x13=>(qfZ x13 10).bind fun r14=>some r14 else some [48]:Option Str)=some (Lib.decDigits r):=by
 by_cases c:r=0
 ·rw[c]
  exact qmg
 rw[qnj h c,if_pos (show((([(r:Int)]:List Int).length:Nat):Int)>0 from by rw[List.length_singleton];decide),qby,Yj,ZB,qmV h]
 rfl
theorem p18:(10:Nat)^18=1000000000000000000:=rfl
theorem qn1 {q r:Nat} (h:r<1000000000000000000): ∃t:Str,(if((dg W (q:Int)).length:Int)>0 then(qdI [48] (w64 (18-((Lib.decDigits r).length:Int)))).bind fun r18=>(cat r18 (Lib.decDigits r)).bind fun s19=>some s19 else some (Lib.decDigits r):Option Str)=some t/\0<t.length/\Lib.decDigits (1000000000000000000*q+r)=(if q=0 then[]else Lib.decDigits q)++t:=by
 have u:r<10^18:=by rw[p18];exact h
 have lD:(Lib.decDigits r).length<=18:=(qac (by decide)).2 u
 have d:=qkk r
 by_cases c:q=0
 ·subst c
  rw[show((0:Nat):Int)=0 from rfl,qcu,if_neg (by simp),if_pos rfl,Nat.mul_zero,Nat.zero_add]
  exact⟨_,rfl,d,rfl⟩
 have j:dg W (q:Int)≠[]:=fun e=>by have:=(qf1 W1 (by omega)).1 e;omega
 have hlen:0<(dg W (q:Int)).length:=List.length_pos_iff.2 j
 have et:qdI [48] (w64 (18-((Lib.decDigits r).length:Int)))=some (List.replicate (18-(Lib.decDigits r).length) 48):=by
  rw[qg (by omega) (by omega)]
  unfold qdI
  rw[if_pos ⟨by omega,by omega,by simp;omega⟩,qkW]
  congr 2
  omega
 have hp:=qjz 17 r u
 have hl:(qcQ (17+1) r).length=18:=qf3 _ _
 have hs:=qgZ 18 (1000000000000000000*q+r)
 rw[p18,Nat.mul_add_div (by omega),Nat.div_eq_of_lt h,Nat.add_zero,Nat.mul_add_mod,Nat.mod_eq_of_lt h]at hs
 rw[if_pos (by omega),et,ZB,qa6 (by simp;omega),ZB,<-hp,if_neg c]
 exact⟨_,rfl,by omega,hs (by omega)⟩
theorem qpt {N:Nat} (hN:600000<N) (B:Nat) (hB:B<=3900) (K:Nat): ∀(k m:Nat) (l:List Str),m<10^(18*k)->k<K->k+l.length<=100000->Fit (m:Int) B->(∀t∈l,0<t.length)->
 ∃l',zT N K l (dg W (m:Int))=some l'/\(∀t∈l',0<t.length)/\l'.length<=k+l.length/\l'.reverse.flatten=(if m=0 then[]else Lib.decDigits m)++l.reverse.flatten:=by
 induction K with
 |zero=>intro k m l _ h;omega
 |succ K ih=>
  intro k m l hm hK hl fm hp
  rw[zT]
  by_cases h0:m=0
  ·subst h0
   rw[show((0:Nat):Int)=0 from rfl,qcu,if_neg (by simp),if_pos rfl]
   exact⟨l,rfl,hp,by omega,rfl⟩
  obtain⟨j,hj⟩: ∃j,k=j+1:=⟨k-1,by
   rcases Nat.eq_zero_or_pos k with e|e
   ·subst e;simp at hm;omega
   omega⟩
  rw[hj]at hm hK hl
  have d:(0:Int)<=(m:Int):=by omega
  have hne:dg W (m:Int)≠[]:=fun e=>by have:=(qf1 W1 d).1 e;omega
  have hlen:0<(dg W (m:Int)).length:=List.length_pos_iff.2 hne
  have ln:(dg W (m:Int)).length<=3900:=Nat.le_trans fm.len hB
  have cB:Can W [1000000000000000000]:=by
   have:=zS W1 (show(0:Int)<=1000000000000000000 by decide)
   rw[qhN (by decide) (by decide)]at this
   exact this
  have vB:dv W [1000000000000000000]=1000000000000000000:=by rw[zi,kg,Int.mul_zero,Int.add_zero]
  have ed:=qht (N:=N) (by omega) (zS W1 d) cB (by omega) (by rw[vB];decide)
  rw[vB,jS W1 d]at ed
  obtain⟨q,r,hq,hr⟩: ∃q r,m=1000000000000000000*q+r/\r<1000000000000000000:=⟨m/1000000000000000000,m%1000000000000000000,by omega,by omega⟩
  have eq:(m:Int)/1000000000000000000=(q:Int):=by omega
  have er:(m:Int)%1000000000000000000=(r:Int):=by omega
  rw[eq,er]at ed
  obtain⟨t,et,t0,eD⟩:=qn1 (q:=q) hr
  rw[<-hq]at eD
  rw[if_pos (by omega),ed,ZB]
  simp only
  rw[qn8 hr,ZB,et,ZB,qeX (by simp;omega) (by simp;omega),ZB]
  have hk:q<10^(18*j):=by
   rw[Nat.mul_succ,Nat.pow_add,p18,Nat.mul_comm]at hm
   refine Nat.lt_of_mul_lt_mul_left (a:=1000000000000000000) ?_
   omega
  obtain⟨l',f1,f2,f3,f4⟩:=ih j q (l++[t]) hk (by omega) (by simp;omega) (qaG (by omega) fm) (fun u hu=>by
   rcases List.mem_append.1 hu with hu|hu
   ·exact hp u hu
   rw[List.mem_singleton.1 hu];exact t0)
  refine⟨l',f1,f2,by simp at f3;omega,?_⟩
  rw[f4,if_neg h0,eD,List.reverse_append,List.flatten_append,Yz]
  simp
def byN (s:Str):List Int:=s.map fun x=>(x.toNat:Int)
theorem qfN (s:Str):(byN s).length=s.length:=by unfold byN;rw[List.length_map]
theorem qny {l:List Str} (hp: ∀t∈l,0<t.length) (hl:l.length<=100000): ∀(K i:Nat) (o:Option (List Int)),i<=l.length->i<K->(hof o).length+(l.take i).flatten.length<=1000000000->
 ∃j,zg l K o.isSome o ((i:Int)-1)=some (j.isSome,j)/\hof j=hof o++byN (l.take i).reverse.flatten
 |0,i,o,_,h,_=>by omega
 |K+1,0,o,hi,h,hb=>by
  rw[zg,if_neg (by omega)]
  exact⟨o,rfl,by simp[byN]⟩
 |K+1,i+1,o,hi,h,hb=>by
  have d:i<l.length:=by omega
  have ei:((i+1:Nat):Int)-1=(i:Int):=by omega
  have u:l.take (i+1)=l.take i++[l[i]]:=List.take_succ_eq_append_getElem d
  have h1:=hp l[i] (List.getElem_mem d)
  rw[u,List.flatten_append,Yq]at hb
  simp only[List.flatten_cons,List.flatten_nil,YQ]at hb
  have ew:bWr o.isSome o l[i]=some (hof o++byN l[i]):=by
   unfold bWr
   rw[if_pos ⟨rfl,by omega,h1⟩]
   rfl
  rw[zg,ei,if_pos (by omega),qy,Ya d,ZB,ew,ZB,qg (by omega) (by omega)]
  obtain⟨j,f1,f2⟩:=qny hp hl K i (some (hof o++byN l[i])) (by omega) (by omega) (by
   show(hof o++byN l[i]).length+_<=_
   rw[Yq,qfN];omega)
  refine⟨j,f1,?_⟩
  rw[f2,u,List.reverse_append,List.flatten_append]
  show hof o++byN l[i]++_=_
  rw[Yz]
  unfold byN
  simp
theorem qmX (s:Str):(byN s).map (fun n=>UInt8.ofNat n.toNat)=s:=by
 unfold byN
 rw[List.map_map]
 conv=>rhs;rw[<-List.map_id s]
 refine List.map_congr_left fun x _=>?_
 show UInt8.ofNat ((x.toNat:Int)).toNat=x
 rw[Int.toNat_natCast,UInt8.ofNat_toNat]
theorem qn2 (s:Str):(byN s).all (fun n=>decide (0<=n)&&decide (n<256))=true:=by
 unfold byN
 rw[List.all_map,Yp]
 intro x _
 have:x.toNat<256:=x.toNat_lt
 simp
 omega
theorem qiq: ∀l:List Str,l.reverse.flatten.length=l.flatten.length:=fun l=>by
 rw[List.length_flatten,List.length_flatten,List.map_reverse,List.sum_reverse]
theorem qdF {N:Nat} (hN:600000<N) {x:qj} {z:Int} (h:IsZ x z) (fz:Fit z 3900):jB N x=some (Lib.itoa z):=by
 unfold jB
 cases e:x.w.isEmpty with
 |true=>
  obtain⟨u,h2,h3⟩:=h.emp e
  rw[if_pos rfl,u]
  unfold qk5
  rw[if_pos ⟨h2,h3⟩,ZB]
 |false=>
  have hz:z.natAbs≠0:=by
   rcases h with⟨hw,_⟩|⟨_,_,u,_⟩
   ·rw[hw]at e;cases e
   omega
  obtain⟨B8,hB8⟩: ∃B8:Nat,B8=8000:=⟨_,rfl⟩
  have pw:((10^(18*B8):Nat):Int)=(1000000000000000000:Int)^B8:=by
   rw[Nat.pow_mul,Int.natCast_pow]
   rfl
  have hm:z.natAbs<10^(18*B8):=by
   have u:W^3900<=(1000000000000000000:Int)^B8:=by
    have a1:(1000000000000000000:Int)^B8=((1000000000000000000:Int)^2)^4000:=by rw[<-Int.pow_mul,hB8]
    have a2:W^4000<=((1000000000000000000:Int)^2)^4000:=(qdk (by decide) (by decide) 4000).2
    have a3:W^3900<=W^4000:=vT (by decide) (by decide)
    rw[a1]
    exact Int.le_trans a3 a2
   rw[<-pw]at u
   unfold Fit at fz
   omega
  obtain⟨l,f1,f2,f3,j⟩:=qpt hN 3900 (Nat.le_refl _) N B8 z.natAbs [] hm (by omega) (by simp;omega) (by unfold Fit;rw[Int.natAbs_natCast];exact fz) (fun t ht=>by cases ht)
  rw[if_neg hz]at j
  simp only[List.reverse_nil,List.flatten_nil,YQ,List.length_nil,Nat.add_zero]at f3 j
  have lD:(Lib.decDigits z.natAbs).length<=18*B8:=(qac (by omega)).2 hm
  have lf:l.flatten.length<=18*B8:=by rw[<-qiq,j];exact lD
  have lpos:=qkk z.natAbs
  rw[if_neg (by simp),parts_eq h,ZB]
  simp only
  rw[f1,ZB]
  have el:w64 ((l.length:Int)-1)=(l.length:Int)-1:=qg (by omega) (by omega)
  have d: ∀(o:Option (List Int)) (pre:Str),hof o=byN pre->pre.length<=10->((zg l N o.isSome o (w64 ((l.length:Int)-1))).bind fun(ok30,o31)=>(qlS ok30 o31).bind fun t38=>some t38)=some (pre++Lib.decDigits z.natAbs):=by
   intro o pre ho hpre
   obtain⟨o',g1,g2⟩:=qny f2 (by omega) N l.length o (Nat.le_refl _) (by omega) (by rw[ho,qfN,List.take_of_length_le (Nat.le_refl _)];omega)
   rw[List.take_of_length_le (Nat.le_refl _),j,ho]at g2
   have g3:hof o'=byN (pre++Lib.decDigits z.natAbs):=by
    rw[g2]
    unfold byN
    rw[List.map_append]
   have hs:o'.isSome=true:=by
    cases o' with
    |none=>
     have:=congrArg List.length g3
     rw[qfN,Yq]at this
     simp at this
     omega
    |some q=>rfl
   rw[el,g1,ZB]
   simp only
   unfold qlS
   rw[if_pos ⟨hs,by rw[g3,qfN,Yq];omega,by rw[g3];exact qn2 _⟩,g3,qmX,ZB]
  by_cases c:z<0
  ·have eb:bWr false (none:Option (List Int)) [45]=some [45]:=rfl
   rw[decide_eq_true c,if_pos rfl,eb,ZB,ZB]
   simp only
   have:=d (some [45]) [45] rfl (by simp)
   rw[vM c]
   exact this
  rw[decide_eq_false c,if_neg (by simp),ZB]
  simp only
  have:=d none [] rfl (by simp)
  rw[zX c]
  exact this
end Go.Av
end
section
namespace Go.Av
theorem qow {x:qj} {z:Int} (h:IsZ x z) (fz:Fit z 3900): ∃b:Nat,qai x=some (b:Int)/\(z.natAbs:Int)<2^b:=by
 unfold qai
 rw[parts_eq h,ZB]
 simp only
 have hz:(0:Int)<=(z.natAbs:Int):=by omega
 have cc:=zS W1 hz
 have u:=jS W1 hz
 have ll:=fz.len
 generalize dg W (z.natAbs:Int)=w at*
 by_cases h0:w.length=0
 ·rw[if_pos (by omega)]
  rw[YL.1 h0,kg]at u
  exact⟨0,rfl,by rw[<-u];decide⟩
 have hk:w.length-1<w.length:=by omega
 have ax:=cc.1.at hk
 obtain⟨l,e,hl⟩:=qjo ax.1 ax.2
 have hl0:0<=l/\l<=64:=by
  rcases hl with⟨_,h⟩|⟨d,j,_⟩<;>omega
 have hl2:w[w.length-1]<2^l.toNat:=by
  rcases hl with⟨d,j⟩|⟨_,_,_,h⟩
  ·rw[d,j];decide
  exact h
 rw[if_neg (by omega),qhO (by omega) (by omega),qy,Ya hk,ZB,e,ZB,qg (n:=64*((w.length-1:Nat):Int)) (by omega) (by omega),qg (by omega) (by omega)]
 refine⟨64*(w.length-1)+l.toNat,by congr 1;omega,?_⟩
 have e1:=qm W w (w.length-1) hk
 rw[List.take_of_length_le (by omega),u]at e1
 have d:=yz W0 (cc.1.take (w.length-1))
 rw[Ym,Nat.min_eq_left (by omega)]at d
 have e2:(2:Int)^(64*(w.length-1)+l.toNat)=W^(w.length-1)*2^l.toNat:=by
  rw[Int.pow_add,Int.pow_mul]
  rfl
 have j:W^(w.length-1)*(w[w.length-1]+1)<=W^(w.length-1)*2^l.toNat:=Yc (by omega) (Int.le_of_lt (pow_pos W0 _))
 rw[Int.mul_add,Int.mul_one]at j
 rw[e2]
 omega
theorem pow8: ∀n:Nat,(8:Int)^(n+1)<((10^(n+1):Nat):Int)
 |0=>by decide
 |n+1=>by
  have d:=pow8 n
  have h:=pow_pos (show(0:Int)<8 by decide) (n+1)
  rw[Int.pow_succ,Nat.pow_succ,Int.natCast_mul]
  omega
theorem qo1 (n:Nat):(2:Int)^(3*n)=(8:Int)^n:=by
 rw[Int.pow_mul]
 rfl
theorem qnV {n m:Nat} (d:m=3*(n+1)):(2:Int)^m<((10^(n+1):Nat):Int):=by
 rw[d,qo1]
 exact pow8 n
def lng (z:Int):Bool:=decide (600<(Lib.decDigits z.natAbs).length)
theorem qkN {N:Nat} (hN:600000<N) {x:qj} {z:Int} (h:IsZ x z) (fz:Fit z 3900):qb9 N x=some (lng z):=by
 obtain⟨b,e,hb⟩:=qow h fz
 unfold qb9
 rw[e,ZB]
 by_cases c:(b:Int)>1800
 ·rw[if_pos c,qdF hN h fz,ZB,qd1,qaW,ZB,ZB]
  congr 1
  exact decide_eq_decide.2 (by omega)
 rw[if_neg c,ZB]
 congr 1
 obtain⟨m,hm⟩: ∃m:Nat,m=3*(599+1):=⟨_,rfl⟩
 have u:(2:Int)^b<=2^m:=vT (by decide) (by omega)
 have j:=qnV hm
 have d:z.natAbs<10^(599+1):=by omega
 have:=(qac (n:=z.natAbs) (k:=599+1) (by decide)).2 d
 unfold lng
 rw[decide_eq_false (by omega)]
def qhf (q:Rat):Bool:=lng q.num||lng q.den
theorem qmn {N:Nat} (hN:600000<N) {f:qL} {q:Rat} (h:IsF f q) (d:qbP q 3900):xk N f=some (qhf q):=by
 unfold xk qhf
 rw[qkN hN h.1 d.1,ZB]
 cases lng q.num with
 |true=>rw[if_pos rfl,ZB,Bool.true_or]
 |false=>rw[if_neg (by simp),qkN hN h.2 d.2,ZB,ZB,Bool.false_or]
def T (q:Rat):Str:=Lib.itoa q.num++(if q.den=1 then[]else 47::Lib.decDigits q.den)
theorem Fit.itoaLen {z:Int} (h:Fit z 3900):(Lib.itoa z).length<=200001:=by
 have d:(Lib.decDigits z.natAbs).length<=20*10000:=by
  refine(qac (by decide)).2 ?_
  obtain⟨B,hB⟩: ∃B:Nat,B=10000:=⟨_,rfl⟩
  rw[<-hB]
  have u:W^3900<=W^B:=vT (by decide) (by omega)
  have h3:W^B<=(100000000000000000000:Int)^B:=(qdk (by decide) (by decide) B).2
  have j:((10^(20*B):Nat):Int)=(100000000000000000000:Int)^B:=by
   rw[Nat.pow_mul,Int.natCast_pow]
   rfl
  unfold Fit at h
  generalize W^3900=p at*
  omega
 by_cases c:z<0
 ·rw[vM c,Yr];omega
 rw[zX c];omega
theorem qob {N:Nat} (hN:600000<N) {f:qL} {q:Rat} (h:IsF f q) (d:qbP q 3900):xO N f=some (T q):=by
 unfold xO T
 rw[qjB h,ZB]
 by_cases c:q.den=1
 ·rw[decide_eq_true c,if_pos rfl,qdF hN h.1 d.1,ZB,if_pos c,YQ]
 have j:=Fit.itoaLen d.1
 have u:=Fit.itoaLen d.2
 rw[decide_eq_false c,if_neg (by simp),qdF hN h.1 d.1,ZB,qa6 (by simp;omega),ZB,qdF hN h.2 d.2,ZB,qa6 (by simp;omega),ZB,if_neg c,qe8,Yz]
 rfl
theorem qoC {α:Type} {b:Bool} {x y:α}:zy b x y=if b=true then x else y:=by cases b<;>rfl
theorem qiG: ∀(s:Str) (j:Nat),qg8 47 s j=if slA s<s.length then((j+slA s:Nat):Int)else-1
 |[],j=>rfl
 |c::s,j=>by
  show zy (Nat.beq c.toNat 47) (Int.ofNat j) (qg8 47 s (j+1))=_
  rw[qoC,qiG s (j+1),slA,Yr]
  by_cases h:c=47
  ·subst h
   rw[if_pos (by decide),if_pos rfl,if_pos (by omega)]
   rfl
  have d:c.toNat≠47:=fun e=>h (UInt8.toNat_inj.1 (by rw[e];rfl))
  rw[if_neg (by rw[qbG d];simp),if_neg h]
  by_cases c2:slA s<s.length
  ·rw[if_pos c2,if_pos (by omega)]
   congr 1
   omega
  rw[if_neg c2,if_neg (by omega)]
theorem qnk {s:Str}:stringslite_Index s [47]=some (qg8 47 s 0):=by
 unfold stringslite_Index stringslite_IndexByte qio
 have d: ¬(([47]:Str).length:Int)=0:=by simp
 have h:(([47]:Str).length:Int)=1:=by simp
 rw[if_neg d]
 simp only[ZB]
 by_cases hs:(([47]:Str)==s)=true
 ·have:s=[47]:=(beq_iff_eq.1 hs).symm
  subst this
  rfl
 rw[if_neg hs,if_pos h,qby,show([47]:Str)[0]? =some 47 from rfl,ZB,if_pos (by decide)]
 rfl
theorem qmD {s:Str} (d:s.length<=1000000):strings_Cut s [47]=some (if slA s<s.length then(s.take (slA s),s.drop (slA s+1),true)else(s,[],false)):=by
 have h:=qe7 s
 unfold strings_Cut stringslite_Cut
 rw[qnk,qiG,ZB]
 by_cases c:slA s<s.length
 ·rw[if_pos c,if_pos (by omega),if_pos c,Nat.zero_add,yh h,ZB,show w64 ((slA s:Int)+(([47]:Str).length:Int))=((slA s+1:Nat):Int)from jC (by omega),xg (by omega),ZB,ZB]
 rw[if_neg c,if_neg (by omega),if_neg c,ZB]
theorem qeB {s:Str} (d:s.length<=1000000):ji s=some (decide (Dec s)):=by
 have j:qiM s [48,49,50,51,52,53,54,55,56,57]=some (Lib.trimS s [48,49,50,51,52,53,54,55,56,57]):=by
  unfold qiM
  rw[if_pos ⟨d,by decide,by decide⟩]
 unfold ji
 rw[j]
 simp only[ZB,qlL]
 cases s with
 |nil=>rfl
 |cons c t=>
  rw[if_pos (by rfl),qby]
  simp only[Yj,ZB]
  cases hd:(c::t).all vg with
  |false=>
   rw[if_neg (by simp),ZB,decide_eq_false fun h=>by rw[h.2.1]at hd;cases hd]
  |true=>
   rw[if_pos rfl]
   by_cases h:c=48
   ·subst h
    rw[if_neg (by decide),ZB]
    congr 1
    rw[Bool.eq_iff_iff,beq_iff_eq,decide_eq_true_eq]
    exact⟨fun e=>by rw[e];exact qkP (by decide),fun h=>h.2.2 rfl⟩
   rw[if_pos (by simp[ne48 h]),ZB,decide_eq_true (show Dec (c::t)from⟨by simp,hd,fun e=>absurd (Ye e) h⟩)]
theorem qgQ {s:Str} (j:s.length<=1000000): ∀(K i:Nat),i<=s.length->s.length<K+i->jb s K (i:Int)=some (if(s.drop i).all vg=true then .inl ()else .inr false)
 |0,i,h,hK=>by omega
 |K+1,i,h,hK=>by
  rw[jb]
  by_cases hi:i<s.length
  ·have d:s.drop i=s[i]::s.drop (i+1):=YG hi
   rw[if_pos (by omega),qy,Ya hi,ZB,d,List.all_cons]
   generalize s[i]=c
   have e:(if(c.toNat:Int)<48 then some true else some (decide ((c.toNat:Int)>57)):Option Bool)=some (!vg c):=by
    by_cases h1:(c.toNat:Int)<48
    ·rw[if_pos h1]
     congr 1
     unfold vg
     rw[decide_eq_false (by omega)]
     rfl
    rw[if_neg h1]
    congr 1
    unfold vg
    rw[decide_eq_true (p:=48<=c.toNat) (by omega),Bool.true_and,<-decide_not]
    exact decide_eq_decide.2 (by omega)
   rw[e,ZB]
   cases hc:vg c with
   |true=>rw[if_neg (by simp),jC (by omega),qgQ j K (i+1) (by omega) (by omega),Bool.true_and]
   |false=>rw[if_pos (by simp),Bool.false_and,if_neg (by simp)]
  rw[if_neg (by omega),List.drop_of_length_le (by omega)]
  rfl
theorem qgM {N:Nat} {s:Str} (u:s.length<=1000000) (hN:s.length<N):zW N s=some (decide (Dec s)):=by
 have e:=qgQ u N 0 (by omega) (by omega)
 have e:jb s N 0=_:=e
 have d:qaw N s=some (s.all vg):=by
  unfold qaw
  rw[e,YR]
  cases s.all vg<;>rfl
 unfold zW
 cases s with
 |nil=>rfl
 |cons c t=>
  rw[if_neg (by simp;omega)]
  by_cases h1:((c::t).length:Int)>1
  ·rw[if_pos h1,qby]
   simp only[Yj,ZB]
   by_cases h:c=48
   ·subst h
    rw[if_pos (by decide),decide_eq_false fun hD=>?_]
    have:=congrArg List.length (hD.2.2 rfl)
    rw[List.length_singleton]at this
    omega
   rw[if_neg (by simp[ne48 h]),d,ZB]
   congr 1
   rw[Bool.eq_iff_iff,decide_eq_true_eq]
   exact⟨fun hd=>⟨by simp,hd,fun e=>absurd (Ye e) h⟩,fun hD=>hD.2.1⟩
  rw[if_neg h1,ZB,if_neg (by simp),d,ZB]
  have j:t=[]:=YL.1 (by simp at h1;omega)
  subst j
  congr 1
  rw[Bool.eq_iff_iff,decide_eq_true_eq]
  exact⟨fun hd=>qkP (by simpa using hd),fun hD=>hD.2.1⟩
end Go.Av
end
section
namespace Go.Av
theorem qij {z:Int} {p n:Nat} (h:(z.natAbs:Int)<((10^p:Nat):Int)) (hp:p<=9*n):jh z n:=by
 have d:(10:Nat)^p<=10^(9*n):=Nat.pow_le_pow_right (by omega) hp
 unfold jh
 rw[qgU]
 omega
theorem qkw {N:Nat} (hN:10<N) (a b:Int):vR N [a,b]=some (if a=0 then b else a):=by
 obtain⟨K,rfl⟩: ∃K,N=K+1+1+1:=⟨N-3,by omega⟩
 unfold vR
 by_cases ha:a=0
 ·by_cases hb:b=0
  ·subst ha;subst hb
   rfl
  have d:zq [a,b] (K+1+1+1) 0=some (.inr b):=by
   rw[zq,if_pos (by simp),qby]
   simp only[Yj,ZB]
   rw[if_neg (by simp[ha]),zq,show w64 ((0:Int)+1)=1 from rfl,if_pos (by simp),idx_1]
   simp only[List.getElem?_cons_succ,Yj,ZB]
   rw[if_pos (by simp[hb])]
  rw[d,if_pos ha]
  rfl
 have d:zq [a,b] (K+1+1+1) 0=some (.inr a):=by
  rw[zq,if_pos (by simp),qby]
  simp only[Yj,ZB]
  rw[if_pos (by simp[ha])]
 rw[d,if_neg ha]
 rfl
def okF (s:Str):Bool:=decide (Dec ((bdy s).take (slA (bdy s)))/\ ¬(sgn s=true/\(bdy s).take (slA (bdy s))=[48]))
def qh6 (s:Str):Bool:=decide (slA (bdy s)<(bdy s).length/\ ¬(Dec ((bdy s).drop (slA (bdy s)+1))/\(bdy s).drop (slA (bdy s)+1)≠[48]/\(bdy s).drop (slA (bdy s)+1)≠[49]))
def chk (s:Str):Int:=
 if okF s=false\/qh6 s=true then 1
 else if 600<((bdy s).take (slA (bdy s))).length\/600<((bdy s).drop (slA (bdy s)+1)).length then 4
 else if slA (bdy s)<(bdy s).length/\Nat.gcd (qN 0 ((bdy s).take (slA (bdy s)))) (qN 0 ((bdy s).drop (slA (bdy s)+1)))≠1 then 1
 else 0
theorem qaP {s:Str} (h:s.all vg=true):sgn s=false/\bdy s=s:=by
 have e:sgn s=false:=decide_eq_false fun e=>by
  have d:(45:UInt8)∈s:=Yn e
  exact absurd (Yp.1 h _ d) (by decide)
 exact⟨e,by unfold bdy;rw[e];rfl⟩
theorem qb2 {s:Str} (h:s.all vg=true):qim s=(qN 0 s:Nat):=by
 obtain⟨j,d⟩:=qaP h
 unfold qim
 rw[j,d]
 rfl
theorem qek (s:Str):(bdy s).length<=s.length:=by
 unfold bdy
 split
 ·rw[YJ];omega
 exact Nat.le_refl _
theorem qdK {s:Str} {k:Nat} (h:Dec s) (d:s.length<=k):((qN 0 s:Nat):Int).natAbs<10^k:=by
 have j:=qdE s 0 h.2.1
 have u:(10:Nat)^s.length<=10^k:=Nat.pow_le_pow_right (by omega) d
 omega
theorem qeO {s:Str} (h:Dec s) (d:s≠[48]):0<qN 0 s:=by
 rcases Nat.eq_zero_or_pos (qN 0 s)with e|e
 ·have:=h.eq
  rw[e,vo (by decide)]at this
  exact absurd this d
 exact e
theorem qlM {N:Nat} (hN:600000<N) {s:Str} (hl:s.length<=10000):qax N s=some (chk s):=by
 have hb:=qek s
 have hk:=qe7 (bdy s)
 have lt:((bdy s).take (slA (bdy s))).length=slA (bdy s):=by rw[Ym];omega
 have ld:((bdy s).drop (slA (bdy s)+1)).length=(bdy s).length-(slA (bdy s)+1):=by rw[YJ]
 unfold qax
 rw[qib,ZB]
 simp only
 have C:strings_Cut (bdy s) [47]=some ((bdy s).take (slA (bdy s)),(bdy s).drop (slA (bdy s)+1),decide (slA (bdy s)<(bdy s).length)):=by
  rw[qmD (by omega)]
  by_cases c:slA (bdy s)<(bdy s).length
  ·rw[if_pos c,decide_eq_true c]
  rw[if_neg c,decide_eq_false c,List.take_of_length_le (by omega),List.drop_of_length_le (by omega)]
 rw[C,ZB]
 unfold chk okF qh6
 generalize hn:(bdy s).take (slA (bdy s))=n at*
 generalize hd:(bdy s).drop (slA (bdy s)+1)=d at*
 generalize slA (bdy s)=k at*
 generalize (bdy s).length=m at*
 simp only
 rw[qeB (by omega),ZB]
 have B6:(if decide (Dec n)=true then if(!sgn s)=true then some true else some (!(n==[48]))else some false:Option Bool)=some (decide (Dec n/\ ¬(sgn s=true/\n=[48]))):=by
  by_cases u:Dec n
  ·cases h2:sgn s with
   |false=>simp[u]
   |true=>
    by_cases h3:n=[48]<;>simp[u,h3]
  simp[u]
 rw[B6,ZB]
 generalize hf:decide (Dec n/\ ¬(sgn s=true/\n=[48]))=ok at*
 have B8:(if decide (k<m)=true then(if ok=true then(ji d).bind fun r12=>if r12=true then if(!(d==[48]))=true then some (!(d==[49]))else some false else some false else some false:Option Bool).bind fun b15=>some b15 else some ok:Option Bool)=some (ok&&!decide (k<m/\ ¬(Dec d/\d≠[48]/\d≠[49]))):=by
  by_cases u:k<m
  ·cases ok with
   |false=>simp[u]
   |true=>
    rw[qeB (by omega)]
    by_cases h2:Dec d
    ·by_cases h3:d=[48]
     ·simp[u,h2,h3]
     by_cases h4:d=[49]<;>simp[u,h2,h3,h4]
    simp[u,h2]
  simp[u]
 rw[B8,ZB]
 generalize hg:decide (k<m/\ ¬(Dec d/\d≠[48]/\d≠[49]))=bd at*
 have B:((zm (!(ok&&!bd)) 1).bind fun r17=>if(n.length:Int)>600 then(zm true 4).bind fun r19=>(vR N ([r17,r19]:List Int)).bind fun r20=>some (r17,r19,r20)else(zm (decide ((d.length:Int)>600)) 4).bind fun r21=>(vR N ([r17,r21]:List Int)).bind fun r22=>some (r17,r21,r22):Option (Int×Int×Int))=some (if ok=false\/bd=true then 1 else 0,if 600<n.length\/600<d.length then 4 else 0,if ok=false\/bd=true then 1 else if 600<n.length\/600<d.length then 4 else 0):=by
  have w1:zm (!(ok&&!bd)) 1=some (if ok=false\/bd=true then 1 else 0):=by
   unfold zm
   cases ok<;>cases bd<;>rfl
  rw[w1,ZB]
  by_cases c:(n.length:Int)>600
  ·rw[if_pos c,show zm true 4=some 4 from rfl,ZB,qkw (by omega),ZB,if_pos (show 600<n.length\/600<d.length from .inl (by omega))]
   by_cases c2:ok=false\/bd=true
   ·simp only[if_pos c2];rfl
   simp only[if_neg c2];rfl
  have w2:zm (decide ((d.length:Int)>600)) 4=some (if 600<n.length\/600<d.length then 4 else 0):=by
   unfold zm
   by_cases c2:(d.length:Int)>600
   ·rw[decide_eq_true c2,if_pos rfl,if_pos (.inr (by omega))]
   rw[decide_eq_false c2,if_neg (by simp),if_neg (by omega)]
  rw[if_neg c,w2,ZB,qkw (by omega),ZB]
  by_cases c2:ok=false\/bd=true
  ·simp only[if_pos c2];rfl
  simp only[if_neg c2];rfl
 rw[B,ZB]
 simp only
 by_cases c1:ok=false\/bd=true
 ·simp only[if_pos c1];rfl
 simp only[if_neg c1]
 by_cases c2:600<n.length\/600<d.length
 ·simp only[if_pos c2];rfl
 simp only[if_neg c2]
 rw[if_neg (show¬((!decide True)=true)by decide)]
 have ho:ok=true:=by cases ok<;>simp at c1⊢
 have hbd:bd=false:=by cases bd<;>simp at c1⊢
 have a0:=(of_decide_eq_true (hf.trans ho)).1
 by_cases c3:k<m
 ·have j:Dec d/\d≠[48]/\d≠[49]:=Classical.byContradiction fun hc=>of_decide_eq_false (hg.trans hbd) ⟨c3,hc⟩
  obtain⟨r1,e1,u⟩:=qfB hN (s:=n) (by rw[(qaP a0.2.1).2];exact a0.2.1) (by rw[(qaP a0.2.1).2];omega)
  obtain⟨r2,e2,h2⟩:=qfB hN (s:=d) (by rw[(qaP j.1.2.1).2];exact j.1.2.1) (by rw[(qaP j.1.2.1).2];omega)
  rw[qb2 a0.2.1]at u
  rw[qb2 j.1.2.1]at h2
  have f1:Fit ((qN 0 n:Nat):Int) 40:=qey (p:=600) (by have:=qdK a0 (k:=600) (by omega);omega) (by omega)
  have f2:Fit ((qN 0 d:Nat):Int) 40:=qey (p:=600) (by have:=qdK j.1 (k:=600) (by omega);omega) (by omega)
  obtain⟨g,e3,h3⟩:=qmi hN u h2 (f1.mono (by omega)) (f2.mono (by omega))
  have eg:Int.gcd ((qN 0 n:Nat):Int) ((qN 0 d:Nat):Int)=Nat.gcd (qN 0 n) (qN 0 d):=rfl
  rw[eg]at h3
  have hgp:0<Nat.gcd (qN 0 n) (qN 0 d):=Nat.gcd_pos_of_pos_right _ (qeO j.1 j.2.1)
  have fg:Fit ((Nat.gcd (qN 0 n) (qN 0 d):Nat):Int) 40:=qaG (by
   have:=Nat.le_of_dvd (qeO j.1 j.2.1) (Nat.gcd_dvd_right (qN 0 n) (qN 0 d))
   omega) f2
  have e4:=qoR (N:=N) (by omega) h3 (Ud (z:=1) (by decide) (by decide)) (fg.mono (by omega)) (F1 (by omega))
  rw[decide_eq_true c3,if_pos rfl,e1,ZB,e2,ZB,e3,ZB,qgT,ZB,e4,ZB,ZB]
  unfold zm
  by_cases c4:Nat.gcd (qN 0 n) (qN 0 d)=1
  ·rw[if_neg (show¬((Nat.gcd (qN 0 n) (qN 0 d):Nat):Int)<1 by omega),if_pos (show((Nat.gcd (qN 0 n) (qN 0 d):Nat):Int)=1 by omega),if_neg (show¬(k<m/\Nat.gcd (qN 0 n) (qN 0 d)≠1)from fun h=>h.2 c4)]
   rfl
  have: ¬((Nat.gcd (qN 0 n) (qN 0 d):Nat):Int)<1:=by omega
  rw[if_neg this,if_neg (show¬(((Nat.gcd (qN 0 n) (qN 0 d):Nat):Int)=1)by omega),if_pos (show k<m/\Nat.gcd (qN 0 n) (qN 0 d)≠1 from⟨c3,c4⟩)]
  rfl
 rw[decide_eq_false c3,if_neg (by simp),ZB,if_neg (by omega)]
 rfl
end Go.Av
end
section
namespace Go.Av
theorem qmQ:dg E9 1=[1]:=qhN (by decide) (by decide)
theorem qpp {N:Nat} (hN:100<N):xA N 1=some (rI 1):=by
 obtain⟨K,rfl⟩: ∃K,N=K+1+1:=⟨N-2,by omega⟩
 have h:jA (K+1+1) [] 1=some [1]:=by
  rw[jA,if_pos (by decide),if_neg (by decide),ZB,qeX (by simp) (by simp),ZB,show w64 ((1:Int).tdiv 1000000000)=0 from rfl,jA,if_neg (by decide)]
  rfl
 unfold xA
 rw[h,ZB,decide_eq_false (by decide),qbh false (w:=[1]) (Dg.cons ⟨by decide,by decide⟩ Dg.nil) (by simp) (by simp),ZB]
 rfl
theorem qhv {N:Nat} (hN:600000<N) {s:Str} (hl:s.length<=10000) (hk:slA s<s.length) (j:(bdy (s.take (slA s))).all vg=true) (u:(bdy (s.drop (slA s+1))).all vg=true):jV N s=some (rI (qim (s.take (slA s))),rI (qim (s.drop (slA s+1)))):=by
 have h:=qek (s.take (slA s))
 have d:=qek (s.drop (slA s+1))
 rw[Ym]at h
 rw[YJ]at d
 unfold jV
 rw[qdg (by omega) (by omega),ZB,if_neg (by omega),yh (by omega),ZB,qf5 (by omega) j (by omega),ZB,jC (by omega),xg (by omega),ZB,qf5 (by omega) u (by omega),ZB]
theorem qlx {N:Nat} (hN:600000<N) {s:Str} (hl:s.length<=10000):qaY N s=some (chk s):=by
 have hb:=qek s
 have hk:=qe7 (bdy s)
 have lt:((bdy s).take (slA (bdy s))).length=slA (bdy s):=by rw[Ym];omega
 have ld:((bdy s).drop (slA (bdy s)+1)).length=(bdy s).length-(slA (bdy s)+1):=by rw[YJ]
 unfold qaY
 rw[qeA,ZB,qjG,ZB,qdg (by omega) (by omega),ZB,yh hk,ZB,qgM (by omega) (by omega),ZB]
 have I:Dec ((bdy s).take (slA (bdy s)))->((idx s 0).bind fun c13=>if(c13.toNat:Int)=45 then(some ((bdy s).take (slA (bdy s)))).bind fun s15=>some (s15==[48])else some false:Option Bool)=some (sgn s&&((bdy s).take (slA (bdy s))==[48])):=by
  intro hD
  have h1:=hD.1
  have hs:=qeA s
  rw[if_pos (by omega)]at hs
  rw[qby]at hs⊢
  cases e:s[0]? with
  |none=>rw[e]at hs;cases hs
  |some c=>
   rw[e,ZB]at hs
   rw[ZB,<-Ye hs]
   by_cases c2:(c.toNat:Int)=45
   ·rw[if_pos c2,decide_eq_true c2,ZB,Bool.true_and]
   rw[if_neg c2,decide_eq_false c2,Bool.false_and]
 have S16:(if(!decide (Dec ((bdy s).take (slA (bdy s)))))=true then some true else(idx s 0).bind fun c13=>if(c13.toNat:Int)=45 then(some ((bdy s).take (slA (bdy s)))).bind fun s15=>some (s15==[48])else some false:Option Bool)=some (!okF s):=by
  unfold okF
  by_cases hD:Dec ((bdy s).take (slA (bdy s)))
  ·rw[if_neg (by simp[hD]),I hD]
   congr 1
   rw[Bool.eq_iff_iff]
   simp[hD]
  rw[if_pos (by simp[hD])]
  simp[hD]
 rw[S16,ZB]
 have S26:(if(slA (bdy s):Int)<((bdy s).length:Int)then(cut (bdy s) (w64 ((slA (bdy s):Int)+1)) ((bdy s).length:Int)).bind fun s20=>(zW N s20).bind fun r21=>if(!r21)=true then some true else(cut (bdy s) (w64 ((slA (bdy s):Int)+1)) ((bdy s).length:Int)).bind fun s23=>if(s23==[48])=true then some true else(cut (bdy s) (w64 ((slA (bdy s):Int)+1)) ((bdy s).length:Int)).bind fun s25=>some (s25==[49])else some false:Option Bool)=some (qh6 s):=by
  unfold qh6
  by_cases c:slA (bdy s)<(bdy s).length
  ·rw[if_pos (by omega),jC (by omega),xg (by omega),ZB,qgM (by omega) (by omega),ZB]
   by_cases hD:Dec ((bdy s).drop (slA (bdy s)+1))
   ·rw[if_neg (by simp[hD]),ZB]
    by_cases h3:(bdy s).drop (slA (bdy s)+1)=[48]
    ·rw[if_pos (by simp[h3])]
     simp[c,h3]
    rw[if_neg (by simp[h3]),ZB]
    congr 1
    rw[Bool.eq_iff_iff]
    simp[c,h3,hD]
   rw[if_pos (by simp[hD])]
   simp[c,hD]
  rw[if_neg (by omega)]
  simp[c]
 have S30:(if(slA (bdy s):Int)>600 then some true else some (decide ((w64 ((w64 (((bdy s).length:Int)-(slA (bdy s):Int)))-1))>600)):Option Bool)=some (decide (600<((bdy s).take (slA (bdy s))).length\/600<((bdy s).drop (slA (bdy s)+1)).length)):=by
  rw[lt,ld]
  by_cases c:(slA (bdy s):Int)>600
  ·rw[if_pos c,decide_eq_true (.inl (by omega))]
  rw[if_neg c,qg (n:=((bdy s).length:Int)-(slA (bdy s):Int)) (by omega) (by omega),qg (by omega) (by omega)]
  congr 1
  exact decide_eq_decide.2 (by omega)
 unfold chk
 by_cases h1:okF s=true
 ·rw[h1,if_neg (by simp),S26,ZB]
  by_cases h2:qh6 s=true
  ·rw[h2,if_pos rfl,if_pos (.inr rfl)]
  have a0:qh6 s=false:=by simpa using h2
  rw[a0,if_neg (by simp),S30,ZB,if_neg (show¬(true=false\/false=true)by simp)]
  by_cases h3:600<((bdy s).take (slA (bdy s))).length\/600<((bdy s).drop (slA (bdy s)+1)).length
  ·rw[decide_eq_true h3,if_pos rfl,if_pos h3]
  rw[decide_eq_false h3,if_neg (by simp),if_neg h3]
  by_cases c:slA (bdy s)<(bdy s).length
  ·have u:=(of_decide_eq_true h1).1
   have j:Dec ((bdy s).drop (slA (bdy s)+1))/\(bdy s).drop (slA (bdy s)+1)≠[48]/\(bdy s).drop (slA (bdy s)+1)≠[49]:=Classical.byContradiction fun hc=>of_decide_eq_false a0 ⟨c,hc⟩
   have ep:=qhv hN (s:=bdy s) (by omega) c (by rw[(qaP u.2.1).2];exact u.2.1) (by rw[(qaP j.1.2.1).2];exact j.1.2.1)
   rw[qb2 u.2.1,qb2 j.1.2.1]at ep
   rw[if_pos (by omega),ep,ZB]
   simp only
   have v1:=qdK u (k:=600) (by omega)
   have v2:=qdK j.1 (k:=600) (by omega)
   have v3:=qeO j.1 j.2.1
   generalize qN 0 ((bdy s).take (slA (bdy s)))=n at*
   generalize qN 0 ((bdy s).drop (slA (bdy s)+1))=d at*
   have f1:jh ((n:Nat):Int) 8000:=(qij (p:=600) (n:=70) (by omega) (by omega)).mono (by omega)
   have f2:jh ((d:Nat):Int) 8000:=(qij (p:=600) (n:=70) (by omega) (by omega)).mono (by omega)
   have e1:(rI ((n:Nat):Int)).w=dg E9 ((n:Nat):Int):=by
    show dg E9 (((n:Nat):Int).natAbs:Int)=_
    rw[Int.natAbs_natCast]
   have e2:(rI ((d:Nat):Int)).w=dg E9 ((d:Nat):Int):=by
    show dg E9 (((d:Nat):Int).natAbs:Int)=_
    rw[Int.natAbs_natCast]
   have ec:=qhy (N:=N) hN (a:=((n:Nat):Int)) (b:=((d:Nat):Int)) (by omega) (by omega) f1 f2
   have eg:Int.gcd ((n:Nat):Int) ((d:Nat):Int)=Nat.gcd n d:=rfl
   rw[eg]at ec
   rw[e1,e2,ec,ZB]
   have hg:0<Nat.gcd n d:=Nat.gcd_pos_of_pos_right _ v3
   have cc:=zS E1 (show(0:Int)<=((Nat.gcd n d:Nat):Int)by omega)
   have vv:=jS E1 (show(0:Int)<=((Nat.gcd n d:Nat):Int)by omega)
   by_cases h4:Nat.gcd n d=1
   ·have:dg E9 ((Nat.gcd n d:Nat):Int)=[1]:=by rw[show((Nat.gcd n d:Nat):Int)=1 by omega];exact qmQ
    rw[this,if_neg (by simp),qby,if_neg (fun h=>h.2 h4)]
    rfl
   rw[if_pos (show slA (bdy s)<(bdy s).length/\Nat.gcd n d≠1 from⟨c,h4⟩)]
   by_cases h5:(dg E9 ((Nat.gcd n d:Nat):Int)).length=1
   ·obtain⟨x,hx⟩:=List.length_eq_one_iff.1 h5
    rw[hx,zi,kg,Int.mul_zero,Int.add_zero]at vv
    have hx1:x≠1:=by omega
    rw[hx,if_neg (by simp),qby]
    simp only[Yj,ZB,decide_eq_false hx1]
    rfl
   rw[if_pos (by simp;omega)]
   rfl
  rw[if_neg (by omega),if_neg (by omega)]
  rfl
 have h1':okF s=false:=by simpa using h1
 rw[h1',if_pos (by simp),if_pos (.inl rfl)]
end Go.Av
end
section
namespace Go.Av
def tl (q:Rat):Str:=if q.den=1 then[]else 47::Lib.decDigits q.den
theorem T_eq (q:Rat):T q=Lib.itoa q.num++tl q:=rfl
theorem no47 {s:Str} (h:s.all vg=true): ∀c∈s,c≠47:=fun c hc e=>by
 have:=Yp.1 h c hc
 rw[e]at this
 exact absurd this (by decide)
theorem qiV: ∀{s:Str},(∀c∈s,c≠47)->slA s=s.length:=fun {s} h=>(qh9 s [] h).2
theorem qhS {s:Str} (h: ∀c∈s,c≠47) (q:Rat):slA (s++tl q)=s.length:=by
 unfold tl
 by_cases c:q.den=1
 ·rw[if_pos c,YQ]
  exact qiV h
 rw[if_neg c]
 exact(qh9 s _ h).1
theorem qdL (z:Int): ∀c∈Lib.itoa z,c≠47:=by
 by_cases h:z<0
 ·rw[vM h]
  intro c hc
  rcases List.mem_cons.1 hc with e|e
  ·rw[e];decide
  exact no47 (qa7 _) c e
 rw[zX h]
 exact no47 (qa7 _)
theorem qoa {s t:Str} (h:0<s.length):sgn (s++t)=sgn s:=by
 unfold sgn
 rw[Yf h]
theorem qjy (z:Int):0<(Lib.itoa z).length:=by
 by_cases h:z<0
 ·rw[vM h];simp
 rw[zX h];exact qkk _
theorem ql3 (q:Rat):sgn (T q)=decide (q.num<0):=by rw[T_eq,qoa (qjy _),qeD]
theorem bdy_T (q:Rat):bdy (T q)=Lib.decDigits q.num.natAbs++tl q:=by
 unfold bdy
 rw[ql3,T_eq]
 by_cases h:q.num<0
 ·rw[decide_eq_true h,if_pos rfl,vM h]
  rfl
 rw[decide_eq_false h,if_neg (by simp),zX h]
theorem T_inj {p q:Rat} (h:T p=T q):p=q:=by
 have u:=congrArg slA h
 have e1:slA (T p)=(Lib.itoa p.num).length:=qhS (qdL _) p
 have e2:slA (T q)=(Lib.itoa q.num).length:=qhS (qdL _) q
 rw[e1,e2]at u
 rw[T_eq,T_eq]at h
 obtain⟨h2,j⟩:=List.append_inj h u
 have n1:p.num=q.num:=by rw[<-qbi p.num,h2,qbi]
 have n2:p.den=q.den:=by
  unfold tl at j
  by_cases c:p.den=1
  ·by_cases d:q.den=1
   ·rw[c,d]
   rw[if_pos c,if_neg d]at j;cases j
  by_cases d:q.den=1
  ·rw[if_neg c,if_pos d]at j;cases j
  rw[if_neg c,if_neg d]at j
  injection j with _ j
  exact qoV j
 exact Rat.ext n1 n2
theorem qkA: ∀{s:Str},slA s<s.length->s=s.take (slA s)++47::s.drop (slA s+1)
 |[],h=>by simp at h
 |c::s,h=>by
  rw[slA]at h⊢
  by_cases e:c=47
  ·rw[if_pos e,e]
   rfl
  rw[if_neg e,Yr]at h
  rw[if_neg e,List.take_succ_cons,List.drop_succ_cons,List.cons_append,<-qkA (show slA s<s.length by omega)]
theorem qoA (s:Str):s=if sgn s=true then 45::bdy s else bdy s:=by
 unfold bdy
 cases h:sgn s with
 |false=>rw[if_neg (by simp),if_neg (by simp)]
 |true=>
  rw[if_pos rfl,if_pos rfl]
  cases s with
  |nil=>cases h
  |cons c t=>
   have e:=of_decide_eq_true h
   simp only[Yj]at e
   rw[Ye e]
   rfl
theorem qmt {s:Str} (h:chk s=0): ∃q:Rat,s=T q/\(Lib.decDigits q.num.natAbs).length<=600/\(Lib.decDigits q.den).length<=600:=by
 have hk:=qe7 (bdy s)
 have lt:((bdy s).take (slA (bdy s))).length=slA (bdy s):=by rw[Ym];omega
 have hs:=qoA s
 have hsp:=@qkA (bdy s)
 unfold chk at h
 by_cases h1:okF s=false\/qh6 s=true
 ·rw[if_pos h1]at h;cases h
 rw[if_neg h1]at h
 by_cases h2:600<((bdy s).take (slA (bdy s))).length\/600<((bdy s).drop (slA (bdy s)+1)).length
 ·rw[if_pos h2]at h;cases h
 rw[if_neg h2]at h
 by_cases h3:slA (bdy s)<(bdy s).length/\Nat.gcd (qN 0 ((bdy s).take (slA (bdy s)))) (qN 0 ((bdy s).drop (slA (bdy s)+1)))≠1
 ·rw[if_pos h3]at h;cases h
 have ho:okF s=true:=by cases e:okF s with|true=>rfl|false=>exact absurd (.inl e) h1
 have hb:qh6 s=false:=by cases e:qh6 s with|false=>rfl|true=>exact absurd (.inr e) h1
 obtain⟨j,hng⟩:=of_decide_eq_true ho
 have en:=j.eq
 obtain⟨z,hz1,hz2⟩: ∃z:Int,z.natAbs=qN 0 ((bdy s).take (slA (bdy s)))/\(z<0↔sgn s=true):=by
  cases e:sgn s with
  |false=>exact⟨((qN 0 ((bdy s).take (slA (bdy s))):Nat):Int),by omega,by simp⟩
  |true=>
   have:=qeO j fun c=>hng ⟨e,c⟩
   exact⟨-((qN 0 ((bdy s).take (slA (bdy s))):Nat):Int),by omega,by simp;omega⟩
 have hT: ∀t:Str,bdy s=(bdy s).take (slA (bdy s))++t->s=Lib.itoa z++t:=by
  intro t ht
  rw[hs]
  by_cases c:z<0
  ·rw[if_pos (hz2.1 c),vM c,hz1,<-en,List.cons_append,<-ht]
  rw[if_neg fun e=>c (hz2.2 e),zX c,hz1,<-en,<-ht]
 by_cases c:slA (bdy s)<(bdy s).length
 ·have d:Dec ((bdy s).drop (slA (bdy s)+1))/\(bdy s).drop (slA (bdy s)+1)≠[48]/\(bdy s).drop (slA (bdy s)+1)≠[49]:=Classical.byContradiction fun hc=>of_decide_eq_false hb ⟨c,hc⟩
  have u:=d.1.eq
  have hd0:=qeO d.1 d.2.1
  have hd1:qN 0 ((bdy s).drop (slA (bdy s)+1))≠1:=fun e=>by
   rw[e,vo (by decide)]at u
   exact d.2.2 u
  have hg:Nat.gcd z.natAbs (qN 0 ((bdy s).drop (slA (bdy s)+1)))=1:=by
   rw[hz1]
   exact Classical.byContradiction fun e=>h3 ⟨c,e⟩
  refine⟨⟨z,qN 0 ((bdy s).drop (slA (bdy s)+1)),by omega,hg⟩,?_,?_,?_⟩
  ·have:=hT _ (hsp c)
   unfold T
   rw[if_neg hd1]
   show s=Lib.itoa z++47::Lib.decDigits (qN 0 ((bdy s).drop (slA (bdy s)+1)))
   rw[<-u]
   exact this
  ·show(Lib.decDigits z.natAbs).length<=600
   rw[hz1,<-en]
   omega
  show(Lib.decDigits (qN 0 ((bdy s).drop (slA (bdy s)+1)))).length<=600
  rw[<-u]
  omega
 refine⟨(z:Rat),?_,?_,?_⟩
 ·have:=hT [] (by rw[YQ,List.take_of_length_le (by omega)])
  unfold T
  rw[Rat.den_intCast,if_pos rfl,Rat.num_intCast]
  exact this
 ·rw[Rat.num_intCast,hz1,<-en]
  omega
 rw[Rat.den_intCast,vo (by decide)]
 simp
end Go.Av
end
section
namespace Go.Av
def Sml (q:Rat) (k:Nat):Prop:=(Lib.decDigits q.num.natAbs).length<=k/\(Lib.decDigits q.den).length<=k
theorem qh3 (z:Int):(Lib.itoa z).length<=(Lib.decDigits z.natAbs).length+1:=by
 by_cases h:z<0
 ·rw[vM h];simp
 rw[zX h];omega
theorem qfv (q:Rat) (h:q.den≠1):slA (T q)<(T q).length/\(T q).take (slA (T q))=Lib.itoa q.num/\(T q).drop (slA (T q)+1)=Lib.decDigits q.den:=by
 have e:slA (T q)=(Lib.itoa q.num).length:=qhS (qdL _) q
 have d:T q=Lib.itoa q.num++47::Lib.decDigits q.den:=by unfold T;rw[if_neg h]
 rw[e,d]
 refine⟨by rw[Yq,Yr];omega,?_,?_⟩
 ·rw[List.take_append_of_le_length (Nat.le_refl _),List.take_of_length_le (Nat.le_refl _)]
 rw[List.drop_append,List.drop_of_length_le (by omega),show(Lib.itoa q.num).length+1-(Lib.itoa q.num).length=1 by omega]
 rfl
theorem qeM (q:Rat) (h:q.den=1):T q=Lib.itoa q.num/\slA (T q)=(T q).length:=by
 have d:T q=Lib.itoa q.num:=by unfold T;rw[if_pos h,YQ]
 refine⟨d,?_⟩
 rw[d]
 exact qiV (qdL _)
theorem qkF {q:Rat} {k:Nat} (h:Sml q k):(T q).length<=2*k+2:=by
 have d:=qh3 q.num
 have j:=h.1
 have u:=h.2
 unfold T
 rw[Yq]
 split
 ·simp;omega
 rw[Yr];omega
theorem qfD {N:Nat} (hN:600000<N) {q:Rat} (h:Sml q 9000): ∃f,qaX N (T q)=some f/\IsF f q:=by
 have hl:=qkF h
 have h1:=h.1
 have h2:=h.2
 unfold qaX
 rw[qmD (by omega),ZB]
 obtain⟨r1,e1,i1⟩:=qfB hN (s:=Lib.itoa q.num) (by rw[qaW];exact qa7 _) (by rw[qaW];omega)
 rw[qbi]at i1
 by_cases c:q.den=1
 ·obtain⟨u,t2⟩:=qeM q c
  rw[if_neg (show¬slA (T q)<(T q).length by omega)]
  obtain⟨f,e2,d⟩:=qi4 i1
  rw[if_pos (by rfl),u,e1,ZB,e2,ZB]
  refine⟨f,rfl,?_⟩
  have:(q.num:Rat)=q:=Rat.ext (by simp) (by simp[c])
  rw[this]at d
  exact d
 obtain⟨u,t2,t3⟩:=qfv q c
 rw[if_pos u]
 have j:=qa7 q.den
 obtain⟨r2,e2,d⟩:=qfB hN (s:=Lib.decDigits q.den) (by rw[(qaP j).2];exact j) (by rw[(qaP j).2];omega)
 rw[qb2 j,qda]at d
 rw[if_neg (by simp),t2,t3,e1,ZB,e2,ZB]
 exact⟨⟨r1,r2⟩,rfl,i1,d⟩
theorem qeS {N:Nat} (hN:600000<N) {q:Rat} (h:Sml q 4000):jV N (T q)=some (rI q.num,rI (q.den:Int)):=by
 have hl:=qkF h
 have h1:=h.1
 have h2:=h.2
 by_cases c:q.den=1
 ·obtain⟨j,d⟩:=qeM q c
  unfold jV
  rw[qdg (by omega) (by omega),ZB,d,if_pos rfl,j,qf5 (by omega) (by rw[qaW];exact qa7 _) (by rw[qaW];omega),ZB,qpp (by omega),ZB,qbi,c]
  rfl
 obtain⟨j,d,t3⟩:=qfv q c
 have u:=qa7 q.den
 rw[qhv hN (by omega) j (by rw[d,qaW];exact qa7 _) (by rw[t3,(qaP u).2];exact u),d,t3,qbi,qb2 u,qda]
end Go.Av
end
section
namespace Go.Av
theorem qlr {n:Nat} (h:0<n):(if((dg E9 (n:Int)).length:Int)=1 then(idx (dg E9 (n:Int)) 0).bind fun x15=>some (decide (x15=1))else some false:Option Bool)=some (decide (n=1)):=by
 have u:=jS E1 (show(0:Int)<=(n:Int)by omega)
 by_cases h4:n=1
 ·rw[show(n:Int)=1 by omega,qmQ,if_pos (by simp),qby,h4]
  rfl
 rw[decide_eq_false h4]
 by_cases h5:(dg E9 (n:Int)).length=1
 ·obtain⟨x,j⟩:=List.length_eq_one_iff.1 h5
  rw[j,zi,kg,Int.mul_zero,Int.add_zero]at u
  have d:x≠1:=by omega
  rw[j,if_pos (by simp),qby]
  simp only[Yj,ZB,decide_eq_false d]
 rw[if_neg (by omega)]
theorem jh.abs {z:Int} {n:Nat} (h:jh z n):jh (z.natAbs:Int) n:=by
 unfold jh at h⊢
 rw[Int.natAbs_natCast]
 exact h
theorem jh.le {a b:Int} {n:Nat} (h:(a.natAbs:Int)<=(b.natAbs:Int)) (k:jh b n):jh a n:=Int.lt_of_le_of_lt h k
theorem jh.itoaLen {z:Int} {n:Nat} (h:jh z n) (j:0<n):(Lib.itoa z).length<=9*n+1:=by
 have d:z.natAbs<10^(9*n):=by
  have h:(z.natAbs:Int)<E9^n:=h
  rw[qgU]at h
  exact Int.ofNat_lt.1 h
 have h3:=(qac (show 0<9*n by omega)).2 d
 have u:=qh3 z
 omega
theorem qld {N:Nat} (hN:60000<N) {x y:Int} (d:0<=x) (h:0<y) {B:Nat} (u:B<=8000) (j:jh x B):jc N (dg E9 x) (dg E9 y)=some (dg E9 (x/y),dg E9 (x%y)):=by
 have l:=j.len
 rw[show(x.natAbs:Int)=x by omega]at l
 rw[qcB hN (zS E1 d) (zS E1 (by omega)) (by omega) (by rw[jS E1 (by omega)];exact h),jS E1 d,jS E1 (by omega)]
theorem den_pos (q:Rat):0<q.den:=Nat.pos_of_ne_zero q.den_nz
theorem qgl {a b:Int} (d:b≠0):(b.sign*a).natAbs=a.natAbs:=by rw[Int.natAbs_mul,Int.natAbs_sign_of_ne_zero d,Nat.one_mul]
theorem qkZ (a b:Int):Int.gcd (a.natAbs:Int) (b.natAbs:Int)=Int.gcd b a:=by
 rw[Int.gcd_comm]
 rfl
theorem qeI {N:Nat} (hN:600000<N) {B:Nat} (d:0<B) (u:B<=8000) {a b:Int} (fa:jh a B) (j:jh b B) (hb:b≠0):vw N (rI a) (rI b)=some (T (Rat.divInt a b)):=by
 have hg:0<Int.gcd b a:=Int.gcd_pos_of_ne_zero_left _ hb
 have ea:=qgl (a:=a) hb
 have S:(if(rI b).neg=true then(yG N (rI a)).bind fun r7=>(yG N (rI b)).bind fun r8=>some (r7.neg,r7.w,r8.neg,r8.w)else some ((rI a).neg,(rI a).w,(rI b).neg,(rI b).w):Option (Bool×(List Int)×Bool×(List Int)))=some (decide (b.sign*a<0),dg E9 (a.natAbs:Int),false,dg E9 (b.natAbs:Int)):=by
  by_cases h:b<0
  ·rw[if_pos (show(rI b).neg=true from decide_eq_true h),qja (by omega) (fa.mono (by omega)),ZB,qja (by omega) (j.mono (by omega)),ZB,Int.sign_eq_neg_one_of_neg h,Int.neg_mul,Int.one_mul]
   show some (decide (-a<0),dg E9 (((-a).natAbs:Nat):Int),decide (-b<0),dg E9 (((-b).natAbs:Nat):Int))=_
   rw[decide_eq_false (show¬ -b<0 by omega),Int.natAbs_neg,Int.natAbs_neg]
  rw[if_neg (show¬(rI b).neg=true from fun c=>h (of_decide_eq_true c)),Int.sign_eq_one_of_pos (by omega),Int.one_mul]
  show some (decide (a<0),dg E9 ((a.natAbs:Nat):Int),decide (b<0),dg E9 ((b.natAbs:Nat):Int))=_
  rw[decide_eq_false h]
 have en:(Rat.divInt a b).num=b.sign*a/(Int.gcd b a:Int):=Rat.num_divInt ..
 have ed:(b.natAbs:Int)/(Int.gcd b a:Int)=((Rat.divInt a b).den:Int):=by rw[Rat.den_divInt,if_neg hb,Int.natCast_ediv]
 have hd:=den_pos (Rat.divInt a b)
 have dvd:(Int.gcd b a:Int)∣b.sign*a:=Int.dvd_mul_of_dvd_right (Int.gcd_dvd_right ..)
 have fn:jh (Rat.divInt a b).num B:=by
  rw[en]
  exact jh.le (Int.le_trans (yJ _ (by omega)) (by rw[ea];exact Int.le_refl _)) fa
 have fd:jh ((Rat.divInt a b).den:Int) B:=by
  rw[<-ed]
  exact jh.le (Int.le_trans (yJ _ (by omega)) (Int.le_refl _)) j.abs
 have vn:(if decide (b.sign*a<0)=true then-dv E9 (dg E9 ((a.natAbs:Int)/(Int.gcd b a:Int)))else dv E9 (dg E9 ((a.natAbs:Int)/(Int.gcd b a:Int))))=(Rat.divInt a b).num:=by
  have p0:0<=(a.natAbs:Int)/(Int.gcd b a:Int):=Int.ediv_nonneg (by omega) (by omega)
  rw[jS E1 p0,en]
  by_cases c:b.sign*a<0
  ·rw[if_pos (decide_eq_true c),show(a.natAbs:Int)= -(b.sign*a)by omega,Int.neg_ediv_of_dvd dvd,Int.neg_neg]
  rw[if_neg (fun h=>c (of_decide_eq_true h)),show(a.natAbs:Int)=b.sign*a by omega]
 unfold vw
 rw[S,ZB]
 simp only
 rw[qhy hN (by omega) (by omega) (fa.abs.mono u) (j.abs.mono u),ZB,qkZ,qld (by omega) (by omega) (by omega) u fa.abs,ZB,qld (by omega) (by omega) (by omega) u j.abs,ZB]
 simp only
 have p0:0<=(a.natAbs:Int)/(Int.gcd b a:Int):=Int.ediv_nonneg (by omega) (by omega)
 have ln:(dg E9 ((a.natAbs:Int)/(Int.gcd b a:Int))).length<=B:=by
  have:=(jh.le (Int.le_trans (yJ _ (by omega)) (Int.le_refl _)) fa.abs:jh ((a.natAbs:Int)/(Int.gcd b a:Int)) B).len
  rw[show(((a.natAbs:Int)/(Int.gcd b a:Int)).natAbs:Int)=(a.natAbs:Int)/(Int.gcd b a:Int)by omega]at this
  exact this
 have ld:(dg E9 ((Rat.divInt a b).den:Int)).length<=B:=by
  have:=fd.len
  rw[Int.natAbs_natCast]at this
  exact this
 rw[qbh _ (zS E1 p0).1 (by omega) (by omega),ZB,vn,qkJ (by omega) (fn.mono (by omega)),ZB,ed,qlr hd,ZB]
 have l1:=fn.itoaLen d
 have l2:=fd.itoaLen d
 unfold T
 by_cases c:(Rat.divInt a b).den=1
 ·rw[if_pos (decide_eq_true c),if_pos c,YQ]
 rw[if_neg (fun h=>c (of_decide_eq_true h)),if_neg c,qa6 (by simp;omega),ZB,qbh _ (zS E1 (by omega)).1 (by omega) (by omega),ZB,if_neg (by simp),jS E1 (by omega),qkJ (by omega) (fd.mono (by omega)),ZB,qa6 (by simp;omega),ZB,qe8,Yz]
 rfl
theorem qoG {a b:Int} (d:0<=a) (h:0<b):qdr .i64 a b=some (a%b):=by
 unfold qdr
 rw[if_neg (by omega),Int.tmod_eq_emod_of_nonneg d]
theorem qoN {a b:Int} (h:0<b) (j: -4000000000000000000<=a) (u:a<=4000000000000000000) (d:b∣a):qbB .i64 a b=some (a/b):=by
 have:=yJ a h
 unfold qbB
 rw[if_neg (by omega),Int.tdiv_eq_ediv_of_dvd d]
 show some (w64 _)=_
 rw[qg (by omega) (by omega)]
theorem qkS: ∀(k K:Nat) (a b:Int),0<=a->0<=b->b<2^k->2*k+2<=K->jr K a b=some (Int.gcd a b:Int)
 |k,0,a,b,_,_,_,hK=>by omega
 |k,K+1,a,b,ha,hb,hk,hK=>by
  have u:(a.natAbs:Int)=a:=by omega
  have nb:(b.natAbs:Int)=b:=by omega
  rcases(show b=0\/0<b by omega)with h0|h0
  ·rw[h0,jr,if_neg (by omega),Int.gcd_zero,u]
  match k,hk,hK with
  |0,hk,hK=>simp at hk;omega
  |k+1,hk,hK=>
   have h:=Int.emod_nonneg a (show b≠0 by omega)
   have m1:=Int.emod_lt_of_pos a h0
   rw[jr,if_pos (by omega),qoG ha h0,ZB,qce ha hb]
   match K,hK with
   |0,hK=>omega
   |K+1,hK=>
    rcases(show a%b=0\/0<a%b by omega)with g0|g0
    ·rw[g0,jr,if_neg (by omega),Int.gcd_zero,nb]
    have j:=Int.emod_nonneg b (show a%b≠0 by omega)
    have n1:=Int.emod_lt_of_pos b g0
    have d:b%(a%b)<2^k:=by
     have d1:=Int.mul_ediv_add_emod b (a%b)
     have d2:1<=b/(a%b):=by
      rw[Int.le_ediv_iff_mul_le g0]
      omega
     have d3:a%b*1<=a%b*(b/(a%b)):=Yc d2 (by omega)
     rw[Int.pow_succ]at hk
     omega
    rw[jr,if_pos (by omega),qoG hb g0,ZB,qce hb h]
    exact qkS k K (a%b) (b%(a%b)) h j d (by omega)
theorem qn0 {N:Nat} (hN:200<N) {a b:Int} (j:0<=a) (d:0<=b) (h:b<9223372036854775808):qcb N a b=some (Int.gcd a b:Int):=by
 unfold qcb
 rw[qkS 63 N a b j d h (by omega),ZB]
theorem rabs {z:Int} (h: -9223372036854775807<=z) (d:z<=9223372036854775807):(if w64 (0-z)>z then w64 (0-z)else z)=(z.natAbs:Int):=by
 rw[qg (by omega) (by omega)]
 split<;>omega
theorem qoL {n:Nat} (h:n<=4000000000000000000):(Lib.decDigits n).length<=19:=(qac (by decide)).2 (by omega)
theorem qig {N:Nat} (hN:1000<N) {a b:Int} (a1: -4000000000000000000<=a) (a2:a<=4000000000000000000) (b1: -4000000000000000000<=b) (b2:b<=4000000000000000000) (u:b≠0):xn N a b=some (T (Rat.divInt a b)):=by
 have hg:0<Int.gcd b a:=Int.gcd_pos_of_ne_zero_left _ u
 have ea:=qgl (a:=a) u
 have S:(if b<0 then some (w64 (0-a),w64 (0-b))else some (a,b):Option (Int×Int))=some (b.sign*a,(b.natAbs:Int)):=by
  by_cases h:b<0
  ·rw[if_pos h,qg (by omega) (by omega),qg (by omega) (by omega),Int.sign_eq_neg_one_of_neg h,show(-1:Int)*a=0-a by omega,show(b.natAbs:Int)=0-b by omega]
  rw[if_neg h,Int.sign_eq_one_of_pos (by omega),Int.one_mul,show(b.natAbs:Int)=b by omega]
 have en:(Rat.divInt a b).num=b.sign*a/(Int.gcd b a:Int):=Rat.num_divInt ..
 have ed:(b.natAbs:Int)/(Int.gcd b a:Int)=((Rat.divInt a b).den:Int):=by rw[Rat.den_divInt,if_neg u,Int.natCast_ediv]
 have hd:=den_pos (Rat.divInt a b)
 have j:(Int.gcd b a:Int)∣b.sign*a:=Int.dvd_mul_of_dvd_right (Int.gcd_dvd_right ..)
 have d:(Int.gcd b a:Int)∣(b.natAbs:Int):=by
  rw[Int.dvd_natAbs]
  exact Int.gcd_dvd_left ..
 have n1:=yJ (b.sign*a) (show(0:Int)<(Int.gcd b a:Int)by omega)
 have n2:=yJ (b.natAbs:Int) (show(0:Int)<(Int.gcd b a:Int)by omega)
 rw[<-en,ea]at n1
 rw[ed,Int.natAbs_natCast,Int.natAbs_natCast]at n2
 unfold xn
 rw[if_neg (show¬a< -4000000000000000000 by omega),if_neg (show¬a>4000000000000000000 by omega),if_neg (show¬b< -4000000000000000000 by omega),decide_eq_false (show¬b>4000000000000000000 by omega),ZB,if_neg (by simp),S,ZB]
 simp only
 rw[rabs (by omega) (by omega),ea,qn0 (by omega) (by omega) (by omega) (by omega),ZB,qkZ,qoN (by omega) (by omega) (by omega) j,ZB,qoN (by omega) (by omega) (by omega) d,ZB,<-en,ed,rabs (by omega) (by omega),qgq (by omega) (by omega),qgq (by omega) (by omega)]
 generalize Rat.divInt a b=q at*
 have l1:=qoL (n:=q.num.natAbs) (by omega)
 have l2:=qoL (n:=q.den) (by omega)
 have S2:((if q.num<0 then some [45]else some []:Option Str).bind fun s17=>(some (Lib.decDigits q.num.natAbs)).bind fun r20=>(cat s17 r20).bind fun s21=>(if(q.den:Int)>1 then(cat s21 [47]).bind fun s25=>(some (Lib.decDigits q.den)).bind fun r26=>(cat s25 r26).bind fun s27=>some s27 else some s21:Option Str).bind fun s22=>some s22)=some (T q):=by
  have li:(Lib.itoa q.num).length<=20:=by have:=qh3 q.num;omega
  have I:((if q.num<0 then some [45]else some []:Option Str).bind fun s17=>(some (Lib.decDigits q.num.natAbs)).bind fun r20=>(cat s17 r20).bind fun s21=>(if(q.den:Int)>1 then(cat s21 [47]).bind fun s25=>(some (Lib.decDigits q.den)).bind fun r26=>(cat s25 r26).bind fun s27=>some s27 else some s21:Option Str).bind fun s22=>some s22)=((if(q.den:Int)>1 then(cat (Lib.itoa q.num) [47]).bind fun s25=>(some (Lib.decDigits q.den)).bind fun r26=>(cat s25 r26).bind fun s27=>some s27 else some (Lib.itoa q.num):Option Str).bind fun s22=>some s22):=by
   by_cases c:q.num<0
   ·rw[if_pos c,ZB,ZB,qa6 (by simp;omega),ZB,vM c]
    rfl
   rw[if_neg c,ZB,ZB,qa6 (by simp;omega),ZB,zX c]
   rfl
  rw[I]
  unfold T
  by_cases c:q.den=1
  ·rw[if_neg (by omega),if_pos c,ZB,YQ]
  rw[if_pos (by omega),if_neg c,qa6 (by simp;omega),ZB,ZB,qa6 (by simp;omega),ZB,ZB,Yz]
  rfl
 exact S2
end Go.Av
end
section
namespace Go.Av
theorem Sml.mono {q:Rat} {m n:Nat} (h:Sml q m) (d:m<=n):Sml q n:=⟨Nat.le_trans h.1 d,Nat.le_trans h.2 d⟩
theorem qeq {q:Rat} {k n:Nat} (h:Sml q k) (j:0<k) (d:k<=9*n):jh q.num n:=qij (p:=k) (Int.ofNat_lt.2 ((qac j).1 h.1)) d
theorem qeg {q:Rat} {k n:Nat} (h:Sml q k) (j:0<k) (d:k<=9*n):jh (q.den:Int) n:=qij (p:=k) (by rw[Int.natAbs_natCast];exact Int.ofNat_lt.2 ((qac j).1 h.2)) d
theorem yn {q:Rat} {k n:Nat} (h:Sml q k) (j:0<k) (d:k<=19*n):qbP q n:=⟨qey (p:=k) (Int.ofNat_lt.2 ((qac j).1 h.1)) d,qey (p:=k) (by rw[Int.natAbs_natCast];exact Int.ofNat_lt.2 ((qac j).1 h.2)) d⟩
theorem qkK {z:Int} {n:Nat} (h:jh z n) (d:0<n):(Lib.decDigits z.natAbs).length<=9*n:=by
 refine(qac (by omega)).2 ?_
 have h:(z.natAbs:Int)<E9^n:=h
 rw[qgU]at h
 exact Int.ofNat_lt.1 h
theorem qiA {q:Rat} {n:Nat} (j:jh q.num n) (u:jh (q.den:Int) n) (d:0<n):Sml q (9*n):=by
 have h:=qkK u d
 rw[Int.natAbs_natCast]at h
 exact⟨qkK j d,h⟩
theorem qiF {a b:Int} {n:Nat} (d:b≠0) (fa:jh a n) (h:jh b n):jh (Rat.divInt a b).num n/\jh ((Rat.divInt a b).den:Int) n:=by
 have j:0<Int.gcd b a:=Int.gcd_pos_of_ne_zero_left _ d
 constructor
 ·rw[Rat.num_divInt]
  exact jh.le (Int.le_trans (yJ _ (by omega)) (by rw[qgl d];exact Int.le_refl _)) fa
 rw[Rat.den_divInt,if_neg d,Int.natCast_ediv]
 exact jh.le (Int.le_trans (yJ _ (by omega)) (Int.le_refl _)) h.abs
theorem qem {a b:Int} {m n:Nat} (h:jh a m) (d:jh b n):jh (a*b) (m+n):=by
 unfold jh at*
 rw[Int.natAbs_mul,Int.natCast_mul,Int.pow_add]
 have j:(a.natAbs:Int)*(b.natAbs:Int)<=(a.natAbs:Int)*E9^n:=Yc (Int.le_of_lt d) (by omega)
 have u:(a.natAbs:Int)*E9^n<E9^m*E9^n:=YH h (pow_pos E0 n)
 omega
theorem qit (s:Str):xX s=some (if s=[48]then 0 else if sgn s=true then-1 else 1):=by
 unfold xX
 by_cases c:s=[48]
 ·rw[if_pos (by simp[c]),if_pos c]
 rw[if_neg (by simp[c]),qeA,ZB,if_neg c]
 cases sgn s<;>rfl
theorem qoO:Lib.itoa 0=[48]:=by
 rw[zX (by decide),show(0:Int).natAbs=0 from rfl,vo (by decide)]
 rfl
theorem qlv {z:Int}:Lib.itoa z=[48]↔z=0:=by
 constructor
 ·intro h
  have d:=qbi z
  rw[h]at d
  exact d.symm
 intro h
 rw[h]
 exact qoO
theorem T0:T 0=[48]:=by
 rw[(qeM 0 rfl).1]
 exact qoO
theorem ql6 {q:Rat}:T q=[48]↔q=0:=by
 constructor
 ·intro h
  exact T_inj (h.trans T0.symm)
 intro h
 rw[h]
 exact T0
theorem qo8 (q:Rat):xX (T q)=some (if q.num<0 then-1 else if q.num=0 then 0 else 1):=by
 rw[qit,ql3]
 by_cases c:q=0
 ·rw[if_pos (ql6.2 c),c]
  rfl
 rw[if_neg (fun h=>c (ql6.1 h)),if_neg (show¬q.num=0 from fun h=>c (Rat.num_eq_zero.1 h))]
 by_cases d:q.num<0
 ·rw[decide_eq_true d,if_pos rfl,if_pos d]
 rw[decide_eq_false d,if_neg (by simp),if_neg d]
theorem qol {N:Nat} (hN:100000<N) {q:Rat} {k:Nat} (h:Sml q k) (hk:k<=9000):qaZ N (T q)=some (if qhf q=true then 4 else 0):=by
 have hl:=qkF h
 have hs:=qdg (N:=N) (s:=T q) (by omega) (by omega)
 have j:qb3 N (T q)=some (Lib.itoa q.num):=by
  unfold qb3
  rw[hs,ZB]
  by_cases c:q.den=1
  ·obtain⟨t1,t2⟩:=qeM q c
   rw[yh (by omega),ZB,t2,List.take_length,t1]
  obtain⟨t1,t2,t3⟩:=qfv q c
  rw[yh (by omega),ZB,t2]
 have a0:qb1 (Lib.itoa q.num)=some (Lib.decDigits q.num.natAbs):=by
  have hs:=qeD q.num
  have hb:=qaW q.num
  unfold qb1
  rw[qit,ZB,hs]
  unfold bdy at hb
  rw[hs]at hb
  by_cases c:q.num<0
  ·rw[if_neg (show¬Lib.itoa q.num=[48]from fun h=>by have:=qlv.1 h;omega),if_pos (decide_eq_true c),if_pos (by decide),show(1:Int)=((1:Nat):Int)from rfl,xg (qjy _),ZB]
   rw[if_pos (decide_eq_true c)]at hb
   rw[hb]
  rw[decide_eq_false c,if_neg (by split<;>simp),zX c]
 have u:qcd N (T q)=some (Lib.decDigits q.den):=by
  unfold qcd
  rw[hs,ZB]
  by_cases c:q.den=1
  ·obtain⟨t1,t2⟩:=qeM q c
   rw[if_pos (by omega),c,vo (by decide)]
   rfl
  obtain⟨t1,t2,t3⟩:=qfv q c
  rw[if_neg (by omega),jC (by omega),xg (by omega),ZB,t3]
 unfold qaZ
 rw[j,ZB,a0,ZB,u]
 unfold qhf lng
 rw[Int.natAbs_natCast]
 by_cases c:600<(Lib.decDigits q.num.natAbs).length
 ·rw[if_pos (by omega),decide_eq_true c,Bool.true_or]
  rfl
 rw[if_neg (by omega),decide_eq_false c,Bool.false_or,ZB]
 by_cases d:600<(Lib.decDigits q.den).length
 ·rw[decide_eq_true (by omega),decide_eq_true d]
  rfl
 rw[decide_eq_false (by omega),decide_eq_false d]
 rfl
theorem qf9 {N:Nat} (hN:100000<N) {q:Rat} {k:Nat} (h:Sml q k) (hk:k<=9000):vV N (T q)=some (0,0,false)\/(vV N (T q)=some (q.num,(q.den:Int),true)/\q.num.natAbs<1000000000/\q.den<1000000000):=by
 have hl:=qkF h
 have hb:=qek (T q)
 have eb:=bdy_T q
 have es:slA (Lib.decDigits q.num.natAbs++tl q)=(Lib.decDigits q.num.natAbs).length:=qhS (no47 (qa7 _)) q
 have u:(Lib.decDigits q.num.natAbs++tl q).length=(Lib.decDigits q.num.natAbs).length+(tl q).length:=Yq
 rw[eb]at hb
 unfold vV
 by_cases c:((T q).length:Int)>20
 ·left
  rw[if_pos c]
 rw[if_neg c,qeA,ZB,qjG,ZB,eb,qdg (by omega) (by omega),ZB,es,ql3]
 by_cases c1:(Lib.decDigits q.num.natAbs).length>9
 ·left
  rw[if_pos (by omega),ZB,if_pos rfl]
 rw[if_neg (by omega),qg (by omega) (by omega)]
 by_cases c2:(tl q).length>10
 ·left
  rw[decide_eq_true (by omega),ZB,if_pos rfl]
 right
 rw[decide_eq_false (by omega),ZB,if_neg (by simp),yh (by omega),ZB,List.take_left',qeK (by omega) (qa7 _) (by omega),ZB,qda]
 ·have hn:q.num.natAbs<1000000000:=(qac (show 0<9 by decide)).1 (by omega)
  have sg:(if decide (q.num<0)=true then some (w64 (0-(q.num.natAbs:Int)))else some (q.num.natAbs:Int):Option Int)=some q.num:=by
   by_cases d:q.num<0
   ·rw[if_pos (decide_eq_true d),qg (by omega) (by omega)]
    congr 1
    omega
   rw[if_neg (fun h=>d (of_decide_eq_true h))]
   congr 1
   omega
  by_cases d:q.den=1
  ·have j:tl q=[]:=by unfold tl;rw[if_pos d]
   rw[j]at u
   rw[List.length_nil]at u
   rw[j,if_neg (by omega),ZB,sg,ZB,d]
   exact⟨rfl,hn,by decide⟩
  have j:tl q=47::Lib.decDigits q.den:=by unfold tl;rw[if_neg d]
  rw[j,Yr]at u c2
  have hd:q.den<1000000000:=(qac (show 0<9 by decide)).1 (by omega)
  rw[j,if_pos (by omega),jC (by omega),xg (by omega),ZB,List.drop_append,List.drop_of_length_le (by omega),show(Lib.decDigits q.num.natAbs).length+1-(Lib.decDigits q.num.natAbs).length=1 by omega,List.nil_append,List.drop_succ_cons,YR,qeK (by omega) (qa7 _) (by omega),ZB,ZB,sg,ZB,qda]
  exact⟨rfl,hn,hd⟩
 rfl
theorem qoc {N:Nat} (hN:100000<N) {p q:Rat} {k:Nat} (hk:k<=9000) (hp:Sml p k) (hq:Sml q k) {Fq:(Int×Int×Bool)->(Int×Int×Bool)->Option Str} {d:Option Str} {t:Str}
 (h1:p.num.natAbs<1000000000->p.den<1000000000->q.num.natAbs<1000000000->q.den<1000000000->Fq (p.num,(p.den:Int),true) (q.num,(q.den:Int),true)=some t) (u:d=some t):
 ((vV N (T p)).bind fun r1=>(vV N (T q)).bind fun r2=>(if r1.2.2=true then some r2.2.2 else some false:Option Bool).bind fun b4=>if b4=true then(Fq r1 r2).bind fun r7=>some r7 else d)=some t:=by
 rcases qf9 hN hp hk with j|⟨j,a1,a2⟩
 ·rcases qf9 hN hq hk with h|⟨h,b1,b2⟩
  ·rw[j,ZB,h,ZB]
   exact u
  rw[j,ZB,h,ZB]
  exact u
 rcases qf9 hN hq hk with h|⟨h,b1,b2⟩
 ·rw[j,ZB,h,ZB]
  exact u
 rw[j,ZB,h,ZB]
 show((Fq (p.num,(p.den:Int),true) (q.num,(q.den:Int),true)).bind fun r7=>some r7)=some t
 rw[h1 a1 a2 b1 b2,ZB]
theorem mul9 {a b:Int} (j:a.natAbs<1000000000) (d:b.natAbs<1000000000): -1000000000000000000<=a*b/\a*b<=1000000000000000000:=by
 have h:(a*b).natAbs<=1000000000*1000000000:=by
  rw[Int.natAbs_mul]
  exact Nat.mul_le_mul (by omega) (by omega)
 omega
theorem qhP {N:Nat} (hN:600000<N) {p q:Rat} {k:Nat} (d:0<k) (hk:k<=4000) (hp:Sml p k) (hq:Sml q k):qaC N (T p) (T q)=some (T (p*q)):=by
 unfold qaC
 obtain⟨n,hn⟩: ∃n:Nat,n=500:=⟨_,rfl⟩
 have u:=qeq (n:=n) hp d (by omega)
 have j:=qeg (n:=n) hp d (by omega)
 have h:=qeq (n:=n) hq d (by omega)
 have q2:=qeg (n:=n) hq d (by omega)
 refine qoc (N:=N) (by omega) (show k<=9000 by omega) hp hq (fun a1 a2 b1 b2=>?_) ?_
 ·have m1:=mul9 a1 b1
  have m3:=mul9 (show((p.den:Int)).natAbs<1000000000 by omega) (show((q.den:Int)).natAbs<1000000000 by omega)
  simp only
  rw[qg (n:=p.num*q.num) (by omega) (by omega),qg (n:=(p.den:Int)*(q.den:Int)) (by omega) (by omega),qig (by omega) (by omega) (by omega) (by omega) (by omega) (qii p q),<-qcy]
 rw[qeS hN (hp.mono (by omega)),ZB,qeS hN (hq.mono (by omega)),ZB]
 simp only
 rw[qiI (by omega) (u.mono (by omega)) (h.mono (by omega)),ZB,qiI (by omega) (j.mono (by omega)) (q2.mono (by omega)),ZB,qeI hN (B:=n+n) (by omega) (by omega) (qem u h) (qem j q2) (qii p q),ZB,<-qcy]
theorem qle {p q:Rat} {n:Nat} (hn:0<n) (hp:Sml p (9*n)) (hq:Sml q (9*n)):Sml (p*q) (9*(n+n)):=by
 have p1:=qeq (n:=n) hp (by omega) (by omega)
 have h:=qeg (n:=n) hp (by omega) (by omega)
 have d:=qeq (n:=n) hq (by omega) (by omega)
 have q2:=qeg (n:=n) hq (by omega) (by omega)
 rw[qcy]
 obtain⟨u,j⟩:=qiF (qii p q) (qem p1 d) (qem h q2)
 exact qiA u j (by omega)
theorem qip {p:Rat} {k:Nat} (h:Sml p k) (j:p≠0):Sml p⁻¹ k:=by
 have d:p.num≠0:=fun c=>j (Rat.num_eq_zero.1 c)
 unfold Sml
 rw[Rat.num_inv,Rat.den_inv,if_neg d,Int.natAbs_mul,Int.natAbs_sign_of_ne_zero d,Nat.one_mul,Int.natAbs_natCast]
 exact⟨h.2,h.1⟩
theorem qn4 {N:Nat} (hN:600000<N) {p:Rat} {k:Nat} (d:0<k) (hk:k<=4000) (hp:Sml p k) (j:p≠0):yu N (T p)=some (T p⁻¹):=by
 obtain⟨n,hn⟩: ∃n:Nat,n=500:=⟨_,rfl⟩
 have u:=qeq (n:=n) hp d (by omega)
 have h:=qeg (n:=n) hp d (by omega)
 unfold yu
 rw[qeS hN (hp.mono (by omega)),ZB]
 simp only
 rw[qeI hN (B:=n) (by omega) (by omega) h u (fun c=>j (Rat.num_eq_zero.1 c)),ZB,<-Rat.inv_def]
theorem qk4 {N:Nat} (hN:600000<N) {p q:Rat} {k:Nat} (d:0<k) (j:k<=4000) (hp:Sml p k) (hq:Sml q k) (h:q≠0):qbl N (T p) (T q)=some (T (p/q)):=by
 unfold qbl
 rw[qn4 hN d j hq h,ZB,qhP hN d j hp (qip hq h),ZB,<-Rat.div_def]
end Go.Av
end
section
namespace Go.Av
def res (q:Rat):Str×Int:=if qhf q=true then([],4)else(T q,0)
section ops
variable {N:Nat} (hN:600000<N)
include hN
variable {p q:Rat} (hp:Sml p 600) (hq:Sml q 600) (cp:chk (T p)=0) (cq:chk (T q)=0)
include hp hq cp cq
end ops
end Go.Av
end
section
namespace Go.Av
end Go.Av
end
section
namespace Go.Av
end Go.Av
end
section
namespace Go.Av
open Classical
theorem qj1 {q:Rat} {k:Nat} (d:0<k) (h:(T q).length<=k):Sml q k:=by
 have j:(Lib.decDigits q.num.natAbs).length<=(Lib.itoa q.num).length:=by
  by_cases c:q.num<0
  ·rw[vM c,Yr]
   omega
  rw[zX c]
  exact Nat.le_refl _
 unfold T at h
 rw[Yq]at h
 refine⟨by omega,?_⟩
 by_cases c:q.den=1
 ·rw[c]
  exact(qac d).2 (Nat.one_lt_pow (by omega) (by decide))
 rw[if_neg c,Yr]at h
 omega
theorem qog {s:Str} {k:Nat} (d:0<k) (j:s.length<=k) (h:chk s=0): ∃q:Rat,s=T q/\Sml q k/\chk (T q)=0:=by
 obtain⟨q,rfl,_,_⟩:=qmt h
 exact⟨q,rfl,qj1 d j,h⟩
def IsL:List qL->List Rat->Prop
 |[],[]=>True
 |f::l,q::r=>IsF f q/\IsL l r
 |_,_=>False
theorem IsL.get: ∀{l:List qL} {r:List Rat},IsL l r->l.length=r.length/\ ∀(i:Nat) (q:Rat),r[i]? =some q-> ∃f,l[i]? =some f/\IsF f q
 |[],[],_=>⟨rfl,fun i q h=>by simp at h⟩
 |f::l,q::r,h=>by
  obtain⟨d,j⟩:=h
  obtain⟨a,b⟩:=IsL.get j
  refine⟨by simp[a],fun i x hx=>?_⟩
  match i,hx with
  |0,hx=>
   simp at hx
   exact⟨f,rfl,hx▸d⟩
  |i+1,hx=>
   rw[List.getElem?_cons_succ]at hx⊢
   exact b i x hx
 |[],_::_,h=>h.elim
 |_::_,[],h=>h.elim
end Go.Av
end
section
namespace Go.Av
theorem qm2 {q:Rat}:0<q.num↔0<q:=by
 have d:=Rat.num_nonneg (q:=q)
 have j:=Rat.num_eq_zero (q:=q)
 constructor
 ·intro h
  exact Rat.lt_of_le_of_ne (d.1 (by omega)) (fun e=>by have:=j.2 e.symm;omega)
 intro h
 have h3:=d.2 (Rat.le_of_lt h)
 have u:q.num≠0:=fun e=>Rat.ne_of_gt h (j.1 e)
 omega
theorem qnl {f:qL} {q:Rat} (h:IsF f q):xN f=some (if q.num<0 then-1 else if q.num=0 then 0 else 1):=by
 unfold xN
 rw[qcx h.1,ZB]
theorem qk9 {q:Rat}:((if q.num<0 then-1 else if q.num=0 then 0 else 1:Int)<=0)↔q<=0:=by
 rw[<-Rat.not_lt,<-qm2]
 constructor
 ·intro h c
  rw[if_neg (by omega),if_neg (by omega)]at h
  omega
 intro h
 split
 ·omega
 rw[if_pos (by omega)]
 omega
section ops
variable {N:Nat} (hN:600000<N)
include hN
variable {p p' q q':Rat} (hp:Sml p 60) (hp':Sml p' 60) (hq:Sml q 60) (hq':Sml q' 60) (cp:chk (T p)=0) (cp':chk (T p')=0) (cq:chk (T q)=0) (cq':chk (T q')=0) (hpp:p<=p') (hqq:q<=q')
include hp hp' hq hq' cp cp' cq cq' hpp hqq
end ops
end Go.Av
end
section
namespace Go.Av
theorem qoM {n:Int} (h: -9223372036854775808<=n) (d:n<=9223372036854775807):jh n 3:=by
 show(n.natAbs:Int)<(1000000000:Int)^3
 omega
theorem qky {n:Int} (h: -9223372036854775808<=n) (d:n<=9223372036854775807):Sml (n:Rat) 27:=by
 refine qiA (n:=3) ?_ ?_ (by omega)
 ·rw[Rat.num_intCast]
  exact qoM h d
 rw[Rat.den_intCast]
 exact qoM (by decide) (by decide)
def bst (x b y:Rat):Rat:=if(x-y).abs<(x-b).abs then y else b
def cnd (x:Rat) (i:Nat):Rat:=Rat.divInt ((x*((i/2:Nat):Rat)).floor+((i%2:Nat):Int)) ((i/2:Nat):Int)
def Fst (x b:Rat) (n:Nat):Prop:= ∃i,2<=i/\i<n/\b=cnd x i/\ ∀j,2<=j->j<n->(x-b).abs<(x-cnd x j).abs\/((x-b).abs=(x-cnd x j).abs/\i<=j)
theorem Fst.step {x b:Rat} {n:Nat} (h:Fst x b n):Fst x (bst x b (cnd x n)) (n+1):=by
 obtain⟨i,u,h2,h3,d⟩:=h
 unfold bst
 by_cases c:(x-cnd x n).abs<(x-b).abs
 ·rw[if_pos c]
  refine⟨n,by omega,by omega,rfl,fun j j1 j2=>?_⟩
  by_cases e:j=n
  ·exact .inr ⟨by rw[e],by omega⟩
  rcases d j j1 (by omega)with k|⟨k,_⟩
  ·exact .inl (qoK c k)
  exact .inl (k▸c)
 rw[if_neg c]
 refine⟨i,u,by omega,h3,fun j j1 j2=>?_⟩
 by_cases e:j=n
 ·rw[e]
  rcases Rat.le_iff_lt_or_eq.1 (Rat.not_lt.1 c)with k|k
  ·exact .inl k
  exact .inr ⟨k,by omega⟩
 exact d j j1 (by omega)
end Go.Av
end
section
namespace Go.Av
end Go.Av
end
section
namespace Go.Av
theorem F_eq {n:Int} (d: -9223372036854775808<=n) (h:n<=9223372036854775807): ∃f,qhx n=some f/\IsF f (n:Rat):=by
 obtain⟨f,e,i⟩:=qi4 (Ud d h)
 refine⟨f,?_,i⟩
 unfold qhx
 rw[qgT,ZB,e,ZB]
theorem qjh (r:Rat):r-(r.floor:Rat)=Rat.divInt (r.num%(r.den:Int)) (r.den:Int):=by
 have h:((r.den:Int):Rat)≠0:=by
  rw[Ne,Rat.intCast_eq_zero_iff]
  have:=r.den_pos
  omega
 have e:(r-(r.floor:Rat))*((r.den:Int):Rat)=((r.num%(r.den:Int):Int):Rat):=by
  rw[Rat.sub_eq_add_neg,Rat.add_mul,qnX,Rat.floor_def,Int.emod_def,Rat.intCast_sub,Rat.intCast_mul]
  grind
 rw[Rat.divInt_eq_div,<-e,Rat.mul_div_cancel h]
theorem qlm {r:Rat} {n:Nat} (h:qbP r n):qbP (r-(r.floor:Rat)) n:=by
 rw[qjh]
 have d:=r.den_pos
 refine qjM (by omega) ?_ h.2
 refine qaG ?_ h.2
 have:=Int.emod_nonneg r.num (show(r.den:Int)≠0 by omega)
 have:=Int.emod_lt_of_pos r.num (show(0:Int)<(r.den:Int)by omega)
 omega
theorem qj4 {x:Rat} {n:Nat} (h:qbP x n):x<=((W^n:Int):Rat)/\ -((W^n:Int):Rat)<=x:=by
 have j:=x.den_pos
 have d:(x.num.natAbs:Int)<W^n:=h.1
 have hp:(0:Int)<=W^n:=by omega
 have u:W^n*1<=W^n*(x.den:Int):=Yc (by omega) hp
 rw[<-Rat.intCast_neg]
 constructor
 ·rw[Rat.le_iff,Rat.num_intCast,Rat.den_intCast]
  omega
 rw[Rat.le_iff,Rat.num_intCast,Rat.den_intCast,Int.neg_mul]
 omega
theorem qmf {x:Rat} {n m:Nat} (hx:qbP x n) {c d:Int} (h0:0<=d) (hd:d<=m) (hm:m<=1000) (h1:(c:Rat)-x*(d:Rat)<=1) (h2: -1<=(c:Rat)-x*(d:Rat)):Fit c (n+1):=by
 obtain⟨j,u⟩:=qj4 hx
 have h:(0:Rat)<=(d:Rat):=Rat.intCast_nonneg.2 h0
 have hW:(1:Int)<=W^n:=pow_pos (show(0:Int)<W by decide) n
 have m1:=Rat.mul_le_mul_of_nonneg_right j h
 have m2:=Rat.mul_le_mul_of_nonneg_right u h
 have u1:(c:Rat)<=((W^n*d+1:Int):Rat):=by
  rw[Rat.intCast_add,Rat.intCast_mul,show((1:Int):Rat)=1 from rfl]
  grind
 have u2:((-(W^n*d+1):Int):Rat)<=(c:Rat):=by
  rw[Rat.intCast_neg,Rat.intCast_add,Rat.intCast_mul,show((1:Int):Rat)=1 from rfl]
  grind
 rw[Rat.intCast_le_intCast]at u1 u2
 have m3:W^n*d<=W^n*1000:=Yc (by omega) (by omega)
 have e:W^(n+1)=W^n*W:=Int.pow_succ ..
 have m4:W^n*1001<W^n*W:=Int.mul_lt_mul_of_pos_left (by decide) (by omega)
 unfold Fit
 omega
structure Cvg (x:Rat) (m:Nat) (a b c d:Int) (r:Rat):Prop where
 b0:0<=b
 d0:0<=d
 bm:b<=m
 dm:d<=m
 st:(b=1/\d=0)\/(1<=d/\1<r)
 fr:qbP r 4
 za:Fit a 5
 zc:Fit c 5
 eq:x*((d:Rat)*r+(b:Rat))=(c:Rat)*r+(a:Rat)
 det:c*b-d*a=1\/c*b-d*a= -1
theorem qlO {r:Rat} (h:1<r):1<=r.floor:=by
 rw[Rat.le_floor_iff]
 exact Rat.le_of_lt h
theorem Cvg.next {x:Rat} {m:Nat} {a b c d:Int} {r:Rat} (h:Cvg x m a b c d r) (hm1:1<=m) (hm:m<=1000) (fx:qbP x 4) (hd:d*r.floor+b<=m) (hr:r≠(r.floor:Rat)):
 Cvg x m c d (c*r.floor+a) (d*r.floor+b) (r-(r.floor:Rat))⁻¹/\1<=d*r.floor+b/\b+d+1<=d+(d*r.floor+b)+(if d=0 then 1 else 0):=by
 have u:0<r-(r.floor:Rat):=by
  rw[<-Rat.lt_iff_sub_pos]
  exact Rat.lt_of_le_of_ne (Rat.floor_le _) (Ne.symm hr)
 have hlt:r-(r.floor:Rat)<1:=by
  have:=Rat.lt_floor_add_one r
  rw[Rat.intCast_add,show((1:Int):Rat)=1 from rfl]at this
  grind
 have hne:r-(r.floor:Rat)≠0:=Rat.ne_of_gt u
 have k1:1<=d*r.floor+b/\b+d+1<=d+(d*r.floor+b)+(if d=0 then 1 else 0):=by
  rcases h.st with⟨e1,e2⟩|⟨e1,e2⟩
  ·rw[e1,e2]
   simp
  have f1:=qlO e2
  have:=Yc f1 h.d0
  have:=h.b0
  rw[if_neg (by omega)]
  omega
 have j:=Rat.mul_inv_cancel _ hne
 have hs:(1:Rat)<(r-(r.floor:Rat))⁻¹:=by
  have p:=Rat.inv_pos.2 u
  have:=Rat.mul_lt_mul_of_pos_right hlt p
  rw[j,Rat.one_mul]at this
  exact this
 generalize hg:(r-(r.floor:Rat))⁻¹=s at*
 have er:r=(r.floor:Rat)+s⁻¹:=by
  rw[<-hg,Rat.inv_inv]
  grind
 generalize hk:r.floor=k at*
 have es:(r-(k:Rat))*s=1:=j
 have e2:x*(((d*k+b:Int):Rat)*s+(d:Rat))=((c*k+a:Int):Rat)*s+(c:Rat):=by
  have h1:=h.eq
  rw[Rat.intCast_add,Rat.intCast_mul,Rat.intCast_add,Rat.intCast_mul]
  have h2:x*((d:Rat)*r+(b:Rat))*s=((c:Rat)*r+(a:Rat))*s:=by rw[h1]
  have h3:r*s=1+(k:Rat)*s:=by grind
  have h4:x*((d:Rat)*(r*s)+(b:Rat)*s)=(c:Rat)*(r*s)+(a:Rat)*s:=by grind
  rw[h3]at h4
  grind
 have dt:(c*k+a)*d-(d*k+b)*c=1\/(c*k+a)*d-(d*k+b)*c= -1:=by
  have:(c*k+a)*d-(d*k+b)*c= -(c*b-d*a):=by grind
  rcases h.det with e|e
  ·right;rw[this,e]
  left;rw[this,e];rfl
 refine⟨?_,k1⟩
 have D1:(1:Rat)<=((d*k+b:Int):Rat)*s+(d:Rat):=by
  have a1:(1:Rat)<=((d*k+b:Int):Rat):=by
   have:=Rat.intCast_le_intCast.2 k1.1
   exact this
  have a2:(0:Rat)<=(d:Rat):=Rat.intCast_nonneg.2 h.d0
  have a3:=Rat.mul_le_mul_of_nonneg_right a1 (show(0:Rat)<=s from Rat.le_trans (by decide) (Rat.le_of_lt hs))
  rw[Rat.one_mul]at a3
  have:=Rat.le_of_lt hs
  grind
 have zz:(((c*k+a:Int):Rat)-x*((d*k+b:Int):Rat))*(((d*k+b:Int):Rat)*s+(d:Rat))=(((c*k+a)*d-(d*k+b)*c:Int):Rat):=by
  rw[Rat.intCast_sub,Rat.intCast_mul,Rat.intCast_mul]
  generalize ((c*k+a:Int):Rat)=C at*
  generalize ((d*k+b:Int):Rat)=E at*
  generalize (c:Rat)=c' at*
  generalize (d:Rat)=d' at*
  have:(C-x*E)*(E*s+d')=C*(E*s+d')-E*(x*(E*s+d')):=by grind
  rw[this,e2]
  grind
 have hz:((c*k+a:Int):Rat)-x*((d*k+b:Int):Rat)<=1/\ -1<=((c*k+a:Int):Rat)-x*((d*k+b:Int):Rat):=by
  generalize ((c*k+a:Int):Rat)-x*((d*k+b:Int):Rat)=z at*
  generalize ((d*k+b:Int):Rat)*s+(d:Rat)=D at*
  have hD0:(0:Rat)<=D:=Rat.le_trans (by decide) D1
  have hb:z*D=1\/z*D= -1:=by
   rw[zz]
   rcases dt with e|e
   ·left;rw[e];rfl
   right;rw[e];rfl
  constructor
  ·rw[<-Rat.not_lt]
   intro hc
   have:=Rat.mul_lt_mul_of_pos_right hc (show(0:Rat)<D by grind)
   rw[Rat.one_mul]at this
   grind
  rw[<-Rat.not_lt]
  intro hc
  have:=Rat.mul_lt_mul_of_pos_right hc (show(0:Rat)<D by grind)
  grind
 exact {b0:=h.d0,d0:=by omega,bm:=h.dm,dm:=hd,st:= .inr ⟨k1.1,hs⟩,fr:=by rw[<-hg];exact qjc (by rw[<-hk];exact qlm h.fr) (by omega),za:=h.zc,zc:=qmf fx (by omega) hd hm hz.1 hz.2,eq:=e2,det:=dt}
end Go.Av
end
section
namespace Go.Av
def qgg (a:qz):Bool:=decide (a.Length<1)||decide (999999999<a.Length)||decide (a.Mass<1)||decide (999999999<a.Mass)
def zA (a:qz):Int:=if qgg a=true then 3 else 0
theorem qeJ {a:qz} (h:zA a=0):1<=a.Length/\a.Length<=999999999/\1<=a.Mass/\a.Mass<=999999999:=by
 unfold zA at h
 by_cases c:qgg a=true
 ·rw[if_pos c]at h;omega
 unfold qgg at c
 simp only[Bool.or_eq_true,decide_eq_true_eq,not_or]at c
 omega
theorem qhW (a:qz):zD a=some (zA a):=by
 unfold zD qb5 zA qgg
 by_cases h1:a.Length<1
 ·simp[h1]
 by_cases h2:999999999<a.Length
 ·simp[h1,h2]
 by_cases h3:a.Mass<1
 ·simp[h1,h2,h3]
 by_cases h4:999999999<a.Mass
 ·simp[h1,h2,h3,h4]
 simp[h1,h2,h3,h4]
theorem qfG {N:Nat} (hN:10<N) (a b:Int):jO N [a,b]=some (if a=0 then b else a):=by
 obtain⟨K,rfl⟩: ∃K,N=K+1+1+1:=⟨N-3,by omega⟩
 have j:w64 1=1:=rfl
 have h:w64 2=2:=rfl
 have d: ∀a b:Int,idx [a,b] 0=some a:=fun _ _=>rfl
 have u: ∀a b:Int,idx [a,b] 1=some b:=fun _ _=>rfl
 unfold jO
 by_cases ha:a=0
 ·by_cases hb:b=0
  ·simp[zo,d,u,ha,hb,j,h]
  simp[zo,d,u,ha,hb,j,h]
 simp[zo,d,ha]
theorem qkV {N:Nat} (hN:10<N) (a b c:Int):jO N [a,b,c]=some (if a=0 then(if b=0 then c else b)else a):=by
 obtain⟨K,rfl⟩: ∃K,N=K+1+1+1+1:=⟨N-4,by omega⟩
 have h:w64 1=1:=rfl
 have u:w64 2=2:=rfl
 have w3:w64 3=3:=rfl
 have d: ∀a b c:Int,idx [a,b,c] 0=some a:=fun _ _ _=>rfl
 have j: ∀a b c:Int,idx [a,b,c] 1=some b:=fun _ _ _=>rfl
 have i2: ∀a b c:Int,idx [a,b,c] 2=some c:=fun _ _ _=>rfl
 unfold jO
 by_cases ha:a=0
 ·by_cases hb:b=0
  ·by_cases hc:c=0
   ·simp[zo,d,j,i2,ha,hb,hc,h,u,w3]
   simp[zo,d,j,i2,ha,hb,hc,h,u,w3]
  simp[zo,d,j,ha,hb,h,u]
 simp[zo,d,ha]
theorem qnc {N:Nat} (hN:10<N) (a b:Int):jZ N [a,b]=some (if a=0 then b else a):=by
 obtain⟨K,rfl⟩: ∃K,N=K+1+1+1:=⟨N-3,by omega⟩
 have j:w64 1=1:=rfl
 have h:w64 2=2:=rfl
 have d: ∀a b:Int,idx [a,b] 0=some a:=fun _ _=>rfl
 have u: ∀a b:Int,idx [a,b] 1=some b:=fun _ _=>rfl
 unfold jZ
 by_cases ha:a=0
 ·by_cases hb:b=0
  ·simp[kw,d,u,ha,hb,j,h]
  simp[kw,d,u,ha,hb,j,h]
 simp[kw,d,ha]
theorem qnH {N:Nat} (hN:10<N) (a b c:Int):jZ N [a,b,c]=some (if a=0 then(if b=0 then c else b)else a):=by
 obtain⟨K,rfl⟩: ∃K,N=K+1+1+1+1:=⟨N-4,by omega⟩
 have h:w64 1=1:=rfl
 have u:w64 2=2:=rfl
 have w3:w64 3=3:=rfl
 have d: ∀a b c:Int,idx [a,b,c] 0=some a:=fun _ _ _=>rfl
 have j: ∀a b c:Int,idx [a,b,c] 1=some b:=fun _ _ _=>rfl
 have i2: ∀a b c:Int,idx [a,b,c] 2=some c:=fun _ _ _=>rfl
 unfold jZ
 by_cases ha:a=0
 ·by_cases hb:b=0
  ·by_cases hc:c=0
   ·simp[kw,d,j,i2,ha,hb,hc,h,u,w3]
   simp[kw,d,j,i2,ha,hb,hc,h,u,w3]
  simp[kw,d,j,ha,hb,h,u]
 simp[kw,d,ha]
theorem qg3 (n:Int):qaf n 1 999999999=some (if n<1\/999999999<n then 3 else 0):=by
 unfold qaf qaK
 by_cases h1:n<1
 ·simp[h1]
 by_cases h2:999999999<n
 ·simp[h1,h2]
 simp[h1,h2]
theorem qeh {N:Nat} (hN:10<N) (a:qz):zu N a=some (zA a):=by
 unfold zu
 rw[qg3,ZB,qg3,ZB,qfG hN,ZB]
 unfold zA qgg
 by_cases h1:a.Length<1
 ·simp[h1]
 by_cases h2:999999999<a.Length
 ·simp[h1,h2]
 by_cases h3:a.Mass<1
 ·simp[h1,h2,h3]
 by_cases h4:999999999<a.Mass
 ·simp[h1,h2,h3,h4]
 simp[h1,h2,h3,h4]
theorem qnK {N:Nat} (hN:600000<N) {s:Str} (j:s.length<=600): ∃e,zR N s=some e/\yo N s=some e/\(e=0-> ∃q:Rat,s=T q/\Sml q 600/\0<q):=by
 unfold zR qcw yo qaK
 rw[qlM hN (by omega),qlx hN (by omega),ZB,ZB]
 by_cases hc:chk s=0
 ·obtain⟨q,rfl,sq,_⟩:=qog (by omega) j hc
  obtain⟨f,e1,u⟩:=qfD hN (sq.mono (show 600<=9000 by omega))
  rw[hc,if_neg (by decide),if_pos rfl,e1,ZB,qnl u,ZB,qo8,ZB]
  by_cases h:q<=0
  ·have d:=(qk9 (q:=q)).2 h
   refine⟨3,?_,?_,fun c=>absurd c (by decide)⟩
   ·rw[if_pos (decide_eq_true (Int.lt_of_le_of_lt d (by decide)))];rfl
   rw[decide_eq_true d];rfl
  have d: ¬_<=(0:Int):=fun c=>h ((qk9 (q:=q)).1 c)
  refine⟨0,?_,?_,fun _=>⟨q,rfl,sq,Rat.not_le.1 h⟩⟩
  ·rw[if_neg (by rw[decide_eq_true_eq];omega)];rfl
  rw[decide_eq_false d];rfl
 refine⟨chk s,?_,?_,fun c=>absurd c hc⟩
 ·rw[if_pos (by simp[hc])];rfl
 rw[if_neg hc];rfl
def qjD (q:Rat):Str×Int:=if qhf q=true then([],4)else(T q,0)
theorem qd5 {N:Nat} (hN:600000<N) {f:qL} {q:Rat} (h:IsF f q) (d:qbP q 3900):y9 N f=some (qjD q):=by
 unfold y9 qjD
 rw[qmn hN h d,ZB]
 by_cases c:qhf q=true
 ·rw[if_pos c,if_pos c]
 rw[if_neg c,if_neg c,qob hN h d,ZB]
theorem qj5 {N:Nat} (hN:600000<N) {q:Rat} {k:Nat} (h:Sml q k) (u:k<=9000):yP N (T q) 0=some (qjD q):=by
 have L:xw N [T q]=some (if qhf q=true then 4 else 0):=by
  obtain⟨K,hK⟩: ∃K,N=K+1+1:=⟨N-2,by omega⟩
  have l:=qol (N:=N) (by omega) h u
  have j:w64 (0+1)=1:=rfl
  have d:idx [T q] 0=some (T q):=rfl
  unfold xw
  by_cases c:qhf q=true
  ·rw[if_pos c]at l
   have e:qB N [T q] N 0=some (.inr 4):=by
    rw[show qB N [T q] N 0=qB N [T q] (K+1+1) 0 by rw[<-hK],qB,if_pos (show(0:Int)<(([T q]:List Str).length:Int)from Int.zero_lt_one),d,ZB,l,ZB,if_pos (by decide)]
   rw[e,if_pos c];rfl
  rw[if_neg c]at l
  have e:qB N [T q] N 0=some (.inl ()):=by
   rw[show qB N [T q] N 0=qB N [T q] (K+1+1) 0 by rw[<-hK],qB,if_pos (show(0:Int)<(([T q]:List Str).length:Int)from Int.zero_lt_one),d,ZB,l,ZB,if_neg (by decide),j,qB,if_neg (show¬(1:Int)<(([T q]:List Str).length:Int)from Int.lt_irrefl 1)]
  rw[e,if_neg c];rfl
 unfold yP qjD
 rw[if_pos rfl,L,ZB,ZB]
 by_cases c:qhf q=true
 ·rw[if_pos c,if_pos c];rfl
 rw[if_neg c,if_neg c];rfl
theorem qj9 {N:Nat} (s:Str) {e:Int} (h:e≠0):yP N s e=some ([],e):=by
 unfold yP
 rw[if_neg h,ZB,if_pos (by simp[h])]
def scQ (a:qz):Rat:=(a.Mass:Rat)/(a.Length:Rat)
def qic (a:qz) (q:Rat):Rat:=if a.Direct=true then q*scQ a else scQ a/q
def qhJ (a:qz) (q:Rat):Rat:=if a.Direct=true then q/scQ a else scQ a/q
theorem qfO {p q:Rat} {n:Nat} (d:0<n) (hp:Sml p (9*n)) (hq:Sml q (9*n)) (h:q≠0):Sml (p/q) (9*(n+n)):=by
 rw[Rat.div_def]
 exact qle d hp (qip hq h)
theorem qie {a:qz} (h:zA a=0):Sml (a.Mass:Rat) 27/\Sml (a.Length:Rat) 27/\0<(a.Mass:Rat)/\0<(a.Length:Rat):=by
 obtain⟨d,u,h3,j⟩:=qeJ h
 exact⟨qky (by omega) (by omega),qky (by omega) (by omega),Rat.intCast_pos.2 (by omega),Rat.intCast_pos.2 (by omega)⟩
theorem qeV {a:qz} (h:zA a=0):Sml (scQ a) 54/\0<scQ a:=by
 obtain⟨s1,j,u,d⟩:=qie h
 refine⟨qfO (n:=3) (by omega) s1 j (Rat.ne_of_gt d),?_⟩
 unfold scQ
 rw[Rat.div_def]
 exact Rat.mul_pos u (Rat.inv_pos.2 d)
theorem qhZ {a:qz} (h:zA a=0) {q:Rat} {n:Nat} (hn:6<=n) (hq:Sml q (9*n)) (d:0<q):Sml (qic a q) (9*(n+n))/\0<qic a q:=by
 obtain⟨j,u⟩:=qeV h
 unfold qic
 split
 ·exact⟨qle (by omega) hq (j.mono (by omega)),Rat.mul_pos d u⟩
 refine⟨qfO (by omega) (j.mono (by omega)) hq (Rat.ne_of_gt d),?_⟩
 rw[Rat.div_def]
 exact Rat.mul_pos u (Rat.inv_pos.2 d)
theorem qfP {a:qz} (h:zA a=0) {q:Rat} {n:Nat} (hn:6<=n) (hq:Sml q (9*n)) (j:0<q):Sml (qhJ a q) (9*(n+n))/\0<qhJ a q:=by
 obtain⟨u,d⟩:=qeV h
 unfold qhJ
 split
 ·refine⟨qfO (by omega) hq (u.mono (by omega)) (Rat.ne_of_gt d),?_⟩
  rw[Rat.div_def]
  exact Rat.mul_pos j (Rat.inv_pos.2 d)
 refine⟨qfO (by omega) (u.mono (by omega)) hq (Rat.ne_of_gt j),?_⟩
 rw[Rat.div_def]
 exact Rat.mul_pos d (Rat.inv_pos.2 j)
theorem qi3 {N:Nat} (hN:600000<N) {a:qz} (h:zA a=0): ∃f,zC N a=some f/\IsF f (scQ a):=by
 obtain⟨h1,h2,h3,h4⟩:=qeJ h
 obtain⟨d,s2,p1,p2⟩:=qie h
 obtain⟨f,u,i1⟩:=F_eq (n:=a.Mass) (by omega) (by omega)
 obtain⟨g,j,i2⟩:=F_eq (n:=a.Length) (by omega) (by omega)
 obtain⟨r,e3,i3⟩:=qfL hN i1 i2 (n:=2) (by omega) (by omega) (yn d (by omega) (by omega)) (yn s2 (by omega) (by omega)) (Rat.ne_of_gt p2)
 refine⟨r,?_,i3⟩
 unfold zC
 rw[u,ZB,j,ZB,e3,ZB]
theorem qjj {N:Nat} (hN:600000<N) {a:qz} (h:zA a=0) {g:qL} {q:Rat} (hg:IsF g q) {k:Nat} (hk:54<=k) (hk2:k<=3600) (sq:Sml q k) (h0:0<q): ∃f,zY N a g=some f/\IsF f (qic a q):=by
 obtain⟨f,e1,i1⟩:=qi3 hN h
 obtain⟨u,p1⟩:=qeV h
 unfold zY qic
 by_cases c:a.Direct=true
 ·obtain⟨r,d,j⟩:=qks hN hg i1 (n:=200) (by omega) (yn sq (by omega) (by omega)) (yn u (by omega) (by omega))
  refine⟨r,?_,?_⟩
  ·rw[if_pos c,e1,ZB,d,ZB]
  rw[if_pos c];exact j
 obtain⟨r,d,j⟩:=qfL hN i1 hg (n:=200) (by omega) (by omega) (yn u (by omega) (by omega)) (yn sq (by omega) (by omega)) (Rat.ne_of_gt h0)
 refine⟨r,?_,?_⟩
 ·rw[if_neg c,e1,ZB,d,ZB]
 rw[if_neg c];exact j
theorem qkq {N:Nat} (hN:600000<N) {a:qz} (h:zA a=0) {g:qL} {q:Rat} (hg:IsF g q) {k:Nat} (hk:54<=k) (hk2:k<=3600) (sq:Sml q k) (h0:0<q): ∃f,jM N a g=some f/\IsF f (qhJ a q):=by
 obtain⟨f,e1,i1⟩:=qi3 hN h
 obtain⟨u,p1⟩:=qeV h
 unfold jM qhJ
 by_cases c:a.Direct=true
 ·obtain⟨r,d,j⟩:=qfL hN hg i1 (n:=200) (by omega) (by omega) (yn sq (by omega) (by omega)) (yn u (by omega) (by omega)) (Rat.ne_of_gt p1)
  refine⟨r,?_,?_⟩
  ·rw[if_pos c,e1,ZB,d,ZB]
  rw[if_pos c];exact j
 obtain⟨r,d,j⟩:=qfL hN i1 hg (n:=200) (by omega) (by omega) (yn u (by omega) (by omega)) (yn sq (by omega) (by omega)) (Rat.ne_of_gt h0)
 refine⟨r,?_,?_⟩
 ·rw[if_neg c,e1,ZB,d,ZB]
 rw[if_neg c];exact j
theorem ql7 {N:Nat} (hN:600000<N) {a:qz} (h:zA a=0) {q:Rat} {k:Nat} (j:54<=k) (u:k<=3600) (sq:Sml q k) (h0:0<q):yT N a (T q)=some (T (qic a q)):=by
 obtain⟨h1,h2,h3,h4⟩:=qeJ h
 obtain⟨d,p1⟩:=qeV h
 have e:=qig (N:=N) (a:=a.Mass) (b:=a.Length) (by omega) (by omega) (by omega) (by omega) (by omega) (by omega)
 rw[Rat.divInt_eq_div]at e
 change xn N a.Mass a.Length=some (T (scQ a))at e
 unfold yT qic
 by_cases c:a.Direct=true
 ·rw[if_pos c,if_pos c,e,ZB,qhP hN (k:=k) (by omega) (by omega) sq (d.mono j),ZB]
 rw[if_neg c,if_neg c,e,ZB,qk4 hN (k:=k) (by omega) (by omega) (d.mono j) sq (Rat.ne_of_gt h0),ZB]
theorem qli {N:Nat} (hN:600000<N) {a:qz} (h:zA a=0) {q:Rat} {k:Nat} (u:54<=k) (hk2:k<=3600) (sq:Sml q k) (h0:0<q):qag N a (T q)=some (T (qhJ a q)):=by
 obtain⟨h1,h2,h3,h4⟩:=qeJ h
 obtain⟨j,p1⟩:=qeV h
 obtain⟨t1,t2,p2,p3⟩:=qie h
 have e:=qig (N:=N) (a:=a.Mass) (b:=a.Length) (by omega) (by omega) (by omega) (by omega) (by omega) (by omega)
 have d:=qig (N:=N) (a:=a.Length) (b:=a.Mass) (by omega) (by omega) (by omega) (by omega) (by omega) (by omega)
 rw[Rat.divInt_eq_div]at e d
 change xn N a.Mass a.Length=some (T (scQ a))at e
 have hi:(a.Length:Rat)/(a.Mass:Rat)=(scQ a)⁻¹:=by
  unfold scQ
  rw[Rat.div_def,Rat.div_def,Rat.inv_mul_rev,Rat.inv_inv]
 rw[hi]at d
 unfold qag qhJ
 by_cases c:a.Direct=true
 ·rw[if_pos c,if_pos c,d,ZB,qhP hN (k:=k) (by omega) (by omega) sq ((qip j (Rat.ne_of_gt p1)).mono u),ZB,Rat.div_def]
 rw[if_neg c,if_neg c,e,ZB,qk4 hN (k:=k) (by omega) (by omega) (j.mono u) sq (Rat.ne_of_gt h0),ZB]
theorem qjp {N:Nat} (hN:600000<N) {a:qz} (h:zA a=0) {q:Rat} (sq:Sml q 600) (d:0<q) (hp:zR N (T q)=some 0):yM N a (T q)=some (qjD (qic a q)):=by
 obtain⟨g,e1,u⟩:=qfD hN (sq.mono (show 600<=9000 by omega))
 obtain⟨f,e2,i2⟩:=qjj hN h u (by omega) (by omega) sq d
 have j:=(qhZ h (n:=67) (by omega) (sq.mono (by omega)) d).1
 unfold yM
 rw[qeh (by omega),ZB,hp,ZB,qfG (by omega),h,if_pos rfl,ZB,if_neg (by decide),e1,ZB,e2,ZB,qd5 hN i2 (yn j (by omega) (by omega)),ZB]
theorem qk3 {N:Nat} (hN:600000<N) {a:qz} (h:zA a=0) {q:Rat} (sq:Sml q 600) (d:0<q) (hp:zR N (T q)=some 0):xZ N a (T q)=some (qjD (qhJ a q)):=by
 obtain⟨g,e1,u⟩:=qfD hN (sq.mono (show 600<=9000 by omega))
 obtain⟨f,e2,i2⟩:=qkq hN h u (by omega) (by omega) sq d
 have j:=(qfP h (n:=67) (by omega) (sq.mono (by omega)) d).1
 unfold xZ
 rw[qeh (by omega),ZB,hp,ZB,qfG (by omega),h,if_pos rfl,ZB,if_neg (by decide),e1,ZB,e2,ZB,qd5 hN i2 (yn j (by omega) (by omega)),ZB]
theorem qmH {N:Nat} (hN:600000<N) {a b:qz} (h:zA a=0) (d:zA b=0) {q:Rat} (sq:Sml q 600) (h0:0<q) (hp:zR N (T q)=some 0):yL N a b (T q)=some (qjD (qhJ b (qic a q))):=by
 obtain⟨g,e1,i1⟩:=qfD hN (sq.mono (show 600<=9000 by omega))
 obtain⟨f,e2,i2⟩:=qjj hN h i1 (by omega) (by omega) sq h0
 obtain⟨j,u⟩:=qhZ h (n:=67) (by omega) (sq.mono (by omega)) h0
 obtain⟨f',e3,i3⟩:=qkq hN d i2 (k:=1206) (by omega) (by omega) (j.mono (by omega)) u
 have s3:=(qfP d (n:=134) (by omega) (j.mono (by omega)) u).1
 unfold yL
 rw[qeh (by omega),ZB,qeh (by omega),ZB,hp,ZB,qkV (by omega),h,d,if_pos rfl,if_pos rfl,ZB,if_neg (by decide),e1,ZB,e2,ZB,e3,ZB,qd5 hN i3 (yn s3 (by omega) (by omega)),ZB]
theorem qfd {N:Nat} (hN:600000<N) (a b:qz) (s:Str):xD N a b s=some true:=by
 unfold xD
 by_cases hl:(s.length:Int)>60
 ·rw[if_pos hl];rfl
 rw[if_neg hl]
 obtain⟨e,p1,p2,p3⟩:=qnK hN (s:=s) (by omega)
 obtain⟨o1,ho1⟩: ∃o:Int,o=(if zA a=0 then e else zA a):=⟨_,rfl⟩
 obtain⟨o2,ho2⟩: ∃o:Int,o=(if zA a=0 then(if zA b=0 then e else zA b)else zA a):=⟨_,rfl⟩
 have f1:jZ N [zA a,e]=some o1:=by rw[ho1];exact qnc (by omega) _ _
 have f2:jZ N [zA a,zA b,e]=some o2:=by rw[ho2];exact qnH (by omega) _ _ _
 have y1:jO N [zA a,e]=some o1:=by rw[ho1];exact qfG (by omega) _ _
 have y2:jO N [zA a,zA b,e]=some o2:=by rw[ho2];exact qkV (by omega) _ _ _
 have ys:=fun a=>qeh (N:=N) (by omega) a
 have D:o1≠0->yM N a s=some ([],o1):=fun h=>by
  unfold yM
  rw[ys,ZB,p1,ZB,y1,ZB,if_pos (by rw[decide_eq_false h];rfl)]
 have C:o1≠0->xZ N a s=some ([],o1):=fun h=>by
  unfold xZ
  rw[ys,ZB,p1,ZB,y1,ZB,if_pos (by rw[decide_eq_false h];rfl)]
 have V:o2≠0->yL N a b s=some ([],o2):=fun h=>by
  unfold yL
  rw[ys,ZB,ys,ZB,p1,ZB,y2,ZB,if_pos (by rw[decide_eq_false h];rfl)]
 by_cases c1:o1=0
 ·have hz:zA a=0/\e=0:=by
   rw[ho1]at c1
   split at c1
   ·exact⟨by assumption,c1⟩
   contradiction
  obtain⟨j,rfl⟩:=hz
  obtain⟨q,rfl,sq,u⟩:=p3 rfl
  have sd:=qhZ j (n:=67) (by omega) (sq.mono (by omega)) u
  have sc:=qfP j (n:=67) (by omega) (sq.mono (by omega)) u
  have t1:=qj5 hN sd.1 (by omega)
  have t2:=qj5 hN sc.1 (by omega)
  have r1:=ql7 hN j (show 54<=600 by omega) (by omega) sq u
  have r2:=qli hN j (show 54<=600 by omega) (by omega) sq u
  by_cases d:o2=0
  ·have hb:zA b=0:=by
    rw[ho2,if_pos j]at d
    split at d
    ·assumption
    contradiction
   have s3:=(qfP hb (n:=134) (by omega) (sd.1.mono (by omega)) sd.2).1
   have t3:=qj5 hN s3 (by omega)
   have r3:=qli hN hb (k:=1206) (by omega) (by omega) (sd.1.mono (by omega)) sd.2
   simp only[qjp hN j sq u p1,qk3 hN j sq u p1,qmH hN j hb sq u p1,qhW,p2,ZB,f1,f2,c1,d,if_true,eq_self,r1,r2,r3,t1,t2,t3,ys]
   simp[awk]
  simp only[qjp hN j sq u p1,qk3 hN j sq u p1,V d,qhW,p2,ZB,f1,f2,c1,if_neg d,if_true,eq_self,r1,r2,t1,t2,qj9 _ d,ys]
  simp[awk]
 have d:o2≠0:=by
  intro h
  apply c1
  rw[ho1]
  rw[ho2]at h
  split at h
  ·rename_i k
   rw[if_pos k]
   split at h
   ·exact h
   contradiction
  contradiction
 simp only[D c1,C c1,V d,qhW,p2,ZB,f1,f2,if_neg c1,if_neg d,qj9 _ c1,qj9 _ d,ys]
 simp[awk]
end Go.Av
end
