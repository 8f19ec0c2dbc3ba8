/-
  The reference's numerals.
-/
import Derived.Test.YtbjpmhdicbgjkaaGreatDoorNuPa
import Derived.Test.YtbjpmhdicbgjkaaGreatDoorAvPt
noncomputable section
set_option linter.unusedVariables false
set_option linter.unusedSimpArgs false
set_option maxRecDepth 100000
section
namespace Go.Av
theorem qbI {a b:Str} (h:a.length+b.length<=1000000000):cat a b=some (a++b):=by
 unfold cat
 rw[if_pos (by omega)]
theorem dcut {d:Nat} (h:d<10):cut ([48,49,50,51,52,53,54,55,56,57]:Str) (d:Int) (w64 ((d:Int)+1))=some [dch d]:=by
 rw[zJ (by omega)]
 rcases(show d=0\/d=1\/d=2\/d=3\/d=4\/d=5\/d=6\/d=7\/d=8\/d=9 by omega)with e|e|e|e|e|e|e|e|e|e<;>subst e<;>decide
theorem tm10 (n:Nat):(n:Int).tmod 10=((n%10:Nat):Int):=by rw[Int.tmod_eq_emod_of_nonneg (by omega)];omega
theorem td10 (n:Nat):(n:Int).tdiv 10=((n/10:Nat):Int):=by rw[YF (by omega)];omega
theorem qgB {least:Int} {K n:Nat} {s:Str} (j:n<9223372036854775808) (hs:s.length<=1000) (h:0<n\/(s.length:Int)<least):qZ least (K+1) (n:Int) s=qZ least K ((n/10:Nat):Int) (dch (n%10)::s):=by
 have d:(if(n:Int)>0 then some true else some (decide ((s.length:Int)<least)):Option Bool)=some true:=by
  by_cases c:(n:Int)>0
  ·rw[if_pos c]
  rw[if_neg c,decide_eq_true (by omega)]
 rw[qZ,d,ZB,if_pos rfl,tm10,td10,dcut (by omega),ZB,qbI (by simp;omega),ZB,ql (by omega) (by omega)]
 rfl
theorem qgF {least:Int} {K:Nat} {s:Str} (h: ¬(s.length:Int)<least):qZ least (K+1) 0 s=some s:=by
 rw[qZ,if_neg (by omega),decide_eq_false h,ZB,if_neg (by simp)]
theorem qkI: ∀(k K n:Nat) (s:Str),n<10^k->s.length+k=9->k<K->qZ 9 K (n:Int) s=some (qef k n++s)
 |k,0,n,s,_,_,h=>by omega
 |0,K+1,n,s,hn,hs,h=>by
  simp at hn
  subst hn
  exact qgF (by omega)
 |k+1,K+1,n,s,hn,hs,h=>by
  have d:(10:Nat)^(k+1)<=10^9:=Nat.pow_le_pow_right (by omega) (by omega)
  rw[Nat.pow_succ]at hn
  rw[qgB (by rw[Nat.pow_succ]at d;omega) (by omega) (.inr (by omega)),qkI k K (n/10) _ (by omega) (by simp;omega) (by omega),qef,Yz]
  rfl
theorem qkx: ∀(k K n:Nat) (s:Str),0<n->n<10^k->n<9223372036854775808->s.length+k<=900->k<K->qZ 1 K (n:Int) s=some (Lib.decDigits n++s)
 |k,0,n,s,_,_,_,_,h=>by omega
 |0,K+1,n,s,h0,hn,_,hs,h=>by simp at hn;omega
 |k+1,K+1,n,s,h0,hn,h63,hs,h=>by
  rw[Nat.pow_succ]at hn
  rw[qgB h63 (by omega) (.inl h0)]
  by_cases c:n<10
  ·obtain⟨K2,rfl⟩: ∃K2,K=K2+1:=⟨K-1,by omega⟩
   rw[show n/10=0 by omega,yA c,show n%10=n by omega]
   exact qgF (by simp;omega)
  rw[qkx k K (n/10) _ (by omega) (by omega) (by omega) (by simp;omega) (by omega),qgr c,Yz]
  rfl
theorem qoN {N n:Nat} (hN:100<N) (h:n<1000000000):zQ N (n:Int) 9=some (qef 9 n):=by
 unfold zQ
 rw[qkI 9 N n [] h rfl (by omega),ZB,YQ]
theorem qhC {N n:Nat} (hN:100<N) (h:n<9223372036854775808):zQ N (n:Int) 1=some (Lib.decDigits n):=by
 unfold zQ
 rcases Nat.eq_zero_or_pos n with e|e
 ·subst e
  obtain⟨K,rfl⟩: ∃K,N=K+1+1:=⟨N-2,by omega⟩
  have j:=qgB (least:=1) (K:=K+1) (n:=0) (s:=[]) (by omega) (by simp) (.inr (by simp))
  rw[j,Nat.zero_div]
  have d:=qgF (least:=1) (K:=K) (s:=[dch (0%10)]) (by simp)
  have d:qZ 1 (K+1) ((0:Nat):Int) [dch (0%10)]=_:=d
  rw[d,ZB,yA (by decide)]
 rw[qkx 19 N n [] e (by omega) h (by simp) (by omega),ZB,YQ]
theorem qik: ∀k:Nat,E9^k=((10^(9*k):Nat):Int)
 |0=>rfl
 |k+1=>by
  rw[Int.pow_succ,qik k,Nat.mul_succ,Nat.pow_add,Int.natCast_mul]
  rfl
def nv (w:List Int):Nat:=(dv E9 w).toNat
theorem qj4 {w:List Int} (h:Dg E9 w):(nv w:Int)=dv E9 w:=by
 have:=qE E0 h
 unfold nv
 omega
theorem nv_lt {w:List Int} (h:Dg E9 w):nv w<10^(9*w.length):=by
 have d:=yZ E0 h
 rw[qik,<-qj4 h]at d
 omega
theorem qiX {w:List Int} (h:Dg E9 w):(Lib.decDigits (nv w)).length<=9*w.length+1:=by
 refine(qaq (by omega)).2 ?_
 have:=nv_lt h
 rw[Nat.pow_succ]
 omega
theorem qmF {w:List Int} (h:Dg E9 w) {i:Nat} (hi:i<w.length):nv (w.drop i)=w[i].toNat+1000000000*nv (w.drop (i+1)):=by
 have d:=qj4 (h.drop i)
 have h2:=qj4 (h.drop (i+1))
 have u:=(h.at hi).1
 rw[qhB w hi]at d
 have j:E9*dv E9 (w.drop (i+1))=1000000000*dv E9 (w.drop (i+1)):=rfl
 omega
theorem qkk {N:Nat} (hN:100<N) {a:qO} (j:Dg E9 a.w) (a0:a.w.length<=100000): ∀(K i:Nat),i<=a.w.length->i<K->0<nv (a.w.drop i)->vZ N a K (Lib.decDigits (nv (a.w.drop i))) ((i:Int)-1)=some (Lib.decDigits (nv a.w))
 |0,i,_,h,_=>by omega
 |K+1,0,_,_,_=>by
  rw[vZ,if_neg (by omega),YR]
 |K+1,i+1,hi,h,hp=>by
  have d:i<a.w.length:=by omega
  have ax:=j.at d
  have ax2:a.w[i]<1000000000:=ax.2
  have ei:((i+1:Nat):Int)-1=(i:Int):=by omega
  have ed:a.w[i]=(a.w[i].toNat:Int):=by omega
  have el:=qmF j d
  have ll:=qiX (j.drop (i+1))
  rw[YJ]at ll
  rw[vZ,ei,if_pos (by omega),qx,Ya d,ZB]
  have e9:zQ N a.w[i] 9=some (qef 9 a.w[i].toNat):=by
   conv=>lhs;rw[ed]
   exact qoN hN (by omega)
  rw[e9,ZB,qbI (by rw[qhR];omega),ZB,ql (by omega) (by omega)]
  have u:Lib.decDigits (nv (a.w.drop (i+1)))++qef 9 a.w[i].toNat=Lib.decDigits (nv (a.w.drop i)):=by
   have h9:(10:Nat)^9=1000000000:=rfl
   have q:nv (a.w.drop i)/10^9=nv (a.w.drop (i+1)):=by rw[h9];omega
   have r:nv (a.w.drop i)%10^9=a.w[i].toNat:=by rw[h9];omega
   rw[qhy 9 (nv (a.w.drop i)) (by rw[q];exact hp),q,r]
  rw[u]
  exact qkk hN j a0 K i (by omega) (by omega) (by omega)
theorem yj {z:Int} (h:z<0):Lib.itoa z=45::Lib.decDigits z.natAbs:=by unfold Lib.itoa;rw[if_pos h]
theorem zY {z:Int} (h: ¬z<0):Lib.itoa z=Lib.decDigits z.natAbs:=by
 unfold Lib.itoa
 rw[if_neg h,show z.toNat=z.natAbs by omega]
theorem qmo {N:Nat} (hN:60000<N) {z:Int} (h:jv z 50000):qbF N (rI z)=some (Lib.itoa z):=by
 obtain⟨c,e⟩:=qgA z
 have l:(rI z).w.length<=50000:=h.len
 have u:nv (rI z).w=z.natAbs:=by unfold nv;rw[e];omega
 have ng:(rI z).neg=decide (z<0):=rfl
 unfold qbF
 by_cases h0:(rI z).w.length=0
 ·have d:z=0:=by
   rw[YL.1 h0,zu]at e
   omega
  rw[if_pos (by omega),d]
  have:Lib.itoa 0=[48]:=by rw[zY (by decide)];exact yA (by decide)
  rw[this]
 have j:(rI z).w.length-1<(rI z).w.length:=by omega
 have ax:=c.1.at j
 have ax2:(rI z).w[(rI z).w.length-1]<1000000000:=ax.2
 have an:(rI z).w[(rI z).w.length-1]≠0:=c.2 _ (by rw[List.getLast?_eq_getElem?];exact Ya j)
 have ed:(rI z).w[(rI z).w.length-1]=((rI z).w[(rI z).w.length-1].toNat:Int):=by omega
 have e1:nv ((rI z).w.drop ((rI z).w.length-1))=(rI z).w[(rI z).w.length-1].toNat:=by
  rw[qmF c.1 j,List.drop_of_length_le (by omega)]
  rfl
 have e2:zQ N (rI z).w[(rI z).w.length-1] 1=some (Lib.decDigits (nv ((rI z).w.drop ((rI z).w.length-1)))):=by
  conv=>lhs;rw[ed]
  rw[e1]
  exact qhC (by omega) (by omega)
 have e3:=qkk (N:=N) (by omega) c.1 (by omega) N ((rI z).w.length-1) (by omega) (by omega) (by rw[e1];omega)
 have ll:=qiX c.1
 rw[if_neg (by omega),qjX (by omega) (by omega),qx,Ya j,ZB,e2,ZB,show w64 (((rI z).w.length:Int)-2)=(((rI z).w.length-1:Nat):Int)-1 by rw[ql (by omega) (by omega)];omega,e3,ZB,ng]
 by_cases d:z<0
 ·rw[decide_eq_true d,if_pos rfl,qbI (by simp;omega),ZB,yj d,u]
  rfl
 rw[decide_eq_false d,if_neg (by simp),zY d,u]
theorem qkj {s:Str} (j:s.all yl=true) (u:s.length<=18): ∀(K i:Nat),i<=s.length->s.length<K+i->vI s K ((kg 0 (s.take i):Nat):Int) (i:Int)=some ((kg 0 s:Nat):Int)
 |0,i,h,hK=>by omega
 |K+1,i,h,hK=>by
  rw[vI]
  by_cases hi:i<s.length
  ·have ht:s.take (i+1)=s.take i++[s[i]]:=List.take_succ_eq_append_getElem hi
   have d:yl s[i]=true:=Yp.1 j _ (List.getElem_mem hi)
   obtain⟨_,a1⟩:=ql6 d
   have a2:48<=s[i].toNat:=by
    unfold yl at d
    rw[Bool.and_eq_true,decide_eq_true_eq]at d
    exact d.1
   have hv:=qe3 (s.take i) 0 (Yp.2 fun x hx=>Yp.1 j x (List.mem_of_mem_take hx))
   have hp:(10:Nat)^(s.take i).length<=10^17:=Nat.pow_le_pow_right (by omega) (by rw[Ym];omega)
   have a0:(10:Nat)^17=100000000000000000:=rfl
   rw[if_pos (by omega),qx,Ya hi,ZB,ql (n:=10*((kg 0 (s.take i):Nat):Int)) (by omega) (by omega),ql (n:=(s[i].toNat:Int)) (by omega) (by omega),ql (n:=10*((kg 0 (s.take i):Nat):Int)+(s[i].toNat:Int)) (by omega) (by omega),ql (by omega) (by omega),zJ (by omega)]
   have e:10*((kg 0 (s.take i):Nat):Int)+(s[i].toNat:Int)-48=((kg 0 (s.take (i+1)):Nat):Int):=by rw[ht,qgo];omega
   rw[e]
   exact qkj j u K (i+1) (by omega) (by omega)
  rw[if_neg (by omega),List.take_of_length_le (by omega)]
theorem qf6 {N:Nat} (hN:100<N) {s:Str} (d:s.all yl=true) (h:s.length<=18):xB N s=some ((kg 0 s:Nat):Int):=by
 have e:=qkj d h N 0 (by omega) (by omega)
 have e:vI s N 0 0=_:=e
 unfold xB
 rw[e,ZB]
theorem qhw {s:Str} (h:s.all yl=true) (k:Nat):(s.take k).all yl=true:=Yp.2 fun x hx=>Yp.1 h x (List.mem_of_mem_take hx)
theorem qhV {s:Str} (h:s.all yl=true) (k:Nat):(s.drop k).all yl=true:=Yp.2 fun x hx=>Yp.1 h x (List.mem_of_mem_drop hx)
theorem qkt {N:Nat} (hN:100<N): ∀(K:Nat) (l:List Int) (s:Str),s.all yl=true->l.length+s.length<=90000->s.length<K->Dg E9 l->
 ∃d s',yx N K l s=some (d,s')/\s'.length<=9/\s'.all yl=true/\Dg E9 d/\d.length<=90000/\dv E9 d+E9^d.length*(kg 0 s':Nat)=dv E9 l+E9^l.length*(kg 0 s:Nat)
 |0,l,s,_,_,h,_=>by omega
 |K+1,l,s,hd,hl,h,hg=>by
  rw[yx]
  by_cases c:s.length>9
  ·have u:(s.drop (s.length-9)).length=9:=by rw[YJ];omega
   have hv:=qf6 (N:=N) hN (qhV hd (s.length-9)) (by omega)
   have j:=qe3 _ 0 (qhV hd (s.length-9))
   rw[u]at j
   rw[if_pos (by omega),show w64 ((s.length:Int)-9)=((s.length-9:Nat):Int)by rw[ql (by omega) (by omega)];omega,xV (by omega),ZB,hv,ZB,qaz (by simp;omega) (by simp;omega),ZB,xw (by omega),ZB]
   obtain⟨d,s',f1,f2,f3,f4,f5,f6⟩:=qkt hN K (l++[((kg 0 (s.drop (s.length-9)):Nat):Int)]) (s.take (s.length-9)) (qhw hd _) (by simp;omega) (by rw[Ym];omega) (hg.append (Dg.cons ⟨by omega,show((kg 0 (s.drop (s.length-9)):Nat):Int)<1000000000 by omega⟩ Dg.nil))
   refine⟨d,s',f1,f2,f3,f4,f5,?_⟩
   rw[f6,qe5,Yq,List.length_singleton,Int.pow_succ,Int.mul_assoc]
   have e:kg 0 s=kg 0 (s.take (s.length-9))*1000000000+kg 0 (s.drop (s.length-9)):=by
    have:=qeh (s.take (s.length-9)) (s.drop (s.length-9))
    rw[YS,u]at this
    exact this
   have e2:((kg 0 s:Nat):Int)=((kg 0 (s.drop (s.length-9)):Nat):Int)+E9*((kg 0 (s.take (s.length-9)):Nat):Int):=by
    have h4:E9*((kg 0 (s.take (s.length-9)):Nat):Int)=1000000000*((kg 0 (s.take (s.length-9)):Nat):Int):=rfl
    omega
   rw[e2,Int.mul_add]
   omega
  rw[if_neg (by omega)]
  exact⟨l,s,rfl,by omega,hd,hg,by omega,rfl⟩
def sgn (s:Str):Bool:=decide (s[0]? =some 45)
def bdy (s:Str):Str:=if sgn s=true then s.drop 1 else s
theorem qfW (s:Str):(if(s.length:Int)>0 then(idx s 0).bind fun c=>some (decide ((c.toNat:Int)=45))else some false:Option Bool)=some (sgn s):=by
 unfold sgn
 cases s with
 |nil=>rfl
 |cons c t=>
  rw[if_pos (by simp),yh]
  have e:((c.toNat:Int)=45)↔(some c=some (45:UInt8)):=⟨fun h=>congrArg some (UInt8.toNat_inj.1 (show c.toNat=45 by omega)),fun h=>by rw[Ye h];rfl⟩
  simp only[Yj,ZB]
  congr 1
  exact decide_eq_decide.2 e
theorem qlO (s:Str):(if sgn s=true then(cut s 1 (s.length:Int)).bind fun x=>some x else some s:Option Str)=some (bdy s):=by
 unfold bdy
 cases h:sgn s with
 |false=>rw[if_neg (by simp),if_neg (by simp)]
 |true=>
  have d:1<=s.length:=by
   cases s with
   |nil=>simp[sgn]at h
   |cons=>simp
  have:=xV d
  have e:cut s 1 (s.length:Int)=some (s.drop 1):=this
  rw[if_pos rfl,if_pos rfl,e,ZB]
def qkb (s:Str):Int:=if sgn s=true then-((kg 0 (bdy s):Nat):Int)else((kg 0 (bdy s):Nat):Int)
theorem qhs {N:Nat} (hN:100000<N) {s:Str} (hd:(bdy s).all yl=true) (hl:(bdy s).length<=80000):qaD N s=some (rI (qkb s)):=by
 unfold qaD
 rw[qfW,ZB,qlO,ZB]
 obtain⟨l,t,f1,u,d,f4,f5,j⟩:=qkt (N:=N) (by omega) N [] (bdy s) hd (by simp;omega) (by omega) Dg.nil
 have hv:=qf6 (N:=N) (by omega) d (by omega)
 have h:=qe3 _ 0 d
 have hp:(10:Nat)^t.length<=10^9:=Nat.pow_le_pow_right (by omega) u
 rw[f1,ZB]
 simp only
 have hg:=f4.append (r:=[((kg 0 t:Nat):Int)]) (Dg.cons ⟨by omega,show((kg 0 t:Nat):Int)<1000000000 by omega⟩ Dg.nil)
 rw[hv,ZB,qaz (by simp;omega) (by simp;omega),ZB,qaH _ hg (by simp;omega) (by simp;omega),ZB,qe5,j]
 simp only[zu,List.length_nil,Int.pow_zero,Int.one_mul,Int.zero_add]
 rfl
theorem qfT (z:Int):sgn (Lib.itoa z)=decide (z<0):=by
 unfold sgn
 by_cases h:z<0
 ·rw[yj h,decide_eq_true h];rfl
 rw[zY h,decide_eq_false h]
 refine decide_eq_false fun e=>?_
 have d:(45:UInt8)∈Lib.decDigits z.natAbs:=Yn e
 have:=Yp.1 (qb4 z.natAbs) _ d
 exact absurd this (by decide)
theorem qbW (z:Int):bdy (Lib.itoa z)=Lib.decDigits z.natAbs:=by
 unfold bdy
 rw[qfT]
 by_cases h:z<0
 ·rw[decide_eq_true h,if_pos rfl,yj h];rfl
 rw[decide_eq_false h,if_neg (by simp),zY h]
theorem qcl (z:Int):qkb (Lib.itoa z)=z:=by
 unfold qkb
 rw[qfT,qbW,qeF]
 by_cases h:z<0
 ·rw[decide_eq_true h,if_pos rfl];omega
 rw[decide_eq_false h,if_neg (by simp)];omega
def slA:Str->Nat
 |[]=>0
 |c::s=>if c=47 then 0 else slA s+1
theorem qgC: ∀s:Str,slA s<=s.length
 |[]=>Nat.le_refl _
 |c::s=>by
  rw[slA,Yr]
  have:=qgC s
  split<;>omega
theorem qk1 {s:Str} (j:s.length<=1000000): ∀(K i:Nat),i<=s.length->s.length<K+i->vD s K (i:Int)=some (if i+slA (s.drop i)<s.length then .inr ((i+slA (s.drop i):Nat):Int)else .inl ())
 |0,i,h,hK=>by omega
 |K+1,i,h,hK=>by
  rw[vD]
  by_cases hi:i<s.length
  ·have d:s.drop i=s[i]::s.drop (i+1):=YG hi
   rw[if_pos (by omega),qx,Ya hi,ZB,d,slA]
   by_cases c:s[i]=47
   ·rw[if_pos c,if_pos (by rw[c];rfl),Nat.add_zero,if_pos hi]
   rw[if_neg c,if_neg (fun e=>c (UInt8.toNat_inj.1 (show s[i].toNat=47 by omega))),zJ (by omega),qk1 j K (i+1) (by omega) (by omega),show i+1+slA (s.drop (i+1))=i+(slA (s.drop (i+1))+1)by omega]
  rw[if_neg (by omega),List.drop_of_length_le (by omega),if_neg (by omega)]
theorem qev {N:Nat} {s:Str} (d:s.length<=1000000) (hN:s.length<N):yH N s=some (slA s:Int):=by
 have e:=qk1 d N 0 (by omega) (by omega)
 have e:vD s N 0=_:=e
 have h:=qgC s
 unfold yH
 rw[e,YR,Nat.zero_add]
 by_cases c:slA s<s.length
 ·rw[if_pos c];rfl
 rw[if_neg c]
 have:slA s=s.length:=by omega
 rw[this]
 rfl
theorem qj3: ∀(s t:Str),(∀c∈s,c≠47)->slA (s++47::t)=s.length/\slA s=s.length
 |[],t,_=>⟨by simp[slA],rfl⟩
 |c::s,t,h=>by
  have d:=qj3 s t fun x hx=>h x (List.mem_cons_of_mem _ hx)
  rw[List.cons_append,slA,slA,if_neg (h c (List.mem_cons_self ..)),if_neg (h c (List.mem_cons_self ..)),d.1,d.2]
  exact⟨rfl,rfl⟩
end Go.Av
end
section
namespace Go.Av
theorem and1 {n:Nat} (h:n<4611686018427387904):qC .i64 (n:Int) 1=((n%2:Nat):Int):=by
 show IntKind.wrap .i64 _=_
 have e:(BitVec.ofInt IntKind.i64.bits (n:Int)&&&BitVec.ofInt IntKind.i64.bits 1).toNat=n%2:=by
  rw[BitVec.toNat_and]
  show(BitVec.ofInt 64 (n:Int)).toNat&&&(BitVec.ofInt 64 1).toNat=_
  rw[qch (by omega) (by omega),qch (by omega) (by omega)]
  exact Nat.and_one_is_mod n
 rw[e]
 show w64 _=_
 exact ql (by omega) (by omega)
theorem shr1 (n:Nat):qA .i64 (n:Int) 1=((n/2:Nat):Int):=by
 show(n:Int).fdiv 2=_
 rw[Int.fdiv_eq_ediv_of_nonneg _ (by decide)]
 omega
theorem qnR {N:Nat} (hN:11000<N): ∀(K n:Nat) (b d:qp) (x y:Int) (mb ma:Nat),n<100000->n<K->IsZ b x->IsZ d y->Fit x mb->Fit y ma->ma+mb*n<=3900->
 ∃r,vz N K b.s b.w d.s d.w (n:Int)=some (r.s,r.w)/\IsZ r (y*x^n)
 |0,n,_,_,_,_,_,_,_,h,_,_,_,_,_=>by omega
 |K+1,n,b,d,x,y,mb,ma,hn,hK,hb,hacc,fx,fy,hm=>by
  rw[vz]
  by_cases h0:n=0
  ·subst h0
   rw[if_neg (by omega)]
   exact⟨d,rfl,by simpa using hacc⟩
  have hmb:mb<=mb*n:=Nat.le_mul_of_pos_right _ (by omega)
  obtain⟨m,r,hr,hmr⟩: ∃m r,r<2/\n=2*m+r:=⟨n/2,n%2,by omega,by omega⟩
  have emb:mb*n=mb*m+mb*m+mb*r:=by rw[hmr,Nat.mul_add,<-Nat.mul_assoc,Nat.mul_comm mb 2,Nat.two_mul,Nat.add_mul]
  have S1: ∃(j:qp) (m2:Nat),(if(qC .i64 (n:Int) 1)=1 then(qP N (⟨d.s,d.w⟩:qp) (⟨b.s,b.w⟩:qp)).bind fun r20=>some (r20.s,r20.w)else some (d.s,d.w):Option (Int×(List Int)))=some (j.s,j.w)/\IsZ j (y*x^r)/\Fit (y*x^r) m2/\m2=ma+mb*r:=by
   rw[and1 (by omega),show n%2=r by omega]
   rcases(show r=0\/r=1 by omega)with e|e<;>subst e
   ·rw[if_neg (by simp)]
    exact⟨d,ma,rfl,by simpa using hacc,by simpa using fy,by simp⟩
   obtain⟨p,e1,h1⟩:=qdf hN hacc hb (fy.mono (by omega)) (fx.mono (by omega))
   have e1:qP N (⟨d.s,d.w⟩:qp) (⟨b.s,b.w⟩:qp)=some p:=e1
   rw[if_pos (by simp),e1,ZB]
   exact⟨p,ma+mb,rfl,by rw[Int.pow_one];exact h1,by rw[Int.pow_one];exact qca fy fx,by simp⟩
  obtain⟨j,m2,e1,h1,f1,em2⟩:=S1
  have S2: ∃(u:qp) (x2:Int) (m3:Nat),(if(n:Int)>1 then(qP N (⟨b.s,b.w⟩:qp) (⟨b.s,b.w⟩:qp)).bind fun r22=>some (r22.s,r22.w,j.s,j.w)else some (b.s,b.w,j.s,j.w):Option (Int×(List Int)×Int×(List Int)))=some (u.s,u.w,j.s,j.w)/\IsZ u x2/\Fit x2 m3/\m3*m=mb*m+mb*m/\x2^m=(x*x)^m:=by
   by_cases c:(n:Int)>1
   ·have hm1:1<=m:=by omega
    have h3:mb<=mb*m:=Nat.le_mul_of_pos_right _ hm1
    obtain⟨p,e2,h2⟩:=qdf hN hb hb (fx.mono (by omega)) (fx.mono (by omega))
    have e2:qP N (⟨b.s,b.w⟩:qp) (⟨b.s,b.w⟩:qp)=some p:=e2
    rw[if_pos c,e2,ZB]
    exact⟨p,x*x,mb+mb,rfl,h2,qca fx fx,Nat.add_mul _ _ _,rfl⟩
   have hm0:m=0:=by omega
   subst hm0
   rw[if_neg c]
   exact⟨b,x,mb,rfl,hb,fx,by simp,by simp⟩
  obtain⟨u,x2,m3,e2,h2,f2,em3,ex⟩:=S2
  have S:((if(qC .i64 (n:Int) 1)=1 then(qP N (⟨d.s,d.w⟩:qp) (⟨b.s,b.w⟩:qp)).bind fun r20=>some (r20.s,r20.w)else some (d.s,d.w):Option (Int×(List Int)))).bind (fun(n16,l17)=>
   if(n:Int)>1 then(qP N (⟨b.s,b.w⟩:qp) (⟨b.s,b.w⟩:qp)).bind fun r22=>some (r22.s,r22.w,n16,l17)else some (b.s,b.w,n16,l17))=some (u.s,u.w,j.s,j.w):=by
   rw[e1,ZB]
   exact e2
  obtain⟨r',e3,h3⟩:=qnR hN K m u j x2 (y*x^r) m3 m2 (by omega) (by omega) h2 h1 f2 f1 (by omega)
  rw[if_pos (by omega),S,ZB]
  simp only
  rw[shr1,show n/2=m by omega]
  refine⟨r',e3,?_⟩
  have hx2:x*x=x^2:=by rw[Int.pow_succ,Int.pow_succ,Int.pow_zero,Int.one_mul]
  rw[ex,Int.mul_assoc,hx2,<-Int.pow_mul,<-Int.pow_add,show r+2*m=n by omega]at h3
  exact h3
theorem qqQ {N:Nat} (hN:110000<N) {b:qp} {x:Int} {n mb:Nat} (hn:n<100000) (d:IsZ b x) (u:Fit x mb) (j:1+mb*n<=3900): ∃r,qbR N b (n:Int)=some r/\IsZ r (x^n):=by
 obtain⟨r,e,h⟩:=qnR (N:=N) (by omega) N n b ⟨1,[]⟩ x 1 mb 1 hn (by omega) d (Ue (by decide) (by decide)) u (F1 (by omega)) j
 have e:vz N N b.s b.w 1 [] (n:Int)=some (r.s,r.w):=e
 unfold qbR
 rw[qi3,ZB]
 simp only
 rw[e,ZB]
 exact⟨r,rfl,by rw[Int.one_mul]at h;exact h⟩
theorem qf3 {z:Int} {p n:Nat} (h:(z.natAbs:Int)<((10^p:Nat):Int)) (hp:p<=19*n):Fit z n:=by
 have d:(10:Nat)^p<=10^(19*n):=Nat.pow_le_pow_right (by omega) hp
 have j:((10^(19*n):Nat):Int)<=W^n:=by
  rw[Nat.pow_mul]
  have:=(qeu (x:=10000000000000000000) (y:=W) (by decide) (by decide) n).2
  rw[Int.natCast_pow]
  exact this
 unfold Fit
 omega
theorem qcF (s:Str):strings_HasPrefix s [45]=some (sgn s):=by
 unfold strings_HasPrefix stringslite_HasPrefix sgn
 cases s with
 |nil=>rfl
 |cons c t=>
  rw[if_pos (by simp;omega)]
  have e:cut (c::t) 0 (([45]:Str).length:Int)=some [c]:=xw (l:=c::t) (k:=1) (by simp)
  rw[e]
  simp only[ZB,Yj]
  congr 1
  rw[Bool.eq_iff_iff,beq_iff_eq,decide_eq_true_eq]
  constructor
  ·intro h;injection h with h;rw[h]
  intro h;rw[Ye h]
theorem qjS {s:Str} (h:sgn s=true):1<=s.length:=by
 cases s with
 |nil=>simp[sgn]at h
 |cons=>simp
theorem qfq (s:Str):strings_TrimPrefix s [45]=some (bdy s):=by
 unfold strings_TrimPrefix stringslite_TrimPrefix
 have e:stringslite_HasPrefix s [45]=some (sgn s):=by
  have:=qcF s
  unfold strings_HasPrefix at this
  cases h:stringslite_HasPrefix s [45]with
  |none=>rw[h]at this;cases this
  |some b=>rw[h]at this;exact this
 rw[e,ZB]
 unfold bdy
 cases h:sgn s with
 |false=>rw[if_neg (by simp),if_neg (by simp),ZB]
 |true=>
  have d:cut s (([45]:Str).length:Int) (s.length:Int)=some (s.drop 1):=xV (qjS h)
  rw[if_pos rfl,if_pos rfl,d,ZB,ZB]
theorem qj8 (s:Str):strings_CutPrefix s [45]=some (bdy s,sgn s):=by
 unfold strings_CutPrefix stringslite_CutPrefix
 have e:stringslite_HasPrefix s [45]=some (sgn s):=by
  have:=qcF s
  unfold strings_HasPrefix at this
  cases h:stringslite_HasPrefix s [45]with
  |none=>rw[h]at this;cases this
  |some b=>rw[h]at this;exact this
 rw[e,ZB]
 unfold bdy
 cases h:sgn s with
 |false=>rw[if_pos (by simp),if_neg (by simp),ZB]
 |true=>
  have d:cut s (([45]:Str).length:Int) (s.length:Int)=some (s.drop 1):=xV (qjS h)
  rw[if_neg (by simp),if_pos rfl,d,ZB,ZB]
theorem qmC {N:Nat} (hN:600000<N): ∀(K:Nat) (x:qp) (y:Int) (s:Str) (p:Nat),IsZ x y->0<=y->y<((10^p:Nat):Int)->p+s.length<=19000->s.all yl=true->s.length<K->
 ∃r,xy N K x.s x.w s=some (r.s,r.w)/\IsZ r (y*((10^s.length:Nat):Int)+(kg 0 s:Nat))
 |0,_,_,_,_,_,_,_,_,_,h=>by omega
 |K+1,x,y,s,p,hx,y0,y1,hp,hd,hK=>by
  rw[xy]
  by_cases h0:s.length=0
  ·rw[if_neg (by omega)]
   have:s=[]:=YL.1 h0
   subst this
   exact⟨x,rfl,by simpa[qcz]using hx⟩
  rw[if_pos (by omega)]
  obtain⟨g,hg,hg0,hgl,hg18⟩: ∃g:Nat,(if(s.length:Int)<18 then(s.length:Int)else 18)=(g:Int)/\0<g/\g<=s.length/\g<=18:=by
   by_cases c:(s.length:Int)<18
   ·exact⟨s.length,by rw[if_pos c],by omega,by omega,by omega⟩
   exact⟨18,by rw[if_neg c];rfl,by omega,by omega,by omega⟩
  have lt:(s.take g).length=g:=by rw[Ym];omega
  have ea:=qkd (s:=s.take g) (by omega) (qhw hd g)
  have et:qk9 (s.take g)=some (((kg 0 (s.take g):Nat):Int),()):=by
   unfold qk9
   rw[if_pos (by omega),ea]
   rfl
  have hv:=qe3 (s.take g) 0 (qhw hd g)
  rw[lt]at hv
  have a1:(10:Nat)^g<=10^18:=Nat.pow_le_pow_right (by omega) hg18
  have h18:(10:Nat)^18=1000000000000000000:=rfl
  rw[hg,xw hgl,ZB,et,ZB,qi3,ZB]
  obtain⟨r1,e1,h1⟩:=qqQ (N:=N) (by omega) (b:=⟨10,[]⟩) (x:=10) (n:=g) (mb:=1) (by omega) (Ue (by decide) (by decide)) (qf3 (p:=2) (by decide) (by omega)) (by omega)
  have ep:(10:Int)^g=((10^g:Nat):Int):=by rw[Int.natCast_pow];rfl
  rw[ep]at h1
  have fg:Fit ((10^g:Nat):Int) 1000:=qf3 (p:=19) (by
   rw[Int.natAbs_natCast]
   have d:(10:Nat)^19=10000000000000000000:=rfl
   omega) (by omega)
  have fy:Fit y 1000:=qf3 (p:=p) (by omega) (by omega)
  have a2:0<10^g:=Nat.pow_pos (by decide)
  have yg0:0<=y*((10^g:Nat):Int):=Yv y0 (by omega)
  have a0:(y+1)*((10^g:Nat):Int)<=((10^(p+g):Nat):Int):=by
   rw[Nat.pow_add,Int.natCast_mul]
   exact Int.mul_le_mul_of_nonneg_right (by omega) (by omega)
  rw[Int.add_mul,Int.one_mul]at a0
  obtain⟨r2,u,h2⟩:=qdf (N:=N) (by omega) hx h1 (fy.mono (by omega)) (fg.mono (by omega))
  have u:qP N (⟨x.s,x.w⟩:qp) r1=some r2:=u
  have j:IsZ ⟨((kg 0 (s.take g):Nat):Int),[]⟩ ((kg 0 (s.take g):Nat):Int):=Ue (by omega) (by omega)
  obtain⟨r3,e3,h3⟩:=qhL (N:=N) (by omega) h2 j (qf3 (p:=p+g) (by omega) (by omega)) (qf3 (p:=19) (by
   rw[Int.natAbs_natCast]
   have d:(10:Nat)^19=10000000000000000000:=rfl
   omega) (by omega))
  rw[e1,ZB,u,ZB,qi3,ZB,e3,ZB,xV hgl,ZB]
  have ld:(s.drop g).length=s.length-g:=by rw[YJ]
  obtain⟨r,e4,h4⟩:=qmC hN K r3 _ (s.drop g) (p+g) h3 (by omega) (by omega) (by omega) (qhV hd g) (by omega)
  refine⟨r,e4,?_⟩
  have e5:=qeh (s.take g) (s.drop g)
  rw[YS]at e5
  have e6:(10:Nat)^s.length=10^g*10^(s.drop g).length:=by rw[<-Nat.pow_add,ld];congr 1;omega
  rw[e5,e6]
  rw[Int.add_mul]at h4
  rw[Int.natCast_mul,Int.natCast_add,Int.natCast_mul,<-Int.mul_assoc,<-Int.add_assoc]
  exact h4
theorem qha {N:Nat} (hN:600000<N) {s:Str} (hd:(bdy s).all yl=true) (hl:(bdy s).length<=19000): ∃r,qbg N s=some r/\IsZ r (qkb s):=by
 obtain⟨r,e,h⟩:=qmC hN N ⟨0,[]⟩ 0 (bdy s) 0 (Ue (by decide) (by decide)) (by omega) (by decide) (by omega) hd (by omega)
 have e:xy N N 0 [] (bdy s)=some (r.s,r.w):=e
 rw[Int.zero_mul,Int.zero_add]at h
 unfold qbg
 rw[qcF,ZB,qfq,ZB,e,ZB]
 unfold qkb
 cases hs:sgn s with
 |false=>
  rw[if_neg (by simp)]
  exact⟨r,rfl,by simpa using h⟩
 |true=>
  obtain⟨j,d,u⟩:=qgp h
  have d:zO (⟨r.s,r.w⟩:qp)=some j:=d
  simp only[if_true]
  rw[d]
  exact⟨j,rfl,u⟩
end Go.Av
end
section
namespace Go.Av
theorem qmg: ∀n:Nat,Lib.repeatL [48] n=List.replicate n 48
 |0=>rfl
 |n+1=>by rw[Lib.repeatL,qmg,List.replicate_succ];rfl
theorem qiZ: ∀k:Nat,qef k 0=List.replicate k 48
 |0=>rfl
 |k+1=>by
  rw[qef,Nat.zero_div,qiZ k,List.replicate_succ']
  rfl
theorem qkR: ∀(k n:Nat),n<10^(k+1)->qef (k+1) n=List.replicate (k+1-(Lib.decDigits n).length) 48++Lib.decDigits n
 |0,n,h=>by
  have h:n<10:=by simpa using h
  rw[yA h,qef,qef,Nat.mod_eq_of_lt h]
  rfl
 |k+1,n,h=>by
  rw[qef]
  by_cases c:n<10
  ·rw[yA c,Nat.div_eq_of_lt c,qiZ,Nat.mod_eq_of_lt c]
   rfl
  rw[Nat.pow_succ]at h
  rw[qkR k (n/10) (by omega),qgr c,Yz,Yq,List.length_singleton,show k+1+1-((Lib.decDigits (n/10)).length+1)=k+1-(Lib.decDigits (n/10)).length by omega]
theorem qgy (n:Nat):Lib.itoa (n:Int)=Lib.decDigits n:=by rw[zY (by omega),Int.natAbs_natCast]
theorem qpu {r:Nat} (h:r<1000000000000000000) (c: ¬r=0):dg W (r:Int)=[(r:Int)]:=by
 rw[qjy (by omega) (by unfold W;omega)]
theorem qpw {r:Nat} (h:r<1000000000000000000):qhT (r:Int) 10=some (Lib.decDigits r):=by
 unfold qhT
 rw[if_pos ⟨by omega,by omega,rfl⟩,qgy]
theorem qot:(if((dg W ((0:Nat):Int)).length:Int)>0 then(idx (dg W ((0:Nat):Int)) 0).bind fun x13=>(qhT x13 10).bind fun r14=>some r14 else some [48]:Option Str)=some (Lib.decDigits 0):=by
 rw[show((0:Nat):Int)=0 from rfl,qdV,if_neg (by simp),yA (by decide)]
 rfl
theorem qpA {r:Nat} (h:r<1000000000000000000):(if((dg W (r:Int)).length:Int)>0 then(idx (dg W (r:Int)) 0).bind fun x13=>(qhT x13 10).bind fun r14=>some r14 else some [48]:Option Str)=some (Lib.decDigits r):=by
 by_cases c:r=0
 ·rw[c]
  exact qot
 rw[qpu h c,if_pos (show((([(r:Int)]:List Int).length:Nat):Int)>0 from by rw[List.length_singleton];decide),yh,Yj,ZB,qpw h]
 rfl
theorem p18:(10:Nat)^18=1000000000000000000:=rfl
theorem qqr {q r:Nat} (h:r<1000000000000000000): ∃t:Str,(if((dg W (q:Int)).length:Int)>0 then(qfb [48] (w64 (18-((Lib.decDigits r).length:Int)))).bind fun r18=>(cat r18 (Lib.decDigits r)).bind fun s19=>some s19 else some (Lib.decDigits r):Option Str)=some t/\0<t.length/\Lib.decDigits (1000000000000000000*q+r)=(if q=0 then[]else Lib.decDigits q)++t:=by
 have u:r<10^18:=by rw[p18];exact h
 have lD:(Lib.decDigits r).length<=18:=(qaq (by decide)).2 u
 have d:=qlE r
 by_cases c:q=0
 ·subst c
  rw[show((0:Nat):Int)=0 from rfl,qdV,if_neg (by simp),if_pos rfl,Nat.mul_zero,Nat.zero_add]
  exact⟨_,rfl,d,rfl⟩
 have j:dg W (q:Int)≠[]:=fun e=>by have:=(qhF W1 (by omega)).1 e;omega
 have hlen:0<(dg W (q:Int)).length:=List.length_pos_iff.2 j
 have et:qfb [48] (w64 (18-((Lib.decDigits r).length:Int)))=some (List.replicate (18-(Lib.decDigits r).length) 48):=by
  rw[ql (by omega) (by omega)]
  unfold qfb
  rw[if_pos ⟨by omega,by omega,by simp;omega⟩,qmg]
  congr 2
  omega
 have hp:=qkR 17 r u
 have hl:(qef (17+1) r).length=18:=qhR _ _
 have hs:=qhy 18 (1000000000000000000*q+r)
 rw[p18,Nat.mul_add_div (by omega),Nat.div_eq_of_lt h,Nat.add_zero,Nat.mul_add_mod,Nat.mod_eq_of_lt h]at hs
 rw[if_pos (by omega),et,ZB,qbI (by simp;omega),ZB,<-hp,if_neg c]
 exact⟨_,rfl,by omega,hs (by omega)⟩
theorem qrc {N:Nat} (hN:600000<N) (B:Nat) (hB:B<=3900) (K:Nat): ∀(k m:Nat) (l:List Str),m<10^(18*k)->k<K->k+l.length<=100000->Fit (m:Int) B->(∀t∈l,0<t.length)->
 ∃l',jy N K l (dg W (m:Int))=some l'/\(∀t∈l',0<t.length)/\l'.length<=k+l.length/\l'.reverse.flatten=(if m=0 then[]else Lib.decDigits m)++l.reverse.flatten:=by
 induction K with
 |zero=>intro k m l _ h;omega
 |succ K ih=>
  intro k m l hm hK hl fm hp
  rw[jy]
  by_cases h0:m=0
  ·subst h0
   rw[show((0:Nat):Int)=0 from rfl,qdV,if_neg (by simp),if_pos rfl]
   exact⟨l,rfl,hp,by omega,rfl⟩
  obtain⟨j,hj⟩: ∃j,k=j+1:=⟨k-1,by
   rcases Nat.eq_zero_or_pos k with e|e
   ·subst e;simp at hm;omega
   omega⟩
  rw[hj]at hm hK hl
  have d:(0:Int)<=(m:Int):=by omega
  have hne:dg W (m:Int)≠[]:=fun e=>by have:=(qhF W1 d).1 e;omega
  have hlen:0<(dg W (m:Int)).length:=List.length_pos_iff.2 hne
  have ln:(dg W (m:Int)).length<=3900:=Nat.le_trans fm.len hB
  have cB:Can W [1000000000000000000]:=by
   have:=jl W1 (show(0:Int)<=1000000000000000000 by decide)
   rw[qjy (by decide) (by decide)]at this
   exact this
  have vB:dv W [1000000000000000000]=1000000000000000000:=by rw[zG,zu,Int.mul_zero,Int.add_zero]
  have ed:=qjf (N:=N) (by omega) (jl W1 d) cB (by omega) (by rw[vB];decide)
  rw[vB,vL W1 d]at ed
  obtain⟨q,r,hq,hr⟩: ∃q r,m=1000000000000000000*q+r/\r<1000000000000000000:=⟨m/1000000000000000000,m%1000000000000000000,by omega,by omega⟩
  have eq:(m:Int)/1000000000000000000=(q:Int):=by omega
  have er:(m:Int)%1000000000000000000=(r:Int):=by omega
  rw[eq,er]at ed
  obtain⟨t,et,t0,eD⟩:=qqr (q:=q) hr
  rw[<-hq]at eD
  rw[if_pos (by omega),ed,ZB]
  simp only
  rw[qpA hr,ZB,et,ZB,qaz (by simp;omega) (by simp;omega),ZB]
  have hk:q<10^(18*j):=by
   rw[Nat.mul_succ,Nat.pow_add,p18,Nat.mul_comm]at hm
   refine Nat.lt_of_mul_lt_mul_left (a:=1000000000000000000) ?_
   omega
  obtain⟨l',f1,f2,f3,f4⟩:=ih j q (l++[t]) hk (by omega) (by simp;omega) (qcZ (by omega) fm) (fun u hu=>by
   rcases List.mem_append.1 hu with hu|hu
   ·exact hp u hu
   rw[List.mem_singleton.1 hu];exact t0)
  refine⟨l',f1,f2,by simp at f3;omega,?_⟩
  rw[f4,if_neg h0,eD,List.reverse_append,List.flatten_append,Yz]
  simp
def byN (s:Str):List Int:=s.map fun x=>(x.toNat:Int)
theorem qg8 (s:Str):(byN s).length=s.length:=by unfold byN;rw[List.length_map]
theorem qpd {l:List Str} (hp: ∀t∈l,0<t.length) (hl:l.length<=100000): ∀(K i:Nat) (o:Option (List Int)),i<=l.length->i<K->(hof o).length+(l.take i).flatten.length<=1000000000->
 ∃j,zF l K o.isSome o ((i:Int)-1)=some (j.isSome,j)/\hof j=hof o++byN (l.take i).reverse.flatten
 |0,i,o,_,h,_=>by omega
 |K+1,0,o,hi,h,hb=>by
  rw[zF,if_neg (by omega)]
  exact⟨o,rfl,by simp[byN]⟩
 |K+1,i+1,o,hi,h,hb=>by
  have d:i<l.length:=by omega
  have ei:((i+1:Nat):Int)-1=(i:Int):=by omega
  have u:l.take (i+1)=l.take i++[l[i]]:=List.take_succ_eq_append_getElem d
  have h1:=hp l[i] (List.getElem_mem d)
  rw[u,List.flatten_append,Yq]at hb
  simp only[List.flatten_cons,List.flatten_nil,YQ]at hb
  have ew:bWr o.isSome o l[i]=some (hof o++byN l[i]):=by
   unfold bWr
   rw[if_pos ⟨rfl,by omega,h1⟩]
   rfl
  rw[zF,ei,if_pos (by omega),qx,Ya d,ZB,ew,ZB,ql (by omega) (by omega)]
  obtain⟨j,f1,f2⟩:=qpd hp hl K i (some (hof o++byN l[i])) (by omega) (by omega) (by
   show(hof o++byN l[i]).length+_<=_
   rw[Yq,qg8];omega)
  refine⟨j,f1,?_⟩
  rw[f2,u,List.reverse_append,List.flatten_append]
  show hof o++byN l[i]++_=_
  rw[Yz]
  unfold byN
  simp
theorem qpo (s:Str):(byN s).map (fun n=>UInt8.ofNat n.toNat)=s:=by
 unfold byN
 rw[List.map_map]
 conv=>rhs;rw[<-List.map_id s]
 refine List.map_congr_left fun x _=>?_
 show UInt8.ofNat ((x.toNat:Int)).toNat=x
 rw[Int.toNat_natCast,UInt8.ofNat_toNat]
theorem qpS (s:Str):(byN s).all (fun n=>decide (0<=n)&&decide (n<256))=true:=by
 unfold byN
 rw[List.all_map,Yp]
 intro x _
 have:x.toNat<256:=x.toNat_lt
 simp
 omega
theorem qjL: ∀l:List Str,l.reverse.flatten.length=l.flatten.length:=fun l=>by
 rw[List.length_flatten,List.length_flatten,List.map_reverse,List.sum_reverse]
theorem qe6 {N:Nat} (hN:600000<N) {x:qp} {z:Int} (h:IsZ x z) (fz:Fit z 3900):vC N x=some (Lib.itoa z):=by
 unfold vC
 cases e:x.w.isEmpty with
 |true=>
  obtain⟨u,h2,h3⟩:=h.emp e
  rw[if_pos rfl,u]
  unfold qmB
  rw[if_pos ⟨h2,h3⟩,ZB]
 |false=>
  have hz:z.natAbs≠0:=by
   rcases h with⟨hw,_⟩|⟨_,_,u,_⟩
   ·rw[hw]at e;cases e
   omega
  obtain⟨B8,hB8⟩: ∃B8:Nat,B8=8000:=⟨_,rfl⟩
  have pw:((10^(18*B8):Nat):Int)=(1000000000000000000:Int)^B8:=by
   rw[Nat.pow_mul,Int.natCast_pow]
   rfl
  have hm:z.natAbs<10^(18*B8):=by
   have u:W^3900<=(1000000000000000000:Int)^B8:=by
    have a1:(1000000000000000000:Int)^B8=((1000000000000000000:Int)^2)^4000:=by rw[<-Int.pow_mul,hB8]
    have a2:W^4000<=((1000000000000000000:Int)^2)^4000:=(qeu (by decide) (by decide) 4000).2
    have a3:W^3900<=W^4000:=yQ (by decide) (by decide)
    rw[a1]
    exact Int.le_trans a3 a2
   rw[<-pw]at u
   unfold Fit at fz
   omega
  obtain⟨l,f1,f2,f3,j⟩:=qrc hN 3900 (Nat.le_refl _) N B8 z.natAbs [] hm (by omega) (by simp;omega) (by unfold Fit;rw[Int.natAbs_natCast];exact fz) (fun t ht=>by cases ht)
  rw[if_neg hz]at j
  simp only[List.reverse_nil,List.flatten_nil,YQ,List.length_nil,Nat.add_zero]at f3 j
  have lD:(Lib.decDigits z.natAbs).length<=18*B8:=(qaq (by omega)).2 hm
  have lf:l.flatten.length<=18*B8:=by rw[<-qjL,j];exact lD
  have lpos:=qlE z.natAbs
  rw[if_neg (by simp),parts_eq h,ZB]
  simp only
  rw[f1,ZB]
  have el:w64 ((l.length:Int)-1)=(l.length:Int)-1:=ql (by omega) (by omega)
  have d: ∀(o:Option (List Int)) (pre:Str),hof o=byN pre->pre.length<=10->((zF l N o.isSome o (w64 ((l.length:Int)-1))).bind fun(ok30,o31)=>(qnu ok30 o31).bind fun t38=>some t38)=some (pre++Lib.decDigits z.natAbs):=by
   intro o pre ho hpre
   obtain⟨o',g1,g2⟩:=qpd f2 (by omega) N l.length o (Nat.le_refl _) (by omega) (by rw[ho,qg8,List.take_of_length_le (Nat.le_refl _)];omega)
   rw[List.take_of_length_le (Nat.le_refl _),j,ho]at g2
   have g3:hof o'=byN (pre++Lib.decDigits z.natAbs):=by
    rw[g2]
    unfold byN
    rw[List.map_append]
   have hs:o'.isSome=true:=by
    cases o' with
    |none=>
     have:=congrArg List.length g3
     rw[qg8,Yq]at this
     simp at this
     omega
    |some q=>rfl
   rw[el,g1,ZB]
   simp only
   unfold qnu
   rw[if_pos ⟨hs,by rw[g3,qg8,Yq];omega,by rw[g3];exact qpS _⟩,g3,qpo,ZB]
  by_cases c:z<0
  ·have eb:bWr false (none:Option (List Int)) [45]=some [45]:=rfl
   rw[decide_eq_true c,if_pos rfl,eb,ZB,ZB]
   simp only
   have:=d (some [45]) [45] rfl (by simp)
   rw[yj c]
   exact this
  rw[decide_eq_false c,if_neg (by simp),ZB]
  simp only
  have:=d none [] rfl (by simp)
  rw[zY c]
  exact this
end Go.Av
end
section
namespace Go.Av
theorem qpB {x:qp} {z:Int} (h:IsZ x z) (fz:Fit z 3900): ∃b:Nat,qbq x=some (b:Int)/\(z.natAbs:Int)<2^b:=by
 unfold qbq
 rw[parts_eq h,ZB]
 simp only
 have hz:(0:Int)<=(z.natAbs:Int):=by omega
 have cc:=jl W1 hz
 have u:=vL W1 hz
 have ll:=fz.len
 generalize dg W (z.natAbs:Int)=w at*
 by_cases h0:w.length=0
 ·rw[if_pos (by omega)]
  rw[YL.1 h0,zu]at u
  exact⟨0,rfl,by rw[<-u];decide⟩
 have hk:w.length-1<w.length:=by omega
 have ax:=cc.1.at hk
 obtain⟨l,e,hl⟩:=qkv ax.1 ax.2
 have hl0:0<=l/\l<=64:=by
  rcases hl with⟨_,h⟩|⟨d,j,_⟩<;>omega
 have hl2:w[w.length-1]<2^l.toNat:=by
  rcases hl with⟨d,j⟩|⟨_,_,_,h⟩
  ·rw[d,j];decide
  exact h
 rw[if_neg (by omega),qjX (by omega) (by omega),qx,Ya hk,ZB,e,ZB,ql (n:=64*((w.length-1:Nat):Int)) (by omega) (by omega),ql (by omega) (by omega)]
 refine⟨64*(w.length-1)+l.toNat,by congr 1;omega,?_⟩
 have e1:=qz W w (w.length-1) hk
 rw[List.take_of_length_le (by omega),u]at e1
 have d:=yZ W0 (cc.1.take (w.length-1))
 rw[Ym,Nat.min_eq_left (by omega)]at d
 have e2:(2:Int)^(64*(w.length-1)+l.toNat)=W^(w.length-1)*2^l.toNat:=by
  rw[Int.pow_add,Int.pow_mul]
  rfl
 have j:W^(w.length-1)*(w[w.length-1]+1)<=W^(w.length-1)*2^l.toNat:=Yc (by omega) (Int.le_of_lt (pow_pos W0 _))
 rw[Int.mul_add,Int.mul_one]at j
 rw[e2]
 omega
theorem pow8: ∀n:Nat,(8:Int)^(n+1)<((10^(n+1):Nat):Int)
 |0=>by decide
 |n+1=>by
  have d:=pow8 n
  have h:=pow_pos (show(0:Int)<8 by decide) (n+1)
  rw[Int.pow_succ,Nat.pow_succ,Int.natCast_mul]
  omega
theorem qqZ (n:Nat):(2:Int)^(3*n)=(8:Int)^n:=by
 rw[Int.pow_mul]
 rfl
theorem qpC {n m:Nat} (d:m=3*(n+1)):(2:Int)^m<((10^(n+1):Nat):Int):=by
 rw[d,qqZ]
 exact pow8 n
def lng (z:Int):Bool:=decide (600<(Lib.decDigits z.natAbs).length)
theorem qmN {N:Nat} (hN:600000<N) {x:qp} {z:Int} (h:IsZ x z) (fz:Fit z 3900):qdx N x=some (lng z):=by
 obtain⟨b,e,u⟩:=qpB h fz
 unfold qdx
 rw[e,ZB]
 by_cases c:(b:Int)>1800
 ·rw[if_pos c,qe6 hN h fz,ZB,qfq,qbW,ZB,ZB]
  congr 1
  exact decide_eq_decide.2 (by omega)
 rw[if_neg c,ZB]
 congr 1
 obtain⟨m,hm⟩: ∃m:Nat,m=3*(599+1):=⟨_,rfl⟩
 have h1:(2:Int)^b<=2^m:=yQ (by decide) (by omega)
 have j:=qpC hm
 have d:z.natAbs<10^(599+1):=by omega
 have:=(qaq (n:=z.natAbs) (k:=599+1) (by decide)).2 d
 unfold lng
 rw[decide_eq_false (by omega)]
def qin (q:Rat):Bool:=lng q.num||lng q.den
theorem qku {N:Nat} (hN:600000<N) {f:qh} {q:Rat} (h:IsF f q) (d:qaO q 3900):xu N f=some (qin q):=by
 unfold xu qin
 rw[qmN hN h.1 d.1,ZB]
 cases lng q.num with
 |true=>rw[if_pos rfl,ZB,Bool.true_or]
 |false=>rw[if_neg (by simp),qmN hN h.2 d.2,ZB,ZB,Bool.false_or]
def T (q:Rat):Str:=Lib.itoa q.num++(if q.den=1 then[]else 47::Lib.decDigits q.den)
theorem Fit.itoaLen {z:Int} (h:Fit z 3900):(Lib.itoa z).length<=200001:=by
 have j:(Lib.decDigits z.natAbs).length<=20*10000:=by
  refine(qaq (by decide)).2 ?_
  obtain⟨B,hB⟩: ∃B:Nat,B=10000:=⟨_,rfl⟩
  rw[<-hB]
  have h2:W^3900<=W^B:=yQ (by decide) (by omega)
  have u:W^B<=(100000000000000000000:Int)^B:=(qeu (by decide) (by decide) B).2
  have d:((10^(20*B):Nat):Int)=(100000000000000000000:Int)^B:=by
   rw[Nat.pow_mul,Int.natCast_pow]
   rfl
  unfold Fit at h
  generalize W^3900=p at*
  omega
 by_cases c:z<0
 ·rw[yj c,Yr];omega
 rw[zY c];omega
theorem qmp {N:Nat} (hN:600000<N) {f:qh} {q:Rat} (h:IsF f q) (d:qaO q 3900):qac N f=some (T q):=by
 unfold qac T
 rw[qfD h,ZB]
 by_cases c:q.den=1
 ·rw[decide_eq_true c,if_pos rfl,qe6 hN h.1 d.1,ZB,if_pos c,YQ]
 have u:=Fit.itoaLen d.1
 have j:=Fit.itoaLen d.2
 rw[decide_eq_false c,if_neg (by simp),qe6 hN h.1 d.1,ZB,qbI (by simp;omega),ZB,qe6 hN h.2 d.2,ZB,qbI (by simp;omega),ZB,if_neg c,qgy,Yz]
 rfl
theorem qqn {α:Type} {b:Bool} {x y:α}:zV b x y=if b=true then x else y:=by cases b<;>rfl
theorem qla: ∀(s:Str) (j:Nat),qiI 47 s j=if slA s<s.length then((j+slA s:Nat):Int)else-1
 |[],j=>rfl
 |c::s,j=>by
  show zV (Nat.beq c.toNat 47) (Int.ofNat j) (qiI 47 s (j+1))=_
  rw[qqn,qla s (j+1),slA,Yr]
  by_cases h:c=47
  ·subst h
   rw[if_pos (by decide),if_pos rfl,if_pos (by omega)]
   rfl
  have d:c.toNat≠47:=fun e=>h (UInt8.toNat_inj.1 (by rw[e];rfl))
  rw[if_neg (by rw[qcR d];simp),if_neg h]
  by_cases c2:slA s<s.length
  ·rw[if_pos c2,if_pos (by omega)]
   congr 1
   omega
  rw[if_neg c2,if_neg (by omega)]
theorem qox {s:Str}:stringslite_Index s [47]=some (qiI 47 s 0):=by
 unfold stringslite_Index stringslite_IndexByte qj1
 have d: ¬(([47]:Str).length:Int)=0:=by simp
 have h:(([47]:Str).length:Int)=1:=by simp
 rw[if_neg d]
 simp only[ZB]
 by_cases hs:(([47]:Str)==s)=true
 ·have:s=[47]:=(beq_iff_eq.1 hs).symm
  subst this
  rfl
 rw[if_neg hs,if_pos h,yh,show([47]:Str)[0]? =some 47 from rfl,ZB,if_pos (by decide)]
 rfl
theorem qnL {s:Str} (d:s.length<=1000000):strings_Cut s [47]=some (if slA s<s.length then(s.take (slA s),s.drop (slA s+1),true)else(s,[],false)):=by
 have h:=qgC s
 unfold strings_Cut stringslite_Cut
 rw[qox,qla,ZB]
 by_cases c:slA s<s.length
 ·rw[if_pos c,if_pos (by omega),if_pos c,Nat.zero_add,xw h,ZB,show w64 ((slA s:Int)+(([47]:Str).length:Int))=((slA s+1:Nat):Int)from zJ (by omega),xV (by omega),ZB,ZB]
 rw[if_neg c,if_neg (by omega),if_neg c,ZB]
theorem qgi {s:Str} (d:s.length<=1000000):jX s=some (decide (Dec s)):=by
 have j:qk8 s [48,49,50,51,52,53,54,55,56,57]=some (Lib.trimS s [48,49,50,51,52,53,54,55,56,57]):=by
  unfold qk8
  rw[if_pos ⟨d,by decide,by decide⟩]
 unfold jX
 rw[j]
 simp only[ZB,qnx]
 cases s with
 |nil=>rfl
 |cons c t=>
  rw[if_pos (by rfl),yh]
  simp only[Yj,ZB]
  cases hd:(c::t).all yl with
  |false=>
   rw[if_neg (by simp),ZB,decide_eq_false fun h=>by rw[h.2.1]at hd;cases hd]
  |true=>
   rw[if_pos rfl]
   by_cases h:c=48
   ·subst h
    rw[if_neg (by decide),ZB]
    congr 1
    rw[Bool.eq_iff_iff,beq_iff_eq,decide_eq_true_eq]
    exact⟨fun e=>by rw[e];exact qmL (by decide),fun h=>h.2.2 rfl⟩
   rw[if_pos (by simp[ne48 h]),ZB,decide_eq_true (show Dec (c::t)from⟨by simp,hd,fun e=>absurd (Ye e) h⟩)]
theorem qhv {s:Str} (j:s.length<=1000000): ∀(K i:Nat),i<=s.length->s.length<K+i->jO s K (i:Int)=some (if(s.drop i).all yl=true then .inl ()else .inr false)
 |0,i,h,hK=>by omega
 |K+1,i,h,hK=>by
  rw[jO]
  by_cases hi:i<s.length
  ·have d:s.drop i=s[i]::s.drop (i+1):=YG hi
   rw[if_pos (by omega),qx,Ya hi,ZB,d,List.all_cons]
   generalize s[i]=c
   have e:(if(c.toNat:Int)<48 then some true else some (decide ((c.toNat:Int)>57)):Option Bool)=some (!yl c):=by
    by_cases h1:(c.toNat:Int)<48
    ·rw[if_pos h1]
     congr 1
     unfold yl
     rw[decide_eq_false (by omega)]
     rfl
    rw[if_neg h1]
    congr 1
    unfold yl
    rw[decide_eq_true (p:=48<=c.toNat) (by omega),Bool.true_and,<-decide_not]
    exact decide_eq_decide.2 (by omega)
   rw[e,ZB]
   cases hc:yl c with
   |true=>rw[if_neg (by simp),zJ (by omega),qhv j K (i+1) (by omega) (by omega),Bool.true_and]
   |false=>rw[if_pos (by simp),Bool.false_and,if_neg (by simp)]
  rw[if_neg (by omega),List.drop_of_length_le (by omega)]
  rfl
theorem qiA {N:Nat} {s:Str} (j:s.length<=1000000) (hN:s.length<N):jE N s=some (decide (Dec s)):=by
 have e:=qhv j N 0 (by omega) (by omega)
 have e:jO s N 0=_:=e
 have d:qbm N s=some (s.all yl):=by
  unfold qbm
  rw[e,YR]
  cases s.all yl<;>rfl
 unfold jE
 cases s with
 |nil=>rfl
 |cons c t=>
  rw[if_neg (by simp;omega)]
  by_cases h1:((c::t).length:Int)>1
  ·rw[if_pos h1,yh]
   simp only[Yj,ZB]
   by_cases h:c=48
   ·subst h
    rw[if_pos (by decide),decide_eq_false fun hD=>?_]
    have:=congrArg List.length (hD.2.2 rfl)
    rw[List.length_singleton]at this
    omega
   rw[if_neg (by simp[ne48 h]),d,ZB]
   congr 1
   rw[Bool.eq_iff_iff,decide_eq_true_eq]
   exact⟨fun hd=>⟨by simp,hd,fun e=>absurd (Ye e) h⟩,fun hD=>hD.2.1⟩
  rw[if_neg h1,ZB,if_neg (by simp),d,ZB]
  have u:t=[]:=YL.1 (by simp at h1;omega)
  subst u
  congr 1
  rw[Bool.eq_iff_iff,decide_eq_true_eq]
  exact⟨fun hd=>qmL (by simpa using hd),fun hD=>hD.2.1⟩
end Go.Av
end
section
namespace Go.Av
theorem qjz {z:Int} {p n:Nat} (h:(z.natAbs:Int)<((10^p:Nat):Int)) (hp:p<=9*n):jv z n:=by
 have d:(10:Nat)^p<=10^(9*n):=Nat.pow_le_pow_right (by omega) hp
 unfold jv
 rw[qik]
 omega
theorem qdY {N:Nat} (hN:10<N) (a b:Int):zR N [a,b]=some (if a=0 then b else a):=by
 obtain⟨K,rfl⟩: ∃K,N=K+1+1+1:=⟨N-3,by omega⟩
 unfold zR
 by_cases ha:a=0
 ·by_cases hb:b=0
  ·subst ha;subst hb
   rfl
  have d:zP [a,b] (K+1+1+1) 0=some (.inr b):=by
   rw[zP,if_pos (by simp),yh]
   simp only[Yj,ZB]
   rw[if_neg (by simp[ha]),zP,show w64 ((0:Int)+1)=1 from rfl,if_pos (by simp),idx_1]
   simp only[YK,Yj,ZB]
   rw[if_pos (by simp[hb])]
  rw[d,if_pos ha]
  rfl
 have d:zP [a,b] (K+1+1+1) 0=some (.inr a):=by
  rw[zP,if_pos (by simp),yh]
  simp only[Yj,ZB]
  rw[if_pos (by simp[ha])]
 rw[d,if_neg ha]
 rfl
def okF (s:Str):Bool:=decide (Dec ((bdy s).take (slA (bdy s)))/\ ¬(sgn s=true/\(bdy s).take (slA (bdy s))=[48]))
def qka (s:Str):Bool:=decide (slA (bdy s)<(bdy s).length/\ ¬(Dec ((bdy s).drop (slA (bdy s)+1))/\(bdy s).drop (slA (bdy s)+1)≠[48]/\(bdy s).drop (slA (bdy s)+1)≠[49]))
def chk (s:Str):Int:=
 if okF s=false\/qka s=true then 1
 else if 600<((bdy s).take (slA (bdy s))).length\/600<((bdy s).drop (slA (bdy s)+1)).length then 4
 else if slA (bdy s)<(bdy s).length/\Nat.gcd (kg 0 ((bdy s).take (slA (bdy s)))) (kg 0 ((bdy s).drop (slA (bdy s)+1)))≠1 then 1
 else 0
theorem qbM {s:Str} (h:s.all yl=true):sgn s=false/\bdy s=s:=by
 have e:sgn s=false:=decide_eq_false fun e=>by
  have d:(45:UInt8)∈s:=Yn e
  exact absurd (Yp.1 h _ d) (by decide)
 exact⟨e,by unfold bdy;rw[e];rfl⟩
theorem qdt {s:Str} (h:s.all yl=true):qkb s=(kg 0 s:Nat):=by
 obtain⟨d,j⟩:=qbM h
 unfold qkb
 rw[d,j]
 rfl
theorem qfU (s:Str):(bdy s).length<=s.length:=by
 unfold bdy
 split
 ·rw[YJ];omega
 exact Nat.le_refl _
theorem qe1 {s:Str} {k:Nat} (h:Dec s) (d:s.length<=k):((kg 0 s:Nat):Int).natAbs<10^k:=by
 have j:=qe3 s 0 h.2.1
 have u:(10:Nat)^s.length<=10^k:=Nat.pow_le_pow_right (by omega) d
 omega
theorem qfN {s:Str} (h:Dec s) (d:s≠[48]):0<kg 0 s:=by
 rcases Nat.eq_zero_or_pos (kg 0 s)with e|e
 ·have:=h.eq
  rw[e,yA (by decide)]at this
  exact absurd this d
 exact e
theorem qiS {N:Nat} (hN:600000<N) {s:Str} (hl:s.length<=10000):qbi N s=some (chk s):=by
 have hb:=qfU s
 have hk:=qgC (bdy s)
 have lt:((bdy s).take (slA (bdy s))).length=slA (bdy s):=by rw[Ym];omega
 have ld:((bdy s).drop (slA (bdy s)+1)).length=(bdy s).length-(slA (bdy s)+1):=by rw[YJ]
 unfold qbi
 rw[qj8,ZB]
 simp only
 have C:strings_Cut (bdy s) [47]=some ((bdy s).take (slA (bdy s)),(bdy s).drop (slA (bdy s)+1),decide (slA (bdy s)<(bdy s).length)):=by
  rw[qnL (by omega)]
  by_cases c:slA (bdy s)<(bdy s).length
  ·rw[if_pos c,decide_eq_true c]
  rw[if_neg c,decide_eq_false c,List.take_of_length_le (by omega),List.drop_of_length_le (by omega)]
 rw[C,ZB]
 unfold chk okF qka
 generalize hn:(bdy s).take (slA (bdy s))=n at*
 generalize hd:(bdy s).drop (slA (bdy s)+1)=d at*
 generalize slA (bdy s)=k at*
 generalize (bdy s).length=m at*
 simp only
 rw[qgi (by omega),ZB]
 have B6:(if decide (Dec n)=true then if(!sgn s)=true then some true else some (!(n==[48]))else some false:Option Bool)=some (decide (Dec n/\ ¬(sgn s=true/\n=[48]))):=by
  by_cases u:Dec n
  ·cases h2:sgn s with
   |false=>simp[u]
   |true=>
    by_cases h3:n=[48]<;>simp[u,h3]
  simp[u]
 rw[B6,ZB]
 generalize hf:decide (Dec n/\ ¬(sgn s=true/\n=[48]))=ok at*
 have B8:(if decide (k<m)=true then(if ok=true then(jX d).bind fun r12=>if r12=true then if(!(d==[48]))=true then some (!(d==[49]))else some false else some false else some false:Option Bool).bind fun b15=>some b15 else some ok:Option Bool)=some (ok&&!decide (k<m/\ ¬(Dec d/\d≠[48]/\d≠[49]))):=by
  by_cases u:k<m
  ·cases ok with
   |false=>simp[u]
   |true=>
    rw[qgi (by omega)]
    by_cases h2:Dec d
    ·by_cases h3:d=[48]
     ·simp[u,h2,h3]
     by_cases h4:d=[49]<;>simp[u,h2,h3,h4]
    simp[u,h2]
  simp[u]
 rw[B8,ZB]
 generalize hg:decide (k<m/\ ¬(Dec d/\d≠[48]/\d≠[49]))=bd at*
 have B:((zm (!(ok&&!bd)) 1).bind fun r17=>if(n.length:Int)>600 then(zm true 4).bind fun r19=>(zR N ([r17,r19]:List Int)).bind fun r20=>some (r17,r19,r20)else(zm (decide ((d.length:Int)>600)) 4).bind fun r21=>(zR N ([r17,r21]:List Int)).bind fun r22=>some (r17,r21,r22):Option (Int×Int×Int))=some (if ok=false\/bd=true then 1 else 0,if 600<n.length\/600<d.length then 4 else 0,if ok=false\/bd=true then 1 else if 600<n.length\/600<d.length then 4 else 0):=by
  have w1:zm (!(ok&&!bd)) 1=some (if ok=false\/bd=true then 1 else 0):=by
   unfold zm
   cases ok<;>cases bd<;>rfl
  rw[w1,ZB]
  by_cases c:(n.length:Int)>600
  ·rw[if_pos c,show zm true 4=some 4 from rfl,ZB,qdY (by omega),ZB,if_pos (show 600<n.length\/600<d.length from .inl (by omega))]
   by_cases c2:ok=false\/bd=true
   ·simp only[if_pos c2];rfl
   simp only[if_neg c2];rfl
  have w2:zm (decide ((d.length:Int)>600)) 4=some (if 600<n.length\/600<d.length then 4 else 0):=by
   unfold zm
   by_cases c2:(d.length:Int)>600
   ·rw[decide_eq_true c2,if_pos rfl,if_pos (.inr (by omega))]
   rw[decide_eq_false c2,if_neg (by simp),if_neg (by omega)]
  rw[if_neg c,w2,ZB,qdY (by omega),ZB]
  by_cases c2:ok=false\/bd=true
  ·simp only[if_pos c2];rfl
  simp only[if_neg c2];rfl
 rw[B,ZB]
 simp only
 by_cases c1:ok=false\/bd=true
 ·simp only[if_pos c1];rfl
 simp only[if_neg c1]
 by_cases c2:600<n.length\/600<d.length
 ·simp only[if_pos c2];rfl
 simp only[if_neg c2]
 rw[if_neg (show¬((!decide True)=true)by decide)]
 have ho:ok=true:=by cases ok<;>simp at c1⊢
 have hbd:bd=false:=by cases bd<;>simp at c1⊢
 have a0:=(of_decide_eq_true (hf.trans ho)).1
 by_cases c3:k<m
 ·have j:Dec d/\d≠[48]/\d≠[49]:=Classical.byContradiction fun hc=>of_decide_eq_false (hg.trans hbd) ⟨c3,hc⟩
  obtain⟨r1,e1,u⟩:=qha hN (s:=n) (by rw[(qbM a0.2.1).2];exact a0.2.1) (by rw[(qbM a0.2.1).2];omega)
  obtain⟨r2,e2,h2⟩:=qha hN (s:=d) (by rw[(qbM j.1.2.1).2];exact j.1.2.1) (by rw[(qbM j.1.2.1).2];omega)
  rw[qdt a0.2.1]at u
  rw[qdt j.1.2.1]at h2
  have f1:Fit ((kg 0 n:Nat):Int) 40:=qf3 (p:=600) (by have:=qe1 a0 (k:=600) (by omega);omega) (by omega)
  have f2:Fit ((kg 0 d:Nat):Int) 40:=qf3 (p:=600) (by have:=qe1 j.1 (k:=600) (by omega);omega) (by omega)
  obtain⟨g,e3,h3⟩:=qoE hN u h2 (f1.mono (by omega)) (f2.mono (by omega))
  have eg:Int.gcd ((kg 0 n:Nat):Int) ((kg 0 d:Nat):Int)=Nat.gcd (kg 0 n) (kg 0 d):=rfl
  rw[eg]at h3
  have hgp:0<Nat.gcd (kg 0 n) (kg 0 d):=Nat.gcd_pos_of_pos_right _ (qfN j.1 j.2.1)
  have fg:Fit ((Nat.gcd (kg 0 n) (kg 0 d):Nat):Int) 40:=qcZ (by
   have:=Nat.le_of_dvd (qfN j.1 j.2.1) (Nat.gcd_dvd_right (kg 0 n) (kg 0 d))
   omega) f2
  have e4:=qpb (N:=N) (by omega) h3 (Ue (z:=1) (by decide) (by decide)) (fg.mono (by omega)) (F1 (by omega))
  rw[decide_eq_true c3,if_pos rfl,e1,ZB,e2,ZB,e3,ZB,qi3,ZB,e4,ZB,ZB]
  unfold zm
  by_cases c4:Nat.gcd (kg 0 n) (kg 0 d)=1
  ·rw[if_neg (show¬((Nat.gcd (kg 0 n) (kg 0 d):Nat):Int)<1 by omega),if_pos (show((Nat.gcd (kg 0 n) (kg 0 d):Nat):Int)=1 by omega),if_neg (show¬(k<m/\Nat.gcd (kg 0 n) (kg 0 d)≠1)from fun h=>h.2 c4)]
   rfl
  have: ¬((Nat.gcd (kg 0 n) (kg 0 d):Nat):Int)<1:=by omega
  rw[if_neg this,if_neg (show¬(((Nat.gcd (kg 0 n) (kg 0 d):Nat):Int)=1)by omega),if_pos (show k<m/\Nat.gcd (kg 0 n) (kg 0 d)≠1 from⟨c3,c4⟩)]
  rfl
 rw[decide_eq_false c3,if_neg (by simp),ZB,if_neg (by omega)]
 rfl
end Go.Av
end
section
namespace Go.Av
theorem qnA:dg E9 1=[1]:=qjy (by decide) (by decide)
theorem qqJ {N:Nat} (hN:100<N):qaw N 1=some (rI 1):=by
 obtain⟨K,rfl⟩: ∃K,N=K+1+1:=⟨N-2,by omega⟩
 have h:vO (K+1+1) [] 1=some [1]:=by
  rw[vO,if_pos (by decide),if_neg (by decide),ZB,qaz (by simp) (by simp),ZB,show w64 ((1:Int).tdiv 1000000000)=0 from rfl,vO,if_neg (by decide)]
  rfl
 unfold qaw
 rw[h,ZB,decide_eq_false (by decide),qaH false (w:=[1]) (Dg.cons ⟨by decide,by decide⟩ Dg.nil) (by simp) (by simp),ZB]
 rfl
theorem qi0 {N:Nat} (hN:600000<N) {s:Str} (hl:s.length<=10000) (hk:slA s<s.length) (u:(bdy (s.take (slA s))).all yl=true) (d:(bdy (s.drop (slA s+1))).all yl=true):jI N s=some (rI (qkb (s.take (slA s))),rI (qkb (s.drop (slA s+1)))):=by
 have j:=qfU (s.take (slA s))
 have h:=qfU (s.drop (slA s+1))
 rw[Ym]at j
 rw[YJ]at h
 unfold jI
 rw[qev (by omega) (by omega),ZB,if_neg (by omega),xw (by omega),ZB,qhs (by omega) u (by omega),ZB,zJ (by omega),xV (by omega),ZB,qhs (by omega) d (by omega),ZB]
theorem qiN {N:Nat} (hN:600000<N) {s:Str} (hl:s.length<=10000):qbS N s=some (chk s):=by
 have hb:=qfU s
 have hk:=qgC (bdy s)
 have lt:((bdy s).take (slA (bdy s))).length=slA (bdy s):=by rw[Ym];omega
 have ld:((bdy s).drop (slA (bdy s)+1)).length=(bdy s).length-(slA (bdy s)+1):=by rw[YJ]
 unfold qbS
 rw[qfW,ZB,qlO,ZB,qev (by omega) (by omega),ZB,xw hk,ZB,qiA (by omega) (by omega),ZB]
 have I:Dec ((bdy s).take (slA (bdy s)))->((idx s 0).bind fun c13=>if(c13.toNat:Int)=45 then(some ((bdy s).take (slA (bdy s)))).bind fun s15=>some (s15==[48])else some false:Option Bool)=some (sgn s&&((bdy s).take (slA (bdy s))==[48])):=by
  intro hD
  have h1:=hD.1
  have hs:=qfW s
  rw[if_pos (by omega)]at hs
  rw[yh]at hs⊢
  cases e:s[0]? with
  |none=>rw[e]at hs;cases hs
  |some c=>
   rw[e,ZB]at hs
   rw[ZB,<-Ye hs]
   by_cases c2:(c.toNat:Int)=45
   ·rw[if_pos c2,decide_eq_true c2,ZB,Bool.true_and]
   rw[if_neg c2,decide_eq_false c2,Bool.false_and]
 have S16:(if(!decide (Dec ((bdy s).take (slA (bdy s)))))=true then some true else(idx s 0).bind fun c13=>if(c13.toNat:Int)=45 then(some ((bdy s).take (slA (bdy s)))).bind fun s15=>some (s15==[48])else some false:Option Bool)=some (!okF s):=by
  unfold okF
  by_cases hD:Dec ((bdy s).take (slA (bdy s)))
  ·rw[if_neg (by simp[hD]),I hD]
   congr 1
   rw[Bool.eq_iff_iff]
   simp[hD]
  rw[if_pos (by simp[hD])]
  simp[hD]
 rw[S16,ZB]
 have S26:(if(slA (bdy s):Int)<((bdy s).length:Int)then(cut (bdy s) (w64 ((slA (bdy s):Int)+1)) ((bdy s).length:Int)).bind fun s20=>(jE N s20).bind fun r21=>if(!r21)=true then some true else(cut (bdy s) (w64 ((slA (bdy s):Int)+1)) ((bdy s).length:Int)).bind fun s23=>if(s23==[48])=true then some true else(cut (bdy s) (w64 ((slA (bdy s):Int)+1)) ((bdy s).length:Int)).bind fun s25=>some (s25==[49])else some false:Option Bool)=some (qka s):=by
  unfold qka
  by_cases c:slA (bdy s)<(bdy s).length
  ·rw[if_pos (by omega),zJ (by omega),xV (by omega),ZB,qiA (by omega) (by omega),ZB]
   by_cases hD:Dec ((bdy s).drop (slA (bdy s)+1))
   ·rw[if_neg (by simp[hD]),ZB]
    by_cases h3:(bdy s).drop (slA (bdy s)+1)=[48]
    ·rw[if_pos (by simp[h3])]
     simp[c,h3]
    rw[if_neg (by simp[h3]),ZB]
    congr 1
    rw[Bool.eq_iff_iff]
    simp[c,h3,hD]
   rw[if_pos (by simp[hD])]
   simp[c,hD]
  rw[if_neg (by omega)]
  simp[c]
 have S30:(if(slA (bdy s):Int)>600 then some true else some (decide ((w64 ((w64 (((bdy s).length:Int)-(slA (bdy s):Int)))-1))>600)):Option Bool)=some (decide (600<((bdy s).take (slA (bdy s))).length\/600<((bdy s).drop (slA (bdy s)+1)).length)):=by
  rw[lt,ld]
  by_cases c:(slA (bdy s):Int)>600
  ·rw[if_pos c,decide_eq_true (.inl (by omega))]
  rw[if_neg c,ql (n:=((bdy s).length:Int)-(slA (bdy s):Int)) (by omega) (by omega),ql (by omega) (by omega)]
  congr 1
  exact decide_eq_decide.2 (by omega)
 unfold chk
 by_cases h1:okF s=true
 ·rw[h1,if_neg (by simp),S26,ZB]
  by_cases h2:qka s=true
  ·rw[h2,if_pos rfl,if_pos (.inr rfl)]
  have a0:qka s=false:=by simpa using h2
  rw[a0,if_neg (by simp),S30,ZB,if_neg (show¬(true=false\/false=true)by simp)]
  by_cases h3:600<((bdy s).take (slA (bdy s))).length\/600<((bdy s).drop (slA (bdy s)+1)).length
  ·rw[decide_eq_true h3,if_pos rfl,if_pos h3]
  rw[decide_eq_false h3,if_neg (by simp),if_neg h3]
  by_cases c:slA (bdy s)<(bdy s).length
  ·have u:=(of_decide_eq_true h1).1
   have j:Dec ((bdy s).drop (slA (bdy s)+1))/\(bdy s).drop (slA (bdy s)+1)≠[48]/\(bdy s).drop (slA (bdy s)+1)≠[49]:=Classical.byContradiction fun hc=>of_decide_eq_false a0 ⟨c,hc⟩
   have ep:=qi0 hN (s:=bdy s) (by omega) c (by rw[(qbM u.2.1).2];exact u.2.1) (by rw[(qbM j.1.2.1).2];exact j.1.2.1)
   rw[qdt u.2.1,qdt j.1.2.1]at ep
   rw[if_pos (by omega),ep,ZB]
   simp only
   have v1:=qe1 u (k:=600) (by omega)
   have v2:=qe1 j.1 (k:=600) (by omega)
   have v3:=qfN j.1 j.2.1
   generalize kg 0 ((bdy s).take (slA (bdy s)))=n at*
   generalize kg 0 ((bdy s).drop (slA (bdy s)+1))=d at*
   have f1:jv ((n:Nat):Int) 8000:=(qjz (p:=600) (n:=70) (by omega) (by omega)).mono (by omega)
   have f2:jv ((d:Nat):Int) 8000:=(qjz (p:=600) (n:=70) (by omega) (by omega)).mono (by omega)
   have e1:(rI ((n:Nat):Int)).w=dg E9 ((n:Nat):Int):=by
    show dg E9 (((n:Nat):Int).natAbs:Int)=_
    rw[Int.natAbs_natCast]
   have e2:(rI ((d:Nat):Int)).w=dg E9 ((d:Nat):Int):=by
    show dg E9 (((d:Nat):Int).natAbs:Int)=_
    rw[Int.natAbs_natCast]
   have ec:=qja (N:=N) hN (a:=((n:Nat):Int)) (b:=((d:Nat):Int)) (by omega) (by omega) f1 f2
   have eg:Int.gcd ((n:Nat):Int) ((d:Nat):Int)=Nat.gcd n d:=rfl
   rw[eg]at ec
   rw[e1,e2,ec,ZB]
   have hg:0<Nat.gcd n d:=Nat.gcd_pos_of_pos_right _ v3
   have cc:=jl E1 (show(0:Int)<=((Nat.gcd n d:Nat):Int)by omega)
   have vv:=vL E1 (show(0:Int)<=((Nat.gcd n d:Nat):Int)by omega)
   by_cases h4:Nat.gcd n d=1
   ·have:dg E9 ((Nat.gcd n d:Nat):Int)=[1]:=by rw[show((Nat.gcd n d:Nat):Int)=1 by omega];exact qnA
    rw[this,if_neg (by simp),yh,if_neg (fun h=>h.2 h4)]
    rfl
   rw[if_pos (show slA (bdy s)<(bdy s).length/\Nat.gcd n d≠1 from⟨c,h4⟩)]
   by_cases h5:(dg E9 ((Nat.gcd n d:Nat):Int)).length=1
   ·obtain⟨x,hx⟩:=List.length_eq_one_iff.1 h5
    rw[hx,zG,zu,Int.mul_zero,Int.add_zero]at vv
    have hx1:x≠1:=by omega
    rw[hx,if_neg (by simp),yh]
    simp only[Yj,ZB,decide_eq_false hx1]
    rfl
   rw[if_pos (by simp;omega)]
   rfl
  rw[if_neg (by omega),if_neg (by omega)]
  rfl
 have h1':okF s=false:=by simpa using h1
 rw[h1',if_pos (by simp),if_pos (.inl rfl)]
end Go.Av
end
section
namespace Go.Av
def tl (q:Rat):Str:=if q.den=1 then[]else 47::Lib.decDigits q.den
theorem qnh (q:Rat):T q=Lib.itoa q.num++tl q:=rfl
theorem no47 {s:Str} (h:s.all yl=true): ∀c∈s,c≠47:=fun c hc e=>by
 have:=Yp.1 h c hc
 rw[e]at this
 exact absurd this (by decide)
theorem qkQ: ∀{s:Str},(∀c∈s,c≠47)->slA s=s.length:=fun {s} h=>(qj3 s [] h).2
theorem qjl {s:Str} (h: ∀c∈s,c≠47) (q:Rat):slA (s++tl q)=s.length:=by
 unfold tl
 by_cases c:q.den=1
 ·rw[if_pos c,YQ]
  exact qkQ h
 rw[if_neg c]
 exact(qj3 s _ h).1
theorem qe0 (z:Int): ∀c∈Lib.itoa z,c≠47:=by
 by_cases h:z<0
 ·rw[yj h]
  intro c hc
  rcases List.mem_cons.1 hc with e|e
  ·rw[e];decide
  exact no47 (qb4 _) c e
 rw[zY h]
 exact no47 (qb4 _)
theorem qqb {s t:Str} (h:0<s.length):sgn (s++t)=sgn s:=by
 unfold sgn
 rw[Yf h]
theorem qk5 (z:Int):0<(Lib.itoa z).length:=by
 by_cases h:z<0
 ·rw[yj h];simp
 rw[zY h];exact qlE _
theorem qmj (q:Rat):sgn (T q)=decide (q.num<0):=by rw[qnh,qqb (qk5 _),qfT]
theorem qqu (q:Rat):bdy (T q)=Lib.decDigits q.num.natAbs++tl q:=by
 unfold bdy
 rw[qmj,qnh]
 by_cases h:q.num<0
 ·rw[decide_eq_true h,if_pos rfl,yj h]
  rfl
 rw[decide_eq_false h,if_neg (by simp),zY h]
theorem qoT {p q:Rat} (h:T p=T q):p=q:=by
 have u:=congrArg slA h
 have e1:slA (T p)=(Lib.itoa p.num).length:=qjl (qe0 _) p
 have e2:slA (T q)=(Lib.itoa q.num).length:=qjl (qe0 _) q
 rw[e1,e2]at u
 rw[qnh,qnh]at h
 obtain⟨h2,j⟩:=List.append_inj h u
 have n1:p.num=q.num:=by rw[<-qcl p.num,h2,qcl]
 have n2:p.den=q.den:=by
  unfold tl at j
  by_cases c:p.den=1
  ·by_cases d:q.den=1
   ·rw[c,d]
   rw[if_pos c,if_neg d]at j;cases j
  by_cases d:q.den=1
  ·rw[if_neg c,if_pos d]at j;cases j
  rw[if_neg c,if_neg d]at j
  injection j with _ j
  exact qqL j
 exact Rat.ext n1 n2
theorem qmb: ∀{s:Str},slA s<s.length->s=s.take (slA s)++47::s.drop (slA s+1)
 |[],h=>by simp at h
 |c::s,h=>by
  rw[slA]at h⊢
  by_cases e:c=47
  ·rw[if_pos e,e]
   rfl
  rw[if_neg e,Yr]at h
  rw[if_neg e,List.take_succ_cons,List.drop_succ_cons,List.cons_append,<-qmb (show slA s<s.length by omega)]
theorem qp4 (s:Str):s=if sgn s=true then 45::bdy s else bdy s:=by
 unfold bdy
 cases h:sgn s with
 |false=>rw[if_neg (by simp),if_neg (by simp)]
 |true=>
  rw[if_pos rfl,if_pos rfl]
  cases s with
  |nil=>cases h
  |cons c t=>
   have e:=of_decide_eq_true h
   simp only[Yj]at e
   rw[Ye e]
   rfl
theorem qeU {s:Str} (h:chk s=0): ∃q:Rat,s=T q/\(Lib.decDigits q.num.natAbs).length<=600/\(Lib.decDigits q.den).length<=600:=by
 have hk:=qgC (bdy s)
 have lt:((bdy s).take (slA (bdy s))).length=slA (bdy s):=by rw[Ym];omega
 have hs:=qp4 s
 have hsp:=@qmb (bdy s)
 unfold chk at h
 by_cases h1:okF s=false\/qka s=true
 ·rw[if_pos h1]at h;cases h
 rw[if_neg h1]at h
 by_cases h2:600<((bdy s).take (slA (bdy s))).length\/600<((bdy s).drop (slA (bdy s)+1)).length
 ·rw[if_pos h2]at h;cases h
 rw[if_neg h2]at h
 by_cases h3:slA (bdy s)<(bdy s).length/\Nat.gcd (kg 0 ((bdy s).take (slA (bdy s)))) (kg 0 ((bdy s).drop (slA (bdy s)+1)))≠1
 ·rw[if_pos h3]at h;cases h
 have ho:okF s=true:=by cases e:okF s with|true=>rfl|false=>exact absurd (.inl e) h1
 have hb:qka s=false:=by cases e:qka s with|false=>rfl|true=>exact absurd (.inr e) h1
 obtain⟨j,hng⟩:=of_decide_eq_true ho
 have en:=j.eq
 obtain⟨z,hz1,hz2⟩: ∃z:Int,z.natAbs=kg 0 ((bdy s).take (slA (bdy s)))/\(z<0↔sgn s=true):=by
  cases e:sgn s with
  |false=>exact⟨((kg 0 ((bdy s).take (slA (bdy s))):Nat):Int),by omega,by simp⟩
  |true=>
   have:=qfN j fun c=>hng ⟨e,c⟩
   exact⟨-((kg 0 ((bdy s).take (slA (bdy s))):Nat):Int),by omega,by simp;omega⟩
 have hT: ∀t:Str,bdy s=(bdy s).take (slA (bdy s))++t->s=Lib.itoa z++t:=by
  intro t ht
  rw[hs]
  by_cases c:z<0
  ·rw[if_pos (hz2.1 c),yj c,hz1,<-en,List.cons_append,<-ht]
  rw[if_neg fun e=>c (hz2.2 e),zY c,hz1,<-en,<-ht]
 by_cases c:slA (bdy s)<(bdy s).length
 ·have d:Dec ((bdy s).drop (slA (bdy s)+1))/\(bdy s).drop (slA (bdy s)+1)≠[48]/\(bdy s).drop (slA (bdy s)+1)≠[49]:=Classical.byContradiction fun hc=>of_decide_eq_false hb ⟨c,hc⟩
  have u:=d.1.eq
  have hd0:=qfN d.1 d.2.1
  have hd1:kg 0 ((bdy s).drop (slA (bdy s)+1))≠1:=fun e=>by
   rw[e,yA (by decide)]at u
   exact d.2.2 u
  have hg:Nat.gcd z.natAbs (kg 0 ((bdy s).drop (slA (bdy s)+1)))=1:=by
   rw[hz1]
   exact Classical.byContradiction fun e=>h3 ⟨c,e⟩
  refine⟨⟨z,kg 0 ((bdy s).drop (slA (bdy s)+1)),by omega,hg⟩,?_,?_,?_⟩
  ·have:=hT _ (hsp c)
   unfold T
   rw[if_neg hd1]
   show s=Lib.itoa z++47::Lib.decDigits (kg 0 ((bdy s).drop (slA (bdy s)+1)))
   rw[<-u]
   exact this
  ·show(Lib.decDigits z.natAbs).length<=600
   rw[hz1,<-en]
   omega
  show(Lib.decDigits (kg 0 ((bdy s).drop (slA (bdy s)+1)))).length<=600
  rw[<-u]
  omega
 refine⟨(z:Rat),?_,?_,?_⟩
 ·have:=hT [] (by rw[YQ,List.take_of_length_le (by omega)])
  unfold T
  rw[Rat.den_intCast,if_pos rfl,Rat.num_intCast]
  exact this
 ·rw[Rat.num_intCast,hz1,<-en]
  omega
 rw[Rat.den_intCast,yA (by decide)]
 simp
end Go.Av
end
section
namespace Go.Av
def Sml (q:Rat) (k:Nat):Prop:=(Lib.decDigits q.num.natAbs).length<=k/\(Lib.decDigits q.den).length<=k
theorem qjD (z:Int):(Lib.itoa z).length<=(Lib.decDigits z.natAbs).length+1:=by
 by_cases h:z<0
 ·rw[yj h];simp
 rw[zY h];omega
theorem qhl (q:Rat) (h:q.den≠1):slA (T q)<(T q).length/\(T q).take (slA (T q))=Lib.itoa q.num/\(T q).drop (slA (T q)+1)=Lib.decDigits q.den:=by
 have e:slA (T q)=(Lib.itoa q.num).length:=qjl (qe0 _) q
 have d:T q=Lib.itoa q.num++47::Lib.decDigits q.den:=by unfold T;rw[if_neg h]
 rw[e,d]
 refine⟨by rw[Yq,Yr];omega,?_,?_⟩
 ·rw[List.take_append_of_le_length (Nat.le_refl _),List.take_of_length_le (Nat.le_refl _)]
 rw[List.drop_append,List.drop_of_length_le (by omega),show(Lib.itoa q.num).length+1-(Lib.itoa q.num).length=1 by omega]
 rfl
theorem qgd (q:Rat) (h:q.den=1):T q=Lib.itoa q.num/\slA (T q)=(T q).length:=by
 have d:T q=Lib.itoa q.num:=by unfold T;rw[if_pos h,YQ]
 refine⟨d,?_⟩
 rw[d]
 exact qkQ (qe0 _)
theorem qf5 {q:Rat} {k:Nat} (h:Sml q k):(T q).length<=2*k+2:=by
 have d:=qjD q.num
 have u:=h.1
 have j:=h.2
 unfold T
 rw[Yq]
 split
 ·simp;omega
 rw[Yr];omega
theorem qe2 {N:Nat} (hN:600000<N) {q:Rat} (h:Sml q 9000): ∃f,yw N (T q)=some f/\IsF f q:=by
 have hl:=qf5 h
 have h1:=h.1
 have h2:=h.2
 unfold yw
 rw[qnL (by omega),ZB]
 obtain⟨r1,e1,i1⟩:=qha hN (s:=Lib.itoa q.num) (by rw[qbW];exact qb4 _) (by rw[qbW];omega)
 rw[qcl]at i1
 by_cases c:q.den=1
 ·obtain⟨t1,t2⟩:=qgd q c
  rw[if_neg (show¬slA (T q)<(T q).length by omega)]
  obtain⟨f,u,d⟩:=qkG i1
  rw[if_pos (by rfl),t1,e1,ZB,u,ZB]
  refine⟨f,rfl,?_⟩
  have:(q.num:Rat)=q:=Rat.ext (by simp) (by simp[c])
  rw[this]at d
  exact d
 obtain⟨t1,t2,t3⟩:=qhl q c
 rw[if_pos t1]
 have j:=qb4 q.den
 obtain⟨r2,u,d⟩:=qha hN (s:=Lib.decDigits q.den) (by rw[(qbM j).2];exact j) (by rw[(qbM j).2];omega)
 rw[qdt j,qeF]at d
 rw[if_neg (by simp),t2,t3,e1,ZB,u,ZB]
 exact⟨⟨r1,r2⟩,rfl,i1,d⟩
theorem qdo {N:Nat} (hN:600000<N) {q:Rat} (h:Sml q 4000):jI N (T q)=some (rI q.num,rI (q.den:Int)):=by
 have hl:=qf5 h
 have h1:=h.1
 have h2:=h.2
 by_cases c:q.den=1
 ·obtain⟨u,d⟩:=qgd q c
  unfold jI
  rw[qev (by omega) (by omega),ZB,d,if_pos rfl,u,qhs (by omega) (by rw[qbW];exact qb4 _) (by rw[qbW];omega),ZB,qqJ (by omega),ZB,qcl,c]
  rfl
 obtain⟨u,d,t3⟩:=qhl q c
 have j:=qb4 q.den
 rw[qi0 hN (by omega) u (by rw[d,qbW];exact qb4 _) (by rw[t3,(qbM j).2];exact j),d,t3,qcl,qdt j,qeF]
end Go.Av
end
section
namespace Go.Av
theorem qm9 {n:Nat} (h:0<n):(if((dg E9 (n:Int)).length:Int)=1 then(idx (dg E9 (n:Int)) 0).bind fun x15=>some (decide (x15=1))else some false:Option Bool)=some (decide (n=1)):=by
 have u:=vL E1 (show(0:Int)<=(n:Int)by omega)
 by_cases h4:n=1
 ·rw[show(n:Int)=1 by omega,qnA,if_pos (by simp),yh,h4]
  rfl
 rw[decide_eq_false h4]
 by_cases h5:(dg E9 (n:Int)).length=1
 ·obtain⟨x,j⟩:=List.length_eq_one_iff.1 h5
  rw[j,zG,zu,Int.mul_zero,Int.add_zero]at u
  have d:x≠1:=by omega
  rw[j,if_pos (by simp),yh]
  simp only[Yj,ZB,decide_eq_false d]
 rw[if_neg (by omega)]
theorem jv.abs {z:Int} {n:Nat} (h:jv z n):jv (z.natAbs:Int) n:=by
 unfold jv at h⊢
 rw[Int.natAbs_natCast]
 exact h
theorem jv.le {a b:Int} {n:Nat} (h:(a.natAbs:Int)<=(b.natAbs:Int)) (k:jv b n):jv a n:=Int.lt_of_le_of_lt h k
theorem jv.itoaLen {z:Int} {n:Nat} (h:jv z n) (hn:0<n):(Lib.itoa z).length<=9*n+1:=by
 have d:z.natAbs<10^(9*n):=by
  have h:(z.natAbs:Int)<E9^n:=h
  rw[qik]at h
  exact Int.ofNat_lt.1 h
 have u:=(qaq (show 0<9*n by omega)).2 d
 have j:=qjD z
 omega
theorem qmM {N:Nat} (hN:60000<N) {x y:Int} (d:0<=x) (h:0<y) {B:Nat} (u:B<=8000) (j:jv x B):jL N (dg E9 x) (dg E9 y)=some (dg E9 (x/y),dg E9 (x%y)):=by
 have l:=j.len
 rw[show(x.natAbs:Int)=x by omega]at l
 rw[qd0 hN (jl E1 d) (jl E1 (by omega)) (by omega) (by rw[vL E1 (by omega)];exact h),vL E1 d,vL E1 (by omega)]
theorem den_pos (q:Rat):0<q.den:=Nat.pos_of_ne_zero q.den_nz
theorem qh5 {a b:Int} (d:b≠0):(b.sign*a).natAbs=a.natAbs:=by rw[Int.natAbs_mul,Int.natAbs_sign_of_ne_zero d,Nat.one_mul]
theorem qmW (a b:Int):Int.gcd (a.natAbs:Int) (b.natAbs:Int)=Int.gcd b a:=by
 rw[Int.gcd_comm]
 rfl
theorem qdW {N:Nat} (hN:600000<N) {B:Nat} (d:0<B) (u:B<=8000) {a b:Int} (fa:jv a B) (j:jv b B) (hb:b≠0):vG N (rI a) (rI b)=some (T (Rat.divInt a b)):=by
 have hg:0<Int.gcd b a:=Int.gcd_pos_of_ne_zero_left _ hb
 have ea:=qh5 (a:=a) hb
 have S:(if(rI b).neg=true then(xE N (rI a)).bind fun r7=>(xE N (rI b)).bind fun r8=>some (r7.neg,r7.w,r8.neg,r8.w)else some ((rI a).neg,(rI a).w,(rI b).neg,(rI b).w):Option (Bool×(List Int)×Bool×(List Int)))=some (decide (b.sign*a<0),dg E9 (a.natAbs:Int),false,dg E9 (b.natAbs:Int)):=by
  by_cases h:b<0
  ·rw[if_pos (show(rI b).neg=true from decide_eq_true h),qkM (by omega) (fa.mono (by omega)),ZB,qkM (by omega) (j.mono (by omega)),ZB,Int.sign_eq_neg_one_of_neg h,Int.neg_mul,Int.one_mul]
   show some (decide (-a<0),dg E9 (((-a).natAbs:Nat):Int),decide (-b<0),dg E9 (((-b).natAbs:Nat):Int))=_
   rw[decide_eq_false (show¬ -b<0 by omega),Int.natAbs_neg,Int.natAbs_neg]
  rw[if_neg (show¬(rI b).neg=true from fun c=>h (of_decide_eq_true c)),Int.sign_eq_one_of_pos (by omega),Int.one_mul]
  show some (decide (a<0),dg E9 ((a.natAbs:Nat):Int),decide (b<0),dg E9 ((b.natAbs:Nat):Int))=_
  rw[decide_eq_false h]
 have en:(Rat.divInt a b).num=b.sign*a/(Int.gcd b a:Int):=Rat.num_divInt ..
 have ed:(b.natAbs:Int)/(Int.gcd b a:Int)=((Rat.divInt a b).den:Int):=by rw[Rat.den_divInt,if_neg hb,Int.natCast_ediv]
 have hd:=den_pos (Rat.divInt a b)
 have dvd:(Int.gcd b a:Int)∣b.sign*a:=Int.dvd_mul_of_dvd_right (Int.gcd_dvd_right ..)
 have fn:jv (Rat.divInt a b).num B:=by
  rw[en]
  exact jv.le (Int.le_trans (qaA _ (by omega)) (by rw[ea];exact Int.le_refl _)) fa
 have fd:jv ((Rat.divInt a b).den:Int) B:=by
  rw[<-ed]
  exact jv.le (Int.le_trans (qaA _ (by omega)) (Int.le_refl _)) j.abs
 have vn:(if decide (b.sign*a<0)=true then-dv E9 (dg E9 ((a.natAbs:Int)/(Int.gcd b a:Int)))else dv E9 (dg E9 ((a.natAbs:Int)/(Int.gcd b a:Int))))=(Rat.divInt a b).num:=by
  have p0:0<=(a.natAbs:Int)/(Int.gcd b a:Int):=Int.ediv_nonneg (by omega) (by omega)
  rw[vL E1 p0,en]
  by_cases c:b.sign*a<0
  ·rw[if_pos (decide_eq_true c),show(a.natAbs:Int)= -(b.sign*a)by omega,Int.neg_ediv_of_dvd dvd,Int.neg_neg]
  rw[if_neg (fun h=>c (of_decide_eq_true h)),show(a.natAbs:Int)=b.sign*a by omega]
 unfold vG
 rw[S,ZB]
 simp only
 rw[qja hN (by omega) (by omega) (fa.abs.mono u) (j.abs.mono u),ZB,qmW,qmM (by omega) (by omega) (by omega) u fa.abs,ZB,qmM (by omega) (by omega) (by omega) u j.abs,ZB]
 simp only
 have p0:0<=(a.natAbs:Int)/(Int.gcd b a:Int):=Int.ediv_nonneg (by omega) (by omega)
 have ln:(dg E9 ((a.natAbs:Int)/(Int.gcd b a:Int))).length<=B:=by
  have:=(jv.le (Int.le_trans (qaA _ (by omega)) (Int.le_refl _)) fa.abs:jv ((a.natAbs:Int)/(Int.gcd b a:Int)) B).len
  rw[show(((a.natAbs:Int)/(Int.gcd b a:Int)).natAbs:Int)=(a.natAbs:Int)/(Int.gcd b a:Int)by omega]at this
  exact this
 have ld:(dg E9 ((Rat.divInt a b).den:Int)).length<=B:=by
  have:=fd.len
  rw[Int.natAbs_natCast]at this
  exact this
 rw[qaH _ (jl E1 p0).1 (by omega) (by omega),ZB,vn,qmo (by omega) (fn.mono (by omega)),ZB,ed,qm9 hd,ZB]
 have l1:=fn.itoaLen d
 have l2:=fd.itoaLen d
 unfold T
 by_cases c:(Rat.divInt a b).den=1
 ·rw[if_pos (decide_eq_true c),if_pos c,YQ]
 rw[if_neg (fun h=>c (of_decide_eq_true h)),if_neg c,qbI (by simp;omega),ZB,qaH _ (jl E1 (by omega)).1 (by omega) (by omega),ZB,if_neg (by simp),vL E1 (by omega),qmo (by omega) (fd.mono (by omega)),ZB,qbI (by simp;omega),ZB,qgy,Yz]
 rfl
theorem qqy {a b:Int} (d:0<=a) (h:0<b):qeG .i64 a b=some (a%b):=by
 unfold qeG
 rw[if_neg (by omega),Int.tmod_eq_emod_of_nonneg d]
theorem qqA {a b:Int} (d:0<b) (j: -4000000000000000000<=a) (u:a<=4000000000000000000) (h:b∣a):qco .i64 a b=some (a/b):=by
 have:=qaA a d
 unfold qco
 rw[if_neg (by omega),Int.tdiv_eq_ediv_of_dvd h]
 show some (w64 _)=_
 rw[ql (by omega) (by omega)]
theorem qmQ: ∀(k K:Nat) (a b:Int),0<=a->0<=b->b<2^k->2*k+2<=K->ve K a b=some (Int.gcd a b:Int)
 |k,0,a,b,_,_,_,hK=>by omega
 |k,K+1,a,b,ha,hb,hk,hK=>by
  have na:(a.natAbs:Int)=a:=by omega
  have nb:(b.natAbs:Int)=b:=by omega
  rcases(show b=0\/0<b by omega)with h0|h0
  ·rw[h0,ve,if_neg (by omega),Int.gcd_zero,na]
  match k,hk,hK with
  |0,hk,hK=>simp at hk;omega
  |k+1,hk,hK=>
   have h:=Int.emod_nonneg a (show b≠0 by omega)
   have m1:=Int.emod_lt_of_pos a h0
   rw[ve,if_pos (by omega),qqy ha h0,ZB,qdy ha hb]
   match K,hK with
   |0,hK=>omega
   |K+1,hK=>
    rcases(show a%b=0\/0<a%b by omega)with g0|g0
    ·rw[g0,ve,if_neg (by omega),Int.gcd_zero,nb]
    have u:=Int.emod_nonneg b (show a%b≠0 by omega)
    have n1:=Int.emod_lt_of_pos b g0
    have d:b%(a%b)<2^k:=by
     have d1:=Int.mul_ediv_add_emod b (a%b)
     have j:1<=b/(a%b):=by
      rw[Int.le_ediv_iff_mul_le g0]
      omega
     have d3:a%b*1<=a%b*(b/(a%b)):=Yc j (by omega)
     rw[Int.pow_succ]at hk
     omega
    rw[ve,if_pos (by omega),qqy hb g0,ZB,qdy hb h]
    exact qmQ k K (a%b) (b%(a%b)) h u d (by omega)
theorem qpH {N:Nat} (hN:200<N) {a b:Int} (d:0<=a) (j:0<=b) (h:b<9223372036854775808):qdg N a b=some (Int.gcd a b:Int):=by
 unfold qdg
 rw[qmQ 63 N a b d j h (by omega),ZB]
theorem rabs {z:Int} (d: -9223372036854775807<=z) (h:z<=9223372036854775807):(if w64 (0-z)>z then w64 (0-z)else z)=(z.natAbs:Int):=by
 rw[ql (by omega) (by omega)]
 split<;>omega
theorem qqv {n:Nat} (h:n<=4000000000000000000):(Lib.decDigits n).length<=19:=(qaq (by decide)).2 (by omega)
theorem qok {N:Nat} (hN:1000<N) {a b:Int} (a1: -4000000000000000000<=a) (a2:a<=4000000000000000000) (b1: -4000000000000000000<=b) (b2:b<=4000000000000000000) (u:b≠0):qdr N a b=some (T (Rat.divInt a b)):=by
 have hg:0<Int.gcd b a:=Int.gcd_pos_of_ne_zero_left _ u
 have ea:=qh5 (a:=a) u
 have S:(if b<0 then some (w64 (0-a),w64 (0-b))else some (a,b):Option (Int×Int))=some (b.sign*a,(b.natAbs:Int)):=by
  by_cases h:b<0
  ·rw[if_pos h,ql (by omega) (by omega),ql (by omega) (by omega),Int.sign_eq_neg_one_of_neg h,show(-1:Int)*a=0-a by omega,show(b.natAbs:Int)=0-b by omega]
  rw[if_neg h,Int.sign_eq_one_of_pos (by omega),Int.one_mul,show(b.natAbs:Int)=b by omega]
 have en:(Rat.divInt a b).num=b.sign*a/(Int.gcd b a:Int):=Rat.num_divInt ..
 have ed:(b.natAbs:Int)/(Int.gcd b a:Int)=((Rat.divInt a b).den:Int):=by rw[Rat.den_divInt,if_neg u,Int.natCast_ediv]
 have hd:=den_pos (Rat.divInt a b)
 have d:(Int.gcd b a:Int)∣b.sign*a:=Int.dvd_mul_of_dvd_right (Int.gcd_dvd_right ..)
 have j:(Int.gcd b a:Int)∣(b.natAbs:Int):=by
  rw[Int.dvd_natAbs]
  exact Int.gcd_dvd_left ..
 have n1:=qaA (b.sign*a) (show(0:Int)<(Int.gcd b a:Int)by omega)
 have n2:=qaA (b.natAbs:Int) (show(0:Int)<(Int.gcd b a:Int)by omega)
 rw[<-en,ea]at n1
 rw[ed,Int.natAbs_natCast,Int.natAbs_natCast]at n2
 unfold qdr
 rw[if_neg (show¬a< -4000000000000000000 by omega),if_neg (show¬a>4000000000000000000 by omega),if_neg (show¬b< -4000000000000000000 by omega),decide_eq_false (show¬b>4000000000000000000 by omega),ZB,if_neg (by simp),S,ZB]
 simp only
 rw[rabs (by omega) (by omega),ea,qpH (by omega) (by omega) (by omega) (by omega),ZB,qmW,qqA (by omega) (by omega) (by omega) d,ZB,qqA (by omega) (by omega) (by omega) j,ZB,<-en,ed,rabs (by omega) (by omega),qhC (by omega) (by omega),qhC (by omega) (by omega)]
 generalize Rat.divInt a b=q at*
 have l1:=qqv (n:=q.num.natAbs) (by omega)
 have l2:=qqv (n:=q.den) (by omega)
 have S2:((if q.num<0 then some [45]else some []:Option Str).bind fun s17=>(some (Lib.decDigits q.num.natAbs)).bind fun r20=>(cat s17 r20).bind fun s21=>(if(q.den:Int)>1 then(cat s21 [47]).bind fun s25=>(some (Lib.decDigits q.den)).bind fun r26=>(cat s25 r26).bind fun s27=>some s27 else some s21:Option Str).bind fun s22=>some s22)=some (T q):=by
  have li:(Lib.itoa q.num).length<=20:=by have:=qjD q.num;omega
  have I:((if q.num<0 then some [45]else some []:Option Str).bind fun s17=>(some (Lib.decDigits q.num.natAbs)).bind fun r20=>(cat s17 r20).bind fun s21=>(if(q.den:Int)>1 then(cat s21 [47]).bind fun s25=>(some (Lib.decDigits q.den)).bind fun r26=>(cat s25 r26).bind fun s27=>some s27 else some s21:Option Str).bind fun s22=>some s22)=((if(q.den:Int)>1 then(cat (Lib.itoa q.num) [47]).bind fun s25=>(some (Lib.decDigits q.den)).bind fun r26=>(cat s25 r26).bind fun s27=>some s27 else some (Lib.itoa q.num):Option Str).bind fun s22=>some s22):=by
   by_cases c:q.num<0
   ·rw[if_pos c,ZB,ZB,qbI (by simp;omega),ZB,yj c]
    rfl
   rw[if_neg c,ZB,ZB,qbI (by simp;omega),ZB,zY c]
   rfl
  rw[I]
  unfold T
  by_cases c:q.den=1
  ·rw[if_neg (by omega),if_pos c,ZB,YQ]
  rw[if_pos (by omega),if_neg c,qbI (by simp;omega),ZB,ZB,qbI (by simp;omega),ZB,ZB,Yz]
  rfl
 exact S2
end Go.Av
end
section
namespace Go.Av
theorem Sml.mono {q:Rat} {m n:Nat} (h:Sml q m) (d:m<=n):Sml q n:=⟨Nat.le_trans h.1 d,Nat.le_trans h.2 d⟩
theorem qb7 {q:Rat} {k n:Nat} (h:Sml q k) (d:0<k) (j:k<=9*n):jv q.num n:=qjz (p:=k) (Int.ofNat_lt.2 ((qaq d).1 h.1)) j
theorem qcd {q:Rat} {k n:Nat} (h:Sml q k) (d:0<k) (j:k<=9*n):jv (q.den:Int) n:=qjz (p:=k) (by rw[Int.natAbs_natCast];exact Int.ofNat_lt.2 ((qaq d).1 h.2)) j
theorem zU {q:Rat} {k n:Nat} (h:Sml q k) (d:0<k) (j:k<=19*n):qaO q n:=⟨qf3 (p:=k) (Int.ofNat_lt.2 ((qaq d).1 h.1)) j,qf3 (p:=k) (by rw[Int.natAbs_natCast];exact Int.ofNat_lt.2 ((qaq d).1 h.2)) j⟩
theorem qmR {z:Int} {n:Nat} (h:jv z n) (d:0<n):(Lib.decDigits z.natAbs).length<=9*n:=by
 refine(qaq (by omega)).2 ?_
 have h:(z.natAbs:Int)<E9^n:=h
 rw[qik]at h
 exact Int.ofNat_lt.1 h
theorem qky {q:Rat} {n:Nat} (j:jv q.num n) (u:jv (q.den:Int) n) (h:0<n):Sml q (9*n):=by
 have d:=qmR u h
 rw[Int.natAbs_natCast]at d
 exact⟨qmR j h,d⟩
theorem qgP {a b:Int} {n:Nat} (d:b≠0) (fa:jv a n) (h:jv b n):jv (Rat.divInt a b).num n/\jv ((Rat.divInt a b).den:Int) n:=by
 have j:0<Int.gcd b a:=Int.gcd_pos_of_ne_zero_left _ d
 constructor
 ·rw[Rat.num_divInt]
  exact jv.le (Int.le_trans (qaA _ (by omega)) (by rw[qh5 d];exact Int.le_refl _)) fa
 rw[Rat.den_divInt,if_neg d,Int.natCast_ediv]
 exact jv.le (Int.le_trans (qaA _ (by omega)) (Int.le_refl _)) h.abs
theorem xZ {a b:Int} {m n:Nat} (d:jv a m) (h:jv b n):jv (a*b) (m+n):=by
 unfold jv at*
 rw[Int.natAbs_mul,Int.natCast_mul,Int.pow_add]
 have j:(a.natAbs:Int)*(b.natAbs:Int)<=(a.natAbs:Int)*E9^n:=Yc (Int.le_of_lt h) (by omega)
 have u:(a.natAbs:Int)*E9^n<E9^m*E9^n:=YH d (pow_pos E0 n)
 omega
theorem qkE {a b:Int} {n:Nat} (d:jv a n) (h:jv b n):jv (a+b) (n+1):=by
 unfold jv at*
 rw[Int.pow_succ]
 have hp:=pow_pos E0 n
 have:((a+b).natAbs:Int)<=(a.natAbs:Int)+(b.natAbs:Int):=by omega
 unfold E9 at*
 omega
theorem qaQ {q:Rat} (h:Sml q 600):qin q=false:=by
 have d:=h.1
 have j:=h.2
 unfold qin lng
 rw[Int.natAbs_natCast,decide_eq_false (by omega),decide_eq_false (by omega)]
 rfl
theorem qkz (s:Str):xJ s=some (if s=[48]then 0 else if sgn s=true then-1 else 1):=by
 unfold xJ
 by_cases c:s=[48]
 ·rw[if_pos (by simp[c]),if_pos c]
 rw[if_neg (by simp[c]),qfW,ZB,if_neg c]
 cases sgn s<;>rfl
theorem qqB:Lib.itoa 0=[48]:=by
 rw[zY (by decide),show(0:Int).natAbs=0 from rfl,yA (by decide)]
 rfl
theorem qnl {z:Int}:Lib.itoa z=[48]↔z=0:=by
 constructor
 ·intro h
  have d:=qcl z
  rw[h]at d
  exact d.symm
 intro h
 rw[h]
 exact qqB
theorem T0:T 0=[48]:=by
 rw[(qgd 0 rfl).1]
 exact qqB
theorem qn6 {q:Rat}:T q=[48]↔q=0:=by
 constructor
 ·intro h
  exact qoT (h.trans T0.symm)
 intro h
 rw[h]
 exact T0
theorem qo4 (q:Rat):xJ (T q)=some (if q.num<0 then-1 else if q.num=0 then 0 else 1):=by
 rw[qkz,qmj]
 by_cases c:q=0
 ·rw[if_pos (qn6.2 c),c]
  rfl
 rw[if_neg (fun h=>c (qn6.1 h)),if_neg (show¬q.num=0 from fun h=>c (Rat.num_eq_zero.1 h))]
 by_cases d:q.num<0
 ·rw[decide_eq_true d,if_pos rfl,if_pos d]
 rw[decide_eq_false d,if_neg (by simp),if_neg d]
theorem qrf (q:Rat):tl (-q)=tl q:=by
 unfold tl
 rw[Rat.neg_den]
theorem Neg_T {N:Nat} {q:Rat} (h:(T q).length<=100000):qdw (T q)=some (T (-q)):=by
 unfold qdw
 rw[qo4,ZB]
 have e:T (-q)=Lib.itoa (-q.num)++tl q:=by rw[qnh,qrf,Rat.neg_num]
 by_cases c:q.num<0
 ·have hs:sgn (T q)=true:=by rw[qmj];exact decide_eq_true c
  have j:(T q).drop 1=bdy (T q):=by unfold bdy;rw[if_pos hs]
  have u:=qjS hs
  rw[if_pos c,if_pos (by decide),show(1:Int)=((1:Nat):Int)from rfl,xV u,ZB,j,qqu,e,zY (by omega),Int.natAbs_neg]
 rw[if_neg c,if_neg (by split<;>decide),ZB]
 by_cases d:q.num=0
 ·rw[if_pos d,if_pos rfl,Rat.num_eq_zero.1 d]
  rfl
 rw[if_neg d,if_neg (by decide),qbI (by simp;omega),ZB,e,yj (by omega),Int.natAbs_neg,qnh,zY c]
 rfl
theorem qmw {N:Nat} (hN:100000<N) {q:Rat} {k:Nat} (h:Sml q k) (hk:k<=9000):qbZ N (T q)=some (if qin q=true then 4 else 0):=by
 have hl:=qf5 h
 have hs:=qev (N:=N) (s:=T q) (by omega) (by omega)
 have a0:qdl N (T q)=some (Lib.itoa q.num):=by
  unfold qdl
  rw[hs,ZB]
  by_cases c:q.den=1
  ·obtain⟨t1,t2⟩:=qgd q c
   rw[xw (by omega),ZB,t2,List.take_length,t1]
  obtain⟨t1,t2,t3⟩:=qhl q c
  rw[xw (by omega),ZB,t2]
 have u:qdn (Lib.itoa q.num)=some (Lib.decDigits q.num.natAbs):=by
  have hs:=qfT q.num
  have hb:=qbW q.num
  unfold qdn
  rw[qkz,ZB,hs]
  unfold bdy at hb
  rw[hs]at hb
  by_cases c:q.num<0
  ·rw[if_neg (show¬Lib.itoa q.num=[48]from fun h=>by have:=qnl.1 h;omega),if_pos (decide_eq_true c),if_pos (by decide),show(1:Int)=((1:Nat):Int)from rfl,xV (qk5 _),ZB]
   rw[if_pos (decide_eq_true c)]at hb
   rw[hb]
  rw[decide_eq_false c,if_neg (by split<;>simp),zY c]
 have j:qdj N (T q)=some (Lib.decDigits q.den):=by
  unfold qdj
  rw[hs,ZB]
  by_cases c:q.den=1
  ·obtain⟨t1,t2⟩:=qgd q c
   rw[if_pos (by omega),c,yA (by decide)]
   rfl
  obtain⟨t1,t2,t3⟩:=qhl q c
  rw[if_neg (by omega),zJ (by omega),xV (by omega),ZB,t3]
 unfold qbZ
 rw[a0,ZB,u,ZB,j]
 unfold qin lng
 rw[Int.natAbs_natCast]
 by_cases c:600<(Lib.decDigits q.num.natAbs).length
 ·rw[if_pos (by omega),decide_eq_true c,Bool.true_or]
  rfl
 rw[if_neg (by omega),decide_eq_false c,Bool.false_or,ZB]
 by_cases d:600<(Lib.decDigits q.den).length
 ·rw[decide_eq_true (by omega),decide_eq_true d]
  rfl
 rw[decide_eq_false (by omega),decide_eq_false d]
 rfl
theorem qh0 {N:Nat} (hN:100000<N) {q:Rat} {k:Nat} (h:Sml q k) (hk:k<=9000):vo N (T q)=some (0,0,false)\/(vo N (T q)=some (q.num,(q.den:Int),true)/\q.num.natAbs<1000000000/\q.den<1000000000):=by
 have hl:=qf5 h
 have hb:=qfU (T q)
 have eb:=qqu q
 have es:slA (Lib.decDigits q.num.natAbs++tl q)=(Lib.decDigits q.num.natAbs).length:=qjl (no47 (qb4 _)) q
 have u:(Lib.decDigits q.num.natAbs++tl q).length=(Lib.decDigits q.num.natAbs).length+(tl q).length:=Yq
 rw[eb]at hb
 unfold vo
 by_cases c:((T q).length:Int)>20
 ·left
  rw[if_pos c]
 rw[if_neg c,qfW,ZB,qlO,ZB,eb,qev (by omega) (by omega),ZB,es,qmj]
 by_cases c1:(Lib.decDigits q.num.natAbs).length>9
 ·left
  rw[if_pos (by omega),ZB,if_pos rfl]
 rw[if_neg (by omega),ql (by omega) (by omega)]
 by_cases c2:(tl q).length>10
 ·left
  rw[decide_eq_true (by omega),ZB,if_pos rfl]
 right
 rw[decide_eq_false (by omega),ZB,if_neg (by simp),xw (by omega),ZB,List.take_left',qf6 (by omega) (qb4 _) (by omega),ZB,qeF]
 ·have hn:q.num.natAbs<1000000000:=(qaq (show 0<9 by decide)).1 (by omega)
  have sg:(if decide (q.num<0)=true then some (w64 (0-(q.num.natAbs:Int)))else some (q.num.natAbs:Int):Option Int)=some q.num:=by
   by_cases d:q.num<0
   ·rw[if_pos (decide_eq_true d),ql (by omega) (by omega)]
    congr 1
    omega
   rw[if_neg (fun h=>d (of_decide_eq_true h))]
   congr 1
   omega
  by_cases d:q.den=1
  ·have j:tl q=[]:=by unfold tl;rw[if_pos d]
   rw[j]at u
   rw[List.length_nil]at u
   rw[j,if_neg (by omega),ZB,sg,ZB,d]
   exact⟨rfl,hn,by decide⟩
  have j:tl q=47::Lib.decDigits q.den:=by unfold tl;rw[if_neg d]
  rw[j,Yr]at u c2
  have hd:q.den<1000000000:=(qaq (show 0<9 by decide)).1 (by omega)
  rw[j,if_pos (by omega),zJ (by omega),xV (by omega),ZB,List.drop_append,List.drop_of_length_le (by omega),show(Lib.decDigits q.num.natAbs).length+1-(Lib.decDigits q.num.natAbs).length=1 by omega,List.nil_append,List.drop_succ_cons,YR,qf6 (by omega) (qb4 _) (by omega),ZB,ZB,sg,ZB,qeF]
  exact⟨rfl,hn,hd⟩
 rfl
theorem qmh {N:Nat} (hN:100000<N) {p q:Rat} {k:Nat} (u:k<=9000) (hp:Sml p k) (hq:Sml q k) {Fq:(Int×Int×Bool)->(Int×Int×Bool)->Option Str} {d:Option Str} {t:Str}
 (h1:p.num.natAbs<1000000000->p.den<1000000000->q.num.natAbs<1000000000->q.den<1000000000->Fq (p.num,(p.den:Int),true) (q.num,(q.den:Int),true)=some t) (h2:d=some t):
 ((vo N (T p)).bind fun r1=>(vo N (T q)).bind fun r2=>(if r1.2.2=true then some r2.2.2 else some false:Option Bool).bind fun b4=>if b4=true then(Fq r1 r2).bind fun r7=>some r7 else d)=some t:=by
 rcases qh0 hN hp u with j|⟨j,a1,a2⟩
 ·rcases qh0 hN hq u with h|⟨h,b1,b2⟩
  ·rw[j,ZB,h,ZB]
   exact h2
  rw[j,ZB,h,ZB]
  exact h2
 rcases qh0 hN hq u with h|⟨h,b1,b2⟩
 ·rw[j,ZB,h,ZB]
  exact h2
 rw[j,ZB,h,ZB]
 show((Fq (p.num,(p.den:Int),true) (q.num,(q.den:Int),true)).bind fun r7=>some r7)=some t
 rw[h1 a1 a2 b1 b2,ZB]
theorem qpn {a b:Int} (d:a.natAbs<1000000000) (j:b.natAbs<1000000000): -1000000000000000000<=a*b/\a*b<=1000000000000000000:=by
 have h:(a*b).natAbs<=1000000000*1000000000:=by
  rw[Int.natAbs_mul]
  exact Nat.mul_le_mul (by omega) (by omega)
 omega
theorem qjt {N:Nat} (hN:600000<N) {p q:Rat} {k:Nat} (d:0<k) (hk:k<=4000) (hp:Sml p k) (hq:Sml q k):qbB N (T p) (T q)=some (T (p+q)):=by
 unfold qbB
 obtain⟨n,hn⟩: ∃n:Nat,n=500:=⟨_,rfl⟩
 have u:=qb7 (n:=n) hp d (by omega)
 have j:=qcd (n:=n) hp d (by omega)
 have q1:=qb7 (n:=n) hq d (by omega)
 have h:=qcd (n:=n) hq d (by omega)
 refine qmh (N:=N) (by omega) (show k<=9000 by omega) hp hq (fun a1 a2 b1 b2=>?_) ?_
 ·have m1:=qpn a1 (show((q.den:Int)).natAbs<1000000000 by omega)
  have m2:=qpn b1 (show((p.den:Int)).natAbs<1000000000 by omega)
  have m3:=qpn (show((p.den:Int)).natAbs<1000000000 by omega) (show((q.den:Int)).natAbs<1000000000 by omega)
  have:=qdI p q
  simp only
  rw[ql (n:=p.num*(q.den:Int)) (by omega) (by omega),ql (n:=q.num*(p.den:Int)) (by omega) (by omega),ql (n:=(p.den:Int)*(q.den:Int)) (by omega) (by omega),ql (by omega) (by omega),qok (by omega) (by omega) (by omega) (by omega) (by omega) (qdI p q),<-qdQ]
 rw[qdo hN (hp.mono (by omega)),ZB,qdo hN (hq.mono (by omega)),ZB]
 simp only
 rw[qeW (by omega) (u.mono (by omega)) (h.mono (by omega)),ZB,qeW (by omega) (q1.mono (by omega)) (j.mono (by omega)),ZB,qp6 (by omega) ((xZ u h).mono (by omega)) ((xZ q1 j).mono (by omega)),ZB,qeW (by omega) (j.mono (by omega)) (h.mono (by omega)),ZB,qdW hN (B:=n+n+1) (by omega) (by omega) (qkE (xZ u h) (xZ q1 j)) ((xZ j h).mono (by omega)) (qdI p q),ZB,<-qdQ]
theorem qf0 {N:Nat} (hN:600000<N) {p q:Rat} {k:Nat} (d:0<k) (hk:k<=4000) (hp:Sml p k) (hq:Sml q k):qaM N (T p) (T q)=some (T (p*q)):=by
 unfold qaM
 obtain⟨n,hn⟩: ∃n:Nat,n=500:=⟨_,rfl⟩
 have h:=qb7 (n:=n) hp d (by omega)
 have p2:=qcd (n:=n) hp d (by omega)
 have j:=qb7 (n:=n) hq d (by omega)
 have u:=qcd (n:=n) hq d (by omega)
 refine qmh (N:=N) (by omega) (show k<=9000 by omega) hp hq (fun a1 a2 b1 b2=>?_) ?_
 ·have m1:=qpn a1 b1
  have m3:=qpn (show((p.den:Int)).natAbs<1000000000 by omega) (show((q.den:Int)).natAbs<1000000000 by omega)
  simp only
  rw[ql (n:=p.num*q.num) (by omega) (by omega),ql (n:=(p.den:Int)*(q.den:Int)) (by omega) (by omega),qok (by omega) (by omega) (by omega) (by omega) (by omega) (qdI p q),<-qd3]
 rw[qdo hN (hp.mono (by omega)),ZB,qdo hN (hq.mono (by omega)),ZB]
 simp only
 rw[qeW (by omega) (h.mono (by omega)) (j.mono (by omega)),ZB,qeW (by omega) (p2.mono (by omega)) (u.mono (by omega)),ZB,qdW hN (B:=n+n) (by omega) (by omega) (xZ h j) (xZ p2 u) (qdI p q),ZB,<-qd3]
theorem qjB {p q:Rat} {n:Nat} (hn:0<n) (hp:Sml p (9*n)) (hq:Sml q (9*n)):Sml (p+q) (9*(n+n+1)):=by
 have j:=qb7 (n:=n) hp (by omega) (by omega)
 have h:=qcd (n:=n) hp (by omega) (by omega)
 have q1:=qb7 (n:=n) hq (by omega) (by omega)
 have d:=qcd (n:=n) hq (by omega) (by omega)
 rw[qdQ]
 obtain⟨f1,u⟩:=qgP (qdI p q) (qkE (xZ j d) (xZ q1 h)) ((xZ h d).mono (show n+n<=n+n+1 by omega))
 exact qky f1 u (by omega)
theorem qj0 {p q:Rat} {n:Nat} (hn:0<n) (hp:Sml p (9*n)) (hq:Sml q (9*n)):Sml (p*q) (9*(n+n)):=by
 have d:=qb7 (n:=n) hp (by omega) (by omega)
 have p2:=qcd (n:=n) hp (by omega) (by omega)
 have j:=qb7 (n:=n) hq (by omega) (by omega)
 have q2:=qcd (n:=n) hq (by omega) (by omega)
 rw[qd3]
 obtain⟨u,h⟩:=qgP (qdI p q) (xZ d j) (xZ p2 q2)
 exact qky u h (by omega)
theorem qju {p:Rat} {k:Nat} (h:Sml p k):Sml (-p) k:=by
 unfold Sml
 rw[Rat.neg_num,Rat.neg_den,Int.natAbs_neg]
 exact h
theorem ql9 {p:Rat} {k:Nat} (h:Sml p k) (j:p≠0):Sml p⁻¹ k:=by
 have d:p.num≠0:=fun c=>j (Rat.num_eq_zero.1 c)
 unfold Sml
 rw[Rat.num_inv,Rat.den_inv,if_neg d,Int.natAbs_mul,Int.natAbs_sign_of_ne_zero d,Nat.one_mul,Int.natAbs_natCast]
 exact⟨h.2,h.1⟩
theorem qj7 {N:Nat} (hN:600000<N) {p q:Rat} {k:Nat} (d:0<k) (h:k<=4000) (hp:Sml p k) (hq:Sml q k):qbE N (T p) (T q)=some (T (p-q)):=by
 have j:=qf5 hq
 unfold qbE
 rw[Neg_T (N:=N) (by omega),ZB,qjt hN d h hp (qju hq),ZB,Rat.sub_eq_add_neg]
theorem qfX {N:Nat} (hN:600000<N) {p q:Rat} {k:Nat} (d:0<k) (hk:k<=4000) (hp:Sml p k) (hq:Sml q k):qaG N (T p) (T q)=some (if p<q then-1 else if p=q then 0 else 1):=by
 unfold qaG
 rw[qj7 hN d hk hp hq,ZB,qo4,ZB]
 have j:((p-q).num<0)=(p<q):=by
  apply propext
  rw[<-Rat.not_le,Rat.le_iff_sub_nonneg q p,<-Rat.num_nonneg]
  omega
 have u:((p-q).num=0)=(p=q):=by
  apply propext
  rw[Rat.num_eq_zero]
  constructor
  ·intro h
   have:p-q+q=p:=Rat.sub_add_cancel
   rw[h,Rat.zero_add]at this
   exact this.symm
  intro h
  rw[h,Rat.sub_self]
 simp only[j,u]
theorem qp2 {N:Nat} (hN:600000<N) {p:Rat} {k:Nat} (d:0<k) (hk:k<=4000) (hp:Sml p k) (j:p≠0):xc N (T p)=some (T p⁻¹):=by
 obtain⟨n,hn⟩: ∃n:Nat,n=500:=⟨_,rfl⟩
 have h:=qb7 (n:=n) hp d (by omega)
 have u:=qcd (n:=n) hp d (by omega)
 unfold xc
 rw[qdo hN (hp.mono (by omega)),ZB]
 simp only
 rw[qdW hN (B:=n) (by omega) (by omega) u h (fun c=>j (Rat.num_eq_zero.1 c)),ZB,<-Rat.inv_def]
theorem qhg {N:Nat} (hN:600000<N) {p q:Rat} {k:Nat} (d:0<k) (j:k<=4000) (hp:Sml p k) (hq:Sml q k) (h:q≠0):qa5 N (T p) (T q)=some (T (p/q)):=by
 unfold qa5
 rw[qp2 hN d j hq h,ZB,qf0 hN d j hp (ql9 hq h),ZB,<-Rat.div_def]
end Go.Av
end
section
namespace Go.Av
theorem qpV {N:Nat} (hN:10<N) (a b:Int):qb0 N [a,b]=some (if a=0 then b else a):=by
 obtain⟨K,rfl⟩: ∃K,N=K+1+1+1:=⟨N-3,by omega⟩
 unfold qb0
 rw[vF,if_pos (by simp),yh]
 simp only[Yj,ZB]
 by_cases c:a=0
 ·rw[if_neg (by simp[c]),if_pos c,show w64 (0+1)=((1:Nat):Int)from rfl,vF,if_pos (by simp),qx]
  simp only[YK,Yj,ZB]
  by_cases d:b=0
  ·rw[if_neg (by simp[d]),d,show w64 (((1:Nat):Int)+1)=2 from rfl,vF,if_neg (by simp)]
   rfl
  rw[if_pos (by simp[d])]
  rfl
 rw[if_pos (by simp[c]),if_neg c]
 rfl
theorem qno {N:Nat} (hN:600000<N) {a b:Str} (u:a.length<=10000) (hb:b.length<=10000):xW N [a,b]=some (if chk a=0 then chk b else chk a):=by
 have j:=qiS hN u
 have h:=qiS hN hb
 unfold xW
 obtain⟨K,hK⟩: ∃K,N=K+1+1+1:=⟨N-3,by omega⟩
 have L:ko N [a,b] (K+1+1+1) 0=some (if chk a=0 then(if chk b=0 then .inl ()else .inr (chk b))else .inr (chk a)):=by
  rw[ko,if_pos (by simp),yh]
  simp only[Yj,ZB]
  rw[j,ZB]
  by_cases c:chk a=0
  ·rw[if_neg (by simp[c]),if_pos c,show w64 (0+1)=((1:Nat):Int)from rfl,ko,if_pos (by simp),qx]
   simp only[YK,Yj,ZB]
   rw[h,ZB]
   by_cases d:chk b=0
   ·rw[if_neg (by simp[d]),if_pos d,show w64 (((1:Nat):Int)+1)=2 from rfl,ko,if_neg (by simp)]
   rw[if_pos (by simp[d]),if_neg d]
  rw[if_pos (by simp[c]),if_neg c]
 rw[show ko N [a,b] N 0=ko N [a,b] (K+1+1+1) 0 by rw[<-hK],L,ZB]
 by_cases c:chk a=0
 ·by_cases d:chk b=0
  ·rw[if_pos c,if_pos d,if_pos c,d]
  rw[if_pos c,if_neg d,if_pos c]
 rw[if_neg c,if_neg c]
def res (q:Rat):Str×Int:=if qin q=true then([],4)else(T q,0)
section ops
variable {N:Nat} (hN:600000<N)
include hN
variable {p q:Rat} (hp:Sml p 600) (hq:Sml q 600) (cp:chk (T p)=0) (cq:chk (T q)=0)
include hp hq cp cq
end ops
end Go.Av
end
section
namespace Go.Av
end Go.Av
end
section
namespace Go.Av
end Go.Av
end
section
namespace Go.Av
open Classical
theorem qlD {q:Rat} {k:Nat} (d:0<k) (h:(T q).length<=k):Sml q k:=by
 have j:(Lib.decDigits q.num.natAbs).length<=(Lib.itoa q.num).length:=by
  by_cases c:q.num<0
  ·rw[yj c,Yr]
   omega
  rw[zY c]
  exact Nat.le_refl _
 unfold T at h
 rw[Yq]at h
 refine⟨by omega,?_⟩
 by_cases c:q.den=1
 ·rw[c]
  exact(qaq d).2 (Nat.one_lt_pow (by omega) (by decide))
 rw[if_neg c,Yr]at h
 omega
theorem qmV {s:Str} {k:Nat} (j:0<k) (d:s.length<=k) (h:chk s=0): ∃q:Rat,s=T q/\Sml q k/\chk (T q)=0:=by
 obtain⟨q,rfl,_,_⟩:=qeU h
 exact⟨q,rfl,qlD j d,h⟩
theorem rrow2 {N:Nat} (hN:600000<N) {a b:Str} (u:a.length<=10000) (hb:b.length<=10000):qal N [a,b]=some (if chk a=0 then chk b else chk a):=by
 have j:=qiN hN u
 have h:=qiN hN hb
 unfold qal
 obtain⟨K,hK⟩: ∃K,N=K+1+1+1:=⟨N-3,by omega⟩
 have L:za N [a,b] (K+1+1+1) 0=some (if chk a=0 then(if chk b=0 then .inl ()else .inr (chk b))else .inr (chk a)):=by
  rw[za,if_pos (by simp),yh]
  simp only[Yj,ZB]
  rw[j,ZB]
  by_cases c:chk a=0
  ·rw[if_neg (by simp[c]),if_pos c,show w64 (0+1)=((1:Nat):Int)from rfl,za,if_pos (by simp),qx]
   simp only[YK,Yj,ZB]
   rw[h,ZB]
   by_cases d:chk b=0
   ·rw[if_neg (by simp[d]),if_pos d,show w64 (((1:Nat):Int)+1)=2 from rfl,za,if_neg (by simp)]
   rw[if_pos (by simp[d]),if_neg d]
  rw[if_pos (by simp[c]),if_neg c]
 rw[show za N [a,b] N 0=za N [a,b] (K+1+1+1) 0 by rw[<-hK],L,ZB]
 by_cases c:chk a=0
 ·by_cases d:chk b=0
  ·rw[if_pos c,if_pos d,if_pos c,d]
  rw[if_pos c,if_neg d,if_pos c]
 rw[if_neg c,if_neg c]
noncomputable def qc9 (s:qo):Int:=if chk s.Low=0 then(if chk s.High=0 then(if∃p q:Rat,s.Low=T p/\s.High=T q/\q<p then 11 else 0)else chk s.High)else chk s.Low
theorem qjk {p q:Rat} (hp:chk (T p)=0) (hq:chk (T q)=0):qc9 ⟨T p,T q⟩=if q<p then 11 else 0:=by
 unfold qc9
 rw[if_pos hp,if_pos hq]
 by_cases h:q<p
 ·rw[if_pos h,if_pos ⟨p,q,rfl,rfl,h⟩]
 rw[if_neg h,if_neg]
 rintro⟨p',q',e1,e2,h'⟩
 rw[qoT e1,qoT e2]at h
 exact h h'
theorem qjg {s:qo} {k:Nat} (hk:0<k) (u:s.Low.length<=k) (j:s.High.length<=k) (h:qc9 s=0): ∃p q:Rat,s=⟨T p,T q⟩/\p<=q/\Sml p k/\Sml q k/\chk (T p)=0/\chk (T q)=0:=by
 obtain⟨a,b⟩:=s
 unfold qc9 at h
 simp only at h u j
 by_cases c:chk a=0
 ·rw[if_pos c]at h
  by_cases d:chk b=0
  ·rw[if_pos d]at h
   obtain⟨p,rfl,p1,p2⟩:=qmV hk u c
   obtain⟨q,rfl,q1,q2⟩:=qmV hk j d
   refine⟨p,q,rfl,?_,p1,q1,c,d⟩
   by_cases e:q<p
   ·rw[if_pos ⟨p,q,rfl,rfl,e⟩]at h
    exact absurd h (by decide)
   exact Rat.not_lt.1 e
  rw[if_neg d]at h
  exact absurd h d
 rw[if_neg c]at h
 exact absurd h c
theorem ncmp {N:Nat} (hN:600000<N) {p q:Rat} (hp:Sml p 600) (hq:Sml q 600): ∃f g,yw N (T p)=some f/\yw N (T q)=some g/\jd N f g=some (if p<q then-1 else if p=q then 0 else 1):=by
 have f1:=zU (n:=32) hp (by omega) (by omega)
 have d:=zU (n:=32) hq (by omega) (by omega)
 obtain⟨f,u,i1⟩:=qe2 hN (hp.mono (show 600<=9000 by omega))
 obtain⟨g,j,h⟩:=qe2 hN (hq.mono (show 600<=9000 by omega))
 exact⟨f,g,u,j,qjT hN i1 h (n:=32) (by omega) f1 d⟩
theorem qfA {p q:Rat}:((if p<q then-1 else if p=q then 0 else 1:Int)>0)↔q<p:=by
 by_cases h:p<q
 ·rw[if_pos h]
  exact⟨fun c=>absurd c (by decide),fun c=>absurd c (Rat.not_lt.2 (Rat.le_of_lt h))⟩
 rw[if_neg h]
 by_cases e:p=q
 ·rw[if_pos e]
  exact⟨fun c=>absurd c (by decide),fun c=>absurd (e▸c) Rat.lt_irrefl⟩
 rw[if_neg e]
 refine⟨fun _=>?_,fun _=>by decide⟩
 exact Rat.lt_of_le_of_ne (Rat.not_lt.1 h) (Ne.symm e)
theorem qlU {p q:Rat}:((if p<q then-1 else if p=q then 0 else 1:Int)<0)↔p<q:=by
 by_cases h:p<q
 ·rw[if_pos h]
  exact⟨fun _=>h,fun _=>by decide⟩
 rw[if_neg h]
 refine⟨fun c=>?_,fun c=>absurd c h⟩
 by_cases e:p=q
 ·rw[if_pos e]at c
  exact absurd c (by decide)
 rw[if_neg e]at c
 exact absurd c (by decide)
theorem qgq {p q:Rat}:((if p<q then-1 else if p=q then 0 else 1:Int)<=0)↔p<=q:=by
 rw[<-Int.not_lt,<-Rat.not_lt]
 exact not_congr qfA
theorem qpt {p q:Rat}:((if p<q then-1 else if p=q then 0 else 1:Int)>=0)↔q<=p:=by
 rw[ge_iff_le,<-Int.not_lt,<-Rat.not_lt]
 exact not_congr qlU
theorem qaR {N:Nat} (hN:600000<N) {s:qo} (j:s.Low.length<=10000) (u:s.High.length<=10000):qD N s=some (qc9 s):=by
 obtain⟨a,b⟩:=s
 unfold qD zm
 simp only at j u
 rw[qno hN j u,ZB]
 by_cases c:chk a=0
 ·rw[if_pos c]
  by_cases d:chk b=0
  ·obtain⟨p,rfl,p1,p2⟩:=qeU c
   obtain⟨q,rfl,q1,q2⟩:=qeU d
   obtain⟨f,g,e1,e2,e3⟩:=ncmp hN (p:=p) (q:=q) ⟨p1,p2⟩ ⟨q1,q2⟩
   rw[if_neg (by simp[d]),e1,ZB,e2,ZB,e3,ZB,qjk c d]
   by_cases h:q<p
   ·rw[if_pos (decide_eq_true (qfA.2 h)),if_pos h,ZB]
   rw[if_neg (fun x=>h (qfA.1 (of_decide_eq_true x))),if_neg h,ZB]
  rw[if_pos (by simp[d])]
  unfold qc9
  rw[if_pos c,if_neg d]
 rw[if_neg c,if_pos (by simp[c])]
 unfold qc9
 rw[if_neg c]
theorem qff {N:Nat} (hN:600000<N) {s:qo} (u:s.Low.length<=10000) (j:s.High.length<=10000):vT N s=some (qc9 s):=by
 obtain⟨a,b⟩:=s
 unfold vT
 simp only at u j
 rw[rrow2 hN u j,ZB]
 by_cases c:chk a=0
 ·rw[if_pos c]
  by_cases d:chk b=0
  ·obtain⟨p,rfl,p1,p2⟩:=qeU c
   obtain⟨q,rfl,q1,q2⟩:=qeU d
   rw[if_pos d,qfX hN (k:=600) (by omega) (by omega) ⟨p1,p2⟩ ⟨q1,q2⟩,ZB,ZB,qjk c d]
   by_cases h:q<p
   ·rw[if_pos (decide_eq_true (qfA.2 h)),if_pos h,ZB]
   rw[if_neg (fun x=>h (qfA.1 (of_decide_eq_true x))),if_neg h,d,ZB]
  rw[if_neg d,ZB,if_neg (by simp),ZB]
  unfold qc9
  rw[if_pos c,if_neg d]
 rw[if_neg c,if_neg c,ZB,if_neg (by simp),ZB]
 unfold qc9
 rw[if_neg c]
def mnL:Rat->List Rat->Rat
 |m,[]=>m
 |m,x::xs=>mnL (if x<m then x else m) xs
def mxL:Rat->List Rat->Rat
 |m,[]=>m
 |m,x::xs=>mxL (if m<x then x else m) xs
def IsL:List qh->List Rat->Prop
 |[],[]=>True
 |f::l,q::r=>IsF f q/\IsL l r
 |_,_=>False
theorem IsL.get: ∀{l:List qh} {r:List Rat},IsL l r->l.length=r.length/\ ∀(i:Nat) (q:Rat),r[i]? =some q-> ∃f,l[i]? =some f/\IsF f q
 |[],[],_=>⟨rfl,fun i q h=>by simp at h⟩
 |f::l,q::r,h=>by
  obtain⟨d,j⟩:=h
  obtain⟨a,b⟩:=IsL.get j
  refine⟨by simp[a],fun i x hx=>?_⟩
  match i,hx with
  |0,hx=>
   simp at hx
   exact⟨f,rfl,hx▸d⟩
  |i+1,hx=>
   rw[YK]at hx⊢
   exact b i x hx
 |[],_::_,h=>h.elim
 |_::_,[],h=>h.elim
theorem qlZ {N:Nat} (hN:600000<N) {l:List qh} {r:List Rat} (u:IsL l r) {n:Nat} (j:n<=1900) (hr:r.length<=1000) (d: ∀x∈r,qaO x n): ∀(K i:Nat) (g:qh) (m:Rat),i<=r.length->r.length<K+i->IsF g m->qaO m n->
 ∃h:qh,kz N l K g.Num.s g.Num.w g.Den.s g.Den.w (i:Int)=some (h.Num.s,h.Num.w,h.Den.s,h.Den.w)/\IsF h (mnL m (r.drop i))
 |0,i,g,m,hi,hK,_,_=>by omega
 |K+1,i,g,m,hi,hK,ig,fm=>by
  obtain⟨ll,lg⟩:=u.get
  rw[kz]
  by_cases h:i<r.length
  ·obtain⟨x,e,ix⟩:=lg i r[i] (Ya h)
   have fx:=d r[i] (List.getElem_mem h)
   rw[if_pos (by omega),qx,e,ZB,YG h,mnL,zJ (by omega)]
   have ec:jd N x ⟨⟨g.Num.s,g.Num.w⟩,⟨g.Den.s,g.Den.w⟩⟩=some (if r[i]<m then-1 else if r[i]=m then 0 else 1):=qjT hN ix ig j fx fm
   rw[ec,ZB]
   by_cases c:r[i]<m
   ·rw[if_pos (qlU.2 c),if_pos c]
    exact qlZ hN u j hr d K (i+1) x r[i] (by omega) (by omega) ix fx
   rw[if_neg (fun y=>c (qlU.1 y)),if_neg c]
   exact qlZ hN u j hr d K (i+1) g m (by omega) (by omega) ig fm
  rw[if_neg (by omega),List.drop_eq_nil_of_le (by omega)]
  exact⟨g,rfl,ig⟩
theorem qdX {N:Nat} (hN:600000<N) {f:qh} {q:Rat} {l:List qh} {r:List Rat} (d:IsL (f::l) (q::r)) {n:Nat} (hn:n<=1900) (hr:r.length<=900) (j: ∀x∈q::r,qaO x n): ∃h,zb N (f::l)=some h/\IsF h (mnL q r):=by
 obtain⟨h,e,i⟩:=qlZ hN d hn (by simp;omega) j N 1 f q (by simp) (by simp;omega) d.1 (j q (by simp))
 refine⟨h,?_,i⟩
 unfold zb
 rw[if_neg (by simp;omega),ZB,yh,Yj,ZB]
 have u:=e
 rw[show((1:Nat):Int)=1 from rfl]at u
 rw[u,ZB]
theorem qlh {N:Nat} (hN:600000<N) {l:List qh} {r:List Rat} (u:IsL l r) {n:Nat} (j:n<=1900) (hr:r.length<=1000) (d: ∀x∈r,qaO x n): ∀(K i:Nat) (g:qh) (m:Rat),i<=r.length->r.length<K+i->IsF g m->qaO m n->
 ∃h:qh,ky N l K g.Num.s g.Num.w g.Den.s g.Den.w (i:Int)=some (h.Num.s,h.Num.w,h.Den.s,h.Den.w)/\IsF h (mxL m (r.drop i))
 |0,i,g,m,hi,hK,_,_=>by omega
 |K+1,i,g,m,hi,hK,ig,fm=>by
  obtain⟨ll,lg⟩:=u.get
  rw[ky]
  by_cases h:i<r.length
  ·obtain⟨x,e,ix⟩:=lg i r[i] (Ya h)
   have fx:=d r[i] (List.getElem_mem h)
   rw[if_pos (by omega),qx,e,ZB,YG h,mxL,zJ (by omega)]
   have ec:jd N x ⟨⟨g.Num.s,g.Num.w⟩,⟨g.Den.s,g.Den.w⟩⟩=some (if r[i]<m then-1 else if r[i]=m then 0 else 1):=qjT hN ix ig j fx fm
   rw[ec,ZB]
   by_cases c:m<r[i]
   ·rw[if_pos (qfA.2 c),if_pos c]
    exact qlh hN u j hr d K (i+1) x r[i] (by omega) (by omega) ix fx
   rw[if_neg (fun y=>c (qfA.1 y)),if_neg c]
   exact qlh hN u j hr d K (i+1) g m (by omega) (by omega) ig fm
  rw[if_neg (by omega),List.drop_eq_nil_of_le (by omega)]
  exact⟨g,rfl,ig⟩
theorem qdE {N:Nat} (hN:600000<N) {f:qh} {q:Rat} {l:List qh} {r:List Rat} (d:IsL (f::l) (q::r)) {n:Nat} (hn:n<=1900) (hr:r.length<=900) (j: ∀x∈q::r,qaO x n): ∃h,kT N (f::l)=some h/\IsF h (mxL q r):=by
 obtain⟨h,e,i⟩:=qlh hN d hn (by simp;omega) j N 1 f q (by simp) (by simp;omega) d.1 (j q (by simp))
 refine⟨h,?_,i⟩
 unfold kT
 rw[if_neg (by simp;omega),ZB,yh,Yj,ZB]
 have u:=e
 rw[show((1:Nat):Int)=1 from rfl]at u
 rw[u,ZB]
theorem qql {N:Nat} (hN:600000<N) {p q:Rat} {k:Nat} (d:0<k) (j:k<=4000) (hp:Sml p k) (hq:Sml q k):qdp N (T p) (T q)=some (T (if q<p then q else p)):=by
 unfold qdp
 rw[qfX hN d j hp hq,ZB]
 by_cases h:q<p
 ·rw[if_neg (fun c=>absurd h (Rat.not_lt.2 (qgq.1 c))),if_pos h]
 rw[if_pos (qgq.2 (Rat.not_lt.1 h)),if_neg h]
theorem qqm {N:Nat} (hN:600000<N) {p q:Rat} {k:Nat} (d:0<k) (j:k<=4000) (hp:Sml p k) (hq:Sml q k):qdB N (T p) (T q)=some (T (if p<q then q else p)):=by
 unfold qdB
 rw[qfX hN d j hp hq,ZB]
 by_cases h:p<q
 ·rw[if_neg (fun c=>absurd h (Rat.not_lt.2 (qpt.1 c))),if_pos h]
 rw[if_pos (qpt.2 (Rat.not_lt.1 h)),if_neg h]
theorem qmx {N:Nat} (hN:600000<N) {r:List Rat} (hr:r.length<=1000) {k:Nat} (d:0<k) (j:k<=4000) (u: ∀x∈r,Sml x k): ∀(K i:Nat) (a b:Rat),i<=r.length->r.length<K+i->Sml a k->Sml b k->
 yY N (r.map T) K (T a) (T b) (i:Int)=some (T (mnL a (r.drop i)),T (mxL b (r.drop i)))
 |0,i,a,b,hi,hK,_,_=>by omega
 |K+1,i,a,b,hi,hK,ha,hb=>by
  rw[yY]
  by_cases h:i<r.length
  ·have fx:=u r[i] (List.getElem_mem h)
   rw[if_pos (by rw[List.length_map];omega),qx,YA,Ya h,ZM,ZB,qql hN d j ha fx,ZB,qqm hN d j hb fx,ZB,YG h,mnL,mxL,zJ (by omega)]
   exact qmx hN hr d j u K (i+1) _ _ (by omega) (by omega) (by split<;>assumption) (by split<;>assumption)
  rw[if_neg (by rw[List.length_map];omega),List.drop_eq_nil_of_le (by omega)]
  rfl
theorem qmy {N:Nat} (hN:600000<N) {q:Rat} {r:List Rat} (u:r.length<=900) {k:Nat} (h:0<k) (j:k<=4000) (d: ∀x∈q::r,Sml x k):qbz N ((q::r).map T)=some ⟨T (mnL q r),T (mxL q r)⟩:=by
 have e:=qmx hN (r:=q::r) (by simp;omega) h j d N 1 q q (by simp) (by simp;omega) (d q (by simp)) (d q (by simp))
 rw[show((1:Nat):Int)=1 from rfl]at e
 unfold qbz
 rw[yh,List.map_cons,Yj,ZB,<-List.map_cons,e,ZB]
 rfl
theorem qak {N:Nat} (hN:600000<N) {p q:Rat} (hp:Sml p 9000) (hq:Sml q 9000): ∃f g,jM N [T p,T q]=some [f,g]/\IsF f p/\IsF g q:=by
 obtain⟨f,j,u⟩:=qe2 hN hp
 obtain⟨g,h,d⟩:=qe2 hN hq
 refine⟨f,g,?_,u,d⟩
 obtain⟨K,hK⟩: ∃K,N=K+1+1+1:=⟨N-3,by omega⟩
 unfold jM
 rw[show mk 64 (([T p,T q].length:Nat):Int) (⟨⟨0,[]⟩,⟨0,[]⟩⟩:qh)=some [⟨⟨0,[]⟩,⟨0,[]⟩⟩,⟨⟨0,[]⟩,⟨0,[]⟩⟩]by unfold mk;rw[if_pos (by simp)];rfl,ZB]
 have L:zM N [T p,T q] (K+1+1+1) [⟨⟨0,[]⟩,⟨0,[]⟩⟩,⟨⟨0,[]⟩,⟨0,[]⟩⟩] 0=some [f,g]:=by
  rw[zM,if_pos (by simp),yh,Yj,ZB,j,ZB,yh,Yj,ZB,show(0:Int)=((0:Nat):Int)from rfl,vX (by simp),ZB,List.set_cons_zero,zJ (by omega),zM,if_pos (by simp),qx,YK,Yj,ZB,h,ZB,qx,YK,Yj,ZB,vX (by simp),ZB,List.set_cons_succ,List.set_cons_zero,zJ (by omega),zM,if_neg (by simp)]
 rw[show zM N [T p,T q] N [⟨⟨0,[]⟩,⟨0,[]⟩⟩,⟨⟨0,[]⟩,⟨0,[]⟩⟩] 0=zM N [T p,T q] (K+1+1+1) [⟨⟨0,[]⟩,⟨0,[]⟩⟩,⟨⟨0,[]⟩,⟨0,[]⟩⟩] 0 by rw[<-hK],L,ZB]
theorem qg2 {N:Nat} (hN:600000<N) {f g:qh} {p q:Rat} (j:IsF f p) (d:IsF g q) (u:qaO p 3900) (h:qaO q 3900):xD N f g=some (if qin p=true\/qin q=true then(⟨[],[]⟩,4)else(⟨T p,T q⟩,0)):=by
 unfold xD
 rw[qku hN j u,ZB,qku hN d h]
 cases h1:qin p with
 |true=>rw[if_pos rfl,ZB,if_pos rfl,if_pos (.inl rfl)]
 |false=>
  rw[if_neg (by simp),ZB,ZB]
  cases h2:qin q with
  |true=>rw[if_pos rfl,if_pos (.inr rfl)]
  |false=>rw[if_neg (by simp),qmp hN j u,ZB,qmp hN d h,ZB,if_neg (by simp)]
theorem qjF: ∀(r:List Rat) (m:Rat),mnL m r=m\/mnL m r∈r
 |[],m=> .inl rfl
 |x::r,m=>by
  rw[mnL]
  by_cases h:x<m
  ·rw[if_pos h]
   rcases qjF r x with e|e
   ·rw[e];simp
   exact .inr (List.mem_cons_of_mem _ e)
  rw[if_neg h]
  rcases qjF r m with e|e
  ·exact .inl e
  exact .inr (List.mem_cons_of_mem _ e)
theorem qji: ∀(r:List Rat) (m:Rat),mxL m r=m\/mxL m r∈r
 |[],m=> .inl rfl
 |x::r,m=>by
  rw[mxL]
  by_cases h:m<x
  ·rw[if_pos h]
   rcases qji r x with e|e
   ·rw[e];simp
   exact .inr (List.mem_cons_of_mem _ e)
  rw[if_neg h]
  rcases qji r m with e|e
  ·exact .inl e
  exact .inr (List.mem_cons_of_mem _ e)
theorem qbd {P:Rat->Prop} {m:Rat} {r:List Rat} (h: ∀x∈m::r,P x):P (mnL m r):=by
 rcases qjF r m with e|e
 ·rw[e];exact h m (by simp)
 exact h _ (List.mem_cons_of_mem _ e)
theorem qba {P:Rat->Prop} {m:Rat} {r:List Rat} (h: ∀x∈m::r,P x):P (mxL m r):=by
 rcases qji r m with e|e
 ·rw[e];exact h m (by simp)
 exact h _ (List.mem_cons_of_mem _ e)
def qby (F:Rat->Rat->Rat) (p p' q q':Rat):qo:=⟨T (mnL (F p q) [F p q',F p' q,F p' q']),T (mxL (F p q) [F p q',F p' q,F p' q'])⟩
theorem qpN {N:Nat} (hN:600000<N) {p p' q q':Rat} (hp:Sml p 600) (hp':Sml p' 600) (hq:Sml q 600) (hq':Sml q' 600) (l1: ∀x∈[p+q,p+q',p'+q,p'+q'],Sml x 600):
 yM N ⟨T p,T p'⟩ ⟨T q,T q'⟩=some (qby (fun x y=>x+y) p p' q q',0):=by
 have fp:=(zU (n:=64) hp (by omega) (by omega))
 have a0:=(zU (n:=64) hp' (by omega) (by omega))
 have fq:=(zU (n:=64) hq (by omega) (by omega))
 have a1:=(zU (n:=64) hq' (by omega) (by omega))
 obtain⟨f,h,e1,i,i'⟩:=qak hN (hp.mono (show 600<=9000 by omega)) (hp'.mono (show 600<=9000 by omega))
 obtain⟨g,u,e2,j,j'⟩:=qak hN (hq.mono (show 600<=9000 by omega)) (hq'.mono (show 600<=9000 by omega))
 obtain⟨a,ea,ia⟩:=qfP hN i j (n:=64) (by omega) fp fq
 obtain⟨b,eb,ib⟩:=qfP hN i j' (n:=64) (by omega) fp a1
 obtain⟨c,ec,ic⟩:=qfP hN i' j (n:=64) (by omega) a0 fq
 obtain⟨d,ed,id⟩:=qfP hN i' j' (n:=64) (by omega) a0 a1
 obtain⟨K,hK⟩: ∃K,N=K+1+1+1:=⟨N-3,by omega⟩
 have L1: ∀(x y z:qh) (l:List qh),l.length<=10->yN N x g=some y->yN N x u=some z->qH N x [g,u] N l 0=some (l++[y]++[z]):=by
  intro x y z l hl h1 h2
  have:qH N x [g,u] (K+1+1+1) l 0=some (l++[y]++[z]):=by
   rw[qH,if_pos (by simp),yh,Yj,ZB,h1,ZB,qaz (by simp;omega) (by simp;omega),ZB,show w64 (0+1)=((1:Nat):Int)from rfl,qH,if_pos (by simp),qx,YK,Yj,ZB,h2,ZB,qaz (by simp;omega) (by simp;omega),ZB,show w64 (((1:Nat):Int)+1)=2 from rfl,qH,if_neg (by simp)]
  rw[show qH N x [g,u] N l 0=qH N x [g,u] (K+1+1+1) l 0 by rw[<-hK],this]
 have L0:qI N ⟨T q,T q'⟩ [f,h] N [] 0=some [a,b,c,d]:=by
  have:qI N ⟨T q,T q'⟩ [f,h] (K+1+1+1) [] 0=some [a,b,c,d]:=by
   rw[qI,if_pos (by simp),yh,Yj,ZB,e2,ZB,L1 f a b [] (by simp) ea eb,ZB,show w64 (0+1)=((1:Nat):Int)from rfl,qI,if_pos (by simp),qx,YK,Yj,ZB,e2,ZB,L1 h c d _ (by simp) ec ed,ZB,show w64 (((1:Nat):Int)+1)=2 from rfl,qI,if_neg (by simp)]
   rfl
  rw[show qI N ⟨T q,T q'⟩ [f,h] N [] 0=qI N ⟨T q,T q'⟩ [f,h] (K+1+1+1) [] 0 by rw[<-hK],this]
 have hl:IsL [a,b,c,d] [p+q,p+q',p'+q,p'+q']:=⟨ia,ib,ic,id,trivial⟩
 have hf: ∀x∈[p+q,p+q',p'+q,p'+q'],qaO x 64:=fun x hx=>zU (l1 x hx) (by omega) (by omega)
 obtain⟨m,em,im⟩:=qdX hN hl (n:=64) (by omega) (by simp) hf
 obtain⟨w,ew,iw⟩:=qdE hN hl (n:=64) (by omega) (by simp) hf
 unfold yM
 rw[e1,ZB,L0,ZB,em,ZB,ew,ZB,qg2 hN im iw ((qbd hf).mono (by omega)) ((qba hf).mono (by omega)),ZB,if_neg]
 ·rfl
 rw[qaQ (qbd l1),qaQ (qba l1)]
 simp
theorem qqq {N:Nat} (hN:600000<N) {p p' q q':Rat} (hp:Sml p 600) (hp':Sml p' 600) (hq:Sml q 600) (hq':Sml q' 600) (l1: ∀x∈[p-q,p-q',p'-q,p'-q'],Sml x 600):
 yP N ⟨T p,T p'⟩ ⟨T q,T q'⟩=some (qby (fun x y=>x-y) p p' q q',0):=by
 have fp:=(zU (n:=64) hp (by omega) (by omega))
 have a0:=(zU (n:=64) hp' (by omega) (by omega))
 have fq:=(zU (n:=64) hq (by omega) (by omega))
 have a1:=(zU (n:=64) hq' (by omega) (by omega))
 obtain⟨f,h,e1,i,i'⟩:=qak hN (hp.mono (show 600<=9000 by omega)) (hp'.mono (show 600<=9000 by omega))
 obtain⟨g,u,e2,j,j'⟩:=qak hN (hq.mono (show 600<=9000 by omega)) (hq'.mono (show 600<=9000 by omega))
 obtain⟨a,ea,ia⟩:=qhp hN i j (n:=64) (by omega) fp fq
 obtain⟨b,eb,ib⟩:=qhp hN i j' (n:=64) (by omega) fp a1
 obtain⟨c,ec,ic⟩:=qhp hN i' j (n:=64) (by omega) a0 fq
 obtain⟨d,ed,id⟩:=qhp hN i' j' (n:=64) (by omega) a0 a1
 obtain⟨K,hK⟩: ∃K,N=K+1+1+1:=⟨N-3,by omega⟩
 have L1: ∀(x y z:qh) (l:List qh),l.length<=10->xH N x g=some y->xH N x u=some z->qF N x [g,u] N l 0=some (l++[y]++[z]):=by
  intro x y z l hl h1 h2
  have:qF N x [g,u] (K+1+1+1) l 0=some (l++[y]++[z]):=by
   rw[qF,if_pos (by simp),yh,Yj,ZB,h1,ZB,qaz (by simp;omega) (by simp;omega),ZB,show w64 (0+1)=((1:Nat):Int)from rfl,qF,if_pos (by simp),qx,YK,Yj,ZB,h2,ZB,qaz (by simp;omega) (by simp;omega),ZB,show w64 (((1:Nat):Int)+1)=2 from rfl,qF,if_neg (by simp)]
  rw[show qF N x [g,u] N l 0=qF N x [g,u] (K+1+1+1) l 0 by rw[<-hK],this]
 have L0:qM N ⟨T q,T q'⟩ [f,h] N [] 0=some [a,b,c,d]:=by
  have:qM N ⟨T q,T q'⟩ [f,h] (K+1+1+1) [] 0=some [a,b,c,d]:=by
   rw[qM,if_pos (by simp),yh,Yj,ZB,e2,ZB,L1 f a b [] (by simp) ea eb,ZB,show w64 (0+1)=((1:Nat):Int)from rfl,qM,if_pos (by simp),qx,YK,Yj,ZB,e2,ZB,L1 h c d _ (by simp) ec ed,ZB,show w64 (((1:Nat):Int)+1)=2 from rfl,qM,if_neg (by simp)]
   rfl
  rw[show qM N ⟨T q,T q'⟩ [f,h] N [] 0=qM N ⟨T q,T q'⟩ [f,h] (K+1+1+1) [] 0 by rw[<-hK],this]
 have hl:IsL [a,b,c,d] [p-q,p-q',p'-q,p'-q']:=⟨ia,ib,ic,id,trivial⟩
 have hf: ∀x∈[p-q,p-q',p'-q,p'-q'],qaO x 64:=fun x hx=>zU (l1 x hx) (by omega) (by omega)
 obtain⟨m,em,im⟩:=qdX hN hl (n:=64) (by omega) (by simp) hf
 obtain⟨w,ew,iw⟩:=qdE hN hl (n:=64) (by omega) (by simp) hf
 unfold yP
 rw[e1,ZB,L0,ZB,em,ZB,ew,ZB,qg2 hN im iw ((qbd hf).mono (by omega)) ((qba hf).mono (by omega)),ZB,if_neg]
 ·rfl
 rw[qaQ (qbd l1),qaQ (qba l1)]
 simp
theorem qpO {N:Nat} (hN:600000<N) {p p' q q':Rat} (hp:Sml p 600) (hp':Sml p' 600) (hq:Sml q 600) (hq':Sml q' 600) (l1: ∀x∈[p*q,p*q',p'*q,p'*q'],Sml x 600):
 yJ N ⟨T p,T p'⟩ ⟨T q,T q'⟩=some (qby (fun x y=>x*y) p p' q q',0):=by
 have fp:=(zU (n:=64) hp (by omega) (by omega))
 have a0:=(zU (n:=64) hp' (by omega) (by omega))
 have fq:=(zU (n:=64) hq (by omega) (by omega))
 have a1:=(zU (n:=64) hq' (by omega) (by omega))
 obtain⟨f,h,e1,i,i'⟩:=qak hN (hp.mono (show 600<=9000 by omega)) (hp'.mono (show 600<=9000 by omega))
 obtain⟨g,u,e2,j,j'⟩:=qak hN (hq.mono (show 600<=9000 by omega)) (hq'.mono (show 600<=9000 by omega))
 obtain⟨a,ea,ia⟩:=qge hN i j (n:=64) (by omega) fp fq
 obtain⟨b,eb,ib⟩:=qge hN i j' (n:=64) (by omega) fp a1
 obtain⟨c,ec,ic⟩:=qge hN i' j (n:=64) (by omega) a0 fq
 obtain⟨d,ed,id⟩:=qge hN i' j' (n:=64) (by omega) a0 a1
 obtain⟨K,hK⟩: ∃K,N=K+1+1+1:=⟨N-3,by omega⟩
 have L1: ∀(x y z:qh) (l:List qh),l.length<=10->yK N x g=some y->yK N x u=some z->qG N x [g,u] N l 0=some (l++[y]++[z]):=by
  intro x y z l hl h1 h2
  have:qG N x [g,u] (K+1+1+1) l 0=some (l++[y]++[z]):=by
   rw[qG,if_pos (by simp),yh,Yj,ZB,h1,ZB,qaz (by simp;omega) (by simp;omega),ZB,show w64 (0+1)=((1:Nat):Int)from rfl,qG,if_pos (by simp),qx,YK,Yj,ZB,h2,ZB,qaz (by simp;omega) (by simp;omega),ZB,show w64 (((1:Nat):Int)+1)=2 from rfl,qG,if_neg (by simp)]
  rw[show qG N x [g,u] N l 0=qG N x [g,u] (K+1+1+1) l 0 by rw[<-hK],this]
 have L0:qL N ⟨T q,T q'⟩ [f,h] N [] 0=some [a,b,c,d]:=by
  have:qL N ⟨T q,T q'⟩ [f,h] (K+1+1+1) [] 0=some [a,b,c,d]:=by
   rw[qL,if_pos (by simp),yh,Yj,ZB,e2,ZB,L1 f a b [] (by simp) ea eb,ZB,show w64 (0+1)=((1:Nat):Int)from rfl,qL,if_pos (by simp),qx,YK,Yj,ZB,e2,ZB,L1 h c d _ (by simp) ec ed,ZB,show w64 (((1:Nat):Int)+1)=2 from rfl,qL,if_neg (by simp)]
   rfl
  rw[show qL N ⟨T q,T q'⟩ [f,h] N [] 0=qL N ⟨T q,T q'⟩ [f,h] (K+1+1+1) [] 0 by rw[<-hK],this]
 have hl:IsL [a,b,c,d] [p*q,p*q',p'*q,p'*q']:=⟨ia,ib,ic,id,trivial⟩
 have hf: ∀x∈[p*q,p*q',p'*q,p'*q'],qaO x 64:=fun x hx=>zU (l1 x hx) (by omega) (by omega)
 obtain⟨m,em,im⟩:=qdX hN hl (n:=64) (by omega) (by simp) hf
 obtain⟨w,ew,iw⟩:=qdE hN hl (n:=64) (by omega) (by simp) hf
 unfold yJ
 rw[e1,ZB,L0,ZB,em,ZB,ew,ZB,qg2 hN im iw ((qbd hf).mono (by omega)) ((qba hf).mono (by omega)),ZB,if_neg]
 ·rfl
 rw[qaQ (qbd l1),qaQ (qba l1)]
 simp
theorem qp5 {N:Nat} (hN:600000<N) {p p' q q':Rat} (hp:Sml p 600) (hp':Sml p' 600) (hq:Sml q 600) (hq':Sml q' 600) (h0:q≠0) (h1:q'≠0) (l1: ∀x∈[p/q,p/q',p'/q,p'/q'],Sml x 600):
 yO N ⟨T p,T p'⟩ ⟨T q,T q'⟩=some (qby (fun x y=>x/y) p p' q q',0):=by
 have fp:=(zU (n:=64) hp (by omega) (by omega))
 have a0:=(zU (n:=64) hp' (by omega) (by omega))
 have fq:=(zU (n:=64) hq (by omega) (by omega))
 have a1:=(zU (n:=64) hq' (by omega) (by omega))
 obtain⟨f,h,e1,i,i'⟩:=qak hN (hp.mono (show 600<=9000 by omega)) (hp'.mono (show 600<=9000 by omega))
 obtain⟨g,u,e2,j,j'⟩:=qak hN (hq.mono (show 600<=9000 by omega)) (hq'.mono (show 600<=9000 by omega))
 obtain⟨a,ea,ia⟩:=qhh hN i j (n:=64) (by omega) (by omega) fp fq h0
 obtain⟨b,eb,ib⟩:=qhh hN i j' (n:=64) (by omega) (by omega) fp a1 h1
 obtain⟨c,ec,ic⟩:=qhh hN i' j (n:=64) (by omega) (by omega) a0 fq h0
 obtain⟨d,ed,id⟩:=qhh hN i' j' (n:=64) (by omega) (by omega) a0 a1 h1
 obtain⟨K,hK⟩: ∃K,N=K+1+1+1:=⟨N-3,by omega⟩
 have L1: ∀(x y z:qh) (l:List qh),l.length<=10->xL N x g=some y->xL N x u=some z->qK N x [g,u] N l 0=some (l++[y]++[z]):=by
  intro x y z l hl h1 h2
  have:qK N x [g,u] (K+1+1+1) l 0=some (l++[y]++[z]):=by
   rw[qK,if_pos (by simp),yh,Yj,ZB,h1,ZB,qaz (by simp;omega) (by simp;omega),ZB,show w64 (0+1)=((1:Nat):Int)from rfl,qK,if_pos (by simp),qx,YK,Yj,ZB,h2,ZB,qaz (by simp;omega) (by simp;omega),ZB,show w64 (((1:Nat):Int)+1)=2 from rfl,qK,if_neg (by simp)]
  rw[show qK N x [g,u] N l 0=qK N x [g,u] (K+1+1+1) l 0 by rw[<-hK],this]
 have L0:qJ N ⟨T q,T q'⟩ [f,h] N [] 0=some [a,b,c,d]:=by
  have:qJ N ⟨T q,T q'⟩ [f,h] (K+1+1+1) [] 0=some [a,b,c,d]:=by
   rw[qJ,if_pos (by simp),yh,Yj,ZB,e2,ZB,L1 f a b [] (by simp) ea eb,ZB,show w64 (0+1)=((1:Nat):Int)from rfl,qJ,if_pos (by simp),qx,YK,Yj,ZB,e2,ZB,L1 h c d _ (by simp) ec ed,ZB,show w64 (((1:Nat):Int)+1)=2 from rfl,qJ,if_neg (by simp)]
   rfl
  rw[show qJ N ⟨T q,T q'⟩ [f,h] N [] 0=qJ N ⟨T q,T q'⟩ [f,h] (K+1+1+1) [] 0 by rw[<-hK],this]
 have hl:IsL [a,b,c,d] [p/q,p/q',p'/q,p'/q']:=⟨ia,ib,ic,id,trivial⟩
 have hf: ∀x∈[p/q,p/q',p'/q,p'/q'],qaO x 64:=fun x hx=>zU (l1 x hx) (by omega) (by omega)
 obtain⟨m,em,im⟩:=qdX hN hl (n:=64) (by omega) (by simp) hf
 obtain⟨w,ew,iw⟩:=qdE hN hl (n:=64) (by omega) (by simp) hf
 unfold yO
 rw[e1,ZB,L0,ZB,em,ZB,ew,ZB,qg2 hN im iw ((qbd hf).mono (by omega)) ((qba hf).mono (by omega)),ZB,if_neg]
 ·rfl
 rw[qaQ (qbd l1),qaQ (qba l1)]
 simp
end Go.Av
end
section
namespace Go.Av
theorem ql7 (l:List Str) (d:l.length<=1000): ∀(K i:Nat),i<=l.length->l.length<K+i->yX l K (i:Int)=some (if(l.drop i).any (fun s=>decide (60<s.length))=true then .inr true else .inl ())
 |0,i,hi,hK=>by omega
 |K+1,i,hi,hK=>by
  rw[yX]
  by_cases h:i<l.length
  ·rw[if_pos (by omega),qx,Ya h,ZB,YG h,List.any_cons,zJ (by omega),ql7 l d K (i+1) (by omega) (by omega)]
   by_cases c:60<l[i].length
   ·rw[if_pos (by omega),decide_eq_true c,Bool.true_or,if_pos rfl]
   rw[if_neg (by omega),decide_eq_false c,Bool.false_or]
  rw[if_neg (by omega),List.drop_eq_nil_of_le (by omega)]
  rfl
theorem qqe {N:Nat} {l:List Str} (d:l.length<=1000) (hN:2000<N):qcr N l=some (l.any fun s=>decide (60<s.length)):=by
 unfold qcr
 have e:=ql7 l d N 0 (by omega) (by omega)
 rw[show((0:Nat):Int)=0 from rfl,YR]at e
 rw[e,ZB]
 cases l.any fun s=>decide (60<s.length)<;>rfl
theorem qjc {N:Nat} {e:Int} (h:e≠0) (w:qo):zl N ⟨[],[]⟩ e e w=some true:=by
 unfold zl
 rw[if_neg h,ZB,if_pos (by simp[h])]
 simp
theorem qjQ {N:Nat} (hN:100000<N) {p q:Rat} (hp:Sml p 600) (hq:Sml q 600):xX N ⟨T p,T q⟩=some 0:=by
 obtain⟨K,hK⟩: ∃K,N=K+1+1+1:=⟨N-3,by omega⟩
 have h:=qmw hN hp (by omega)
 have d:=qmw hN hq (by omega)
 rw[qaQ hp,if_neg (by simp)]at h
 rw[qaQ hq,if_neg (by simp)]at d
 have L:ze N [T p,T q] (K+1+1+1) 0=some (.inl ()):=by
  rw[ze,if_pos (by simp),yh,Yj,ZB,h,ZB,if_neg (by simp),show w64 (0+1)=((1:Nat):Int)from rfl,ze,if_pos (by simp),qx,YK,Yj,ZB,d,ZB,if_neg (by simp),show w64 (((1:Nat):Int)+1)=2 from rfl,ze,if_neg (by simp)]
 unfold xX qa9
 rw[show ze N [T p,T q] N 0=ze N [T p,T q] (K+1+1+1) 0 by rw[<-hK],L]
 rfl
theorem qdR {N:Nat} (hN:100000<N) {p q:Rat} (hp:Sml p 600) (hq:Sml q 600):zl N ⟨T p,T q⟩ 0 0 ⟨T p,T q⟩=some true:=by
 unfold zl
 rw[if_pos rfl,qjQ hN hp hq,ZB,ZB,if_neg (by simp),if_pos rfl,ZB]
 simp
theorem qlo: ∀(r:List Rat) (m:Rat),∀x∈m::r,mnL m r<=x
 |[],m=>by simp[mnL]
 |y::r,m=>by
  intro x hx
  rw[mnL]
  by_cases h:y<m
  ·rw[if_pos h]
   have d:=qlo r y
   rcases List.mem_cons.1 hx with e|e
   ·rw[e]
    exact Rat.le_trans (d y (by simp)) (Rat.le_of_lt h)
   exact d x e
  rw[if_neg h]
  have d:=qlo r m
  rcases List.mem_cons.1 hx with e|e
  ·rw[e]
   exact d m (by simp)
  rcases List.mem_cons.1 e with e|e
  ·rw[e]
   exact Rat.le_trans (d m (by simp)) (Rat.not_lt.1 h)
  exact d x (List.mem_cons_of_mem _ e)
theorem qlm: ∀(r:List Rat) (m:Rat),∀x∈m::r,x<=mxL m r
 |[],m=>by simp[mxL]
 |y::r,m=>by
  intro x hx
  rw[mxL]
  by_cases h:m<y
  ·rw[if_pos h]
   have d:=qlm r y
   rcases List.mem_cons.1 hx with e|e
   ·rw[e]
    exact Rat.le_trans (Rat.le_of_lt h) (d y (by simp))
   exact d x e
  rw[if_neg h]
  have d:=qlm r m
  rcases List.mem_cons.1 hx with e|e
  ·rw[e]
   exact d m (by simp)
  rcases List.mem_cons.1 e with e|e
  ·rw[e]
   exact Rat.le_trans (Rat.not_lt.1 h) (d m (by simp))
  exact d x (List.mem_cons_of_mem _ e)
theorem qn0 {m v:Rat} {r:List Rat} (h: ∀x∈m::r,v<=x) (d:v∈m::r):mnL m r=v:=Rat.le_antisymm (qlo r m v d) (qbd h)
theorem qoM {m v:Rat} {r:List Rat} (h: ∀x∈m::r,x<=v) (d:v∈m::r):mxL m r=v:=Rat.le_antisymm (qba h) (qlm r m v d)
theorem qn4 {p p' q q':Rat} (h:p<=p') (k:q<=q'):qby (fun x y=>x+y) p p' q q'=⟨T (p+q),T (p'+q')⟩:=by
 have d:p+q<=p+q':=Rat.add_le_add_left.2 k
 have u:p'+q<=p'+q':=Rat.add_le_add_left.2 k
 have a3:p+q<=p'+q:=Rat.add_le_add_right.2 h
 have j:p+q'<=p'+q':=Rat.add_le_add_right.2 h
 unfold qby
 rw[qn0 (v:=p+q) (by simp only[List.mem_cons,List.not_mem_nil,or_false,forall_eq_or_imp,forall_eq];exact⟨Rat.le_refl,d,a3,Rat.le_trans d j⟩) (by simp),qoM (v:=p'+q') (by simp only[List.mem_cons,List.not_mem_nil,or_false,forall_eq_or_imp,forall_eq];exact⟨Rat.le_trans d j,j,u,Rat.le_refl⟩) (by simp)]
theorem qo0 {p p' q q':Rat} (h:p<=p') (k:q<=q'):qby (fun x y=>x-y) p p' q q'=⟨T (p-q'),T (p'-q)⟩:=by
 have k': -q'<= -q:=Rat.neg_le_neg k
 have d:p-q'<=p-q:=by rw[Rat.sub_eq_add_neg,Rat.sub_eq_add_neg];exact Rat.add_le_add_left.2 k'
 have u:p'-q'<=p'-q:=by rw[Rat.sub_eq_add_neg,Rat.sub_eq_add_neg];exact Rat.add_le_add_left.2 k'
 have j:p-q<=p'-q:=by rw[Rat.sub_eq_add_neg,Rat.sub_eq_add_neg];exact Rat.add_le_add_right.2 h
 have a4:p-q'<=p'-q':=by rw[Rat.sub_eq_add_neg,Rat.sub_eq_add_neg];exact Rat.add_le_add_right.2 h
 unfold qby
 rw[qn0 (v:=p-q') (by simp only[List.mem_cons,List.not_mem_nil,or_false,forall_eq_or_imp,forall_eq];exact⟨d,Rat.le_refl,Rat.le_trans d j,a4⟩) (by simp),qoM (v:=p'-q) (by simp only[List.mem_cons,List.not_mem_nil,or_false,forall_eq_or_imp,forall_eq];exact⟨j,Rat.le_trans d j,Rat.le_refl,u⟩) (by simp)]
theorem qo8 {q:Rat}:0<q.num↔0<q:=by
 have d:=Rat.num_nonneg (q:=q)
 have j:=Rat.num_eq_zero (q:=q)
 constructor
 ·intro h
  exact Rat.lt_of_le_of_ne (d.1 (by omega)) (fun e=>by have:=j.2 e.symm;omega)
 intro h
 have h3:=d.2 (Rat.le_of_lt h)
 have u:q.num≠0:=fun e=>Rat.ne_of_gt h (j.1 e)
 omega
theorem sml0 {k:Nat} (d:0<k):Sml 0 k:=⟨(qaq d).2 (by exact Nat.pos_of_ne_zero (by have:=Nat.pow_pos (n:=k) (show 0<10 by decide);omega)),(qaq d).2 (Nat.one_lt_pow (by omega) (by decide))⟩
theorem qkS {f:qh} {q:Rat} (h:IsF f q):qab f=some (if q.num<0 then-1 else if q.num=0 then 0 else 1):=by
 unfold qab
 rw[qdK h.1,ZB]
theorem qjO {q:Rat}:((if q.num<0 then-1 else if q.num=0 then 0 else 1:Int)<=0)↔q<=0:=by
 rw[<-Rat.not_lt,<-qo8]
 constructor
 ·intro h c
  rw[if_neg (by omega),if_neg (by omega)]at h
  omega
 intro h
 split
 ·omega
 rw[if_pos (by omega)]
 omega
theorem ql5 {q:Rat}:((if q.num<0 then-1 else if q.num=0 then 0 else 1:Int)>=0)↔0<=q:=by
 rw[<-Rat.num_nonneg]
 constructor
 ·intro h
  by_cases c:q.num<0
  ·rw[if_pos c]at h
   omega
  omega
 intro h
 rw[if_neg (by omega)]
 split<;>omega
theorem qdu {a b:Rat} (h:Sml a 60) (d:Sml b 60) (j:b≠0):Sml (a/b) 600:=by
 rw[Rat.div_def]
 exact(qj0 (n:=7) (by omega) (h.mono (by omega)) ((ql9 d j).mono (by omega))).mono (by omega)
theorem qe7 {a b:Rat} (h:Sml a 60) (d:Sml b 60):Sml (a*b) 600:=(qj0 (n:=7) (by omega) (h.mono (by omega)) (d.mono (by omega))).mono (by omega)
theorem qgn {a b:Rat} (h:Sml a 60) (d:Sml b 60):Sml (a+b) 600:=(qjB (n:=7) (by omega) (h.mono (by omega)) (d.mono (by omega))).mono (by omega)
theorem qiP {a b:Rat} (h:Sml a 60) (d:Sml b 60):Sml (a-b) 600:=by
 rw[Rat.sub_eq_add_neg]
 exact qgn h (qju d)
theorem qpK {N:Nat} (hN:600000<N) {p q x:Rat} {k:Nat} (j:0<k) (hk:k<=4000) (hp:Sml p k) (hq:Sml q k) (u:Sml x k):qck N ⟨T p,T q⟩ (T x)=some (decide (p<=x/\x<=q)):=by
 unfold qck
 simp only
 rw[qfX hN j hk hp u,ZB,qfX hN j hk u hq,ZB]
 by_cases c:p<=x
 ·rw[if_pos (qgq.2 c),ZB]
  by_cases d:x<=q
  ·rw[decide_eq_true (qgq.2 d),decide_eq_true ⟨c,d⟩]
  rw[decide_eq_false (fun h=>d (qgq.1 h)),decide_eq_false (fun h=>d h.2)]
 rw[if_neg (fun h=>c (qgq.1 h)),ZB,decide_eq_false (fun h=>c h.1)]
section ops
variable {N:Nat} (hN:600000<N)
include hN
theorem qrk {a b:qo} (h1:a.Low.length<=10000) (h2:a.High.length<=10000) (h3:b.Low.length<=10000) (h4:b.High.length<=10000) {e:Int} (he:e=if qc9 a=0 then qc9 b else qc9 a) (h:e≠0):
 qaE N a b=some (⟨[],[]⟩,e)/\xQ N a b=some (⟨[],[]⟩,e)/\xO N a b=some (⟨[],[]⟩,e)/\qav N a b=some (⟨[],[]⟩,e)/\qeQ N a b=some (0,e):=by
 have u:=qaR hN h1 h2
 have j:=qaR hN h3 h4
 have d:=qdY (N:=N) (by omega) (qc9 a) (qc9 b)
 rw[<-he]at d
 refine⟨?_,?_,?_,?_,?_⟩
 ·unfold qaE jD
  rw[u,ZB,j,ZB,d,ZB,if_pos (by simp[h])]
  rfl
 ·unfold xQ jw
  rw[u,ZB,j,ZB,d,ZB,if_pos (by simp[h])]
  rfl
 ·unfold xO jC
  rw[u,ZB,j,ZB,d,ZB,if_pos (by simp[h])]
  rfl
 ·unfold qav
  rw[u,ZB,j,ZB,d,ZB,if_pos (by simp[h])]
 unfold qeQ
 rw[u,ZB,j,ZB,d,ZB,if_pos (by simp[h])]
variable {p p' q q':Rat} (hp:Sml p 60) (hp':Sml p' 60) (hq:Sml q 60) (hq':Sml q' 60) (cp:chk (T p)=0) (cp':chk (T p')=0) (cq:chk (T q)=0) (cq':chk (T q')=0) (hpp:p<=p') (hqq:q<=q')
include hp hp' hq hq' cp cp' cq cq' hpp hqq
theorem qg9:qD N ⟨T p,T p'⟩=some 0/\qD N ⟨T q,T q'⟩=some 0:=by
 have h:=qf5 hp
 have j:=qf5 hp'
 have u:=qf5 hq
 have d:=qf5 hq'
 rw[qaR hN (by simp only;omega) (by simp only;omega),qaR hN (by simp only;omega) (by simp only;omega),qjk cp cp',qjk cq cq',if_neg (Rat.not_lt.2 hpp),if_neg (Rat.not_lt.2 hqq)]
 exact⟨rfl,rfl⟩
theorem qq7:qaE N ⟨T p,T p'⟩ ⟨T q,T q'⟩=some (qby (fun x y=>x+y) p p' q q',0):=by
 obtain⟨h,d⟩:=qg9 hN hp hp' hq hq' cp cp' cq cq' hpp hqq
 have S: ∀a b:Rat,Sml a 60->Sml b 60->Sml (a+b) 600:=fun a b hA hB=>(qjB (n:=7) (by omega) (hA.mono (by omega)) (hB.mono (by omega))).mono (by omega)
 unfold qaE jD
 rw[h,ZB,d,ZB,qdY (by omega),if_pos rfl,ZB,if_neg (by simp),qpN hN (hp.mono (by omega)) (hp'.mono (by omega)) (hq.mono (by omega)) (hq'.mono (by omega)) (by simp only[List.mem_cons,List.not_mem_nil,or_false,forall_eq_or_imp,forall_eq];exact⟨S _ _ hp hq,S _ _ hp hq',S _ _ hp' hq,S _ _ hp' hq'⟩)]
 rfl
theorem qqf:xQ N ⟨T p,T p'⟩ ⟨T q,T q'⟩=some (qby (fun x y=>x-y) p p' q q',0):=by
 obtain⟨h,d⟩:=qg9 hN hp hp' hq hq' cp cp' cq cq' hpp hqq
 have S: ∀a b:Rat,Sml a 60->Sml b 60->Sml (a-b) 600:=fun a b hA hB=>by rw[Rat.sub_eq_add_neg];exact(qjB (n:=7) (by omega) (hA.mono (by omega)) ((qju hB).mono (by omega))).mono (by omega)
 unfold xQ jw
 rw[h,ZB,d,ZB,qdY (by omega),if_pos rfl,ZB,if_neg (by simp),qqq hN (hp.mono (by omega)) (hp'.mono (by omega)) (hq.mono (by omega)) (hq'.mono (by omega)) (by simp only[List.mem_cons,List.not_mem_nil,or_false,forall_eq_or_imp,forall_eq];exact⟨S _ _ hp hq,S _ _ hp hq',S _ _ hp' hq,S _ _ hp' hq'⟩)]
 rfl
theorem qpX:xO N ⟨T p,T p'⟩ ⟨T q,T q'⟩=some (qby (fun x y=>x*y) p p' q q',0):=by
 obtain⟨h,d⟩:=qg9 hN hp hp' hq hq' cp cp' cq cq' hpp hqq
 have S: ∀a b:Rat,Sml a 60->Sml b 60->Sml (a*b) 600:=fun a b hA hB=>(qj0 (n:=7) (by omega) (hA.mono (by omega)) (hB.mono (by omega))).mono (by omega)
 unfold xO jC
 rw[h,ZB,d,ZB,qdY (by omega),if_pos rfl,ZB,if_neg (by simp),qpO hN (hp.mono (by omega)) (hp'.mono (by omega)) (hq.mono (by omega)) (hq'.mono (by omega)) (by simp only[List.mem_cons,List.not_mem_nil,or_false,forall_eq_or_imp,forall_eq];exact⟨S _ _ hp hq,S _ _ hp hq',S _ _ hp' hq,S _ _ hp' hq'⟩)]
 rfl
theorem qqH:qav N ⟨T p,T p'⟩ ⟨T q,T q'⟩=some (if q<=0/\0<=q' then(⟨[],[]⟩,6)else(qby (fun x y=>x/y) p p' q q',0)):=by
 obtain⟨e1,e2⟩:=qg9 hN hp hp' hq hq' cp cp' cq cq' hpp hqq
 obtain⟨f,e3,i3⟩:=qe2 hN (hq.mono (show 60<=9000 by omega))
 obtain⟨g,e4,i4⟩:=qe2 hN (hq'.mono (show 60<=9000 by omega))
 unfold qav
 rw[e1,ZB,e2,ZB,qdY (by omega),if_pos rfl,ZB,if_neg (by simp)]
 simp only
 rw[e3,ZB,qkS i3,ZB,e4,ZB,qkS i4,ZB]
 by_cases c:q<=0/\0<=q'
 ·rw[if_pos (qjO.2 c.1),decide_eq_true (ql5.2 c.2),ZB,if_pos rfl,if_pos c]
 have j:q≠0:=fun e=>c ⟨by rw[e];exact Rat.le_refl,by rw[<-e];exact hqq⟩
 have u:q'≠0:=fun e=>c ⟨by rw[<-e];exact hqq,by rw[e];exact Rat.le_refl⟩
 have B:(if(if q.num<0 then-1 else if q.num=0 then 0 else 1:Int)<=0 then some (decide ((if q'.num<0 then-1 else if q'.num=0 then 0 else 1:Int)>=0))else some false)=some false:=by
  by_cases d:q<=0
  ·rw[if_pos (qjO.2 d),decide_eq_false (fun x=>c ⟨d,ql5.1 x⟩)]
  rw[if_neg (fun x=>d (qjO.1 x))]
 have S: ∀a b:Rat,Sml a 60->Sml b 60->b≠0->Sml (a/b) 600:=fun a b hA hB h=>qdu hA hB h
 rw[B,ZB,if_neg (by simp),if_neg c,qp5 hN (hp.mono (by omega)) (hp'.mono (by omega)) (hq.mono (by omega)) (hq'.mono (by omega)) j u (by simp only[List.mem_cons,List.not_mem_nil,or_false,forall_eq_or_imp,forall_eq];exact⟨S _ _ hp hq j,S _ _ hp hq' u,S _ _ hp' hq j,S _ _ hp' hq' u⟩)]
 rfl
end ops
theorem qf2 {N:Nat} (hN:600000<N) (a b:qo):qah N a b=some true:=by
 unfold qah
 rw[show awk=some true from rfl,ZB,if_neg (by simp),qqe (by simp) (by omega),ZB,ZB]
 cases u:[a.Low,a.High,b.Low,b.High].any fun s=>decide (60<s.length)with
 |true=>rw[if_pos rfl,ZB]
 |false=>
  have u: ∀s∈[a.Low,a.High,b.Low,b.High],s.length<=60:=fun s hs=>by
   have:=List.any_eq_false.1 u s hs
   simp at this
   exact this
  have w1:=u a.Low (by simp)
  have w2:=u a.High (by simp)
  have w3:=u b.Low (by simp)
  have w4:=u b.High (by simp)
  have d:100000<N:=by omega
  rw[if_neg (by simp),qff hN (by omega) (by omega),ZB,qff hN (by omega) (by omega),ZB,qpV (by omega),ZB,qaR hN (by omega) (by omega),ZB,ZB,if_neg (by simp)]
  by_cases hc:(if qc9 a=0 then qc9 b else qc9 a)=0
  ·have ca:qc9 a=0:=by
    by_cases c:qc9 a=0
    ·exact c
    rw[if_neg c]at hc
    exact hc
   have cb:qc9 b=0:=by rw[if_pos ca]at hc;exact hc
   obtain⟨p,p',rfl,hpp,hp,hp',cp,cp'⟩:=qjg (by omega) w1 w2 ca
   obtain⟨q,q',rfl,hqq,hq,hq',cq,cq'⟩:=qjg (by omega) w3 w4 cb
   have k1:=hp.mono (show 60<=600 by omega)
   have k2:=hp'.mono (show 60<=600 by omega)
   have h:=hq.mono (show 60<=600 by omega)
   have j:=hq'.mono (show 60<=600 by omega)
   rw[qq7 hN hp hp' hq hq' cp cp' cq cq' hpp hqq,ZB,qqf hN hp hp' hq hq' cp cp' cq cq' hpp hqq,ZB,qpX hN hp hp' hq hq' cp cp' cq cq' hpp hqq,ZB,qqH hN hp hp' hq hq' cp cp' cq cq' hpp hqq,ZB,hc,if_neg (by simp)]
   have eP:qcH N ⟨T p,T p'⟩ ⟨T q,T q'⟩=some ⟨T (p+q),T (p'+q')⟩:=by
    unfold qcH
    simp only
    rw[qjt hN (by omega) (by omega) k1 h,ZB,qjt hN (by omega) (by omega) k2 j,ZB]
   have eM:qbV N ⟨T p,T p'⟩ ⟨T q,T q'⟩=some ⟨T (p-q'),T (p'-q)⟩:=by
    unfold qbV
    simp only
    rw[qj7 hN (by omega) (by omega) k1 j,ZB,qj7 hN (by omega) (by omega) k2 h,ZB]
   have lT: ∀x∈[p*q,p*q',p'*q,p'*q'],Sml x 600:=by
    simp only[List.mem_cons,List.not_mem_nil,or_false,forall_eq_or_imp,forall_eq]
    exact⟨qe7 hp hq,qe7 hp hq',qe7 hp' hq,qe7 hp' hq'⟩
   have eT:qbO N ⟨T p,T p'⟩ ⟨T q,T q'⟩=some (qby (fun x y=>x*y) p p' q q'):=by
    unfold qbO
    simp only
    rw[qf0 hN (by omega) (by omega) k1 h,ZB,qf0 hN (by omega) (by omega) k1 j,ZB,qf0 hN (by omega) (by omega) k2 h,ZB,qf0 hN (by omega) (by omega) k2 j,ZB]
    have:=qmy hN (q:=p*q) (r:=[p*q',p'*q,p'*q']) (by simp) (k:=600) (by omega) (by omega) lT
    simp only[List.map_cons,List.map_nil]at this
    rw[this]
    rfl
   rw[eP,ZB,qn4 hpp hqq,qdR d (qgn hp hq) (qgn hp' hq'),ZB,if_neg (by simp),eM,ZB,qo0 hpp hqq,qdR d (qiP hp hq') (qiP hp' hq),ZB,if_neg (by simp),eT,ZB]
   rw[show zl N (qby (fun x y=>x*y) p p' q q') 0 0 (qby (fun x y=>x*y) p p' q q')=some true from qdR d (qbd lT) (qba lT),ZB,ZB,if_neg (by simp),show qck N ⟨T q,T q'⟩ [48]=some (decide (q<=0/\0<=q'))by rw[<-T0];exact qpK hN (by omega) (by omega) h j (sml0 (by omega)),ZB]
   by_cases c:q<=0/\0<=q'
   ·rw[if_pos c,if_pos (decide_eq_true c),qjc (by decide),ZB]
   have h0:q≠0:=fun e=>c ⟨by rw[e];exact Rat.le_refl,by rw[<-e];exact hqq⟩
   have h1:q'≠0:=fun e=>c ⟨by rw[<-e];exact hqq,by rw[e];exact Rat.le_refl⟩
   have lO: ∀x∈[p/q,p/q',p'/q,p'/q'],Sml x 600:=by
    simp only[List.mem_cons,List.not_mem_nil,or_false,forall_eq_or_imp,forall_eq]
    exact⟨qdu hp hq h0,qdu hp hq' h1,qdu hp' hq h0,qdu hp' hq' h1⟩
   have eO:qcE N ⟨T p,T p'⟩ ⟨T q,T q'⟩=some (qby (fun x y=>x/y) p p' q q'):=by
    unfold qcE
    simp only
    rw[qhg hN (by omega) (by omega) k1 h h0,ZB,qhg hN (by omega) (by omega) k1 j h1,ZB,qhg hN (by omega) (by omega) k2 h h0,ZB,qhg hN (by omega) (by omega) k2 j h1,ZB]
    have:=qmy hN (q:=p/q) (r:=[p/q',p'/q,p'/q']) (by simp) (k:=600) (by omega) (by omega) lO
    simp only[List.map_cons,List.map_nil]at this
    rw[this]
    rfl
   rw[if_neg c,if_neg (fun x=>c (of_decide_eq_true x)),eO,ZB]
   rw[show zl N (qby (fun x y=>x/y) p p' q q') 0 0 (qby (fun x y=>x/y) p p' q q')=some true from qdR d (qbd lO) (qba lO),ZB]
  obtain⟨e1,e2,e3,e4,_⟩:=qrk hN (a:=a) (b:=b) (by omega) (by omega) (by omega) (by omega) rfl hc
  rw[e1,ZB,e2,ZB,e3,ZB,e4,ZB,if_pos (by simp[hc])]
  simp only[qjc hc,ZB,if_true]
end Go.Av
end
