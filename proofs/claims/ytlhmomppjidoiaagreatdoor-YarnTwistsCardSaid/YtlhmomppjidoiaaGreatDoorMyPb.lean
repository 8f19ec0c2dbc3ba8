/-
  The reference's numerals.
-/
import Derived.Test.YtlhmomppjidoiaaGreatDoorMyPa
import Derived.Test.YtlhmomppjidoiaaGreatDoorAvPt
noncomputable section
set_option linter.unusedVariables false
set_option linter.unusedSimpArgs false
set_option maxRecDepth 100000
section
namespace Go.Av
theorem qbe {a b:Str} (h:a.length+b.length<=1000000000):cat a b=some (a++b):=by
 unfold cat
 rw[if_pos (by omega)]
theorem dcut {d:Nat} (h:d<10):cut ([48,49,50,51,52,53,54,55,56,57]:Str) (d:Int) (w64 ((d:Int)+1))=some [dch d]:=by
 rw[ko (by omega)]
 rcases(show d=0\/d=1\/d=2\/d=3\/d=4\/d=5\/d=6\/d=7\/d=8\/d=9 by omega)with e|e|e|e|e|e|e|e|e|e<;>subst e<;>decide
theorem tm10 (n:Nat):(n:Int).tmod 10=((n%10:Nat):Int):=by rw[Int.tmod_eq_emod_of_nonneg (by omega)];omega
theorem td10 (n:Nat):(n:Int).tdiv 10=((n/10:Nat):Int):=by rw[YF (by omega)];omega
theorem qfJ {least:Int} {K n:Nat} {s:Str} (j:n<9223372036854775808) (hs:s.length<=1000) (h:0<n\/(s.length:Int)<least):qO least (K+1) (n:Int) s=qO least K ((n/10:Nat):Int) (dch (n%10)::s):=by
 have d:(if(n:Int)>0 then some true else some (decide ((s.length:Int)<least)):Option Bool)=some true:=by
  by_cases c:(n:Int)>0
  ·rw[if_pos c]
  rw[if_neg c,decide_eq_true (by omega)]
 rw[qO,d,ZB,if_pos rfl,tm10,td10,dcut (by omega),ZB,qbe (by simp;omega),ZB,qh (by omega) (by omega)]
 rfl
theorem qfU {least:Int} {K:Nat} {s:Str} (h: ¬(s.length:Int)<least):qO least (K+1) 0 s=some s:=by
 rw[qO,if_neg (by omega),decide_eq_false h,ZB,if_neg (by simp)]
theorem qkx: ∀(k K n:Nat) (s:Str),n<10^k->s.length+k=9->k<K->qO 9 K (n:Int) s=some (qdC k n++s)
 |k,0,n,s,_,_,h=>by omega
 |0,K+1,n,s,hn,hs,h=>by
  simp at hn
  subst hn
  exact qfU (by omega)
 |k+1,K+1,n,s,hn,hs,h=>by
  have d:(10:Nat)^(k+1)<=10^9:=Nat.pow_le_pow_right (by omega) (by omega)
  rw[Nat.pow_succ]at hn
  rw[qfJ (by rw[Nat.pow_succ]at d;omega) (by omega) (.inr (by omega)),qkx k K (n/10) _ (by omega) (by simp;omega) (by omega),qdC,Yz]
  rfl
theorem qkF: ∀(k K n:Nat) (s:Str),0<n->n<10^k->n<9223372036854775808->s.length+k<=900->k<K->qO 1 K (n:Int) s=some (Lib.decDigits n++s)
 |k,0,n,s,_,_,_,_,h=>by omega
 |0,K+1,n,s,h0,hn,_,hs,h=>by simp at hn;omega
 |k+1,K+1,n,s,h0,hn,h63,hs,h=>by
  rw[Nat.pow_succ]at hn
  rw[qfJ h63 (by omega) (.inl h0)]
  by_cases c:n<10
  ·obtain⟨K2,rfl⟩: ∃K2,K=K2+1:=⟨K-1,by omega⟩
   rw[show n/10=0 by omega,zW c,show n%10=n by omega]
   exact qfU (by simp;omega)
  rw[qkF k K (n/10) _ (by omega) (by omega) (by omega) (by simp;omega) (by omega),qeM c,Yz]
  rfl
theorem qne {N n:Nat} (hN:100<N) (h:n<1000000000):zC N (n:Int) 9=some (qdC 9 n):=by
 unfold zC
 rw[qkx 9 N n [] h rfl (by omega),ZB,YQ]
theorem qgU {N n:Nat} (hN:100<N) (h:n<9223372036854775808):zC N (n:Int) 1=some (Lib.decDigits n):=by
 unfold zC
 rcases Nat.eq_zero_or_pos n with e|e
 ·subst e
  obtain⟨K,rfl⟩: ∃K,N=K+1+1:=⟨N-2,by omega⟩
  have j:=qfJ (least:=1) (K:=K+1) (n:=0) (s:=[]) (by omega) (by simp) (.inr (by simp))
  rw[j,Nat.zero_div]
  have d:=qfU (least:=1) (K:=K) (s:=[dch (0%10)]) (by simp)
  have d:qO 1 (K+1) ((0:Nat):Int) [dch (0%10)]=_:=d
  rw[d,ZB,zW (by decide)]
 rw[qkF 19 N n [] e (by omega) h (by simp) (by omega),ZB,YQ]
theorem qhf: ∀k:Nat,E9^k=((10^(9*k):Nat):Int)
 |0=>rfl
 |k+1=>by
  rw[Int.pow_succ,qhf k,Nat.mul_succ,Nat.pow_add,Int.natCast_mul]
  rfl
def nv (w:List Int):Nat:=(dv E9 w).toNat
theorem qi1 {w:List Int} (h:Dg E9 w):(nv w:Int)=dv E9 w:=by
 have:=qB E0 h
 unfold nv
 omega
theorem nv_lt {w:List Int} (h:Dg E9 w):nv w<10^(9*w.length):=by
 have d:=yJ E0 h
 rw[qhf,<-qi1 h]at d
 omega
theorem qir {w:List Int} (h:Dg E9 w):(Lib.decDigits (nv w)).length<=9*w.length+1:=by
 refine(qaG (by omega)).2 ?_
 have:=nv_lt h
 rw[Nat.pow_succ]
 omega
theorem qlt {w:List Int} (h:Dg E9 w) {i:Nat} (hi:i<w.length):nv (w.drop i)=w[i].toNat+1000000000*nv (w.drop (i+1)):=by
 have d:=qi1 (h.drop i)
 have u:=qi1 (h.drop (i+1))
 have h3:=(h.at hi).1
 rw[qhW w hi]at d
 have j:E9*dv E9 (w.drop (i+1))=1000000000*dv E9 (w.drop (i+1)):=rfl
 omega
theorem qkt {N:Nat} (hN:100<N) {a:qC} (j:Dg E9 a.w) (u:a.w.length<=100000): ∀(K i:Nat),i<=a.w.length->i<K->0<nv (a.w.drop i)->vF N a K (Lib.decDigits (nv (a.w.drop i))) ((i:Int)-1)=some (Lib.decDigits (nv a.w))
 |0,i,_,h,_=>by omega
 |K+1,0,_,_,_=>by
  rw[vF,if_neg (by omega),YR]
 |K+1,i+1,hi,h,hp=>by
  have d:i<a.w.length:=by omega
  have ax:=j.at d
  have ax2:a.w[i]<1000000000:=ax.2
  have ei:((i+1:Nat):Int)-1=(i:Int):=by omega
  have ed:a.w[i]=(a.w[i].toNat:Int):=by omega
  have el:=qlt j d
  have ll:=qir (j.drop (i+1))
  rw[YJ]at ll
  rw[vF,ei,if_pos (by omega),qo,Ya d,ZB]
  have e9:zC N a.w[i] 9=some (qdC 9 a.w[i].toNat):=by
   conv=>lhs;rw[ed]
   exact qne hN (by omega)
  rw[e9,ZB,qbe (by rw[qhs];omega),ZB,qh (by omega) (by omega)]
  have a0:Lib.decDigits (nv (a.w.drop (i+1)))++qdC 9 a.w[i].toNat=Lib.decDigits (nv (a.w.drop i)):=by
   have h9:(10:Nat)^9=1000000000:=rfl
   have q:nv (a.w.drop i)/10^9=nv (a.w.drop (i+1)):=by rw[h9];omega
   have r:nv (a.w.drop i)%10^9=a.w[i].toNat:=by rw[h9];omega
   rw[qhN 9 (nv (a.w.drop i)) (by rw[q];exact hp),q,r]
  rw[a0]
  exact qkt hN j u K i (by omega) (by omega) (by omega)
theorem vL {z:Int} (h:z<0):Lib.itoa z=45::Lib.decDigits z.natAbs:=by unfold Lib.itoa;rw[if_pos h]
theorem zL {z:Int} (h: ¬z<0):Lib.itoa z=Lib.decDigits z.natAbs:=by
 unfold Lib.itoa
 rw[if_neg h,show z.toNat=z.natAbs by omega]
theorem qlZ {N:Nat} (hN:60000<N) {z:Int} (h:zY z 50000):qba N (rI z)=some (Lib.itoa z):=by
 obtain⟨c,e⟩:=qfD z
 have l:(rI z).w.length<=50000:=h.len
 have u:nv (rI z).w=z.natAbs:=by unfold nv;rw[e];omega
 have ng:(rI z).neg=decide (z<0):=rfl
 unfold qba
 by_cases h0:(rI z).w.length=0
 ·have d:z=0:=by
   rw[YL.1 h0,zb]at e
   omega
  rw[if_pos (by omega),d]
  have:Lib.itoa 0=[48]:=by rw[zL (by decide)];exact zW (by decide)
  rw[this]
 have j:(rI z).w.length-1<(rI z).w.length:=by omega
 have ax:=c.1.at j
 have ax2:(rI z).w[(rI z).w.length-1]<1000000000:=ax.2
 have an:(rI z).w[(rI z).w.length-1]≠0:=c.2 _ (by rw[List.getLast?_eq_getElem?];exact Ya j)
 have ed:(rI z).w[(rI z).w.length-1]=((rI z).w[(rI z).w.length-1].toNat:Int):=by omega
 have e1:nv ((rI z).w.drop ((rI z).w.length-1))=(rI z).w[(rI z).w.length-1].toNat:=by
  rw[qlt c.1 j,List.drop_of_length_le (by omega)]
  rfl
 have e2:zC N (rI z).w[(rI z).w.length-1] 1=some (Lib.decDigits (nv ((rI z).w.drop ((rI z).w.length-1)))):=by
  conv=>lhs;rw[ed]
  rw[e1]
  exact qgU (by omega) (by omega)
 have e3:=qkt (N:=N) (by omega) c.1 (by omega) N ((rI z).w.length-1) (by omega) (by omega) (by rw[e1];omega)
 have ll:=qir c.1
 rw[if_neg (by omega),qjq (by omega) (by omega),qo,Ya j,ZB,e2,ZB,show w64 (((rI z).w.length:Int)-2)=(((rI z).w.length-1:Nat):Int)-1 by rw[qh (by omega) (by omega)];omega,e3,ZB,ng]
 by_cases d:z<0
 ·rw[decide_eq_true d,if_pos rfl,qbe (by simp;omega),ZB,vL d,u]
  rfl
 rw[decide_eq_false d,if_neg (by simp),zL d,u]
theorem qjA {s:Str} (j:s.all vM=true) (hl:s.length<=18): ∀(K i:Nat),i<=s.length->s.length<K+i->jW s K ((qP 0 (s.take i):Nat):Int) (i:Int)=some ((qP 0 s:Nat):Int)
 |0,i,h,hK=>by omega
 |K+1,i,h,hK=>by
  rw[jW]
  by_cases hi:i<s.length
  ·have ht:s.take (i+1)=s.take i++[s[i]]:=List.take_succ_eq_append_getElem hi
   have d:vM s[i]=true:=Yp.1 j _ (List.getElem_mem hi)
   obtain⟨_,u⟩:=qlL d
   have a0:48<=s[i].toNat:=by
    unfold vM at d
    rw[Bool.and_eq_true,decide_eq_true_eq]at d
    exact d.1
   have hv:=qej (s.take i) 0 (Yp.2 fun x hx=>Yp.1 j x (List.mem_of_mem_take hx))
   have hp:(10:Nat)^(s.take i).length<=10^17:=Nat.pow_le_pow_right (by omega) (by rw[Ym];omega)
   have a1:(10:Nat)^17=100000000000000000:=rfl
   rw[if_pos (by omega),qo,Ya hi,ZB,qh (n:=10*((qP 0 (s.take i):Nat):Int)) (by omega) (by omega),qh (n:=(s[i].toNat:Int)) (by omega) (by omega),qh (n:=10*((qP 0 (s.take i):Nat):Int)+(s[i].toNat:Int)) (by omega) (by omega),qh (by omega) (by omega),ko (by omega)]
   have e:10*((qP 0 (s.take i):Nat):Int)+(s[i].toNat:Int)-48=((qP 0 (s.take (i+1)):Nat):Int):=by rw[ht,qfK];omega
   rw[e]
   exact qjA j hl K (i+1) (by omega) (by omega)
  rw[if_neg (by omega),List.take_of_length_le (by omega)]
theorem qfd {N:Nat} (hN:100<N) {s:Str} (h:s.all vM=true) (d:s.length<=18):y8 N s=some ((qP 0 s:Nat):Int):=by
 have e:=qjA h d N 0 (by omega) (by omega)
 have e:jW s N 0 0=_:=e
 unfold y8
 rw[e,ZB]
theorem qhp {s:Str} (h:s.all vM=true) (k:Nat):(s.take k).all vM=true:=Yp.2 fun x hx=>Yp.1 h x (List.mem_of_mem_take hx)
theorem qhi {s:Str} (h:s.all vM=true) (k:Nat):(s.drop k).all vM=true:=Yp.2 fun x hx=>Yp.1 h x (List.mem_of_mem_drop hx)
theorem qkB {N:Nat} (hN:100<N): ∀(K:Nat) (l:List Int) (s:Str),s.all vM=true->l.length+s.length<=90000->s.length<K->Dg E9 l->
 ∃d s',vV N K l s=some (d,s')/\s'.length<=9/\s'.all vM=true/\Dg E9 d/\d.length<=90000/\dv E9 d+E9^d.length*(qP 0 s':Nat)=dv E9 l+E9^l.length*(qP 0 s:Nat)
 |0,l,s,_,_,h,_=>by omega
 |K+1,l,s,hd,hl,h,hg=>by
  rw[vV]
  by_cases c:s.length>9
  ·have u:(s.drop (s.length-9)).length=9:=by rw[YJ];omega
   have hv:=qfd (N:=N) hN (qhi hd (s.length-9)) (by omega)
   have j:=qej _ 0 (qhi hd (s.length-9))
   rw[u]at j
   rw[if_pos (by omega),show w64 ((s.length:Int)-9)=((s.length-9:Nat):Int)by rw[qh (by omega) (by omega)];omega,xq (by omega),ZB,hv,ZB,qbZ (by simp;omega) (by simp;omega),ZB,yl (by omega),ZB]
   obtain⟨d,s',f1,f2,f3,f4,f5,f6⟩:=qkB hN K (l++[((qP 0 (s.drop (s.length-9)):Nat):Int)]) (s.take (s.length-9)) (qhp hd _) (by simp;omega) (by rw[Ym];omega) (hg.append (Dg.cons ⟨by omega,show((qP 0 (s.drop (s.length-9)):Nat):Int)<1000000000 by omega⟩ Dg.nil))
   refine⟨d,s',f1,f2,f3,f4,f5,?_⟩
   rw[f6,qel,Yq,List.length_singleton,Int.pow_succ,Int.mul_assoc]
   have e:qP 0 s=qP 0 (s.take (s.length-9))*1000000000+qP 0 (s.drop (s.length-9)):=by
    have:=qdU (s.take (s.length-9)) (s.drop (s.length-9))
    rw[YS,u]at this
    exact this
   have e2:((qP 0 s:Nat):Int)=((qP 0 (s.drop (s.length-9)):Nat):Int)+E9*((qP 0 (s.take (s.length-9)):Nat):Int):=by
    have h4:E9*((qP 0 (s.take (s.length-9)):Nat):Int)=1000000000*((qP 0 (s.take (s.length-9)):Nat):Int):=rfl
    omega
   rw[e2,Int.mul_add]
   omega
  rw[if_neg (by omega)]
  exact⟨l,s,rfl,by omega,hd,hg,by omega,rfl⟩
def sgn (s:Str):Bool:=decide (s[0]? =some 45)
def bdy (s:Str):Str:=if sgn s=true then s.drop 1 else s
theorem qe0 (s:Str):(if(s.length:Int)>0 then(idx s 0).bind fun c=>some (decide ((c.toNat:Int)=45))else some false:Option Bool)=some (sgn s):=by
 unfold sgn
 cases s with
 |nil=>rfl
 |cons c t=>
  rw[if_pos (by simp),qb8]
  have e:((c.toNat:Int)=45)↔(some c=some (45:UInt8)):=⟨fun h=>congrArg some (UInt8.toNat_inj.1 (show c.toNat=45 by omega)),fun h=>by rw[Ye h];rfl⟩
  simp only[Yj,ZB]
  congr 1
  exact decide_eq_decide.2 e
theorem qk8 (s:Str):(if sgn s=true then(cut s 1 (s.length:Int)).bind fun x=>some x else some s:Option Str)=some (bdy s):=by
 unfold bdy
 cases h:sgn s with
 |false=>rw[if_neg (by simp),if_neg (by simp)]
 |true=>
  have d:1<=s.length:=by
   cases s with
   |nil=>simp[sgn]at h
   |cons=>simp
  have:=xq d
  have e:cut s 1 (s.length:Int)=some (s.drop 1):=this
  rw[if_pos rfl,if_pos rfl,e,ZB]
def qiQ (s:Str):Int:=if sgn s=true then-((qP 0 (bdy s):Nat):Int)else((qP 0 (bdy s):Nat):Int)
theorem qhj {N:Nat} (hN:100000<N) {s:Str} (u:(bdy s).all vM=true) (hl:(bdy s).length<=80000):xY N s=some (rI (qiQ s)):=by
 unfold xY
 rw[qe0,ZB,qk8,ZB]
 obtain⟨l,t,j,f2,d,f4,f5,f6⟩:=qkB (N:=N) (by omega) N [] (bdy s) u (by simp;omega) (by omega) Dg.nil
 have h:=qfd (N:=N) (by omega) d (by omega)
 have hv2:=qej _ 0 d
 have hp:(10:Nat)^t.length<=10^9:=Nat.pow_le_pow_right (by omega) f2
 rw[j,ZB]
 simp only
 have hg:=f4.append (r:=[((qP 0 t:Nat):Int)]) (Dg.cons ⟨by omega,show((qP 0 t:Nat):Int)<1000000000 by omega⟩ Dg.nil)
 rw[h,ZB,qbZ (by simp;omega) (by simp;omega),ZB,qai _ hg (by simp;omega) (by simp;omega),ZB,qel,f6]
 simp only[zb,List.length_nil,Int.pow_zero,Int.one_mul,Int.zero_add]
 rfl
theorem qfi (z:Int):sgn (Lib.itoa z)=decide (z<0):=by
 unfold sgn
 by_cases h:z<0
 ·rw[vL h,decide_eq_true h];rfl
 rw[zL h,decide_eq_false h]
 refine decide_eq_false fun e=>?_
 have d:(45:UInt8)∈Lib.decDigits z.natAbs:=Yn e
 have:=Yp.1 (qaZ z.natAbs) _ d
 exact absurd this (by decide)
theorem qbx (z:Int):bdy (Lib.itoa z)=Lib.decDigits z.natAbs:=by
 unfold bdy
 rw[qfi]
 by_cases h:z<0
 ·rw[decide_eq_true h,if_pos rfl,vL h];rfl
 rw[decide_eq_false h,if_neg (by simp),zL h]
theorem qbL (z:Int):qiQ (Lib.itoa z)=z:=by
 unfold qiQ
 rw[qfi,qbx,qb0]
 by_cases h:z<0
 ·rw[decide_eq_true h,if_pos rfl];omega
 rw[decide_eq_false h,if_neg (by simp)];omega
def slA:Str->Nat
 |[]=>0
 |c::s=>if c=47 then 0 else slA s+1
theorem qfP: ∀s:Str,slA s<=s.length
 |[]=>Nat.le_refl _
 |c::s=>by
  rw[slA,Yr]
  have:=qfP s
  split<;>omega
theorem qjP {s:Str} (d:s.length<=1000000): ∀(K i:Nat),i<=s.length->s.length<K+i->jN s K (i:Int)=some (if i+slA (s.drop i)<s.length then .inr ((i+slA (s.drop i):Nat):Int)else .inl ())
 |0,i,h,hK=>by omega
 |K+1,i,h,hK=>by
  rw[jN]
  by_cases hi:i<s.length
  ·have j:s.drop i=s[i]::s.drop (i+1):=YG hi
   rw[if_pos (by omega),qo,Ya hi,ZB,j,slA]
   by_cases c:s[i]=47
   ·rw[if_pos c,if_pos (by rw[c];rfl),Nat.add_zero,if_pos hi]
   rw[if_neg c,if_neg (fun e=>c (UInt8.toNat_inj.1 (show s[i].toNat=47 by omega))),ko (by omega),qjP d K (i+1) (by omega) (by omega),show i+1+slA (s.drop (i+1))=i+(slA (s.drop (i+1))+1)by omega]
  rw[if_neg (by omega),List.drop_of_length_le (by omega),if_neg (by omega)]
theorem qd4 {N:Nat} {s:Str} (d:s.length<=1000000) (hN:s.length<N):yj N s=some (slA s:Int):=by
 have e:=qjP d N 0 (by omega) (by omega)
 have e:jN s N 0=_:=e
 have h:=qfP s
 unfold yj
 rw[e,YR,Nat.zero_add]
 by_cases c:slA s<s.length
 ·rw[if_pos c];rfl
 rw[if_neg c]
 have:slA s=s.length:=by omega
 rw[this]
 rfl
theorem qi2: ∀(s t:Str),(∀c∈s,c≠47)->slA (s++47::t)=s.length/\slA s=s.length
 |[],t,_=>⟨by simp[slA],rfl⟩
 |c::s,t,h=>by
  have d:=qi2 s t fun x hx=>h x (List.mem_cons_of_mem _ hx)
  rw[List.cons_append,slA,slA,if_neg (h c (List.mem_cons_self ..)),if_neg (h c (List.mem_cons_self ..)),d.1,d.2]
  exact⟨rfl,rfl⟩
end Go.Av
end
section
namespace Go.Av
theorem and1 {n:Nat} (h:n<4611686018427387904):qz .i64 (n:Int) 1=((n%2:Nat):Int):=by
 show IntKind.wrap .i64 _=_
 have e:(BitVec.ofInt IntKind.i64.bits (n:Int)&&&BitVec.ofInt IntKind.i64.bits 1).toNat=n%2:=by
  rw[BitVec.toNat_and]
  show(BitVec.ofInt 64 (n:Int)).toNat&&&(BitVec.ofInt 64 1).toNat=_
  rw[qbM (by omega) (by omega),qbM (by omega) (by omega)]
  exact Nat.and_one_is_mod n
 rw[e]
 show w64 _=_
 exact qh (by omega) (by omega)
theorem shr1 (n:Nat):qp .i64 (n:Int) 1=((n/2:Nat):Int):=by
 show(n:Int).fdiv 2=_
 rw[Int.fdiv_eq_ediv_of_nonneg _ (by decide)]
 omega
theorem qn4 {N:Nat} (hN:11000<N): ∀(K n:Nat) (b d:ql) (x y:Int) (mb ma:Nat),n<100000->n<K->IsZ b x->IsZ d y->Fit x mb->Fit y ma->ma+mb*n<=3900->
 ∃r,jL N K b.s b.w d.s d.w (n:Int)=some (r.s,r.w)/\IsZ r (y*x^n)
 |0,n,_,_,_,_,_,_,_,h,_,_,_,_,_=>by omega
 |K+1,n,b,d,x,y,mb,ma,hn,hK,hb,hacc,fx,fy,hm=>by
  rw[jL]
  by_cases h0:n=0
  ·subst h0
   rw[if_neg (by omega)]
   exact⟨d,rfl,by simpa using hacc⟩
  have hmb:mb<=mb*n:=Nat.le_mul_of_pos_right _ (by omega)
  obtain⟨m,r,hr,hmr⟩: ∃m r,r<2/\n=2*m+r:=⟨n/2,n%2,by omega,by omega⟩
  have emb:mb*n=mb*m+mb*m+mb*r:=by rw[hmr,Nat.mul_add,<-Nat.mul_assoc,Nat.mul_comm mb 2,Nat.two_mul,Nat.add_mul]
  have S1: ∃(j:ql) (m2:Nat),(if(qz .i64 (n:Int) 1)=1 then(qI N (⟨d.s,d.w⟩:ql) (⟨b.s,b.w⟩:ql)).bind fun r20=>some (r20.s,r20.w)else some (d.s,d.w):Option (Int×(List Int)))=some (j.s,j.w)/\IsZ j (y*x^r)/\Fit (y*x^r) m2/\m2=ma+mb*r:=by
   rw[and1 (by omega),show n%2=r by omega]
   rcases(show r=0\/r=1 by omega)with e|e<;>subst e
   ·rw[if_neg (by simp)]
    exact⟨d,ma,rfl,by simpa using hacc,by simpa using fy,by simp⟩
   obtain⟨p,e1,h1⟩:=qdH hN hacc hb (fy.mono (by omega)) (fx.mono (by omega))
   have e1:qI N (⟨d.s,d.w⟩:ql) (⟨b.s,b.w⟩:ql)=some p:=e1
   rw[if_pos (by simp),e1,ZB]
   exact⟨p,ma+mb,rfl,by rw[Int.pow_one];exact h1,by rw[Int.pow_one];exact qdq fy fx,by simp⟩
  obtain⟨j,m2,e1,h1,f1,em2⟩:=S1
  have S2: ∃(u:ql) (x2:Int) (m3:Nat),(if(n:Int)>1 then(qI N (⟨b.s,b.w⟩:ql) (⟨b.s,b.w⟩:ql)).bind fun r22=>some (r22.s,r22.w,j.s,j.w)else some (b.s,b.w,j.s,j.w):Option (Int×(List Int)×Int×(List Int)))=some (u.s,u.w,j.s,j.w)/\IsZ u x2/\Fit x2 m3/\m3*m=mb*m+mb*m/\x2^m=(x*x)^m:=by
   by_cases c:(n:Int)>1
   ·have hm1:1<=m:=by omega
    have h3:mb<=mb*m:=Nat.le_mul_of_pos_right _ hm1
    obtain⟨p,e2,h2⟩:=qdH hN hb hb (fx.mono (by omega)) (fx.mono (by omega))
    have e2:qI N (⟨b.s,b.w⟩:ql) (⟨b.s,b.w⟩:ql)=some p:=e2
    rw[if_pos c,e2,ZB]
    exact⟨p,x*x,mb+mb,rfl,h2,qdq fx fx,Nat.add_mul _ _ _,rfl⟩
   have hm0:m=0:=by omega
   subst hm0
   rw[if_neg c]
   exact⟨b,x,mb,rfl,hb,fx,by simp,by simp⟩
  obtain⟨u,x2,m3,e2,h2,f2,em3,ex⟩:=S2
  have S:((if(qz .i64 (n:Int) 1)=1 then(qI N (⟨d.s,d.w⟩:ql) (⟨b.s,b.w⟩:ql)).bind fun r20=>some (r20.s,r20.w)else some (d.s,d.w):Option (Int×(List Int)))).bind (fun(n16,l17)=>
   if(n:Int)>1 then(qI N (⟨b.s,b.w⟩:ql) (⟨b.s,b.w⟩:ql)).bind fun r22=>some (r22.s,r22.w,n16,l17)else some (b.s,b.w,n16,l17))=some (u.s,u.w,j.s,j.w):=by
   rw[e1,ZB]
   exact e2
  obtain⟨r',e3,h3⟩:=qn4 hN K m u j x2 (y*x^r) m3 m2 (by omega) (by omega) h2 h1 f2 f1 (by omega)
  rw[if_pos (by omega),S,ZB]
  simp only
  rw[shr1,show n/2=m by omega]
  refine⟨r',e3,?_⟩
  have hx2:x*x=x^2:=by rw[Int.pow_succ,Int.pow_succ,Int.pow_zero,Int.one_mul]
  rw[ex,Int.mul_assoc,hx2,<-Int.pow_mul,<-Int.pow_add,show r+2*m=n by omega]at h3
  exact h3
theorem qqf {N:Nat} (hN:110000<N) {b:ql} {x:Int} {n mb:Nat} (j:n<100000) (u:IsZ b x) (d:Fit x mb) (hm:1+mb*n<=3900): ∃r,qby N b (n:Int)=some r/\IsZ r (x^n):=by
 obtain⟨r,e,h⟩:=qn4 (N:=N) (by omega) N n b ⟨1,[]⟩ x 1 mb 1 j (by omega) u (Ud (by decide) (by decide)) d (F1 (by omega)) hm
 have e:jL N N b.s b.w 1 [] (n:Int)=some (r.s,r.w):=e
 unfold qby
 rw[qhk,ZB]
 simp only
 rw[e,ZB]
 exact⟨r,rfl,by rw[Int.one_mul]at h;exact h⟩
theorem qfr {z:Int} {p n:Nat} (h:(z.natAbs:Int)<((10^p:Nat):Int)) (hp:p<=19*n):Fit z n:=by
 have d:(10:Nat)^p<=10^(19*n):=Nat.pow_le_pow_right (by omega) hp
 have j:((10^(19*n):Nat):Int)<=W^n:=by
  rw[Nat.pow_mul]
  have:=(qd3 (x:=10000000000000000000) (y:=W) (by decide) (by decide) n).2
  rw[Int.natCast_pow]
  exact this
 unfold Fit
 omega
theorem qb5 (s:Str):strings_HasPrefix s [45]=some (sgn s):=by
 unfold strings_HasPrefix stringslite_HasPrefix sgn
 cases s with
 |nil=>rfl
 |cons c t=>
  rw[if_pos (by simp;omega)]
  have e:cut (c::t) 0 (([45]:Str).length:Int)=some [c]:=yl (l:=c::t) (k:=1) (by simp)
  rw[e]
  simp only[ZB,Yj]
  congr 1
  rw[Bool.eq_iff_iff,beq_iff_eq,decide_eq_true_eq]
  constructor
  ·intro h;injection h with h;rw[h]
  intro h;rw[Ye h]
theorem qiV {s:Str} (h:sgn s=true):1<=s.length:=by
 cases s with
 |nil=>simp[sgn]at h
 |cons=>simp
theorem qey (s:Str):strings_TrimPrefix s [45]=some (bdy s):=by
 unfold strings_TrimPrefix stringslite_TrimPrefix
 have e:stringslite_HasPrefix s [45]=some (sgn s):=by
  have:=qb5 s
  unfold strings_HasPrefix at this
  cases h:stringslite_HasPrefix s [45]with
  |none=>rw[h]at this;cases this
  |some b=>rw[h]at this;exact this
 rw[e,ZB]
 unfold bdy
 cases h:sgn s with
 |false=>rw[if_neg (by simp),if_neg (by simp),ZB]
 |true=>
  have d:cut s (([45]:Str).length:Int) (s.length:Int)=some (s.drop 1):=xq (qiV h)
  rw[if_pos rfl,if_pos rfl,d,ZB,ZB]
theorem qjp (s:Str):strings_CutPrefix s [45]=some (bdy s,sgn s):=by
 unfold strings_CutPrefix stringslite_CutPrefix
 have e:stringslite_HasPrefix s [45]=some (sgn s):=by
  have:=qb5 s
  unfold strings_HasPrefix at this
  cases h:stringslite_HasPrefix s [45]with
  |none=>rw[h]at this;cases this
  |some b=>rw[h]at this;exact this
 rw[e,ZB]
 unfold bdy
 cases h:sgn s with
 |false=>rw[if_pos (by simp),if_neg (by simp),ZB]
 |true=>
  have d:cut s (([45]:Str).length:Int) (s.length:Int)=some (s.drop 1):=xq (qiV h)
  rw[if_neg (by simp),if_pos rfl,d,ZB,ZB]
theorem qlx {N:Nat} (hN:600000<N): ∀(K:Nat) (x:ql) (y:Int) (s:Str) (p:Nat),IsZ x y->0<=y->y<((10^p:Nat):Int)->p+s.length<=19000->s.all vM=true->s.length<K->
 ∃r,y7 N K x.s x.w s=some (r.s,r.w)/\IsZ r (y*((10^s.length:Nat):Int)+(qP 0 s:Nat))
 |0,_,_,_,_,_,_,_,_,_,h=>by omega
 |K+1,x,y,s,p,hx,y0,y1,hp,hd,hK=>by
  rw[y7]
  by_cases h0:s.length=0
  ·rw[if_neg (by omega)]
   have:s=[]:=YL.1 h0
   subst this
   exact⟨x,rfl,by simpa[qb2]using hx⟩
  rw[if_pos (by omega)]
  obtain⟨g,hg,hg0,hgl,hg18⟩: ∃g:Nat,(if(s.length:Int)<18 then(s.length:Int)else 18)=(g:Int)/\0<g/\g<=s.length/\g<=18:=by
   by_cases c:(s.length:Int)<18
   ·exact⟨s.length,by rw[if_pos c],by omega,by omega,by omega⟩
   exact⟨18,by rw[if_neg c];rfl,by omega,by omega,by omega⟩
  have lt:(s.take g).length=g:=by rw[Ym];omega
  have ea:=qj4 (s:=s.take g) (by omega) (qhp hd g)
  have et:qki (s.take g)=some (((qP 0 (s.take g):Nat):Int),()):=by
   unfold qki
   rw[if_pos (by omega),ea]
   rfl
  have hv:=qej (s.take g) 0 (qhp hd g)
  rw[lt]at hv
  have hp18:(10:Nat)^g<=10^18:=Nat.pow_le_pow_right (by omega) hg18
  have h18:(10:Nat)^18=1000000000000000000:=rfl
  rw[hg,yl hgl,ZB,et,ZB,qhk,ZB]
  obtain⟨r1,e1,h1⟩:=qqf (N:=N) (by omega) (b:=⟨10,[]⟩) (x:=10) (n:=g) (mb:=1) (by omega) (Ud (by decide) (by decide)) (qfr (p:=2) (by decide) (by omega)) (by omega)
  have ep:(10:Int)^g=((10^g:Nat):Int):=by rw[Int.natCast_pow];rfl
  rw[ep]at h1
  have fg:Fit ((10^g:Nat):Int) 1000:=qfr (p:=19) (by
   rw[Int.natAbs_natCast]
   have d:(10:Nat)^19=10000000000000000000:=rfl
   omega) (by omega)
  have fy:Fit y 1000:=qfr (p:=p) (by omega) (by omega)
  have hpos:0<10^g:=Nat.pow_pos (by decide)
  have yg0:0<=y*((10^g:Nat):Int):=Yv y0 (by omega)
  have j:(y+1)*((10^g:Nat):Int)<=((10^(p+g):Nat):Int):=by
   rw[Nat.pow_add,Int.natCast_mul]
   exact Int.mul_le_mul_of_nonneg_right (by omega) (by omega)
  rw[Int.add_mul,Int.one_mul]at j
  obtain⟨r2,u,h2⟩:=qdH (N:=N) (by omega) hx h1 (fy.mono (by omega)) (fg.mono (by omega))
  have u:qI N (⟨x.s,x.w⟩:ql) r1=some r2:=u
  have a0:IsZ ⟨((qP 0 (s.take g):Nat):Int),[]⟩ ((qP 0 (s.take g):Nat):Int):=Ud (by omega) (by omega)
  obtain⟨r3,e3,h3⟩:=qho (N:=N) (by omega) h2 a0 (qfr (p:=p+g) (by omega) (by omega)) (qfr (p:=19) (by
   rw[Int.natAbs_natCast]
   have d:(10:Nat)^19=10000000000000000000:=rfl
   omega) (by omega))
  rw[e1,ZB,u,ZB,qhk,ZB,e3,ZB,xq hgl,ZB]
  have ld:(s.drop g).length=s.length-g:=by rw[YJ]
  obtain⟨r,e4,h4⟩:=qlx hN K r3 _ (s.drop g) (p+g) h3 (by omega) (by omega) (by omega) (qhi hd g) (by omega)
  refine⟨r,e4,?_⟩
  have e5:=qdU (s.take g) (s.drop g)
  rw[YS]at e5
  have e6:(10:Nat)^s.length=10^g*10^(s.drop g).length:=by rw[<-Nat.pow_add,ld];congr 1;omega
  rw[e5,e6]
  rw[Int.add_mul]at h4
  rw[Int.natCast_mul,Int.natCast_add,Int.natCast_mul,<-Int.mul_assoc,<-Int.add_assoc]
  exact h4
theorem qgI {N:Nat} (hN:600000<N) {s:Str} (u:(bdy s).all vM=true) (hl:(bdy s).length<=19000): ∃r,qaU N s=some r/\IsZ r (qiQ s):=by
 obtain⟨r,e,h⟩:=qlx hN N ⟨0,[]⟩ 0 (bdy s) 0 (Ud (by decide) (by decide)) (by omega) (by decide) (by omega) u (by omega)
 have e:y7 N N 0 [] (bdy s)=some (r.s,r.w):=e
 rw[Int.zero_mul,Int.zero_add]at h
 unfold qaU
 rw[qb5,ZB,qey,ZB,e,ZB]
 unfold qiQ
 cases hs:sgn s with
 |false=>
  rw[if_neg (by simp)]
  exact⟨r,rfl,by simpa using h⟩
 |true=>
  obtain⟨j,d,h2⟩:=qfC h
  have d:zu (⟨r.s,r.w⟩:ql)=some j:=d
  simp only[if_true]
  rw[d]
  exact⟨j,rfl,h2⟩
end Go.Av
end
section
namespace Go.Av
theorem qmg: ∀n:Nat,Lib.repeatL [48] n=List.replicate n 48
 |0=>rfl
 |n+1=>by rw[Lib.repeatL,qmg,List.replicate_succ];rfl
theorem qik: ∀k:Nat,qdC k 0=List.replicate k 48
 |0=>rfl
 |k+1=>by
  rw[qdC,Nat.zero_div,qik k,List.replicate_succ']
  rfl
theorem qjV: ∀(k n:Nat),n<10^(k+1)->qdC (k+1) n=List.replicate (k+1-(Lib.decDigits n).length) 48++Lib.decDigits n
 |0,n,h=>by
  have h:n<10:=by simpa using h
  rw[zW h,qdC,qdC,Nat.mod_eq_of_lt h]
  rfl
 |k+1,n,h=>by
  rw[qdC]
  by_cases c:n<10
  ·rw[zW c,Nat.div_eq_of_lt c,qik,Nat.mod_eq_of_lt c]
   rfl
  rw[Nat.pow_succ]at h
  rw[qjV k (n/10) (by omega),qeM c,Yz,Yq,List.length_singleton,show k+1+1-((Lib.decDigits (n/10)).length+1)=k+1-(Lib.decDigits (n/10)).length by omega]
theorem qfW (n:Nat):Lib.itoa (n:Int)=Lib.decDigits n:=by rw[zL (by omega),Int.natAbs_natCast]
theorem qn9 {r:Nat} (h:r<1000000000000000000) (c: ¬r=0):dg W (r:Int)=[(r:Int)]:=by
 rw[qiX (by omega) (by unfold W;omega)]
theorem qm4 {r:Nat} (h:r<1000000000000000000):qhJ (r:Int) 10=some (Lib.decDigits r):=by
 unfold qhJ
 rw[if_pos ⟨by omega,by omega,rfl⟩,qfW]
theorem qn6:(if((dg W ((0:Nat):Int)).length:Int)>0 then(idx (dg W ((0:Nat):Int)) 0).bind fun x13=>(qhJ x13 10).bind fun r14=>some r14 else some [48]:Option Str)=some (Lib.decDigits 0):=by
 rw[show((0:Nat):Int)=0 from rfl,qcV,if_neg (by simp),zW (by decide)]
 rfl
theorem qpt {r:Nat} (h:r<1000000000000000000):(if((dg W (r:Int)).length:Int)>0 then(idx (dg W (r:Int)) 0).bind fun x13=>(qhJ x13 10).bind fun r14=>some r14 else some [48]:Option Str)=some (Lib.decDigits r):=by
 by_cases c:r=0
 ·rw[c]
  exact qn6
 rw[qn9 h c,if_pos (show((([(r:Int)]:List Int).length:Nat):Int)>0 from by rw[List.length_singleton];decide),qb8,Yj,ZB,qm4 h]
 rfl
theorem p18:(10:Nat)^18=1000000000000000000:=rfl
theorem qpS {q r:Nat} (h:r<1000000000000000000): ∃t:Str,(if((dg W (q:Int)).length:Int)>0 then(qek [48] (w64 (18-((Lib.decDigits r).length:Int)))).bind fun r18=>(cat r18 (Lib.decDigits r)).bind fun s19=>some s19 else some (Lib.decDigits r):Option Str)=some t/\0<t.length/\Lib.decDigits (1000000000000000000*q+r)=(if q=0 then[]else Lib.decDigits q)++t:=by
 have u:r<10^18:=by rw[p18];exact h
 have lD:(Lib.decDigits r).length<=18:=(qaG (by decide)).2 u
 have j:=qhr r
 by_cases c:q=0
 ·subst c
  rw[show((0:Nat):Int)=0 from rfl,qcV,if_neg (by simp),if_pos rfl,Nat.mul_zero,Nat.zero_add]
  exact⟨_,rfl,j,rfl⟩
 have d:dg W (q:Int)≠[]:=fun e=>by have:=(qgT W1 (by omega)).1 e;omega
 have hlen:0<(dg W (q:Int)).length:=List.length_pos_iff.2 d
 have et:qek [48] (w64 (18-((Lib.decDigits r).length:Int)))=some (List.replicate (18-(Lib.decDigits r).length) 48):=by
  rw[qh (by omega) (by omega)]
  unfold qek
  rw[if_pos ⟨by omega,by omega,by simp;omega⟩,qmg]
  congr 2
  omega
 have hp:=qjV 17 r u
 have hl:(qdC (17+1) r).length=18:=qhs _ _
 have hs:=qhN 18 (1000000000000000000*q+r)
 rw[p18,Nat.mul_add_div (by omega),Nat.div_eq_of_lt h,Nat.add_zero,Nat.mul_add_mod,Nat.mod_eq_of_lt h]at hs
 rw[if_pos (by omega),et,ZB,qbe (by simp;omega),ZB,<-hp,if_neg c]
 exact⟨_,rfl,by omega,hs (by omega)⟩
theorem qqv {N:Nat} (hN:600000<N) (B:Nat) (hB:B<=3900) (K:Nat): ∀(k m:Nat) (l:List Str),m<10^(18*k)->k<K->k+l.length<=100000->Fit (m:Int) B->(∀t∈l,0<t.length)->
 ∃l',ja N K l (dg W (m:Int))=some l'/\(∀t∈l',0<t.length)/\l'.length<=k+l.length/\l'.reverse.flatten=(if m=0 then[]else Lib.decDigits m)++l.reverse.flatten:=by
 induction K with
 |zero=>intro k m l _ h;omega
 |succ K ih=>
  intro k m l hm hK hl fm hp
  rw[ja]
  by_cases h0:m=0
  ·subst h0
   rw[show((0:Nat):Int)=0 from rfl,qcV,if_neg (by simp),if_pos rfl]
   exact⟨l,rfl,hp,by omega,rfl⟩
  obtain⟨j,hj⟩: ∃j,k=j+1:=⟨k-1,by
   rcases Nat.eq_zero_or_pos k with e|e
   ·subst e;simp at hm;omega
   omega⟩
  rw[hj]at hm hK hl
  have d:(0:Int)<=(m:Int):=by omega
  have hne:dg W (m:Int)≠[]:=fun e=>by have:=(qgT W1 d).1 e;omega
  have hlen:0<(dg W (m:Int)).length:=List.length_pos_iff.2 hne
  have ln:(dg W (m:Int)).length<=3900:=Nat.le_trans fm.len hB
  have cB:Can W [1000000000000000000]:=by
   have:=zT W1 (show(0:Int)<=1000000000000000000 by decide)
   rw[qiX (by decide) (by decide)]at this
   exact this
  have vB:dv W [1000000000000000000]=1000000000000000000:=by rw[zo,zb,Int.mul_zero,Int.add_zero]
  have ed:=qiA (N:=N) (by omega) (zT W1 d) cB (by omega) (by rw[vB];decide)
  rw[vB,jV W1 d]at ed
  obtain⟨q,r,hq,hr⟩: ∃q r,m=1000000000000000000*q+r/\r<1000000000000000000:=⟨m/1000000000000000000,m%1000000000000000000,by omega,by omega⟩
  have eq:(m:Int)/1000000000000000000=(q:Int):=by omega
  have er:(m:Int)%1000000000000000000=(r:Int):=by omega
  rw[eq,er]at ed
  obtain⟨t,et,t0,eD⟩:=qpS (q:=q) hr
  rw[<-hq]at eD
  rw[if_pos (by omega),ed,ZB]
  simp only
  rw[qpt hr,ZB,et,ZB,qbZ (by simp;omega) (by simp;omega),ZB]
  have hk:q<10^(18*j):=by
   rw[Nat.mul_succ,Nat.pow_add,p18,Nat.mul_comm]at hm
   refine Nat.lt_of_mul_lt_mul_left (a:=1000000000000000000) ?_
   omega
  obtain⟨l',f1,f2,f3,f4⟩:=ih j q (l++[t]) hk (by omega) (by simp;omega) (qa8 (by omega) fm) (fun u hu=>by
   rcases List.mem_append.1 hu with hu|hu
   ·exact hp u hu
   rw[List.mem_singleton.1 hu];exact t0)
  refine⟨l',f1,f2,by simp at f3;omega,?_⟩
  rw[f4,if_neg h0,eD,List.reverse_append,List.flatten_append,Yz]
  simp
def byN (s:Str):List Int:=s.map fun x=>(x.toNat:Int)
theorem qgw (s:Str):(byN s).length=s.length:=by unfold byN;rw[List.length_map]
theorem qoU {l:List Str} (hp: ∀t∈l,0<t.length) (hl:l.length<=100000): ∀(K i:Nat) (o:Option (List Int)),i<=l.length->i<K->(hof o).length+(l.take i).flatten.length<=1000000000->
 ∃j,zm l K o.isSome o ((i:Int)-1)=some (j.isSome,j)/\hof j=hof o++byN (l.take i).reverse.flatten
 |0,i,o,_,h,_=>by omega
 |K+1,0,o,hi,h,hb=>by
  rw[zm,if_neg (by omega)]
  exact⟨o,rfl,by simp[byN]⟩
 |K+1,i+1,o,hi,h,hb=>by
  have d:i<l.length:=by omega
  have ei:((i+1:Nat):Int)-1=(i:Int):=by omega
  have u:l.take (i+1)=l.take i++[l[i]]:=List.take_succ_eq_append_getElem d
  have h1:=hp l[i] (List.getElem_mem d)
  rw[u,List.flatten_append,Yq]at hb
  simp only[List.flatten_cons,List.flatten_nil,YQ]at hb
  have ew:bWr o.isSome o l[i]=some (hof o++byN l[i]):=by
   unfold bWr
   rw[if_pos ⟨rfl,by omega,h1⟩]
   rfl
  rw[zm,ei,if_pos (by omega),qo,Ya d,ZB,ew,ZB,qh (by omega) (by omega)]
  obtain⟨j,f1,f2⟩:=qoU hp hl K i (some (hof o++byN l[i])) (by omega) (by omega) (by
   show(hof o++byN l[i]).length+_<=_
   rw[Yq,qgw];omega)
  refine⟨j,f1,?_⟩
  rw[f2,u,List.reverse_append,List.flatten_append]
  show hof o++byN l[i]++_=_
  rw[Yz]
  unfold byN
  simp
theorem qoa (s:Str):(byN s).map (fun n=>UInt8.ofNat n.toNat)=s:=by
 unfold byN
 rw[List.map_map]
 conv=>rhs;rw[<-List.map_id s]
 refine List.map_congr_left fun x _=>?_
 show UInt8.ofNat ((x.toNat:Int)).toNat=x
 rw[Int.toNat_natCast,UInt8.ofNat_toNat]
theorem qpp (s:Str):(byN s).all (fun n=>decide (0<=n)&&decide (n<256))=true:=by
 unfold byN
 rw[List.all_map,Yp]
 intro x _
 have:x.toNat<256:=x.toNat_lt
 simp
 omega
theorem qi4: ∀l:List Str,l.reverse.flatten.length=l.flatten.length:=fun l=>by
 rw[List.length_flatten,List.length_flatten,List.map_reverse,List.sum_reverse]
theorem qen {N:Nat} (hN:600000<N) {x:ql} {z:Int} (h:IsZ x z) (fz:Fit z 3900):jO N x=some (Lib.itoa z):=by
 unfold jO
 cases e:x.w.isEmpty with
 |true=>
  obtain⟨j,h2,h3⟩:=h.emp e
  rw[if_pos rfl,j]
  unfold qlu
  rw[if_pos ⟨h2,h3⟩,ZB]
 |false=>
  have hz:z.natAbs≠0:=by
   rcases h with⟨hw,_⟩|⟨_,_,j,_⟩
   ·rw[hw]at e;cases e
   omega
  obtain⟨B8,hB8⟩: ∃B8:Nat,B8=8000:=⟨_,rfl⟩
  have pw:((10^(18*B8):Nat):Int)=(1000000000000000000:Int)^B8:=by
   rw[Nat.pow_mul,Int.natCast_pow]
   rfl
  have hm:z.natAbs<10^(18*B8):=by
   have j:W^3900<=(1000000000000000000:Int)^B8:=by
    have a1:(1000000000000000000:Int)^B8=((1000000000000000000:Int)^2)^4000:=by rw[<-Int.pow_mul,hB8]
    have a2:W^4000<=((1000000000000000000:Int)^2)^4000:=(qd3 (by decide) (by decide) 4000).2
    have a3:W^3900<=W^4000:=yx (by decide) (by decide)
    rw[a1]
    exact Int.le_trans a3 a2
   rw[<-pw]at j
   unfold Fit at fz
   omega
  obtain⟨l,f1,f2,f3,u⟩:=qqv hN 3900 (Nat.le_refl _) N B8 z.natAbs [] hm (by omega) (by simp;omega) (by unfold Fit;rw[Int.natAbs_natCast];exact fz) (fun t ht=>by cases ht)
  rw[if_neg hz]at u
  simp only[List.reverse_nil,List.flatten_nil,YQ,List.length_nil,Nat.add_zero]at f3 u
  have lD:(Lib.decDigits z.natAbs).length<=18*B8:=(qaG (by omega)).2 hm
  have lf:l.flatten.length<=18*B8:=by rw[<-qi4,u];exact lD
  have lpos:=qhr z.natAbs
  rw[if_neg (by simp),parts_eq h,ZB]
  simp only
  rw[f1,ZB]
  have el:w64 ((l.length:Int)-1)=(l.length:Int)-1:=qh (by omega) (by omega)
  have d: ∀(o:Option (List Int)) (pre:Str),hof o=byN pre->pre.length<=10->((zm l N o.isSome o (w64 ((l.length:Int)-1))).bind fun(ok30,o31)=>(qmZ ok30 o31).bind fun t38=>some t38)=some (pre++Lib.decDigits z.natAbs):=by
   intro o pre ho hpre
   obtain⟨o',g1,g2⟩:=qoU f2 (by omega) N l.length o (Nat.le_refl _) (by omega) (by rw[ho,qgw,List.take_of_length_le (Nat.le_refl _)];omega)
   rw[List.take_of_length_le (Nat.le_refl _),u,ho]at g2
   have g3:hof o'=byN (pre++Lib.decDigits z.natAbs):=by
    rw[g2]
    unfold byN
    rw[List.map_append]
   have hs:o'.isSome=true:=by
    cases o' with
    |none=>
     have:=congrArg List.length g3
     rw[qgw,Yq]at this
     simp at this
     omega
    |some q=>rfl
   rw[el,g1,ZB]
   simp only
   unfold qmZ
   rw[if_pos ⟨hs,by rw[g3,qgw,Yq];omega,by rw[g3];exact qpp _⟩,g3,qoa,ZB]
  by_cases c:z<0
  ·have eb:bWr false (none:Option (List Int)) [45]=some [45]:=rfl
   rw[decide_eq_true c,if_pos rfl,eb,ZB,ZB]
   simp only
   have:=d (some [45]) [45] rfl (by simp)
   rw[vL c]
   exact this
  rw[decide_eq_false c,if_neg (by simp),ZB]
  simp only
  have:=d none [] rfl (by simp)
  rw[zL c]
  exact this
end Go.Av
end
section
namespace Go.Av
theorem qpT {x:ql} {z:Int} (h:IsZ x z) (fz:Fit z 3900): ∃b:Nat,qaP x=some (b:Int)/\(z.natAbs:Int)<2^b:=by
 unfold qaP
 rw[parts_eq h,ZB]
 simp only
 have hz:(0:Int)<=(z.natAbs:Int):=by omega
 have cc:=zT W1 hz
 have u:=jV W1 hz
 have ll:=fz.len
 generalize dg W (z.natAbs:Int)=w at*
 by_cases h0:w.length=0
 ·rw[if_pos (by omega)]
  rw[YL.1 h0,zb]at u
  exact⟨0,rfl,by rw[<-u];decide⟩
 have hk:w.length-1<w.length:=by omega
 have ax:=cc.1.at hk
 obtain⟨l,e,hl⟩:=qjK ax.1 ax.2
 have hl0:0<=l/\l<=64:=by
  rcases hl with⟨_,h⟩|⟨d,j,_⟩<;>omega
 have hl2:w[w.length-1]<2^l.toNat:=by
  rcases hl with⟨d,j⟩|⟨_,_,_,h⟩
  ·rw[d,j];decide
  exact h
 rw[if_neg (by omega),qjq (by omega) (by omega),qo,Ya hk,ZB,e,ZB,qh (n:=64*((w.length-1:Nat):Int)) (by omega) (by omega),qh (by omega) (by omega)]
 refine⟨64*(w.length-1)+l.toNat,by congr 1;omega,?_⟩
 have e1:=qm W w (w.length-1) hk
 rw[List.take_of_length_le (by omega),u]at e1
 have d:=yJ W0 (cc.1.take (w.length-1))
 rw[Ym,Nat.min_eq_left (by omega)]at d
 have e2:(2:Int)^(64*(w.length-1)+l.toNat)=W^(w.length-1)*2^l.toNat:=by
  rw[Int.pow_add,Int.pow_mul]
  rfl
 have j:W^(w.length-1)*(w[w.length-1]+1)<=W^(w.length-1)*2^l.toNat:=Yc (by omega) (Int.le_of_lt (pow_pos W0 _))
 rw[Int.mul_add,Int.mul_one]at j
 rw[e2]
 omega
theorem pow8: ∀n:Nat,(8:Int)^(n+1)<((10^(n+1):Nat):Int)
 |0=>by decide
 |n+1=>by
  have d:=pow8 n
  have h:=pow_pos (show(0:Int)<8 by decide) (n+1)
  rw[Int.pow_succ,Nat.pow_succ,Int.natCast_mul]
  omega
theorem qqH (n:Nat):(2:Int)^(3*n)=(8:Int)^n:=by
 rw[Int.pow_mul]
 rfl
theorem qpd {n m:Nat} (d:m=3*(n+1)):(2:Int)^m<((10^(n+1):Nat):Int):=by
 rw[d,qqH]
 exact pow8 n
def lng (z:Int):Bool:=decide (600<(Lib.decDigits z.natAbs).length)
theorem qmj {N:Nat} (hN:600000<N) {x:ql} {z:Int} (h:IsZ x z) (fz:Fit z 3900):qcA N x=some (lng z):=by
 obtain⟨b,e,u⟩:=qpT h fz
 unfold qcA
 rw[e,ZB]
 by_cases c:(b:Int)>1800
 ·rw[if_pos c,qen hN h fz,ZB,qey,qbx,ZB,ZB]
  congr 1
  exact decide_eq_decide.2 (by omega)
 rw[if_neg c,ZB]
 congr 1
 obtain⟨m,hm⟩: ∃m:Nat,m=3*(599+1):=⟨_,rfl⟩
 have j:(2:Int)^b<=2^m:=yx (by decide) (by omega)
 have h2:=qpd hm
 have d:z.natAbs<10^(599+1):=by omega
 have:=(qaG (n:=z.natAbs) (k:=599+1) (by decide)).2 d
 unfold lng
 rw[decide_eq_false (by omega)]
def qf0 (q:Rat):Bool:=lng q.num||lng q.den
theorem qoM {N:Nat} (hN:600000<N) {f:qM} {q:Rat} (h:IsF f q) (d:qcB q 3900):xI N f=some (qf0 q):=by
 unfold xI qf0
 rw[qmj hN h.1 d.1,ZB]
 cases lng q.num with
 |true=>rw[if_pos rfl,ZB,Bool.true_or]
 |false=>rw[if_neg (by simp),qmj hN h.2 d.2,ZB,ZB,Bool.false_or]
def T (q:Rat):Str:=Lib.itoa q.num++(if q.den=1 then[]else 47::Lib.decDigits q.den)
theorem Fit.itoaLen {z:Int} (h:Fit z 3900):(Lib.itoa z).length<=200001:=by
 have j:(Lib.decDigits z.natAbs).length<=20*10000:=by
  refine(qaG (by decide)).2 ?_
  obtain⟨B,hB⟩: ∃B:Nat,B=10000:=⟨_,rfl⟩
  rw[<-hB]
  have u:W^3900<=W^B:=yx (by decide) (by omega)
  have h3:W^B<=(100000000000000000000:Int)^B:=(qd3 (by decide) (by decide) B).2
  have d:((10^(20*B):Nat):Int)=(100000000000000000000:Int)^B:=by
   rw[Nat.pow_mul,Int.natCast_pow]
   rfl
  unfold Fit at h
  generalize W^3900=p at*
  omega
 by_cases c:z<0
 ·rw[vL c,Yr];omega
 rw[zL c];omega
theorem qpN {N:Nat} (hN:600000<N) {f:qM} {q:Rat} (h:IsF f q) (d:qcB q 3900):qaq N f=some (T q):=by
 unfold qaq T
 rw[qeQ h,ZB]
 by_cases c:q.den=1
 ·rw[decide_eq_true c,if_pos rfl,qen hN h.1 d.1,ZB,if_pos c,YQ]
 have j:=Fit.itoaLen d.1
 have u:=Fit.itoaLen d.2
 rw[decide_eq_false c,if_neg (by simp),qen hN h.1 d.1,ZB,qbe (by simp;omega),ZB,qen hN h.2 d.2,ZB,qbe (by simp;omega),ZB,if_neg c,qfW,Yz]
 rfl
theorem qpH {α:Type} {b:Bool} {x y:α}:zH b x y=if b=true then x else y:=by cases b<;>rfl
theorem qjv: ∀(s:Str) (j:Nat),qie 47 s j=if slA s<s.length then((j+slA s:Nat):Int)else-1
 |[],j=>rfl
 |c::s,j=>by
  show zH (Nat.beq c.toNat 47) (Int.ofNat j) (qie 47 s (j+1))=_
  rw[qpH,qjv s (j+1),slA,Yr]
  by_cases h:c=47
  ·subst h
   rw[if_pos (by decide),if_pos rfl,if_pos (by omega)]
   rfl
  have d:c.toNat≠47:=fun e=>h (UInt8.toNat_inj.1 (by rw[e];rfl))
  rw[if_neg (by rw[qcf d];simp),if_neg h]
  by_cases c2:slA s<s.length
  ·rw[if_pos c2,if_pos (by omega)]
   congr 1
   omega
  rw[if_neg c2,if_neg (by omega)]
theorem qo5 {s:Str}:stringslite_Index s [47]=some (qie 47 s 0):=by
 unfold stringslite_Index stringslite_IndexByte qjg
 have h: ¬(([47]:Str).length:Int)=0:=by simp
 have d:(([47]:Str).length:Int)=1:=by simp
 rw[if_neg h]
 simp only[ZB]
 by_cases hs:(([47]:Str)==s)=true
 ·have:s=[47]:=(beq_iff_eq.1 hs).symm
  subst this
  rfl
 rw[if_neg hs,if_pos d,qb8,show([47]:Str)[0]? =some 47 from rfl,ZB,if_pos (by decide)]
 rfl
theorem qox {s:Str} (d:s.length<=1000000):strings_Cut s [47]=some (if slA s<s.length then(s.take (slA s),s.drop (slA s+1),true)else(s,[],false)):=by
 have h:=qfP s
 unfold strings_Cut stringslite_Cut
 rw[qo5,qjv,ZB]
 by_cases c:slA s<s.length
 ·rw[if_pos c,if_pos (by omega),if_pos c,Nat.zero_add,yl h,ZB,show w64 ((slA s:Int)+(([47]:Str).length:Int))=((slA s+1:Nat):Int)from ko (by omega),xq (by omega),ZB,ZB]
 rw[if_neg c,if_neg (by omega),if_neg c,ZB]
theorem qe4 {s:Str} (j:s.length<=1000000):jA s=some (decide (Dec s)):=by
 have d:qjs s [48,49,50,51,52,53,54,55,56,57]=some (Lib.trimS s [48,49,50,51,52,53,54,55,56,57]):=by
  unfold qjs
  rw[if_pos ⟨j,by decide,by decide⟩]
 unfold jA
 rw[d]
 simp only[ZB,qmB]
 cases s with
 |nil=>rfl
 |cons c t=>
  rw[if_pos (by rfl),qb8]
  simp only[Yj,ZB]
  cases hd:(c::t).all vM with
  |false=>
   rw[if_neg (by simp),ZB,decide_eq_false fun h=>by rw[h.2.1]at hd;cases hd]
  |true=>
   rw[if_pos rfl]
   by_cases h:c=48
   ·subst h
    rw[if_neg (by decide),ZB]
    congr 1
    rw[Bool.eq_iff_iff,beq_iff_eq,decide_eq_true_eq]
    exact⟨fun e=>by rw[e];exact qlw (by decide),fun h=>h.2.2 rfl⟩
   rw[if_pos (by simp[ne48 h]),ZB,decide_eq_true (show Dec (c::t)from⟨by simp,hd,fun e=>absurd (Ye e) h⟩)]
theorem qhD {s:Str} (d:s.length<=1000000): ∀(K i:Nat),i<=s.length->s.length<K+i->jm s K (i:Int)=some (if(s.drop i).all vM=true then .inl ()else .inr false)
 |0,i,h,hK=>by omega
 |K+1,i,h,hK=>by
  rw[jm]
  by_cases hi:i<s.length
  ·have j:s.drop i=s[i]::s.drop (i+1):=YG hi
   rw[if_pos (by omega),qo,Ya hi,ZB,j,List.all_cons]
   generalize s[i]=c
   have e:(if(c.toNat:Int)<48 then some true else some (decide ((c.toNat:Int)>57)):Option Bool)=some (!vM c):=by
    by_cases h1:(c.toNat:Int)<48
    ·rw[if_pos h1]
     congr 1
     unfold vM
     rw[decide_eq_false (by omega)]
     rfl
    rw[if_neg h1]
    congr 1
    unfold vM
    rw[decide_eq_true (p:=48<=c.toNat) (by omega),Bool.true_and,<-decide_not]
    exact decide_eq_decide.2 (by omega)
   rw[e,ZB]
   cases hc:vM c with
   |true=>rw[if_neg (by simp),ko (by omega),qhD d K (i+1) (by omega) (by omega),Bool.true_and]
   |false=>rw[if_pos (by simp),Bool.false_and,if_neg (by simp)]
  rw[if_neg (by omega),List.drop_of_length_le (by omega)]
  rfl
theorem qhz {N:Nat} {s:Str} (j:s.length<=1000000) (hN:s.length<N):jd N s=some (decide (Dec s)):=by
 have e:=qhD j N 0 (by omega) (by omega)
 have e:jm s N 0=_:=e
 have d:qaT N s=some (s.all vM):=by
  unfold qaT
  rw[e,YR]
  cases s.all vM<;>rfl
 unfold jd
 cases s with
 |nil=>rfl
 |cons c t=>
  rw[if_neg (by simp;omega)]
  by_cases h1:((c::t).length:Int)>1
  ·rw[if_pos h1,qb8]
   simp only[Yj,ZB]
   by_cases h:c=48
   ·subst h
    rw[if_pos (by decide),decide_eq_false fun hD=>?_]
    have:=congrArg List.length (hD.2.2 rfl)
    rw[List.length_singleton]at this
    omega
   rw[if_neg (by simp[ne48 h]),d,ZB]
   congr 1
   rw[Bool.eq_iff_iff,decide_eq_true_eq]
   exact⟨fun hd=>⟨by simp,hd,fun e=>absurd (Ye e) h⟩,fun hD=>hD.2.1⟩
  rw[if_neg h1,ZB,if_neg (by simp),d,ZB]
  have u:t=[]:=YL.1 (by simp at h1;omega)
  subst u
  congr 1
  rw[Bool.eq_iff_iff,decide_eq_true_eq]
  exact⟨fun hd=>qlw (by simpa using hd),fun hD=>hD.2.1⟩
end Go.Av
end
section
namespace Go.Av
theorem qi9 {z:Int} {p n:Nat} (h:(z.natAbs:Int)<((10^p:Nat):Int)) (hp:p<=9*n):zY z n:=by
 have d:(10:Nat)^p<=10^(9*n):=Nat.pow_le_pow_right (by omega) hp
 unfold zY
 rw[qhf]
 omega
theorem qlR {N:Nat} (hN:10<N) (a b:Int):ym N [a,b]=some (if a=0 then b else a):=by
 obtain⟨K,rfl⟩: ∃K,N=K+1+1+1:=⟨N-3,by omega⟩
 unfold ym
 by_cases ha:a=0
 ·by_cases hb:b=0
  ·subst ha;subst hb
   rfl
  have d:zB [a,b] (K+1+1+1) 0=some (.inr b):=by
   rw[zB,if_pos (by simp),qb8]
   simp only[Yj,ZB]
   rw[if_neg (by simp[ha]),zB,show w64 ((0:Int)+1)=1 from rfl,if_pos (by simp),idx_1]
   simp only[List.getElem?_cons_succ,Yj,ZB]
   rw[if_pos (by simp[hb])]
  rw[d,if_pos ha]
  rfl
 have d:zB [a,b] (K+1+1+1) 0=some (.inr a):=by
  rw[zB,if_pos (by simp),qb8]
  simp only[Yj,ZB]
  rw[if_pos (by simp[ha])]
 rw[d,if_neg ha]
 rfl
def okF (s:Str):Bool:=decide (Dec ((bdy s).take (slA (bdy s)))/\ ¬(sgn s=true/\(bdy s).take (slA (bdy s))=[48]))
def qhG (s:Str):Bool:=decide (slA (bdy s)<(bdy s).length/\ ¬(Dec ((bdy s).drop (slA (bdy s)+1))/\(bdy s).drop (slA (bdy s)+1)≠[48]/\(bdy s).drop (slA (bdy s)+1)≠[49]))
def chk (s:Str):Int:=
 if okF s=false\/qhG s=true then 1
 else if 600<((bdy s).take (slA (bdy s))).length\/600<((bdy s).drop (slA (bdy s)+1)).length then 4
 else if slA (bdy s)<(bdy s).length/\Nat.gcd (qP 0 ((bdy s).take (slA (bdy s)))) (qP 0 ((bdy s).drop (slA (bdy s)+1)))≠1 then 1
 else 0
theorem qbl {s:Str} (h:s.all vM=true):sgn s=false/\bdy s=s:=by
 have e:sgn s=false:=decide_eq_false fun e=>by
  have d:(45:UInt8)∈s:=Yn e
  exact absurd (Yp.1 h _ d) (by decide)
 exact⟨e,by unfold bdy;rw[e];rfl⟩
theorem qcS {s:Str} (h:s.all vM=true):qiQ s=(qP 0 s:Nat):=by
 obtain⟨j,d⟩:=qbl h
 unfold qiQ
 rw[j,d]
 rfl
theorem qfv (s:Str):(bdy s).length<=s.length:=by
 unfold bdy
 split
 ·rw[YJ];omega
 exact Nat.le_refl _
theorem qem {s:Str} {k:Nat} (h:Dec s) (d:s.length<=k):((qP 0 s:Nat):Int).natAbs<10^k:=by
 have j:=qej s 0 h.2.1
 have u:(10:Nat)^s.length<=10^k:=Nat.pow_le_pow_right (by omega) d
 omega
theorem qfe {s:Str} (h:Dec s) (d:s≠[48]):0<qP 0 s:=by
 rcases Nat.eq_zero_or_pos (qP 0 s)with e|e
 ·have:=h.eq
  rw[e,zW (by decide)]at this
  exact absurd this d
 exact e
theorem qet {N:Nat} (hN:600000<N) {s:Str} (hl:s.length<=10000):xc N s=some (chk s):=by
 have hb:=qfv s
 have hk:=qfP (bdy s)
 have lt:((bdy s).take (slA (bdy s))).length=slA (bdy s):=by rw[Ym];omega
 have ld:((bdy s).drop (slA (bdy s)+1)).length=(bdy s).length-(slA (bdy s)+1):=by rw[YJ]
 unfold xc
 rw[qjp,ZB]
 simp only
 have C:strings_Cut (bdy s) [47]=some ((bdy s).take (slA (bdy s)),(bdy s).drop (slA (bdy s)+1),decide (slA (bdy s)<(bdy s).length)):=by
  rw[qox (by omega)]
  by_cases c:slA (bdy s)<(bdy s).length
  ·rw[if_pos c,decide_eq_true c]
  rw[if_neg c,decide_eq_false c,List.take_of_length_le (by omega),List.drop_of_length_le (by omega)]
 rw[C,ZB]
 unfold chk okF qhG
 generalize hn:(bdy s).take (slA (bdy s))=n at*
 generalize hd:(bdy s).drop (slA (bdy s)+1)=d at*
 generalize slA (bdy s)=k at*
 generalize (bdy s).length=m at*
 simp only
 rw[qe4 (by omega),ZB]
 have B6:(if decide (Dec n)=true then if(!sgn s)=true then some true else some (!(n==[48]))else some false:Option Bool)=some (decide (Dec n/\ ¬(sgn s=true/\n=[48]))):=by
  by_cases u:Dec n
  ·cases h2:sgn s with
   |false=>simp[u]
   |true=>
    by_cases h3:n=[48]<;>simp[u,h3]
  simp[u]
 rw[B6,ZB]
 generalize hf:decide (Dec n/\ ¬(sgn s=true/\n=[48]))=ok at*
 have B8:(if decide (k<m)=true then(if ok=true then(jA d).bind fun r12=>if r12=true then if(!(d==[48]))=true then some (!(d==[49]))else some false else some false else some false:Option Bool).bind fun b15=>some b15 else some ok:Option Bool)=some (ok&&!decide (k<m/\ ¬(Dec d/\d≠[48]/\d≠[49]))):=by
  by_cases u:k<m
  ·cases ok with
   |false=>simp[u]
   |true=>
    rw[qe4 (by omega)]
    by_cases h2:Dec d
    ·by_cases h3:d=[48]
     ·simp[u,h2,h3]
     by_cases h4:d=[49]<;>simp[u,h2,h3,h4]
    simp[u,h2]
  simp[u]
 rw[B8,ZB]
 generalize hg:decide (k<m/\ ¬(Dec d/\d≠[48]/\d≠[49]))=bd at*
 have B:((zt (!(ok&&!bd)) 1).bind fun r17=>if(n.length:Int)>600 then(zt true 4).bind fun r19=>(ym N ([r17,r19]:List Int)).bind fun r20=>some (r17,r19,r20)else(zt (decide ((d.length:Int)>600)) 4).bind fun r21=>(ym N ([r17,r21]:List Int)).bind fun r22=>some (r17,r21,r22):Option (Int×Int×Int))=some (if ok=false\/bd=true then 1 else 0,if 600<n.length\/600<d.length then 4 else 0,if ok=false\/bd=true then 1 else if 600<n.length\/600<d.length then 4 else 0):=by
  have w1:zt (!(ok&&!bd)) 1=some (if ok=false\/bd=true then 1 else 0):=by
   unfold zt
   cases ok<;>cases bd<;>rfl
  rw[w1,ZB]
  by_cases c:(n.length:Int)>600
  ·rw[if_pos c,show zt true 4=some 4 from rfl,ZB,qlR (by omega),ZB,if_pos (show 600<n.length\/600<d.length from .inl (by omega))]
   by_cases c2:ok=false\/bd=true
   ·simp only[if_pos c2];rfl
   simp only[if_neg c2];rfl
  have w2:zt (decide ((d.length:Int)>600)) 4=some (if 600<n.length\/600<d.length then 4 else 0):=by
   unfold zt
   by_cases c2:(d.length:Int)>600
   ·rw[decide_eq_true c2,if_pos rfl,if_pos (.inr (by omega))]
   rw[decide_eq_false c2,if_neg (by simp),if_neg (by omega)]
  rw[if_neg c,w2,ZB,qlR (by omega),ZB]
  by_cases c2:ok=false\/bd=true
  ·simp only[if_pos c2];rfl
  simp only[if_neg c2];rfl
 rw[B,ZB]
 simp only
 by_cases c1:ok=false\/bd=true
 ·simp only[if_pos c1];rfl
 simp only[if_neg c1]
 by_cases c2:600<n.length\/600<d.length
 ·simp only[if_pos c2];rfl
 simp only[if_neg c2]
 rw[if_neg (show¬((!decide True)=true)by decide)]
 have ho:ok=true:=by cases ok<;>simp at c1⊢
 have hbd:bd=false:=by cases bd<;>simp at c1⊢
 have a0:=(of_decide_eq_true (hf.trans ho)).1
 by_cases c3:k<m
 ·have j:Dec d/\d≠[48]/\d≠[49]:=Classical.byContradiction fun hc=>of_decide_eq_false (hg.trans hbd) ⟨c3,hc⟩
  obtain⟨r1,e1,u⟩:=qgI hN (s:=n) (by rw[(qbl a0.2.1).2];exact a0.2.1) (by rw[(qbl a0.2.1).2];omega)
  obtain⟨r2,e2,h2⟩:=qgI hN (s:=d) (by rw[(qbl j.1.2.1).2];exact j.1.2.1) (by rw[(qbl j.1.2.1).2];omega)
  rw[qcS a0.2.1]at u
  rw[qcS j.1.2.1]at h2
  have f1:Fit ((qP 0 n:Nat):Int) 40:=qfr (p:=600) (by have:=qem a0 (k:=600) (by omega);omega) (by omega)
  have f2:Fit ((qP 0 d:Nat):Int) 40:=qfr (p:=600) (by have:=qem j.1 (k:=600) (by omega);omega) (by omega)
  obtain⟨g,e3,h3⟩:=qnT hN u h2 (f1.mono (by omega)) (f2.mono (by omega))
  have eg:Int.gcd ((qP 0 n:Nat):Int) ((qP 0 d:Nat):Int)=Nat.gcd (qP 0 n) (qP 0 d):=rfl
  rw[eg]at h3
  have hgp:0<Nat.gcd (qP 0 n) (qP 0 d):=Nat.gcd_pos_of_pos_right _ (qfe j.1 j.2.1)
  have fg:Fit ((Nat.gcd (qP 0 n) (qP 0 d):Nat):Int) 40:=qa8 (by
   have:=Nat.le_of_dvd (qfe j.1 j.2.1) (Nat.gcd_dvd_right (qP 0 n) (qP 0 d))
   omega) f2
  have e4:=qod (N:=N) (by omega) h3 (Ud (z:=1) (by decide) (by decide)) (fg.mono (by omega)) (F1 (by omega))
  rw[decide_eq_true c3,if_pos rfl,e1,ZB,e2,ZB,e3,ZB,qhk,ZB,e4,ZB,ZB]
  unfold zt
  by_cases c4:Nat.gcd (qP 0 n) (qP 0 d)=1
  ·rw[if_neg (show¬((Nat.gcd (qP 0 n) (qP 0 d):Nat):Int)<1 by omega),if_pos (show((Nat.gcd (qP 0 n) (qP 0 d):Nat):Int)=1 by omega),if_neg (show¬(k<m/\Nat.gcd (qP 0 n) (qP 0 d)≠1)from fun h=>h.2 c4)]
   rfl
  have: ¬((Nat.gcd (qP 0 n) (qP 0 d):Nat):Int)<1:=by omega
  rw[if_neg this,if_neg (show¬(((Nat.gcd (qP 0 n) (qP 0 d):Nat):Int)=1)by omega),if_pos (show k<m/\Nat.gcd (qP 0 n) (qP 0 d)≠1 from⟨c3,c4⟩)]
  rfl
 rw[decide_eq_false c3,if_neg (by simp),ZB,if_neg (by omega)]
 rfl
end Go.Av
end
section
namespace Go.Av
theorem qot:dg E9 1=[1]:=qiX (by decide) (by decide)
theorem qqc {N:Nat} (hN:100<N):xU N 1=some (rI 1):=by
 obtain⟨K,rfl⟩: ∃K,N=K+1+1:=⟨N-2,by omega⟩
 have h:jR (K+1+1) [] 1=some [1]:=by
  rw[jR,if_pos (by decide),if_neg (by decide),ZB,qbZ (by simp) (by simp),ZB,show w64 ((1:Int).tdiv 1000000000)=0 from rfl,jR,if_neg (by decide)]
  rfl
 unfold xU
 rw[h,ZB,decide_eq_false (by decide),qai false (w:=[1]) (Dg.cons ⟨by decide,by decide⟩ Dg.nil) (by simp) (by simp),ZB]
 rfl
theorem qij {N:Nat} (hN:600000<N) {s:Str} (hl:s.length<=10000) (hk:slA s<s.length) (d:(bdy (s.take (slA s))).all vM=true) (u:(bdy (s.drop (slA s+1))).all vM=true):yo N s=some (rI (qiQ (s.take (slA s))),rI (qiQ (s.drop (slA s+1)))):=by
 have h:=qfv (s.take (slA s))
 have j:=qfv (s.drop (slA s+1))
 rw[Ym]at h
 rw[YJ]at j
 unfold yo
 rw[qd4 (by omega) (by omega),ZB,if_neg (by omega),yl (by omega),ZB,qhj (by omega) d (by omega),ZB,ko (by omega),xq (by omega),ZB,qhj (by omega) u (by omega),ZB]
theorem qei {N:Nat} (hN:600000<N) {s:Str} (hl:s.length<=10000):yV N s=some (chk s):=by
 have hb:=qfv s
 have hk:=qfP (bdy s)
 have lt:((bdy s).take (slA (bdy s))).length=slA (bdy s):=by rw[Ym];omega
 have ld:((bdy s).drop (slA (bdy s)+1)).length=(bdy s).length-(slA (bdy s)+1):=by rw[YJ]
 unfold yV
 rw[qe0,ZB,qk8,ZB,qd4 (by omega) (by omega),ZB,yl hk,ZB,qhz (by omega) (by omega),ZB]
 have I:Dec ((bdy s).take (slA (bdy s)))->((idx s 0).bind fun c13=>if(c13.toNat:Int)=45 then(some ((bdy s).take (slA (bdy s)))).bind fun s15=>some (s15==[48])else some false:Option Bool)=some (sgn s&&((bdy s).take (slA (bdy s))==[48])):=by
  intro hD
  have h1:=hD.1
  have hs:=qe0 s
  rw[if_pos (by omega)]at hs
  rw[qb8]at hs⊢
  cases e:s[0]? with
  |none=>rw[e]at hs;cases hs
  |some c=>
   rw[e,ZB]at hs
   rw[ZB,<-Ye hs]
   by_cases c2:(c.toNat:Int)=45
   ·rw[if_pos c2,decide_eq_true c2,ZB,Bool.true_and]
   rw[if_neg c2,decide_eq_false c2,Bool.false_and]
 have S16:(if(!decide (Dec ((bdy s).take (slA (bdy s)))))=true then some true else(idx s 0).bind fun c13=>if(c13.toNat:Int)=45 then(some ((bdy s).take (slA (bdy s)))).bind fun s15=>some (s15==[48])else some false:Option Bool)=some (!okF s):=by
  unfold okF
  by_cases hD:Dec ((bdy s).take (slA (bdy s)))
  ·rw[if_neg (by simp[hD]),I hD]
   congr 1
   rw[Bool.eq_iff_iff]
   simp[hD]
  rw[if_pos (by simp[hD])]
  simp[hD]
 rw[S16,ZB]
 have S26:(if(slA (bdy s):Int)<((bdy s).length:Int)then(cut (bdy s) (w64 ((slA (bdy s):Int)+1)) ((bdy s).length:Int)).bind fun s20=>(jd N s20).bind fun r21=>if(!r21)=true then some true else(cut (bdy s) (w64 ((slA (bdy s):Int)+1)) ((bdy s).length:Int)).bind fun s23=>if(s23==[48])=true then some true else(cut (bdy s) (w64 ((slA (bdy s):Int)+1)) ((bdy s).length:Int)).bind fun s25=>some (s25==[49])else some false:Option Bool)=some (qhG s):=by
  unfold qhG
  by_cases c:slA (bdy s)<(bdy s).length
  ·rw[if_pos (by omega),ko (by omega),xq (by omega),ZB,qhz (by omega) (by omega),ZB]
   by_cases hD:Dec ((bdy s).drop (slA (bdy s)+1))
   ·rw[if_neg (by simp[hD]),ZB]
    by_cases h3:(bdy s).drop (slA (bdy s)+1)=[48]
    ·rw[if_pos (by simp[h3])]
     simp[c,h3]
    rw[if_neg (by simp[h3]),ZB]
    congr 1
    rw[Bool.eq_iff_iff]
    simp[c,h3,hD]
   rw[if_pos (by simp[hD])]
   simp[c,hD]
  rw[if_neg (by omega)]
  simp[c]
 have S30:(if(slA (bdy s):Int)>600 then some true else some (decide ((w64 ((w64 (((bdy s).length:Int)-(slA (bdy s):Int)))-1))>600)):Option Bool)=some (decide (600<((bdy s).take (slA (bdy s))).length\/600<((bdy s).drop (slA (bdy s)+1)).length)):=by
  rw[lt,ld]
  by_cases c:(slA (bdy s):Int)>600
  ·rw[if_pos c,decide_eq_true (.inl (by omega))]
  rw[if_neg c,qh (n:=((bdy s).length:Int)-(slA (bdy s):Int)) (by omega) (by omega),qh (by omega) (by omega)]
  congr 1
  exact decide_eq_decide.2 (by omega)
 unfold chk
 by_cases h1:okF s=true
 ·rw[h1,if_neg (by simp),S26,ZB]
  by_cases h2:qhG s=true
  ·rw[h2,if_pos rfl,if_pos (.inr rfl)]
  have a0:qhG s=false:=by simpa using h2
  rw[a0,if_neg (by simp),S30,ZB,if_neg (show¬(true=false\/false=true)by simp)]
  by_cases h3:600<((bdy s).take (slA (bdy s))).length\/600<((bdy s).drop (slA (bdy s)+1)).length
  ·rw[decide_eq_true h3,if_pos rfl,if_pos h3]
  rw[decide_eq_false h3,if_neg (by simp),if_neg h3]
  by_cases c:slA (bdy s)<(bdy s).length
  ·have u:=(of_decide_eq_true h1).1
   have j:Dec ((bdy s).drop (slA (bdy s)+1))/\(bdy s).drop (slA (bdy s)+1)≠[48]/\(bdy s).drop (slA (bdy s)+1)≠[49]:=Classical.byContradiction fun hc=>of_decide_eq_false a0 ⟨c,hc⟩
   have ep:=qij hN (s:=bdy s) (by omega) c (by rw[(qbl u.2.1).2];exact u.2.1) (by rw[(qbl j.1.2.1).2];exact j.1.2.1)
   rw[qcS u.2.1,qcS j.1.2.1]at ep
   rw[if_pos (by omega),ep,ZB]
   simp only
   have v1:=qem u (k:=600) (by omega)
   have v2:=qem j.1 (k:=600) (by omega)
   have v3:=qfe j.1 j.2.1
   generalize qP 0 ((bdy s).take (slA (bdy s)))=n at*
   generalize qP 0 ((bdy s).drop (slA (bdy s)+1))=d at*
   have f1:zY ((n:Nat):Int) 8000:=(qi9 (p:=600) (n:=70) (by omega) (by omega)).mono (by omega)
   have f2:zY ((d:Nat):Int) 8000:=(qi9 (p:=600) (n:=70) (by omega) (by omega)).mono (by omega)
   have e1:(rI ((n:Nat):Int)).w=dg E9 ((n:Nat):Int):=by
    show dg E9 (((n:Nat):Int).natAbs:Int)=_
    rw[Int.natAbs_natCast]
   have e2:(rI ((d:Nat):Int)).w=dg E9 ((d:Nat):Int):=by
    show dg E9 (((d:Nat):Int).natAbs:Int)=_
    rw[Int.natAbs_natCast]
   have ec:=qiN (N:=N) hN (a:=((n:Nat):Int)) (b:=((d:Nat):Int)) (by omega) (by omega) f1 f2
   have eg:Int.gcd ((n:Nat):Int) ((d:Nat):Int)=Nat.gcd n d:=rfl
   rw[eg]at ec
   rw[e1,e2,ec,ZB]
   have hg:0<Nat.gcd n d:=Nat.gcd_pos_of_pos_right _ v3
   have cc:=zT E1 (show(0:Int)<=((Nat.gcd n d:Nat):Int)by omega)
   have vv:=jV E1 (show(0:Int)<=((Nat.gcd n d:Nat):Int)by omega)
   by_cases h4:Nat.gcd n d=1
   ·have:dg E9 ((Nat.gcd n d:Nat):Int)=[1]:=by rw[show((Nat.gcd n d:Nat):Int)=1 by omega];exact qot
    rw[this,if_neg (by simp),qb8,if_neg (fun h=>h.2 h4)]
    rfl
   rw[if_pos (show slA (bdy s)<(bdy s).length/\Nat.gcd n d≠1 from⟨c,h4⟩)]
   by_cases h5:(dg E9 ((Nat.gcd n d:Nat):Int)).length=1
   ·obtain⟨x,hx⟩:=List.length_eq_one_iff.1 h5
    rw[hx,zo,zb,Int.mul_zero,Int.add_zero]at vv
    have hx1:x≠1:=by omega
    rw[hx,if_neg (by simp),qb8]
    simp only[Yj,ZB,decide_eq_false hx1]
    rfl
   rw[if_pos (by simp;omega)]
   rfl
  rw[if_neg (by omega),if_neg (by omega)]
  rfl
 have h1':okF s=false:=by simpa using h1
 rw[h1',if_pos (by simp),if_pos (.inl rfl)]
end Go.Av
end
section
namespace Go.Av
def tl (q:Rat):Str:=if q.den=1 then[]else 47::Lib.decDigits q.den
theorem qmX (q:Rat):T q=Lib.itoa q.num++tl q:=rfl
theorem no47 {s:Str} (h:s.all vM=true): ∀c∈s,c≠47:=fun c hc e=>by
 have:=Yp.1 h c hc
 rw[e]at this
 exact absurd this (by decide)
theorem qky: ∀{s:Str},(∀c∈s,c≠47)->slA s=s.length:=fun {s} h=>(qi2 s [] h).2
theorem qh7 {s:Str} (h: ∀c∈s,c≠47) (q:Rat):slA (s++tl q)=s.length:=by
 unfold tl
 by_cases c:q.den=1
 ·rw[if_pos c,YQ]
  exact qky h
 rw[if_neg c]
 exact(qi2 s _ h).1
theorem qeq (z:Int): ∀c∈Lib.itoa z,c≠47:=by
 by_cases h:z<0
 ·rw[vL h]
  intro c hc
  rcases List.mem_cons.1 hc with e|e
  ·rw[e];decide
  exact no47 (qaZ _) c e
 rw[zL h]
 exact no47 (qaZ _)
theorem qpE {s t:Str} (h:0<s.length):sgn (s++t)=sgn s:=by
 unfold sgn
 rw[Yf h]
theorem qjE (z:Int):0<(Lib.itoa z).length:=by
 by_cases h:z<0
 ·rw[vL h];simp
 rw[zL h];exact qhr _
theorem qj9 (q:Rat):sgn (T q)=decide (q.num<0):=by rw[qmX,qpE (qjE _),qfi]
theorem qj1 (q:Rat):bdy (T q)=Lib.decDigits q.num.natAbs++tl q:=by
 unfold bdy
 rw[qj9,qmX]
 by_cases h:q.num<0
 ·rw[decide_eq_true h,if_pos rfl,vL h]
  rfl
 rw[decide_eq_false h,if_neg (by simp),zL h]
theorem qls {p q:Rat} (h:T p=T q):p=q:=by
 have u:=congrArg slA h
 have e1:slA (T p)=(Lib.itoa p.num).length:=qh7 (qeq _) p
 have e2:slA (T q)=(Lib.itoa q.num).length:=qh7 (qeq _) q
 rw[e1,e2]at u
 rw[qmX,qmX]at h
 obtain⟨h2,j⟩:=List.append_inj h u
 have n1:p.num=q.num:=by rw[<-qbL p.num,h2,qbL]
 have n2:p.den=q.den:=by
  unfold tl at j
  by_cases c:p.den=1
  ·by_cases d:q.den=1
   ·rw[c,d]
   rw[if_pos c,if_neg d]at j;cases j
  by_cases d:q.den=1
  ·rw[if_neg c,if_pos d]at j;cases j
  rw[if_neg c,if_neg d]at j
  injection j with _ j
  exact qkO j
 exact Rat.ext n1 n2
theorem qlQ: ∀{s:Str},slA s<s.length->s=s.take (slA s)++47::s.drop (slA s+1)
 |[],h=>by simp at h
 |c::s,h=>by
  rw[slA]at h⊢
  by_cases e:c=47
  ·rw[if_pos e,e]
   rfl
  rw[if_neg e,Yr]at h
  rw[if_neg e,List.take_succ_cons,List.drop_succ_cons,List.cons_append,<-qlQ (show slA s<s.length by omega)]
theorem qpF (s:Str):s=if sgn s=true then 45::bdy s else bdy s:=by
 unfold bdy
 cases h:sgn s with
 |false=>rw[if_neg (by simp),if_neg (by simp)]
 |true=>
  rw[if_pos rfl,if_pos rfl]
  cases s with
  |nil=>cases h
  |cons c t=>
   have e:=of_decide_eq_true h
   simp only[Yj]at e
   rw[Ye e]
   rfl
theorem qh0 {s:Str} (h:chk s=0): ∃q:Rat,s=T q/\(Lib.decDigits q.num.natAbs).length<=600/\(Lib.decDigits q.den).length<=600:=by
 have hk:=qfP (bdy s)
 have lt:((bdy s).take (slA (bdy s))).length=slA (bdy s):=by rw[Ym];omega
 have hs:=qpF s
 have hsp:=@qlQ (bdy s)
 unfold chk at h
 by_cases h1:okF s=false\/qhG s=true
 ·rw[if_pos h1]at h;cases h
 rw[if_neg h1]at h
 by_cases h2:600<((bdy s).take (slA (bdy s))).length\/600<((bdy s).drop (slA (bdy s)+1)).length
 ·rw[if_pos h2]at h;cases h
 rw[if_neg h2]at h
 by_cases h3:slA (bdy s)<(bdy s).length/\Nat.gcd (qP 0 ((bdy s).take (slA (bdy s)))) (qP 0 ((bdy s).drop (slA (bdy s)+1)))≠1
 ·rw[if_pos h3]at h;cases h
 have ho:okF s=true:=by cases e:okF s with|true=>rfl|false=>exact absurd (.inl e) h1
 have hb:qhG s=false:=by cases e:qhG s with|false=>rfl|true=>exact absurd (.inr e) h1
 obtain⟨j,hng⟩:=of_decide_eq_true ho
 have u:=j.eq
 obtain⟨z,hz1,hz2⟩: ∃z:Int,z.natAbs=qP 0 ((bdy s).take (slA (bdy s)))/\(z<0↔sgn s=true):=by
  cases e:sgn s with
  |false=>exact⟨((qP 0 ((bdy s).take (slA (bdy s))):Nat):Int),by omega,by simp⟩
  |true=>
   have:=qfe j fun c=>hng ⟨e,c⟩
   exact⟨-((qP 0 ((bdy s).take (slA (bdy s))):Nat):Int),by omega,by simp;omega⟩
 have hT: ∀t:Str,bdy s=(bdy s).take (slA (bdy s))++t->s=Lib.itoa z++t:=by
  intro t ht
  rw[hs]
  by_cases c:z<0
  ·rw[if_pos (hz2.1 c),vL c,hz1,<-u,List.cons_append,<-ht]
  rw[if_neg fun e=>c (hz2.2 e),zL c,hz1,<-u,<-ht]
 by_cases c:slA (bdy s)<(bdy s).length
 ·have d:Dec ((bdy s).drop (slA (bdy s)+1))/\(bdy s).drop (slA (bdy s)+1)≠[48]/\(bdy s).drop (slA (bdy s)+1)≠[49]:=Classical.byContradiction fun hc=>of_decide_eq_false hb ⟨c,hc⟩
  have ed:=d.1.eq
  have hd0:=qfe d.1 d.2.1
  have hd1:qP 0 ((bdy s).drop (slA (bdy s)+1))≠1:=fun e=>by
   rw[e,zW (by decide)]at ed
   exact d.2.2 ed
  have hg:Nat.gcd z.natAbs (qP 0 ((bdy s).drop (slA (bdy s)+1)))=1:=by
   rw[hz1]
   exact Classical.byContradiction fun e=>h3 ⟨c,e⟩
  refine⟨⟨z,qP 0 ((bdy s).drop (slA (bdy s)+1)),by omega,hg⟩,?_,?_,?_⟩
  ·have:=hT _ (hsp c)
   unfold T
   rw[if_neg hd1]
   show s=Lib.itoa z++47::Lib.decDigits (qP 0 ((bdy s).drop (slA (bdy s)+1)))
   rw[<-ed]
   exact this
  ·show(Lib.decDigits z.natAbs).length<=600
   rw[hz1,<-u]
   omega
  show(Lib.decDigits (qP 0 ((bdy s).drop (slA (bdy s)+1)))).length<=600
  rw[<-ed]
  omega
 refine⟨(z:Rat),?_,?_,?_⟩
 ·have:=hT [] (by rw[YQ,List.take_of_length_le (by omega)])
  unfold T
  rw[Rat.den_intCast,if_pos rfl,Rat.num_intCast]
  exact this
 ·rw[Rat.num_intCast,hz1,<-u]
  omega
 rw[Rat.den_intCast,zW (by decide)]
 simp
end Go.Av
end
section
namespace Go.Av
def Sml (q:Rat) (k:Nat):Prop:=(Lib.decDigits q.num.natAbs).length<=k/\(Lib.decDigits q.den).length<=k
theorem qjo (z:Int):(Lib.itoa z).length<=(Lib.decDigits z.natAbs).length+1:=by
 by_cases h:z<0
 ·rw[vL h];simp
 rw[zL h];omega
theorem qgE (q:Rat) (h:q.den≠1):slA (T q)<(T q).length/\(T q).take (slA (T q))=Lib.itoa q.num/\(T q).drop (slA (T q)+1)=Lib.decDigits q.den:=by
 have e:slA (T q)=(Lib.itoa q.num).length:=qh7 (qeq _) q
 have d:T q=Lib.itoa q.num++47::Lib.decDigits q.den:=by unfold T;rw[if_neg h]
 rw[e,d]
 refine⟨by rw[Yq,Yr];omega,?_,?_⟩
 ·rw[List.take_append_of_le_length (Nat.le_refl _),List.take_of_length_le (Nat.le_refl _)]
 rw[List.drop_append,List.drop_of_length_le (by omega),show(Lib.itoa q.num).length+1-(Lib.itoa q.num).length=1 by omega]
 rfl
theorem qfp (q:Rat) (h:q.den=1):T q=Lib.itoa q.num/\slA (T q)=(T q).length:=by
 have d:T q=Lib.itoa q.num:=by unfold T;rw[if_pos h,YQ]
 refine⟨d,?_⟩
 rw[d]
 exact qky (qeq _)
theorem qjC {q:Rat} {k:Nat} (h:Sml q k):(T q).length<=2*k+2:=by
 have d:=qjo q.num
 have j:=h.1
 have u:=h.2
 unfold T
 rw[Yq]
 split
 ·simp;omega
 rw[Yr];omega
theorem qbD {N:Nat} (hN:600000<N) {q:Rat} (h:Sml q 9000): ∃f,vz N (T q)=some f/\IsF f q:=by
 have hl:=qjC h
 have h1:=h.1
 have h2:=h.2
 unfold vz
 rw[qox (by omega),ZB]
 obtain⟨r1,e1,i1⟩:=qgI hN (s:=Lib.itoa q.num) (by rw[qbx];exact qaZ _) (by rw[qbx];omega)
 rw[qbL]at i1
 by_cases c:q.den=1
 ·obtain⟨u,t2⟩:=qfp q c
  rw[if_neg (show¬slA (T q)<(T q).length by omega)]
  obtain⟨f,e2,d⟩:=qhX i1
  rw[if_pos (by rfl),u,e1,ZB,e2,ZB]
  refine⟨f,rfl,?_⟩
  have:(q.num:Rat)=q:=Rat.ext (by simp) (by simp[c])
  rw[this]at d
  exact d
 obtain⟨u,t2,t3⟩:=qgE q c
 rw[if_pos u]
 have j:=qaZ q.den
 obtain⟨r2,e2,d⟩:=qgI hN (s:=Lib.decDigits q.den) (by rw[(qbl j).2];exact j) (by rw[(qbl j).2];omega)
 rw[qcS j,qb0]at d
 rw[if_neg (by simp),t2,t3,e1,ZB,e2,ZB]
 exact⟨⟨r1,r2⟩,rfl,i1,d⟩
theorem qiw {N:Nat} (hN:600000<N) {q:Rat} (h:Sml q 4000):yo N (T q)=some (rI q.num,rI (q.den:Int)):=by
 have hl:=qjC h
 have h1:=h.1
 have h2:=h.2
 by_cases c:q.den=1
 ·obtain⟨j,d⟩:=qfp q c
  unfold yo
  rw[qd4 (by omega) (by omega),ZB,d,if_pos rfl,j,qhj (by omega) (by rw[qbx];exact qaZ _) (by rw[qbx];omega),ZB,qqc (by omega),ZB,qbL,c]
  rfl
 obtain⟨j,d,t3⟩:=qgE q c
 have u:=qaZ q.den
 rw[qij hN (by omega) j (by rw[d,qbx];exact qaZ _) (by rw[t3,(qbl u).2];exact u),d,t3,qbL,qcS u,qb0]
end Go.Av
end
section
namespace Go.Av
theorem qmU {n:Nat} (h:0<n):(if((dg E9 (n:Int)).length:Int)=1 then(idx (dg E9 (n:Int)) 0).bind fun x15=>some (decide (x15=1))else some false:Option Bool)=some (decide (n=1)):=by
 have u:=jV E1 (show(0:Int)<=(n:Int)by omega)
 by_cases h4:n=1
 ·rw[show(n:Int)=1 by omega,qot,if_pos (by simp),qb8,h4]
  rfl
 rw[decide_eq_false h4]
 by_cases h5:(dg E9 (n:Int)).length=1
 ·obtain⟨x,j⟩:=List.length_eq_one_iff.1 h5
  rw[j,zo,zb,Int.mul_zero,Int.add_zero]at u
  have d:x≠1:=by omega
  rw[j,if_pos (by simp),qb8]
  simp only[Yj,ZB,decide_eq_false d]
 rw[if_neg (by omega)]
theorem zY.abs {z:Int} {n:Nat} (h:zY z n):zY (z.natAbs:Int) n:=by
 unfold zY at h⊢
 rw[Int.natAbs_natCast]
 exact h
theorem zY.le {a b:Int} {n:Nat} (h:(a.natAbs:Int)<=(b.natAbs:Int)) (k:zY b n):zY a n:=Int.lt_of_le_of_lt h k
theorem zY.itoaLen {z:Int} {n:Nat} (h:zY z n) (hn:0<n):(Lib.itoa z).length<=9*n+1:=by
 have d:z.natAbs<10^(9*n):=by
  have h:(z.natAbs:Int)<E9^n:=h
  rw[qhf]at h
  exact Int.ofNat_lt.1 h
 have u:=(qaG (show 0<9*n by omega)).2 d
 have j:=qjo z
 omega
theorem qlv {N:Nat} (hN:60000<N) {x y:Int} (d:0<=x) (j:0<y) {B:Nat} (u:B<=8000) (h:zY x B):jg N (dg E9 x) (dg E9 y)=some (dg E9 (x/y),dg E9 (x%y)):=by
 have l:=h.len
 rw[show(x.natAbs:Int)=x by omega]at l
 rw[qcW hN (zT E1 d) (zT E1 (by omega)) (by omega) (by rw[jV E1 (by omega)];exact j),jV E1 d,jV E1 (by omega)]
theorem den_pos (q:Rat):0<q.den:=Nat.pos_of_ne_zero q.den_nz
theorem qhS {a b:Int} (d:b≠0):(b.sign*a).natAbs=a.natAbs:=by rw[Int.natAbs_mul,Int.natAbs_sign_of_ne_zero d,Nat.one_mul]
theorem qlE (a b:Int):Int.gcd (a.natAbs:Int) (b.natAbs:Int)=Int.gcd b a:=by
 rw[Int.gcd_comm]
 rfl
theorem qi3 {N:Nat} (hN:600000<N) {B:Nat} (d:0<B) (j:B<=8000) {a b:Int} (fa:zY a B) (u:zY b B) (hb:b≠0):yM N (rI a) (rI b)=some (T (Rat.divInt a b)):=by
 have hg:0<Int.gcd b a:=Int.gcd_pos_of_ne_zero_left _ hb
 have ea:=qhS (a:=a) hb
 have S:(if(rI b).neg=true then(yX N (rI a)).bind fun r7=>(yX N (rI b)).bind fun r8=>some (r7.neg,r7.w,r8.neg,r8.w)else some ((rI a).neg,(rI a).w,(rI b).neg,(rI b).w):Option (Bool×(List Int)×Bool×(List Int)))=some (decide (b.sign*a<0),dg E9 (a.natAbs:Int),false,dg E9 (b.natAbs:Int)):=by
  by_cases h:b<0
  ·rw[if_pos (show(rI b).neg=true from decide_eq_true h),qkg (by omega) (fa.mono (by omega)),ZB,qkg (by omega) (u.mono (by omega)),ZB,Int.sign_eq_neg_one_of_neg h,Int.neg_mul,Int.one_mul]
   show some (decide (-a<0),dg E9 (((-a).natAbs:Nat):Int),decide (-b<0),dg E9 (((-b).natAbs:Nat):Int))=_
   rw[decide_eq_false (show¬ -b<0 by omega),Int.natAbs_neg,Int.natAbs_neg]
  rw[if_neg (show¬(rI b).neg=true from fun c=>h (of_decide_eq_true c)),Int.sign_eq_one_of_pos (by omega),Int.one_mul]
  show some (decide (a<0),dg E9 ((a.natAbs:Nat):Int),decide (b<0),dg E9 ((b.natAbs:Nat):Int))=_
  rw[decide_eq_false h]
 have en:(Rat.divInt a b).num=b.sign*a/(Int.gcd b a:Int):=Rat.num_divInt ..
 have ed:(b.natAbs:Int)/(Int.gcd b a:Int)=((Rat.divInt a b).den:Int):=by rw[Rat.den_divInt,if_neg hb,Int.natCast_ediv]
 have hd:=den_pos (Rat.divInt a b)
 have a0:(Int.gcd b a:Int)∣b.sign*a:=Int.dvd_mul_of_dvd_right (Int.gcd_dvd_right ..)
 have fn:zY (Rat.divInt a b).num B:=by
  rw[en]
  exact zY.le (Int.le_trans (xm _ (by omega)) (by rw[ea];exact Int.le_refl _)) fa
 have fd:zY ((Rat.divInt a b).den:Int) B:=by
  rw[<-ed]
  exact zY.le (Int.le_trans (xm _ (by omega)) (Int.le_refl _)) u.abs
 have vn:(if decide (b.sign*a<0)=true then-dv E9 (dg E9 ((a.natAbs:Int)/(Int.gcd b a:Int)))else dv E9 (dg E9 ((a.natAbs:Int)/(Int.gcd b a:Int))))=(Rat.divInt a b).num:=by
  have p0:0<=(a.natAbs:Int)/(Int.gcd b a:Int):=Int.ediv_nonneg (by omega) (by omega)
  rw[jV E1 p0,en]
  by_cases c:b.sign*a<0
  ·rw[if_pos (decide_eq_true c),show(a.natAbs:Int)= -(b.sign*a)by omega,Int.neg_ediv_of_dvd a0,Int.neg_neg]
  rw[if_neg (fun h=>c (of_decide_eq_true h)),show(a.natAbs:Int)=b.sign*a by omega]
 unfold yM
 rw[S,ZB]
 simp only
 rw[qiN hN (by omega) (by omega) (fa.abs.mono j) (u.abs.mono j),ZB,qlE,qlv (by omega) (by omega) (by omega) j fa.abs,ZB,qlv (by omega) (by omega) (by omega) j u.abs,ZB]
 simp only
 have p0:0<=(a.natAbs:Int)/(Int.gcd b a:Int):=Int.ediv_nonneg (by omega) (by omega)
 have ln:(dg E9 ((a.natAbs:Int)/(Int.gcd b a:Int))).length<=B:=by
  have:=(zY.le (Int.le_trans (xm _ (by omega)) (Int.le_refl _)) fa.abs:zY ((a.natAbs:Int)/(Int.gcd b a:Int)) B).len
  rw[show(((a.natAbs:Int)/(Int.gcd b a:Int)).natAbs:Int)=(a.natAbs:Int)/(Int.gcd b a:Int)by omega]at this
  exact this
 have ld:(dg E9 ((Rat.divInt a b).den:Int)).length<=B:=by
  have:=fd.len
  rw[Int.natAbs_natCast]at this
  exact this
 rw[qai _ (zT E1 p0).1 (by omega) (by omega),ZB,vn,qlZ (by omega) (fn.mono (by omega)),ZB,ed,qmU hd,ZB]
 have l1:=fn.itoaLen d
 have l2:=fd.itoaLen d
 unfold T
 by_cases c:(Rat.divInt a b).den=1
 ·rw[if_pos (decide_eq_true c),if_pos c,YQ]
 rw[if_neg (fun h=>c (of_decide_eq_true h)),if_neg c,qbe (by simp;omega),ZB,qai _ (zT E1 (by omega)).1 (by omega) (by omega),ZB,if_neg (by simp),jV E1 (by omega),qlZ (by omega) (fd.mono (by omega)),ZB,qbe (by simp;omega),ZB,qfW,Yz]
 rfl
theorem qp0 {a b:Int} (d:0<=a) (h:0<b):qdQ .i64 a b=some (a%b):=by
 unfold qdQ
 rw[if_neg (by omega),Int.tmod_eq_emod_of_nonneg d]
theorem qp6 {a b:Int} (h:0<b) (u: -4000000000000000000<=a) (j:a<=4000000000000000000) (d:b∣a):qbT .i64 a b=some (a/b):=by
 have:=xm a h
 unfold qbT
 rw[if_neg (by omega),Int.tdiv_eq_ediv_of_dvd d]
 show some (w64 _)=_
 rw[qh (by omega) (by omega)]
theorem ql8: ∀(k K:Nat) (a b:Int),0<=a->0<=b->b<2^k->2*k+2<=K->jE K a b=some (Int.gcd a b:Int)
 |k,0,a,b,_,_,_,hK=>by omega
 |k,K+1,a,b,ha,hb,hk,hK=>by
  have u:(a.natAbs:Int)=a:=by omega
  have nb:(b.natAbs:Int)=b:=by omega
  rcases(show b=0\/0<b by omega)with h0|h0
  ·rw[h0,jE,if_neg (by omega),Int.gcd_zero,u]
  match k,hk,hK with
  |0,hk,hK=>simp at hk;omega
  |k+1,hk,hK=>
   have h:=Int.emod_nonneg a (show b≠0 by omega)
   have m1:=Int.emod_lt_of_pos a h0
   rw[jE,if_pos (by omega),qp0 ha h0,ZB,qcP ha hb]
   match K,hK with
   |0,hK=>omega
   |K+1,hK=>
    rcases(show a%b=0\/0<a%b by omega)with g0|g0
    ·rw[g0,jE,if_neg (by omega),Int.gcd_zero,nb]
    have j:=Int.emod_nonneg b (show a%b≠0 by omega)
    have n1:=Int.emod_lt_of_pos b g0
    have d:b%(a%b)<2^k:=by
     have d1:=Int.mul_ediv_add_emod b (a%b)
     have d2:1<=b/(a%b):=by
      rw[Int.le_ediv_iff_mul_le g0]
      omega
     have d3:a%b*1<=a%b*(b/(a%b)):=Yc d2 (by omega)
     rw[Int.pow_succ]at hk
     omega
    rw[jE,if_pos (by omega),qp0 hb g0,ZB,qcP hb h]
    exact ql8 k K (a%b) (b%(a%b)) h j d (by omega)
theorem qpQ {N:Nat} (hN:200<N) {a b:Int} (d:0<=a) (j:0<=b) (h:b<9223372036854775808):qcF N a b=some (Int.gcd a b:Int):=by
 unfold qcF
 rw[ql8 63 N a b d j h (by omega),ZB]
theorem rabs {z:Int} (h: -9223372036854775807<=z) (d:z<=9223372036854775807):(if w64 (0-z)>z then w64 (0-z)else z)=(z.natAbs:Int):=by
 rw[qh (by omega) (by omega)]
 split<;>omega
theorem qpX {n:Nat} (h:n<=4000000000000000000):(Lib.decDigits n).length<=19:=(qaG (by decide)).2 (by omega)
theorem qqR {N:Nat} (hN:1000<N) {a b:Int} (a1: -4000000000000000000<=a) (a2:a<=4000000000000000000) (b1: -4000000000000000000<=b) (b2:b<=4000000000000000000) (u:b≠0):qeb N a b=some (T (Rat.divInt a b)):=by
 have hg:0<Int.gcd b a:=Int.gcd_pos_of_ne_zero_left _ u
 have ea:=qhS (a:=a) u
 have S:(if b<0 then some (w64 (0-a),w64 (0-b))else some (a,b):Option (Int×Int))=some (b.sign*a,(b.natAbs:Int)):=by
  by_cases h:b<0
  ·rw[if_pos h,qh (by omega) (by omega),qh (by omega) (by omega),Int.sign_eq_neg_one_of_neg h,show(-1:Int)*a=0-a by omega,show(b.natAbs:Int)=0-b by omega]
  rw[if_neg h,Int.sign_eq_one_of_pos (by omega),Int.one_mul,show(b.natAbs:Int)=b by omega]
 have en:(Rat.divInt a b).num=b.sign*a/(Int.gcd b a:Int):=Rat.num_divInt ..
 have ed:(b.natAbs:Int)/(Int.gcd b a:Int)=((Rat.divInt a b).den:Int):=by rw[Rat.den_divInt,if_neg u,Int.natCast_ediv]
 have hd:=den_pos (Rat.divInt a b)
 have d:(Int.gcd b a:Int)∣b.sign*a:=Int.dvd_mul_of_dvd_right (Int.gcd_dvd_right ..)
 have j:(Int.gcd b a:Int)∣(b.natAbs:Int):=by
  rw[Int.dvd_natAbs]
  exact Int.gcd_dvd_left ..
 have n1:=xm (b.sign*a) (show(0:Int)<(Int.gcd b a:Int)by omega)
 have n2:=xm (b.natAbs:Int) (show(0:Int)<(Int.gcd b a:Int)by omega)
 rw[<-en,ea]at n1
 rw[ed,Int.natAbs_natCast,Int.natAbs_natCast]at n2
 unfold qeb
 rw[if_neg (show¬a< -4000000000000000000 by omega),if_neg (show¬a>4000000000000000000 by omega),if_neg (show¬b< -4000000000000000000 by omega),decide_eq_false (show¬b>4000000000000000000 by omega),ZB,if_neg (by simp),S,ZB]
 simp only
 rw[rabs (by omega) (by omega),ea,qpQ (by omega) (by omega) (by omega) (by omega),ZB,qlE,qp6 (by omega) (by omega) (by omega) d,ZB,qp6 (by omega) (by omega) (by omega) j,ZB,<-en,ed,rabs (by omega) (by omega),qgU (by omega) (by omega),qgU (by omega) (by omega)]
 generalize Rat.divInt a b=q at*
 have l1:=qpX (n:=q.num.natAbs) (by omega)
 have l2:=qpX (n:=q.den) (by omega)
 have S2:((if q.num<0 then some [45]else some []:Option Str).bind fun s17=>(some (Lib.decDigits q.num.natAbs)).bind fun r20=>(cat s17 r20).bind fun s21=>(if(q.den:Int)>1 then(cat s21 [47]).bind fun s25=>(some (Lib.decDigits q.den)).bind fun r26=>(cat s25 r26).bind fun s27=>some s27 else some s21:Option Str).bind fun s22=>some s22)=some (T q):=by
  have li:(Lib.itoa q.num).length<=20:=by have:=qjo q.num;omega
  have I:((if q.num<0 then some [45]else some []:Option Str).bind fun s17=>(some (Lib.decDigits q.num.natAbs)).bind fun r20=>(cat s17 r20).bind fun s21=>(if(q.den:Int)>1 then(cat s21 [47]).bind fun s25=>(some (Lib.decDigits q.den)).bind fun r26=>(cat s25 r26).bind fun s27=>some s27 else some s21:Option Str).bind fun s22=>some s22)=((if(q.den:Int)>1 then(cat (Lib.itoa q.num) [47]).bind fun s25=>(some (Lib.decDigits q.den)).bind fun r26=>(cat s25 r26).bind fun s27=>some s27 else some (Lib.itoa q.num):Option Str).bind fun s22=>some s22):=by
   by_cases c:q.num<0
   ·rw[if_pos c,ZB,ZB,qbe (by simp;omega),ZB,vL c]
    rfl
   rw[if_neg c,ZB,ZB,qbe (by simp;omega),ZB,zL c]
   rfl
  rw[I]
  unfold T
  by_cases c:q.den=1
  ·rw[if_neg (by omega),if_pos c,ZB,YQ]
  rw[if_pos (by omega),if_neg c,qbe (by simp;omega),ZB,ZB,qbe (by simp;omega),ZB,ZB,Yz]
  rfl
 exact S2
end Go.Av
end
section
namespace Go.Av
theorem Sml.mono {q:Rat} {m n:Nat} (h:Sml q m) (d:m<=n):Sml q n:=⟨Nat.le_trans h.1 d,Nat.le_trans h.2 d⟩
theorem qgy {q:Rat} {k n:Nat} (h:Sml q k) (d:0<k) (j:k<=9*n):zY q.num n:=qi9 (p:=k) (Int.ofNat_lt.2 ((qaG d).1 h.1)) j
theorem qgG {q:Rat} {k n:Nat} (h:Sml q k) (d:0<k) (j:k<=9*n):zY (q.den:Int) n:=qi9 (p:=k) (by rw[Int.natAbs_natCast];exact Int.ofNat_lt.2 ((qaG d).1 h.2)) j
theorem qbr {q:Rat} {k n:Nat} (h:Sml q k) (d:0<k) (j:k<=19*n):qcB q n:=⟨qfr (p:=k) (Int.ofNat_lt.2 ((qaG d).1 h.1)) j,qfr (p:=k) (by rw[Int.natAbs_natCast];exact Int.ofNat_lt.2 ((qaG d).1 h.2)) j⟩
theorem qlD {z:Int} {n:Nat} (h:zY z n) (d:0<n):(Lib.decDigits z.natAbs).length<=9*n:=by
 refine(qaG (by omega)).2 ?_
 have h:(z.natAbs:Int)<E9^n:=h
 rw[qhf]at h
 exact Int.ofNat_lt.1 h
theorem qju {q:Rat} {n:Nat} (j:zY q.num n) (u:zY (q.den:Int) n) (h:0<n):Sml q (9*n):=by
 have d:=qlD u h
 rw[Int.natAbs_natCast]at d
 exact⟨qlD j h,d⟩
theorem qkC {a b:Int} {n:Nat} (d:b≠0) (fa:zY a n) (h:zY b n):zY (Rat.divInt a b).num n/\zY ((Rat.divInt a b).den:Int) n:=by
 have j:0<Int.gcd b a:=Int.gcd_pos_of_ne_zero_left _ d
 constructor
 ·rw[Rat.num_divInt]
  exact zY.le (Int.le_trans (xm _ (by omega)) (by rw[qhS d];exact Int.le_refl _)) fa
 rw[Rat.den_divInt,if_neg d,Int.natCast_ediv]
 exact zY.le (Int.le_trans (xm _ (by omega)) (Int.le_refl _)) h.abs
theorem qbm {a b:Int} {m n:Nat} (h:zY a m) (d:zY b n):zY (a*b) (m+n):=by
 unfold zY at*
 rw[Int.natAbs_mul,Int.natCast_mul,Int.pow_add]
 have j:(a.natAbs:Int)*(b.natAbs:Int)<=(a.natAbs:Int)*E9^n:=Yc (Int.le_of_lt d) (by omega)
 have u:(a.natAbs:Int)*E9^n<E9^m*E9^n:=YH h (pow_pos E0 n)
 omega
theorem qkh {a b:Int} {n:Nat} (d:zY a n) (h:zY b n):zY (a+b) (n+1):=by
 unfold zY at*
 rw[Int.pow_succ]
 have hp:=pow_pos E0 n
 have:((a+b).natAbs:Int)<=(a.natAbs:Int)+(b.natAbs:Int):=by omega
 unfold E9 at*
 omega
theorem qg6 {q:Rat} (h:Sml q 600):qf0 q=false:=by
 have j:=h.1
 have d:=h.2
 unfold qf0 lng
 rw[Int.natAbs_natCast,decide_eq_false (by omega),decide_eq_false (by omega)]
 rfl
theorem qjG (s:Str):ve s=some (if s=[48]then 0 else if sgn s=true then-1 else 1):=by
 unfold ve
 by_cases c:s=[48]
 ·rw[if_pos (by simp[c]),if_pos c]
 rw[if_neg (by simp[c]),qe0,ZB,if_neg c]
 cases sgn s<;>rfl
theorem qp3:Lib.itoa 0=[48]:=by
 rw[zL (by decide),show(0:Int).natAbs=0 from rfl,zW (by decide)]
 rfl
theorem qmV {z:Int}:Lib.itoa z=[48]↔z=0:=by
 constructor
 ·intro h
  have d:=qbL z
  rw[h]at d
  exact d.symm
 intro h
 rw[h]
 exact qp3
theorem T0:T 0=[48]:=by
 rw[(qfp 0 rfl).1]
 exact qp3
theorem qm5 {q:Rat}:T q=[48]↔q=0:=by
 constructor
 ·intro h
  exact qls (h.trans T0.symm)
 intro h
 rw[h]
 exact T0
theorem qh4 (q:Rat):ve (T q)=some (if q.num<0 then-1 else if q.num=0 then 0 else 1):=by
 rw[qjG,qj9]
 by_cases c:q=0
 ·rw[if_pos (qm5.2 c),c]
  rfl
 rw[if_neg (fun h=>c (qm5.1 h)),if_neg (show¬q.num=0 from fun h=>c (Rat.num_eq_zero.1 h))]
 by_cases d:q.num<0
 ·rw[decide_eq_true d,if_pos rfl,if_pos d]
 rw[decide_eq_false d,if_neg (by simp),if_neg d]
theorem qqD (q:Rat):tl (-q)=tl q:=by
 unfold tl
 rw[Rat.neg_den]
theorem Neg_T {N:Nat} {q:Rat} (h:(T q).length<=100000):qcQ (T q)=some (T (-q)):=by
 unfold qcQ
 rw[qh4,ZB]
 have e:T (-q)=Lib.itoa (-q.num)++tl q:=by rw[qmX,qqD,Rat.neg_num]
 by_cases c:q.num<0
 ·have hs:sgn (T q)=true:=by rw[qj9];exact decide_eq_true c
  have u:(T q).drop 1=bdy (T q):=by unfold bdy;rw[if_pos hs]
  have j:=qiV hs
  rw[if_pos c,if_pos (by decide),show(1:Int)=((1:Nat):Int)from rfl,xq j,ZB,u,qj1,e,zL (by omega),Int.natAbs_neg]
 rw[if_neg c,if_neg (by split<;>decide),ZB]
 by_cases d:q.num=0
 ·rw[if_pos d,if_pos rfl,Rat.num_eq_zero.1 d]
  rfl
 rw[if_neg d,if_neg (by decide),qbe (by simp;omega),ZB,e,vL (by omega),Int.natAbs_neg,qmX,zL c]
 rfl
theorem qiY {N:Nat} (hN:100000<N) {q:Rat} {k:Nat} (h:Sml q k) (hk:k<=9000):vG N (T q)=some (if qf0 q=true then 4 else 0):=by
 have hl:=qjC h
 have hs:=qd4 (N:=N) (s:=T q) (by omega) (by omega)
 have u:qcH N (T q)=some (Lib.itoa q.num):=by
  unfold qcH
  rw[hs,ZB]
  by_cases c:q.den=1
  ·obtain⟨t1,j⟩:=qfp q c
   rw[yl (by omega),ZB,j,List.take_length,t1]
  obtain⟨t1,j,t3⟩:=qgE q c
  rw[yl (by omega),ZB,j]
 have a0:qcG (Lib.itoa q.num)=some (Lib.decDigits q.num.natAbs):=by
  have hs:=qfi q.num
  have hb:=qbx q.num
  unfold qcG
  rw[qjG,ZB,hs]
  unfold bdy at hb
  rw[hs]at hb
  by_cases c:q.num<0
  ·rw[if_neg (show¬Lib.itoa q.num=[48]from fun h=>by have:=qmV.1 h;omega),if_pos (decide_eq_true c),if_pos (by decide),show(1:Int)=((1:Nat):Int)from rfl,xq (qjE _),ZB]
   rw[if_pos (decide_eq_true c)]at hb
   rw[hb]
  rw[decide_eq_false c,if_neg (by split<;>simp),zL c]
 have a1:qcO N (T q)=some (Lib.decDigits q.den):=by
  unfold qcO
  rw[hs,ZB]
  by_cases c:q.den=1
  ·obtain⟨t1,j⟩:=qfp q c
   rw[if_pos (by omega),c,zW (by decide)]
   rfl
  obtain⟨t1,j,t3⟩:=qgE q c
  rw[if_neg (by omega),ko (by omega),xq (by omega),ZB,t3]
 unfold vG
 rw[u,ZB,a0,ZB,a1]
 unfold qf0 lng
 rw[Int.natAbs_natCast]
 by_cases c:600<(Lib.decDigits q.num.natAbs).length
 ·rw[if_pos (by omega),decide_eq_true c,Bool.true_or]
  rfl
 rw[if_neg (by omega),decide_eq_false c,Bool.false_or,ZB]
 by_cases d:600<(Lib.decDigits q.den).length
 ·rw[decide_eq_true (by omega),decide_eq_true d]
  rfl
 rw[decide_eq_false (by omega),decide_eq_false d]
 rfl
theorem qg7 {N:Nat} (hN:100000<N) {q:Rat} {k:Nat} (h:Sml q k) (hk:k<=9000):yz N (T q)=some (0,0,false)\/(yz N (T q)=some (q.num,(q.den:Int),true)/\q.num.natAbs<1000000000/\q.den<1000000000):=by
 have hl:=qjC h
 have hb:=qfv (T q)
 have eb:=qj1 q
 have es:slA (Lib.decDigits q.num.natAbs++tl q)=(Lib.decDigits q.num.natAbs).length:=qh7 (no47 (qaZ _)) q
 have u:(Lib.decDigits q.num.natAbs++tl q).length=(Lib.decDigits q.num.natAbs).length+(tl q).length:=Yq
 rw[eb]at hb
 unfold yz
 by_cases c:((T q).length:Int)>20
 ·left
  rw[if_pos c]
 rw[if_neg c,qe0,ZB,qk8,ZB,eb,qd4 (by omega) (by omega),ZB,es,qj9]
 by_cases c1:(Lib.decDigits q.num.natAbs).length>9
 ·left
  rw[if_pos (by omega),ZB,if_pos rfl]
 rw[if_neg (by omega),qh (by omega) (by omega)]
 by_cases c2:(tl q).length>10
 ·left
  rw[decide_eq_true (by omega),ZB,if_pos rfl]
 right
 rw[decide_eq_false (by omega),ZB,if_neg (by simp),yl (by omega),ZB,List.take_left',qfd (by omega) (qaZ _) (by omega),ZB,qb0]
 ·have hn:q.num.natAbs<1000000000:=(qaG (show 0<9 by decide)).1 (by omega)
  have sg:(if decide (q.num<0)=true then some (w64 (0-(q.num.natAbs:Int)))else some (q.num.natAbs:Int):Option Int)=some q.num:=by
   by_cases d:q.num<0
   ·rw[if_pos (decide_eq_true d),qh (by omega) (by omega)]
    congr 1
    omega
   rw[if_neg (fun h=>d (of_decide_eq_true h))]
   congr 1
   omega
  by_cases d:q.den=1
  ·have j:tl q=[]:=by unfold tl;rw[if_pos d]
   rw[j]at u
   rw[List.length_nil]at u
   rw[j,if_neg (by omega),ZB,sg,ZB,d]
   exact⟨rfl,hn,by decide⟩
  have j:tl q=47::Lib.decDigits q.den:=by unfold tl;rw[if_neg d]
  rw[j,Yr]at u c2
  have hd:q.den<1000000000:=(qaG (show 0<9 by decide)).1 (by omega)
  rw[j,if_pos (by omega),ko (by omega),xq (by omega),ZB,List.drop_append,List.drop_of_length_le (by omega),show(Lib.decDigits q.num.natAbs).length+1-(Lib.decDigits q.num.natAbs).length=1 by omega,List.nil_append,List.drop_succ_cons,YR,qfd (by omega) (qaZ _) (by omega),ZB,ZB,sg,ZB,qb0]
  exact⟨rfl,hn,hd⟩
 rfl
theorem qpw {N:Nat} (hN:100000<N) {p q:Rat} {k:Nat} (hk:k<=9000) (hp:Sml p k) (hq:Sml q k) {Fq:(Int×Int×Bool)->(Int×Int×Bool)->Option Str} {d:Option Str} {t:Str}
 (h1:p.num.natAbs<1000000000->p.den<1000000000->q.num.natAbs<1000000000->q.den<1000000000->Fq (p.num,(p.den:Int),true) (q.num,(q.den:Int),true)=some t) (u:d=some t):
 ((yz N (T p)).bind fun r1=>(yz N (T q)).bind fun r2=>(if r1.2.2=true then some r2.2.2 else some false:Option Bool).bind fun b4=>if b4=true then(Fq r1 r2).bind fun r7=>some r7 else d)=some t:=by
 rcases qg7 hN hp hk with j|⟨j,a1,a2⟩
 ·rcases qg7 hN hq hk with h|⟨h,b1,b2⟩
  ·rw[j,ZB,h,ZB]
   exact u
  rw[j,ZB,h,ZB]
  exact u
 rcases qg7 hN hq hk with h|⟨h,b1,b2⟩
 ·rw[j,ZB,h,ZB]
  exact u
 rw[j,ZB,h,ZB]
 show((Fq (p.num,(p.den:Int),true) (q.num,(q.den:Int),true)).bind fun r7=>some r7)=some t
 rw[h1 a1 a2 b1 b2,ZB]
theorem mul9 {a b:Int} (d:a.natAbs<1000000000) (j:b.natAbs<1000000000): -1000000000000000000<=a*b/\a*b<=1000000000000000000:=by
 have h:(a*b).natAbs<=1000000000*1000000000:=by
  rw[Int.natAbs_mul]
  exact Nat.mul_le_mul (by omega) (by omega)
 omega
theorem ql7 {N:Nat} (hN:600000<N) {p q:Rat} {k:Nat} (d:0<k) (hk:k<=4000) (hp:Sml p k) (hq:Sml q k):qbO N (T p) (T q)=some (T (p+q)):=by
 unfold qbO
 obtain⟨n,hn⟩: ∃n:Nat,n=500:=⟨_,rfl⟩
 have p1:=qgy (n:=n) hp d (by omega)
 have h:=qgG (n:=n) hp d (by omega)
 have u:=qgy (n:=n) hq d (by omega)
 have j:=qgG (n:=n) hq d (by omega)
 refine qpw (N:=N) (by omega) (show k<=9000 by omega) hp hq (fun a1 a2 b1 b2=>?_) ?_
 ·have m1:=mul9 a1 (show((q.den:Int)).natAbs<1000000000 by omega)
  have m2:=mul9 b1 (show((p.den:Int)).natAbs<1000000000 by omega)
  have m3:=mul9 (show((p.den:Int)).natAbs<1000000000 by omega) (show((q.den:Int)).natAbs<1000000000 by omega)
  have:=qhO p q
  simp only
  rw[qh (n:=p.num*(q.den:Int)) (by omega) (by omega),qh (n:=q.num*(p.den:Int)) (by omega) (by omega),qh (n:=(p.den:Int)*(q.den:Int)) (by omega) (by omega),qh (by omega) (by omega),qqR (by omega) (by omega) (by omega) (by omega) (by omega) (qhO p q),<-qcT]
 rw[qiw hN (hp.mono (by omega)),ZB,qiw hN (hq.mono (by omega)),ZB]
 simp only
 rw[qhU (by omega) (p1.mono (by omega)) (j.mono (by omega)),ZB,qhU (by omega) (u.mono (by omega)) (h.mono (by omega)),ZB,qpr (by omega) ((qbm p1 j).mono (by omega)) ((qbm u h).mono (by omega)),ZB,qhU (by omega) (h.mono (by omega)) (j.mono (by omega)),ZB,qi3 hN (B:=n+n+1) (by omega) (by omega) (qkh (qbm p1 j) (qbm u h)) ((qbm h j).mono (by omega)) (qhO p q),ZB,<-qcT]
theorem qpe {p q:Rat} {n:Nat} (hn:0<n) (hp:Sml p (9*n)) (hq:Sml q (9*n)):Sml (p+q) (9*(n+n+1)):=by
 have p1:=qgy (n:=n) hp (by omega) (by omega)
 have d:=qgG (n:=n) hp (by omega) (by omega)
 have u:=qgy (n:=n) hq (by omega) (by omega)
 have h:=qgG (n:=n) hq (by omega) (by omega)
 rw[qcT]
 obtain⟨j,f2⟩:=qkC (qhO p q) (qkh (qbm p1 h) (qbm u d)) ((qbm d h).mono (show n+n<=n+n+1 by omega))
 exact qju j f2 (by omega)
theorem qlq {p:Rat} {k:Nat} (h:Sml p k):Sml (-p) k:=by
 unfold Sml
 rw[Rat.neg_num,Rat.neg_den,Int.natAbs_neg]
 exact h
theorem qmd {N:Nat} (hN:600000<N) {p q:Rat} {k:Nat} (d:0<k) (h:k<=4000) (hp:Sml p k) (hq:Sml q k):qbN N (T p) (T q)=some (T (p-q)):=by
 have j:=qjC hq
 unfold qbN
 rw[Neg_T (N:=N) (by omega),ZB,ql7 hN d h hp (qlq hq),ZB,Rat.sub_eq_add_neg]
theorem qgD {N:Nat} (hN:600000<N) {p q:Rat} {k:Nat} (d:0<k) (u:k<=4000) (hp:Sml p k) (hq:Sml q k):qa9 N (T p) (T q)=some (if p<q then-1 else if p=q then 0 else 1):=by
 unfold qa9
 rw[qmd hN d u hp hq,ZB,qh4,ZB]
 have j:((p-q).num<0)=(p<q):=by
  apply propext
  rw[<-Rat.not_le,Rat.le_iff_sub_nonneg q p,<-Rat.num_nonneg]
  omega
 have a2:((p-q).num=0)=(p=q):=by
  apply propext
  rw[Rat.num_eq_zero]
  constructor
  ·intro h
   have:p-q+q=p:=Rat.sub_add_cancel
   rw[h,Rat.zero_add]at this
   exact this.symm
  intro h
  rw[h,Rat.sub_self]
 simp only[j,a2]
end Go.Av
end
section
namespace Go.Av
def res (q:Rat):Str×Int:=if qf0 q=true then([],4)else(T q,0)
section ops
variable {N:Nat} (hN:600000<N)
include hN
variable {p q:Rat} (hp:Sml p 600) (hq:Sml q 600) (cp:chk (T p)=0) (cq:chk (T q)=0)
include hp hq cp cq
end ops
end Go.Av
end
section
namespace Go.Av
theorem qjJ {s:Str} {k:Nat} {c:UInt8} (h:s[k]? =some c):((⟨s.toArray⟩:ByteArray).get! k)=c:=by
 have d:=(Yb.1 h).1
 show s.toArray[k]! =c
 rw[getElem!_def]
 simp[h]
theorem qk5 {s:Str} {k:Nat} {c:UInt8} (h:s[k]? =some c) (d:c.toNat<128):vZ s k=c.toNat/\runeLen s k=1:=by
 have e:=qjJ h
 unfold vZ runeLen Utf8.decode
 simp only[Nat.add_zero,e,if_pos d,and_self]
theorem qmG {s:Str} {k:Nat} {c:UInt8} (h:s[k]? =some c) (d:128<=c.toNat):128<=vZ s k:=by
 have e:=qjJ h
 unfold vZ Utf8.decode
 simp only[Nat.add_zero,e,if_neg (Nat.not_lt.2 d)]
 have j:(128:Nat)<=Utf8.runeError:=by decide
 repeat' split
 all_goals first|(simp only[Bool.and_eq_true,decide_eq_true_eq]at*;omega)|(simp;omega)|omega
def qi5 (c:Int):Bool:=(decide (97<=c)&&decide (c<=122))||(decide (65<=c)&&decide (c<=90))
theorem qf9 (c:Int):yf c=some (qi5 c):=by
 unfold yf qi5
 by_cases h1:c>=97<;>by_cases h2:c<=122<;>by_cases h3:c>=65<;>by_cases h4:c<=90<;>simp[h1,h2,h3,h4]<;>omega
def qkJ (k:Nat) (c:Int):Bool:=!qi5 c&&(decide (k=0)||(!decide (c=95)&&(decide (c<48)||decide (c>57))))
def qiB (s:Str):Bool:=decide (1<=s.length)&&decide (s.length<=24)&&!((List.range s.length).any fun k=>qkJ k (s.getD k 0).toNat)
theorem qnK {k:Nat} {c:Int} (h:128<=c):qkJ k c=true:=by
 unfold qkJ qi5
 simp
 omega
def qaW (s:Str) (k:Nat):Bool:=(List.range (s.length-k)).any fun j=>qkJ (k+j) (s.getD (k+j) 0).toNat
theorem qfl {s:Str} {k:Nat} {c:UInt8} (h:s[k]? =some c):qaW s k=(qkJ k c.toNat||qaW s (k+1)):=by
 have d:=(Yb.1 h).1
 unfold qaW
 rw[show s.length-k=(s.length-(k+1))+1 by omega,List.range_succ_eq_map,List.any_cons,List.any_map]
 congr 1
 ·simp[List.getD,h]
 congr 1
 funext j
 simp only[Function.comp,Nat.succ_eq_add_one]
 rw[show k+(j+1)=k+1+j by omega]
theorem qf5 {s:Str} {k:Nat} (h:s.length<=k):qaW s k=false:=by
 unfold qaW
 rw[show s.length-k=0 by omega]
 rfl
theorem qiI (s:Str): ∀(K k:Nat),k<=s.length->s.length<K+k->jB s K k=some (if qaW s k then .inr false else .inl ())
 |0,k,h,hK=>by omega
 |K+1,k,h,hK=>by
  unfold jB
  by_cases hk:k<s.length
  ·have u:s[k]? =some s[k]:=Ya hk
   rw[if_pos hk,qf9,qfl u]
   by_cases ha:(s[k]).toNat<128
   ·obtain⟨e1,e2⟩:=qk5 u ha
    rw[e1,e2,qiI s K (k+1) (by omega) (by omega)]
    have ek:((k:Int)=0)↔k=0:=by omega
    unfold qkJ
    generalize ((s[k]).toNat:Int)=c
    cases hl:qi5 c<;>by_cases h0:k=0<;>by_cases d:c=95<;>by_cases h2:c<48<;>by_cases j:57<c<;>
     simp[hl,h0,d,h2,j]
   have hw:=qmG u (by omega)
   rw[qnK (show(128:Int)<=((s[k]).toNat:Int)by omega)]
   have hl:qi5 (vZ s k)=false:=by unfold qi5;simp;omega
   have d: ¬vZ s k=95:=by omega
   have h2: ¬vZ s k<48:=by omega
   have j:vZ s k>57:=by omega
   have ek:((k:Int)=0)↔k=0:=by omega
   simp only[hl,ZB,Bool.not_false,if_true,d,h2,j,decide_true,decide_false,if_false,Bool.true_or,ek]
   by_cases h0:k=0
   ·simp only[h0,if_true,ZB]
   simp only[h0,if_false,ZB,if_true]
  rw[if_neg hk,qf5 (by omega)]
  rfl
theorem qjB (s:Str):qiB s=(decide (1<=s.length)&&decide (s.length<=24)&&!qaW s 0):=by
 unfold qiB qaW
 simp
theorem qiv {N:Nat} {s:Str} (h:s.length<N):xz N s=some (qiB s):=by
 unfold xz
 rw[qiI s N 0 (Nat.zero_le _) (by omega),qjB]
 cases hb:qaW s 0
 ·cases s with
  |nil=>simp
  |cons x xs=>
   have e:((x::xs)==([]:Str))=false:=rfl
   simp only[ZB,ZF,if_false,e,Bool.not_false,if_true,Bool.and_true,ZI]
   have:(1<=(x::xs).length):=by simp
   rw[Bool.eq_iff_iff]
   simp only[decide_eq_true_eq,Bool.and_eq_true,this,true_and]
   omega
 simp
theorem qhv (s:Str) (hs:s.length<4611686018427387904): ∀(K k:Nat),k<=s.length->s.length<K+k->j6 s K (k:Int)=some (if qaW s k then .inr false else .inl ())
 |0,k,h,hK=>by omega
 |K+1,k,h,hK=>by
  unfold j6
  by_cases hk:k<s.length
  ·have u:s[k]? =some s[k]:=Ya hk
   rw[if_pos (by omega),qo,u,qfl u,ko (by omega),qhv s hs K (k+1) (by omega) (by omega)]
   simp only[ZB]
   have ek:((k:Int)=0)↔k=0:=by omega
   unfold qkJ
   generalize ((s[k]).toNat:Int)=c
   rw[show(if c>=97 then if c<=122 then some true else if c>=65 then some (decide (c<=90))else some false else if c>=65 then some (decide (c<=90))else some false:Option Bool)=some (qi5 c)from by
    have:=qf9 c
    unfold yf at this
    rw[<-this]
    cases(if c>=97 then if c<=122 then some true else if c>=65 then some (decide (c<=90))else some false else if c>=65 then some (decide (c<=90))else some false:Option Bool)<;>rfl]
   simp only[ZB,ek]
   cases qi5 c
   ·by_cases h5:k=0
    ·simp[h5]
    by_cases h6:c>=48
    ·by_cases h7:c<=57
     ·have d: ¬c<48:=by omega
      have j: ¬c>57:=by omega
      simp[h5,h6,h7,d,j]
     have d: ¬c<48:=by omega
     have j:c>57:=by omega
     by_cases h8:c=95<;>simp[h5,h6,h7,h8,d,j]
    have d:c<48:=by omega
    by_cases h8:c=95<;>simp[h5,h6,h8,d]
   simp
  rw[if_neg (by omega),qf5 (by omega)]
  rfl
theorem qhF {N:Nat} {s:Str} (h:s.length<N) (hs:s.length<4611686018427387904):qak N s=some (qiB s):=by
 unfold qak
 rw[show(0:Int)=((0:Nat):Int)from rfl,qhv s hs N 0 (Nat.zero_le _) (by omega),qjB]
 by_cases h1:s.length<1
 ·rw[if_pos (by omega)]
  simp[show¬1<=s.length by omega]
 by_cases h2:s.length>24
 ·rw[if_neg (by omega)]
  simp only[ZB,show((s.length:Int)>24)by omega,decide_true,if_true,show¬s.length<=24 by omega,decide_false,Bool.and_false,Bool.false_and]
 rw[if_neg (by omega)]
 simp only[ZB,show¬((s.length:Int)>24)by omega,decide_false,ZF,if_false,show 1<=s.length by omega,show s.length<=24 by omega,decide_true,Bool.true_and]
 cases hb:qaW s 0<;>rfl
end Go.Av
end
section
namespace Go.Av
end Go.Av
end
section
namespace Go.Av
open Classical
theorem qhQ {q:Rat} {k:Nat} (d:0<k) (h:(T q).length<=k):Sml q k:=by
 have j:(Lib.decDigits q.num.natAbs).length<=(Lib.itoa q.num).length:=by
  by_cases c:q.num<0
  ·rw[vL c,Yr]
   omega
  rw[zL c]
  exact Nat.le_refl _
 unfold T at h
 rw[Yq]at h
 refine⟨by omega,?_⟩
 by_cases c:q.den=1
 ·rw[c]
  exact(qaG d).2 (Nat.one_lt_pow (by omega) (by decide))
 rw[if_neg c,Yr]at h
 omega
theorem qgA {s:Str} {k:Nat} (d:0<k) (j:s.length<=k) (h:chk s=0): ∃q:Rat,s=T q/\Sml q k/\chk (T q)=0:=by
 obtain⟨q,rfl,_,_⟩:=qh0 h
 exact⟨q,rfl,qhQ d j,h⟩
theorem ncmp {N:Nat} (hN:600000<N) {p q:Rat} (hp:Sml p 600) (hq:Sml q 600): ∃f g,vz N (T p)=some f/\vz N (T q)=some g/\yu N f g=some (if p<q then-1 else if p=q then 0 else 1):=by
 have h:=qbr (n:=32) hp (by omega) (by omega)
 have j:=qbr (n:=32) hq (by omega) (by omega)
 obtain⟨f,e1,i1⟩:=qbD hN (hp.mono (show 600<=9000 by omega))
 obtain⟨g,u,d⟩:=qbD hN (hq.mono (show 600<=9000 by omega))
 exact⟨f,g,e1,u,qlC hN i1 d (n:=32) (by omega) h j⟩
theorem qfG {p q:Rat}:((if p<q then-1 else if p=q then 0 else 1:Int)>0)↔q<p:=by
 by_cases h:p<q
 ·rw[if_pos h]
  exact⟨fun c=>absurd c (by decide),fun c=>absurd c (Rat.not_lt.2 (Rat.le_of_lt h))⟩
 rw[if_neg h]
 by_cases e:p=q
 ·rw[if_pos e]
  exact⟨fun c=>absurd c (by decide),fun c=>absurd (e▸c) Rat.lt_irrefl⟩
 rw[if_neg e]
 refine⟨fun _=>?_,fun _=>by decide⟩
 exact Rat.lt_of_le_of_ne (Rat.not_lt.1 h) (Ne.symm e)
def IsL:List qM->List Rat->Prop
 |[],[]=>True
 |f::l,q::r=>IsF f q/\IsL l r
 |_,_=>False
theorem IsL.get: ∀{l:List qM} {r:List Rat},IsL l r->l.length=r.length/\ ∀(i:Nat) (q:Rat),r[i]? =some q-> ∃f,l[i]? =some f/\IsF f q
 |[],[],_=>⟨rfl,fun i q h=>by simp at h⟩
 |f::l,q::r,h=>by
  obtain⟨d,j⟩:=h
  obtain⟨a,b⟩:=IsL.get j
  refine⟨by simp[a],fun i x hx=>?_⟩
  match i,hx with
  |0,hx=>
   simp at hx
   exact⟨f,rfl,hx▸d⟩
  |i+1,hx=>
   rw[List.getElem?_cons_succ]at hx⊢
   exact b i x hx
 |[],_::_,h=>h.elim
 |_::_,[],h=>h.elim
end Go.Av
end
section
namespace Go.Av
theorem qnq {q:Rat}:0<q.num↔0<q:=by
 have d:=Rat.num_nonneg (q:=q)
 have j:=Rat.num_eq_zero (q:=q)
 constructor
 ·intro h
  exact Rat.lt_of_le_of_ne (d.1 (by omega)) (fun e=>by have:=j.2 e.symm;omega)
 intro h
 have h3:=d.2 (Rat.le_of_lt h)
 have u:q.num≠0:=fun e=>Rat.ne_of_gt h (j.1 e)
 omega
theorem qg9 {f:qM} {q:Rat} (h:IsF f q):xC f=some (if q.num<0 then-1 else if q.num=0 then 0 else 1):=by
 unfold xC
 rw[qdn h.1,ZB]
theorem qlH {q:Rat}:((if q.num<0 then-1 else if q.num=0 then 0 else 1:Int)<=0)↔q<=0:=by
 rw[<-Rat.not_lt,<-qnq]
 constructor
 ·intro h c
  rw[if_neg (by omega),if_neg (by omega)]at h
  omega
 intro h
 split
 ·omega
 rw[if_pos (by omega)]
 omega
theorem qm0 {a b:Rat} (d:Sml a 60) (h:Sml b 60):Sml (a+b) 600:=(qpe (n:=7) (by omega) (d.mono (by omega)) (h.mono (by omega))).mono (by omega)
section ops
variable {N:Nat} (hN:600000<N)
include hN
variable {p p' q q':Rat} (hp:Sml p 60) (hp':Sml p' 60) (hq:Sml q 60) (hq':Sml q' 60) (cp:chk (T p)=0) (cp':chk (T p')=0) (cq:chk (T q)=0) (cq':chk (T q')=0) (hpp:p<=p') (hqq:q<=q')
include hp hp' hq hq' cp cp' cq cq' hpp hqq
end ops
end Go.Av
end
section
namespace Go.Av
theorem qpY {n:Int} (h: -9223372036854775808<=n) (d:n<=9223372036854775807):zY n 3:=by
 show(n.natAbs:Int)<(1000000000:Int)^3
 omega
theorem qpv {n:Int} (h: -9223372036854775808<=n) (d:n<=9223372036854775807):Sml (n:Rat) 27:=by
 refine qju (n:=3) ?_ ?_ (by omega)
 ·rw[Rat.num_intCast]
  exact qpY h d
 rw[Rat.den_intCast]
 exact qpY (by decide) (by decide)
def bst (x b y:Rat):Rat:=if(x-y).abs<(x-b).abs then y else b
def cnd (x:Rat) (i:Nat):Rat:=Rat.divInt ((x*((i/2:Nat):Rat)).floor+((i%2:Nat):Int)) ((i/2:Nat):Int)
def Fst (x b:Rat) (n:Nat):Prop:= ∃i,2<=i/\i<n/\b=cnd x i/\ ∀j,2<=j->j<n->(x-b).abs<(x-cnd x j).abs\/((x-b).abs=(x-cnd x j).abs/\i<=j)
theorem Fst.step {x b:Rat} {n:Nat} (h:Fst x b n):Fst x (bst x b (cnd x n)) (n+1):=by
 obtain⟨i,u,h2,h3,d⟩:=h
 unfold bst
 by_cases c:(x-cnd x n).abs<(x-b).abs
 ·rw[if_pos c]
  refine⟨n,by omega,by omega,rfl,fun j j1 j2=>?_⟩
  by_cases e:j=n
  ·exact .inr ⟨by rw[e],by omega⟩
  rcases d j j1 (by omega)with k|⟨k,_⟩
  ·exact .inl (qp2 c k)
  exact .inl (k▸c)
 rw[if_neg c]
 refine⟨i,u,by omega,h3,fun j j1 j2=>?_⟩
 by_cases e:j=n
 ·rw[e]
  rcases Rat.le_iff_lt_or_eq.1 (Rat.not_lt.1 c)with k|k
  ·exact .inl k
  exact .inr ⟨k,by omega⟩
 exact d j j1 (by omega)
end Go.Av
end
section
namespace Go.Av
theorem qnx {n:Nat}:Lib.decDigits n=[48]↔n=0:=by
 constructor
 ·intro h
  exact qkO (h.trans (by rw[zW (by decide)];rfl))
 rintro rfl
 rw[zW (by decide)]
 rfl
theorem qqu {n:Nat}:Lib.decDigits n=[49]↔n=1:=by
 constructor
 ·intro h
  exact qkO (h.trans (by rw[zW (by decide)];rfl))
 rintro rfl
 rw[zW (by decide)]
 rfl
theorem qp5 {q:Rat} (h:Sml q 600):chk (T q)=0:=by
 have n47:=no47 (qaZ q.num.natAbs)
 have es:=qh7 n47 q
 have et:(bdy (T q)).take (slA (bdy (T q)))=Lib.decDigits q.num.natAbs:=by
  rw[qj1,es,List.take_append_of_le_length (Nat.le_refl _),List.take_length]
 have hd:=den_pos q
 have ed:slA (bdy (T q))<(bdy (T q)).length↔q.den≠1:=by
  rw[qj1,es,Yq]
  unfold tl
  by_cases c:q.den=1
  ·rw[if_pos c]
   simp[c]
  rw[if_neg c]
  simp[c]
 have er:(bdy (T q)).drop (slA (bdy (T q))+1)=if q.den=1 then[]else Lib.decDigits q.den:=by
  rw[qj1,es]
  unfold tl
  by_cases c:q.den=1
  ·rw[if_pos c,if_pos c,YQ,List.drop_of_length_le (by omega)]
  rw[if_neg c,if_neg c,List.drop_append,List.drop_of_length_le (by omega),List.nil_append,show(Lib.decDigits q.num.natAbs).length+1-(Lib.decDigits q.num.natAbs).length=1 by omega]
  rfl
 have hok:okF (T q)=true:=by
  unfold okF
  rw[et,qj9]
  refine decide_eq_true ⟨qnN _,?_⟩
  rintro⟨j,d⟩
  have j:=of_decide_eq_true j
  have:=qnx.1 d
  omega
 have u:qhG (T q)=false:=by
  unfold qhG
  refine decide_eq_false ?_
  rintro⟨j,d⟩
  have c:=ed.1 j
  rw[er,if_neg c]at d
  exact d ⟨qnN _,fun e=>by have:=qnx.1 e;omega,fun e=>c (qqu.1 e)⟩
 unfold chk
 rw[if_neg (by rw[hok,u];simp),et,er,if_neg,if_neg]
 ·rintro⟨j,d⟩
  have c:=ed.1 j
  rw[if_neg c,qb0,qb0]at d
  exact d q.reduced
 have j:=h.1
 have d:=h.2
 split<;>simp<;>omega
end Go.Av
end
section
namespace Go.Av
theorem F_eq {n:Int} (d: -9223372036854775808<=n) (h:n<=9223372036854775807): ∃f,qj8 n=some f/\IsF f (n:Rat):=by
 obtain⟨f,e,i⟩:=qhX (Ud d h)
 refine⟨f,?_,i⟩
 unfold qj8
 rw[qhk,ZB,e,ZB]
theorem qjW (r:Rat):r-(r.floor:Rat)=Rat.divInt (r.num%(r.den:Int)) (r.den:Int):=by
 have h:((r.den:Int):Rat)≠0:=by
  rw[Ne,Rat.intCast_eq_zero_iff]
  have:=r.den_pos
  omega
 have e:(r-(r.floor:Rat))*((r.den:Int):Rat)=((r.num%(r.den:Int):Int):Rat):=by
  rw[Rat.sub_eq_add_neg,Rat.add_mul,qpl,Rat.floor_def,Int.emod_def,Rat.intCast_sub,Rat.intCast_mul]
  grind
 rw[Rat.divInt_eq_div,<-e,Rat.mul_div_cancel h]
theorem qmE {r:Rat} {n:Nat} (h:qcB r n):qcB (r-(r.floor:Rat)) n:=by
 rw[qjW]
 have d:=r.den_pos
 refine qkL (by omega) ?_ h.2
 refine qa8 ?_ h.2
 have:=Int.emod_nonneg r.num (show(r.den:Int)≠0 by omega)
 have:=Int.emod_lt_of_pos r.num (show(0:Int)<(r.den:Int)by omega)
 omega
theorem qlg {x:Rat} {n:Nat} (h:qcB x n):x<=((W^n:Int):Rat)/\ -((W^n:Int):Rat)<=x:=by
 have j:=x.den_pos
 have d:(x.num.natAbs:Int)<W^n:=h.1
 have hp:(0:Int)<=W^n:=by omega
 have u:W^n*1<=W^n*(x.den:Int):=Yc (by omega) hp
 rw[<-Rat.intCast_neg]
 constructor
 ·rw[Rat.le_iff,Rat.num_intCast,Rat.den_intCast]
  omega
 rw[Rat.le_iff,Rat.num_intCast,Rat.den_intCast,Int.neg_mul]
 omega
theorem qnn {x:Rat} {n m:Nat} (j:qcB x n) {c d:Int} (h0:0<=d) (hd:d<=m) (hm:m<=1000) (h1:(c:Rat)-x*(d:Rat)<=1) (h2: -1<=(c:Rat)-x*(d:Rat)):Fit c (n+1):=by
 obtain⟨b1,b2⟩:=qlg j
 have h:(0:Rat)<=(d:Rat):=Rat.intCast_nonneg.2 h0
 have hW:(1:Int)<=W^n:=pow_pos (show(0:Int)<W by decide) n
 have m1:=Rat.mul_le_mul_of_nonneg_right b1 h
 have m2:=Rat.mul_le_mul_of_nonneg_right b2 h
 have u1:(c:Rat)<=((W^n*d+1:Int):Rat):=by
  rw[Rat.intCast_add,Rat.intCast_mul,show((1:Int):Rat)=1 from rfl]
  grind
 have u:((-(W^n*d+1):Int):Rat)<=(c:Rat):=by
  rw[Rat.intCast_neg,Rat.intCast_add,Rat.intCast_mul,show((1:Int):Rat)=1 from rfl]
  grind
 rw[Rat.intCast_le_intCast]at u1 u
 have m3:W^n*d<=W^n*1000:=Yc (by omega) (by omega)
 have e:W^(n+1)=W^n*W:=Int.pow_succ ..
 have m4:W^n*1001<W^n*W:=Int.mul_lt_mul_of_pos_left (by decide) (by omega)
 unfold Fit
 omega
structure Cvg (x:Rat) (m:Nat) (a b c d:Int) (r:Rat):Prop where
 b0:0<=b
 d0:0<=d
 bm:b<=m
 dm:d<=m
 st:(b=1/\d=0)\/(1<=d/\1<r)
 fr:qcB r 4
 za:Fit a 5
 zc:Fit c 5
 eq:x*((d:Rat)*r+(b:Rat))=(c:Rat)*r+(a:Rat)
 det:c*b-d*a=1\/c*b-d*a= -1
theorem qmJ {r:Rat} (h:1<r):1<=r.floor:=by
 rw[Rat.le_floor_iff]
 exact Rat.le_of_lt h
theorem Cvg.next {x:Rat} {m:Nat} {a b c d:Int} {r:Rat} (h:Cvg x m a b c d r) (hm1:1<=m) (hm:m<=1000) (fx:qcB x 4) (hd:d*r.floor+b<=m) (hr:r≠(r.floor:Rat)):
 Cvg x m c d (c*r.floor+a) (d*r.floor+b) (r-(r.floor:Rat))⁻¹/\1<=d*r.floor+b/\b+d+1<=d+(d*r.floor+b)+(if d=0 then 1 else 0):=by
 have u:0<r-(r.floor:Rat):=by
  rw[<-Rat.lt_iff_sub_pos]
  exact Rat.lt_of_le_of_ne (Rat.floor_le _) (Ne.symm hr)
 have hlt:r-(r.floor:Rat)<1:=by
  have:=Rat.lt_floor_add_one r
  rw[Rat.intCast_add,show((1:Int):Rat)=1 from rfl]at this
  grind
 have hne:r-(r.floor:Rat)≠0:=Rat.ne_of_gt u
 have k1:1<=d*r.floor+b/\b+d+1<=d+(d*r.floor+b)+(if d=0 then 1 else 0):=by
  rcases h.st with⟨e1,e2⟩|⟨e1,e2⟩
  ·rw[e1,e2]
   simp
  have f1:=qmJ e2
  have:=Yc f1 h.d0
  have:=h.b0
  rw[if_neg (by omega)]
  omega
 have j:=Rat.mul_inv_cancel _ hne
 have hs:(1:Rat)<(r-(r.floor:Rat))⁻¹:=by
  have p:=Rat.inv_pos.2 u
  have:=Rat.mul_lt_mul_of_pos_right hlt p
  rw[j,Rat.one_mul]at this
  exact this
 generalize hg:(r-(r.floor:Rat))⁻¹=s at*
 have er:r=(r.floor:Rat)+s⁻¹:=by
  rw[<-hg,Rat.inv_inv]
  grind
 generalize hk:r.floor=k at*
 have es:(r-(k:Rat))*s=1:=j
 have e2:x*(((d*k+b:Int):Rat)*s+(d:Rat))=((c*k+a:Int):Rat)*s+(c:Rat):=by
  have h1:=h.eq
  rw[Rat.intCast_add,Rat.intCast_mul,Rat.intCast_add,Rat.intCast_mul]
  have h2:x*((d:Rat)*r+(b:Rat))*s=((c:Rat)*r+(a:Rat))*s:=by rw[h1]
  have h3:r*s=1+(k:Rat)*s:=by grind
  have h4:x*((d:Rat)*(r*s)+(b:Rat)*s)=(c:Rat)*(r*s)+(a:Rat)*s:=by grind
  rw[h3]at h4
  grind
 have dt:(c*k+a)*d-(d*k+b)*c=1\/(c*k+a)*d-(d*k+b)*c= -1:=by
  have:(c*k+a)*d-(d*k+b)*c= -(c*b-d*a):=by grind
  rcases h.det with e|e
  ·right;rw[this,e]
  left;rw[this,e];rfl
 refine⟨?_,k1⟩
 have D1:(1:Rat)<=((d*k+b:Int):Rat)*s+(d:Rat):=by
  have a1:(1:Rat)<=((d*k+b:Int):Rat):=by
   have:=Rat.intCast_le_intCast.2 k1.1
   exact this
  have a2:(0:Rat)<=(d:Rat):=Rat.intCast_nonneg.2 h.d0
  have a3:=Rat.mul_le_mul_of_nonneg_right a1 (show(0:Rat)<=s from Rat.le_trans (by decide) (Rat.le_of_lt hs))
  rw[Rat.one_mul]at a3
  have:=Rat.le_of_lt hs
  grind
 have zz:(((c*k+a:Int):Rat)-x*((d*k+b:Int):Rat))*(((d*k+b:Int):Rat)*s+(d:Rat))=(((c*k+a)*d-(d*k+b)*c:Int):Rat):=by
  rw[Rat.intCast_sub,Rat.intCast_mul,Rat.intCast_mul]
  generalize ((c*k+a:Int):Rat)=C at*
  generalize ((d*k+b:Int):Rat)=E at*
  generalize (c:Rat)=c' at*
  generalize (d:Rat)=d' at*
  have:(C-x*E)*(E*s+d')=C*(E*s+d')-E*(x*(E*s+d')):=by grind
  rw[this,e2]
  grind
 have hz:((c*k+a:Int):Rat)-x*((d*k+b:Int):Rat)<=1/\ -1<=((c*k+a:Int):Rat)-x*((d*k+b:Int):Rat):=by
  generalize ((c*k+a:Int):Rat)-x*((d*k+b:Int):Rat)=z at*
  generalize ((d*k+b:Int):Rat)*s+(d:Rat)=D at*
  have hD0:(0:Rat)<=D:=Rat.le_trans (by decide) D1
  have hb:z*D=1\/z*D= -1:=by
   rw[zz]
   rcases dt with e|e
   ·left;rw[e];rfl
   right;rw[e];rfl
  constructor
  ·rw[<-Rat.not_lt]
   intro hc
   have:=Rat.mul_lt_mul_of_pos_right hc (show(0:Rat)<D by grind)
   rw[Rat.one_mul]at this
   grind
  rw[<-Rat.not_lt]
  intro hc
  have:=Rat.mul_lt_mul_of_pos_right hc (show(0:Rat)<D by grind)
  grind
 exact {b0:=h.d0,d0:=by omega,bm:=h.dm,dm:=hd,st:= .inr ⟨k1.1,hs⟩,fr:=by rw[<-hg];exact qnu (by rw[<-hk];exact qmE h.fr) (by omega),za:=h.zc,zc:=qnn fx (by omega) hd hm hz.1 hz.2,eq:=e2,det:=dt}
end Go.Av
end
section
namespace Go.Av
theorem qmf {N:Nat} (hN:10<N) (a b:Int):yH N [a,b]=some (if a=0 then b else a):=by
 obtain⟨K,rfl⟩: ∃K,N=K+1+1+1:=⟨N-3,by omega⟩
 have j:w64 1=1:=rfl
 have h:w64 2=2:=rfl
 have d: ∀a b:Int,idx [a,b] 0=some a:=fun _ _=>rfl
 have u: ∀a b:Int,idx [a,b] 1=some b:=fun _ _=>rfl
 unfold yH
 by_cases ha:a=0
 ·by_cases hb:b=0
  ·simp[qx,d,u,ha,hb,j,h]
  simp[qx,d,u,ha,hb,j,h]
 simp[qx,d,ha]
theorem qog {N:Nat} (hN:10<N) (a b:Int):qbp N [a,b]=some (if a=0 then b else a):=by
 obtain⟨K,rfl⟩: ∃K,N=K+1+1+1:=⟨N-3,by omega⟩
 have j:w64 1=1:=rfl
 have h:w64 2=2:=rfl
 have d: ∀a b:Int,idx [a,b] 0=some a:=fun _ _=>rfl
 have u: ∀a b:Int,idx [a,b] 1=some b:=fun _ _=>rfl
 unfold qbp
 by_cases ha:a=0
 ·by_cases hb:b=0
  ·simp[jX,d,u,ha,hb,j,h]
  simp[jX,d,u,ha,hb,j,h]
 simp[jX,d,ha]
theorem qn2 {N:Nat} (hN:600000<N) {s:Str} (j:s.length<=600): ∃e,qau N s=some e/\xZ N s=some e/\(e=0-> ∃q:Rat,s=T q/\Sml q 600/\0<q):=by
 unfold qau qbf xZ vK
 rw[qet hN (by omega),qei hN (by omega),ZB,ZB]
 by_cases hc:chk s=0
 ·obtain⟨q,rfl,sq,_⟩:=qgA (by omega) j hc
  obtain⟨f,u,i1⟩:=qbD hN (sq.mono (show 600<=9000 by omega))
  rw[hc,if_neg (by decide),if_pos rfl,u,ZB,qg9 i1,ZB,qh4,ZB]
  by_cases h:q<=0
  ·have d:=(qlH (q:=q)).2 h
   refine⟨3,?_,?_,fun c=>absurd c (by decide)⟩
   ·rw[if_pos (decide_eq_true (Int.lt_of_le_of_lt d (by decide)))];rfl
   rw[decide_eq_true d];rfl
  have d: ¬_<=(0:Int):=fun c=>h ((qlH (q:=q)).1 c)
  refine⟨0,?_,?_,fun _=>⟨q,rfl,sq,Rat.not_le.1 h⟩⟩
  ·rw[if_neg (by rw[decide_eq_true_eq];omega)];rfl
  rw[decide_eq_false d];rfl
 refine⟨chk s,?_,?_,fun c=>absurd c hc⟩
 ·rw[if_pos (by simp[hc])];rfl
 rw[if_neg hc];rfl
def resQ (q:Rat):Str×Int:=if qf0 q=true then([],4)else(T q,0)
theorem qgZ {N:Nat} (hN:600000<N) {f:qM} {q:Rat} (h:IsF f q) (d:qcB q 3900):xO N f=some (resQ q):=by
 unfold xO resQ
 rw[qoM hN h d,ZB]
 by_cases c:qf0 q=true
 ·rw[if_pos c,if_pos c]
 rw[if_neg c,if_neg c,qpN hN h d,ZB]
end Go.Av
end
section
namespace Go.Av
end Go.Av
end
section
namespace Go.Av
end Go.Av
end
section
namespace Go.Av
end Go.Av
end
section
namespace Go.Av
theorem qmQ {n:Int} (d: -9223372036854775808<=n) (j:n<=9223372036854775807) {k:Nat} (h:27<=k):Sml (n:Rat) k:=(qpv d j).mono h
end Go.Av
end
section
namespace Go.Av
theorem qgq {p q:Rat}:((if p<q then-1 else if p=q then 0 else 1:Int)=0)↔p=q:=by
 by_cases h:p<q
 ·rw[if_pos h]
  exact⟨fun c=>absurd c (by decide),fun c=>absurd (c▸h) Rat.lt_irrefl⟩
 rw[if_neg h]
 by_cases e:p=q
 ·rw[if_pos e]
  exact⟨fun _=>e,fun _=>rfl⟩
 rw[if_neg e]
 exact⟨fun c=>absurd c (by decide),fun c=>absurd c e⟩
end Go.Av
end
section
namespace Go.Av
theorem pick {x L M:Rat} {d f:Int} (nL:(L.den:Int)=d) (nM:(M.den:Int)=f) {c:Int}
 (j:c=if(if(x-L).abs<(x-M).abs then-1 else if(x-L).abs=(x-M).abs then 0 else 1:Int)=0 then(if(if(d:Rat)<(f:Rat)then-1 else if(d:Rat)=(f:Rat)then 0 else 1:Int)=0 then(if L<M then-1 else if L=M then 0 else 1)else(if(d:Rat)<(f:Rat)then-1 else if(d:Rat)=(f:Rat)then 0 else 1))else(if(x-L).abs<(x-M).abs then-1 else if(x-L).abs=(x-M).abs then 0 else 1)):
 (¬c>0->le3 x L M)/\(c>0->le3 x M L):=by
 by_cases h1:(x-L).abs=(x-M).abs
 ·rw[if_pos (qgq.2 h1)]at j
  by_cases u:(d:Rat)=(f:Rat)
  ·rw[if_pos (qgq.2 u)]at j
   have u:=Rat.intCast_inj.1 u
   constructor
   ·intro h
    rw[j]at h
    exact .inr ⟨h1,.inr ⟨by omega,Rat.not_lt.1 fun k=>h (qfG.2 k)⟩⟩
   intro h
   rw[j]at h
   exact .inr ⟨h1.symm,.inr ⟨by omega,Rat.le_of_lt (qfG.1 h)⟩⟩
  rw[if_neg (fun k=>u (qgq.1 k))]at j
  constructor
  ·intro h
   rw[j]at h
   have h:=Rat.not_lt.1 (fun k=>h (qfG.2 k))
   have h3:d≠f:=fun k=>u (by rw[k])
   have:=Rat.intCast_le_intCast.1 h
   exact .inr ⟨h1,.inl (by omega)⟩
  intro h
  rw[j]at h
  have:=Rat.intCast_lt_intCast.1 (qfG.1 h)
  exact .inr ⟨h1.symm,.inl (by omega)⟩
 rw[if_neg (fun k=>h1 (qgq.1 k))]at j
 constructor
 ·intro h
  rw[j]at h
  have h:=Rat.not_lt.1 (fun k=>h (qfG.2 k))
  exact .inl (Rat.lt_of_le_of_ne h h1)
 intro h
 rw[j]at h
 exact .inl (qfG.1 h)
end Go.Av
end
section
namespace Go.Av
end Go.Av
end
section
namespace Go.Av
theorem qnS {N:Nat} (hN:600000<N) {a b:Str} (ha:chk a=0) (hb:chk b=0): ∃f g c,vz N a=some f/\vz N b=some g/\yu N f g=some c/\qa9 N a b=some c:=by
 obtain⟨p,rfl,u,d⟩:=qh0 ha
 obtain⟨q,rfl,j,h⟩:=qh0 hb
 obtain⟨f,g,e1,e2,e3⟩:=ncmp hN (p:=p) (q:=q) ⟨u,d⟩ ⟨j,h⟩
 exact⟨f,g,_,e1,e2,e3,qgD hN (k:=600) (by omega) (by omega) ⟨u,d⟩ ⟨j,h⟩⟩
end Go.Av
end
section
namespace Go.Av
theorem qjF {N:Nat} (hN:600000<N) {s:Str} {k:Nat} (hk:0<k) (u:k<=600) (hl:s.length<=k): ∃e,qae N s=some e/\vW N s=some e/\(e=0-> ∃q:Rat,s=T q/\Sml q k/\0<=q):=by
 unfold qae qbf vW vK
 rw[qet hN (by omega),qei hN (by omega),ZB,ZB]
 by_cases hc:chk s=0
 ·obtain⟨q,rfl,sq,_⟩:=qgA hk hl hc
  obtain⟨f,e1,i1⟩:=qbD hN (sq.mono (show k<=9000 by omega))
  rw[hc,if_neg (by decide),if_pos rfl,e1,ZB,qg9 i1,ZB,qh4,ZB]
  by_cases h:0<=q
  ·have j:0<=q.num:=Rat.num_nonneg.2 h
   have d: ¬(if q.num<0 then-1 else if q.num=0 then 0 else 1:Int)<0:=by split;omega;split<;>omega
   refine⟨0,?_,?_,fun _=>⟨q,rfl,sq,h⟩⟩
   ·rw[if_neg (by rw[decide_eq_true_eq];exact d)];rfl
   rw[decide_eq_false d];rfl
  have j:q.num<0:=Int.not_le.1 fun c=>h (Rat.num_nonneg.1 c)
  have d:(if q.num<0 then-1 else if q.num=0 then 0 else 1:Int)<0:=by rw[if_pos j];decide
  refine⟨3,?_,?_,fun c=>absurd c (by decide)⟩
  ·rw[if_pos (decide_eq_true d)];rfl
  rw[decide_eq_true d];rfl
 refine⟨chk s,?_,?_,fun c=>absurd c hc⟩
 ·rw[if_pos (by simp[hc])];rfl
 rw[if_neg hc];rfl
def qg8 (l:List qY) (i:Nat):Prop:= ∀j,i<=j-> ∀p,l[j]? =some p->p.X.length<=60/\p.Y.length<=60
theorem qj5 (y:qV): ∀(K i:Nat),i<=y.Strength.length->y.Strength.length<K+i->y.Strength.length<=1000->(kz y K (i:Int)=some (.inl ())/\qg8 y.Strength i)\/kz y K (i:Int)=some (.inr false)
 |0,i,h,hK,hl=>by omega
 |K+1,i,h,hK,hl=>by
  unfold kz
  by_cases hi:i<y.Strength.length
  ·have hp:y.Strength[i]? =some y.Strength[i]:=Ya hi
   rw[if_pos (by omega),qo,hp,ZB]
   by_cases h1:((y.Strength[i]).X.length:Int)>60
   ·rw[if_pos h1,ZB,if_pos rfl]
    exact .inr rfl
   by_cases h2:((y.Strength[i]).Y.length:Int)>60
   ·rw[if_neg h1,decide_eq_true h2,ZB,if_pos rfl]
    exact .inr rfl
   rw[if_neg h1,decide_eq_false h2,ZB,if_neg (by decide),ko (by omega)]
   rcases qj5 y K (i+1) (by omega) (by omega) hl with⟨e,f⟩|e
   ·refine .inl ⟨e,fun j hj p hp'=>?_⟩
    by_cases hij:i=j
    ·subst hij
     rw[hp]at hp'
     obtain rfl:=Ye hp'
     omega
    exact f j (by omega) p hp'
   exact .inr e
  rw[if_neg (by omega)]
  refine .inl ⟨rfl,fun j hj p hp=>?_⟩
  rw[Yg (by omega)]at hp
  cases hp
theorem qnk {N:Nat} (hN:600000<N) (y:qV): ∃b,xx N y=some b/\(b=true->y.Name.length<=60/\y.Density.length<=60/\y.Twist.length<=60/\y.Dye.length<=60/\(y.Strength.length<=8\/257<=y.Strength.length)/\y.Strength.length<=259/\qg8 y.Strength 0):=by
 unfold xx
 by_cases h1:(y.Name.length:Int)>60
 ·exact⟨false,by rw[if_pos h1];rfl,fun c=>by cases c⟩
 by_cases h2:(y.Density.length:Int)>60
 ·exact⟨false,by rw[if_neg h1,if_pos h2];rfl,fun c=>by cases c⟩
 by_cases h3:(y.Twist.length:Int)>60
 ·exact⟨false,by rw[if_neg h1,if_neg h2,if_pos h3];rfl,fun c=>by cases c⟩
 by_cases h4:(y.Dye.length:Int)>60
 ·exact⟨false,by rw[if_neg h1,if_neg h2,if_neg h3,if_pos h4];rfl,fun c=>by cases c⟩
 rw[if_neg h1,if_neg h2,if_neg h3,if_neg h4]
 have R: ∀x:Option Bool,(x=some true\/(x=some false/\(y.Strength.length<=8\/257<=y.Strength.length)/\y.Strength.length<=259))-> ∃b,(x.bind fun b7=>if b7=true then some false else(kz y N 0).bind (fun|(.inl ())=>some true|(.inr q19)=>some q19))=some b/\(b=true->y.Name.length<=60/\y.Density.length<=60/\y.Twist.length<=60/\y.Dye.length<=60/\(y.Strength.length<=8\/257<=y.Strength.length)/\y.Strength.length<=259/\qg8 y.Strength 0):=by
  intro x hx
  rcases hx with rfl|⟨rfl,d,h⟩
  ·exact⟨false,rfl,fun c=>by cases c⟩
  rcases qj5 y N 0 (by omega) (by omega) (by omega)with⟨e,f⟩|e
  ·refine⟨true,?_,fun _=>⟨by omega,by omega,by omega,by omega,d,h,f⟩⟩
   rw[ZB,if_neg (by decide),show(0:Int)=((0:Nat):Int)from rfl,e]
   rfl
  refine⟨false,?_,fun c=>by cases c⟩
  rw[ZB,if_neg (by decide),show(0:Int)=((0:Nat):Int)from rfl,e]
  rfl
 apply R
 by_cases d:(y.Strength.length:Int)>8
 ·by_cases h:(y.Strength.length:Int)<=256
  ·left;rw[if_pos d,if_pos h]
  by_cases h7:(y.Strength.length:Int)>259
  ·left;rw[if_pos d,if_neg h,decide_eq_true h7]
  right;exact⟨by rw[if_pos d,if_neg h,decide_eq_false h7],by omega,by omega⟩
 right;exact⟨by rw[if_neg d,decide_eq_false (by omega)],by omega,by omega⟩
def PtOK (p:qY):Prop:= ∃a b:Rat,p=⟨T a,T b⟩/\Sml a 60/\Sml b 60/\0<=a/\0<=b
def qds (l:List qY) (i:Nat):Prop:=(∀j,j<i-> ∀p,l[j]? =some p->PtOK p)/\ ∀j,j+1<i-> ∀a b a' b',l[j]? =some ⟨T a,T b⟩->l[j+1]? =some ⟨T a',T b'⟩->a<a'
theorem qnr {N:Nat} (hN:600000<N) (y:qV) (hs:qg8 y.Strength 0) (hl:y.Strength.length<=1000): ∀(K i:Nat),i<=y.Strength.length->y.Strength.length<K+i->qds y.Strength i->(qF N y.Strength K (i:Int)=some (.inl ())/\qH N y K (i:Int)=some (.inl ())/\qds y.Strength y.Strength.length)\/ ∃e,e≠0/\qF N y.Strength K (i:Int)=some (.inr e)/\qH N y K (i:Int)=some (.inr e)
 |0,i,h,hK,ok=>by omega
 |K+1,i,h,hK,ok=>by
  unfold qF qH
  by_cases hi:i<y.Strength.length
  case neg=>
   rw[if_neg (by omega),if_neg (by omega)]
   have:i=y.Strength.length:=by omega
   subst this
   exact .inl ⟨rfl,rfl,ok⟩
  have hp:y.Strength[i]? =some y.Strength[i]:=Ya hi
  obtain⟨l1,l2⟩:=hs i (Nat.zero_le _) _ hp
  rw[if_pos (by omega),if_pos (by omega),qo,hp,ZB,ZB,yl (by omega),ZB]
  generalize y.Strength[i]=p at*
  obtain⟨d,x1,y1,z1⟩:=qjF hN (by omega) (by omega) l1
  obtain⟨e2,x2,y2,z2⟩:=qjF hN (by omega) (by omega) l2
  unfold qaw
  rw[x1,ZB,x2,ZB,qmf (by omega),ZB,y1,ZB]
  have hE:(if d=0 then(vW N p.Y).bind fun r20=>some r20 else some d:Option Int)=some (if d=0 then e2 else d):=by
   by_cases c:d=0
   ·rw[if_pos c,if_pos c,y2,ZB]
   rw[if_neg c,if_neg c]
  rw[hE,ZB]
  by_cases he:(if d=0 then e2 else d)=0
  case neg=>
   have hz:(!decide ((if d=0 then e2 else d)=0))=true:=by rw[decide_eq_false he];rfl
   simp only[if_pos hz,ZB,if_true]
   exact .inr ⟨_,he,rfl,rfl⟩
  have hE2:d=0/\e2=0:=by
   split at he
   ·rename_i c;exact⟨c,he⟩
   rename_i c;exact absurd he c
  obtain⟨rfl,rfl⟩:=hE2
  obtain⟨a,ea,sa,a0⟩:=z1 rfl
  obtain⟨b,eb,sb,b0⟩:=z2 rfl
  have ep:p=⟨T a,T b⟩:=by cases p;simp_all
  subst ep
  rw[if_pos rfl,if_neg (by decide)]
  have nxt:qds y.Strength (i+1)->((qF N y.Strength K ((i+1:Nat):Int)=some (.inl ())/\qH N y K ((i+1:Nat):Int)=some (.inl ())/\qds y.Strength y.Strength.length)\/ ∃e,e≠0/\qF N y.Strength K ((i+1:Nat):Int)=some (.inr e)/\qH N y K ((i+1:Nat):Int)=some (.inr e)):=fun ok'=>qnr hN y hs hl K (i+1) (by omega) (by omega) ok'
  have tl:(List.take i y.Strength).length=i:=by rw[Ym];omega
  rw[tl]
  by_cases i0:i=0
  ·subst i0
   rw[decide_eq_true (show((0:Nat):Int)=0 from rfl),ZB,if_pos rfl,ZB,if_neg (by decide),if_neg (show¬((0:Nat):Int)>0 by omega),ZB,if_neg (by decide),ko (by omega)]
   refine nxt ⟨fun j hj q hq=>?_,fun j hj=>by omega⟩
   obtain rfl:j=0:=by omega
   rw[hp]at hq
   obtain rfl:=Ye hq
   exact⟨a,b,rfl,sa,sb,a0,b0⟩
  obtain⟨k,rfl⟩: ∃k,i=k+1:=⟨i-1,by omega⟩
  have hk:y.Strength[k]? =some y.Strength[k]:=Ya (by omega)
  obtain⟨a',b',ep',sa',sb',a0',b0'⟩:=ok.1 k (by omega) _ hk
  rw[ep']at hk
  have w1:w64 (((k+1:Nat):Int)-1)=(k:Int):=by rw[qh (by omega) (by omega)];omega
  obtain⟨f,g,c,g1,g2,g3,g4⟩:=qnS hN (a:=T a) (b:=T a') (qp5 (sa.mono (by omega))) (qp5 (sa'.mono (by omega)))
  have g5:=qgD hN (k:=60) (by omega) (by omega) sa sa'
  rw[g4]at g5
  rw[decide_eq_false (show¬(((k+1:Nat):Int)=0)by omega),ZB,if_neg (by decide),w1,qo,List.getElem?_take_of_lt (by omega),hk,ZB,if_neg (by decide),if_pos (show(((k+1:Nat):Int)>0)by omega),qo,hk,ZB]
  simp only
  rw[g1,ZB,g2,ZB,g3,ZB,g4,ZB]
  unfold vK
  by_cases hc:c<=0
  ·rw[decide_eq_true hc,if_pos rfl,ZB,ZB,if_pos (by decide),ZB,if_pos rfl]
   exact .inr ⟨11,by decide,rfl,rfl⟩
  rw[decide_eq_false hc,if_neg (by decide),ZB,ZB,if_neg (by decide),ZB,if_neg (by decide),ko (by omega)]
  have lt:a'<a:=by
   have g6:=Ye g5
   by_cases h1:a<a'
   ·rw[if_pos h1]at g6;omega
   by_cases h2:a=a'
   ·rw[if_neg h1,if_pos h2]at g6;omega
   grind
  refine nxt ⟨fun j hj q hq=>?_,fun j hj u v u' v' hu hv=>?_⟩
  ·by_cases hjk:j=k+1
   ·subst hjk
    rw[hp]at hq
    obtain rfl:=Ye hq
    exact⟨a,b,rfl,sa,sb,a0,b0⟩
   exact ok.1 j (by omega) q hq
  by_cases hjk:j=k
  ·subst hjk
   rw[hp]at hv
   rw[hk]at hu
   have h1:=Ye hu
   have h2:=Ye hv
   injection h1 with h3 _
   injection h2 with h4 _
   rw[<-qls h3,<-qls h4]
   exact lt
  exact ok.2 j (by omega) u v u' v' hu hv
structure qor (y:qV) where
 d:Rat
 t:Rat
 ed:y.Density=T d
 sd:Sml d 60
 d0:0<d
 et:y.Twist=T t
 st:Sml t 60
 ne:0<y.Strength.length
 few:y.Strength.length<=256
 pts:qds y.Strength y.Strength.length
theorem qiU {N:Nat} (hN:10<N) (a b c d e f:Int):yH N [a,b,c,d,e,f]=some (if a=0 then if b=0 then if c=0 then if d=0 then if e=0 then f else e else d else c else b else a):=by
 obtain⟨K,rfl⟩: ∃K,N=K+1+1+1+1+1+1+1:=⟨N-7,by omega⟩
 have w0:w64 (0+1)=1:=rfl
 have w1:w64 (1+1)=2:=rfl
 have w2:w64 (2+1)=3:=rfl
 have w3:w64 (3+1)=4:=rfl
 have w4:w64 (4+1)=5:=rfl
 have w5:w64 (5+1)=6:=rfl
 have j:(([a,b,c,d,e,f]:List Int).length:Int)=6:=rfl
 have i0:idx [a,b,c,d,e,f] 0=some a:=rfl
 have i1:idx [a,b,c,d,e,f] 1=some b:=rfl
 have i2:idx [a,b,c,d,e,f] 2=some c:=rfl
 have i3:idx [a,b,c,d,e,f] 3=some d:=rfl
 have i4:idx [a,b,c,d,e,f] 4=some e:=rfl
 have i5:idx [a,b,c,d,e,f] 5=some f:=rfl
 have u: ∀{x:Int},x≠0->(!decide (x=0))=true:=fun h=>by simp[h]
 unfold yH
 by_cases ha:a=0
 case neg=>rw[if_neg ha,qx,j,if_pos (by decide),i0,ZB,if_pos (u ha)];rfl
 by_cases hb:b=0
 case neg=>rw[if_pos ha,if_neg hb,qx,j,if_pos (by decide),i0,ZB,if_neg (by simp[ha]),w0,qx,j,if_pos (by decide),i1,ZB,if_pos (u hb)];rfl
 by_cases hc:c=0
 case neg=>rw[if_pos ha,if_pos hb,if_neg hc,qx,j,if_pos (by decide),i0,ZB,if_neg (by simp[ha]),w0,qx,j,if_pos (by decide),i1,ZB,if_neg (by simp[hb]),w1,qx,j,if_pos (by decide),i2,ZB,if_pos (u hc)];rfl
 by_cases hd:d=0
 case neg=>rw[if_pos ha,if_pos hb,if_pos hc,if_neg hd,qx,j,if_pos (by decide),i0,ZB,if_neg (by simp[ha]),w0,qx,j,if_pos (by decide),i1,ZB,if_neg (by simp[hb]),w1,qx,j,if_pos (by decide),i2,ZB,if_neg (by simp[hc]),w2,qx,j,if_pos (by decide),i3,ZB,if_pos (u hd)];rfl
 by_cases he:e=0
 case neg=>rw[if_pos ha,if_pos hb,if_pos hc,if_pos hd,if_neg he,qx,j,if_pos (by decide),i0,ZB,if_neg (by simp[ha]),w0,qx,j,if_pos (by decide),i1,ZB,if_neg (by simp[hb]),w1,qx,j,if_pos (by decide),i2,ZB,if_neg (by simp[hc]),w2,qx,j,if_pos (by decide),i3,ZB,if_neg (by simp[hd]),w3,qx,j,if_pos (by decide),i4,ZB,if_pos (u he)];rfl
 rw[if_pos ha,if_pos hb,if_pos hc,if_pos hd,if_pos he,qx,j,if_pos (by decide),i0,ZB,if_neg (by simp[ha]),w0,qx,j,if_pos (by decide),i1,ZB,if_neg (by simp[hb]),w1,qx,j,if_pos (by decide),i2,ZB,if_neg (by simp[hc]),w2,qx,j,if_pos (by decide),i3,ZB,if_neg (by simp[hd]),w3,qx,j,if_pos (by decide),i4,ZB,if_neg (by simp[he]),w4,qx,j,if_pos (by decide),i5,ZB]
 by_cases hf:f=0
 ·rw[if_neg (by simp[hf]),w5,qx,j,if_neg (by decide),hf];rfl
 rw[if_pos (u hf)];rfl
theorem qm1 {N:Nat} (hN:600000<N) {y:qV} (h1:y.Name.length<=60) (h2:y.Density.length<=60) (h3:y.Twist.length<=60) (h4:y.Dye.length<=60) (h6:y.Strength.length<=259) (hs:qg8 y.Strength 0): ∃e,jP N y=some e/\xn N y=some e/\(e=0->Nonempty (qor y)):=by
 have P0:qds y.Strength 0:=⟨fun j hj=>by omega,fun j hj=>by omega⟩
 obtain⟨e,x1,y1,z1⟩:=qn2 hN (s:=y.Density) (by omega)
 have c1:=qet hN (s:=y.Twist) (by omega)
 have c2:=qei hN (s:=y.Twist) (by omega)
 have n1:=qiv (N:=N) (s:=y.Name) (by omega)
 have n2:=qhF (N:=N) (s:=y.Name) (by omega) (by omega)
 have d1:=qiv (N:=N) (s:=y.Dye) (by omega)
 have d2:=qhF (N:=N) (s:=y.Dye) (by omega) (by omega)
 have D: ∃b:Bool,qar N y.Dye=some (if b=true then 0 else 8)/\qbo N y.Dye=some b:=by
  unfold qar qbo vK
  cases hb:(y.Dye==[])with
  |true=>exact⟨true,rfl,rfl⟩
  |false=>
   rw[d1,d2]
   cases qiB y.Dye with
   |true=>exact⟨true,rfl,rfl⟩
   |false=>exact⟨false,rfl,rfl⟩
 obtain⟨db,D1,D2⟩:=D
 have E: ∃r:Int,vQ N y.Strength 256=some r/\(256<y.Strength.length->r=5)/\(y.Strength.length<=256->(r=0/\qH N y N 0=some (.inl ())/\qds y.Strength y.Strength.length)\/(r≠0/\qH N y N 0=some (.inr r))):=by
  unfold vQ
  by_cases hl:256<y.Strength.length
  ·exact⟨5,by rw[if_pos (by omega)],fun _=>rfl,fun c=>by omega⟩
  rcases qnr hN y hs (by omega) N 0 (by omega) (by omega) P0 with⟨g1,g2,g3⟩|⟨r,g0,g1,g2⟩
  ·exact⟨0,by rw[if_neg (by omega),show(0:Int)=((0:Nat):Int)from rfl,g1];rfl,fun c=>by omega,fun _=> .inl ⟨rfl,g2,g3⟩⟩
  exact⟨r,by rw[if_neg (by omega),show(0:Int)=((0:Nat):Int)from rfl,g1];rfl,fun c=>by omega,fun _=> .inr ⟨g0,g2⟩⟩
 obtain⟨r,E1,E2,E3⟩:=E
 have nz: ∀{x:Int},x≠0->(!decide (x=0))=true:=fun h=>by simp[h]
 unfold jP xn qde vK
 rw[n1,ZB,x1,c1,E1,D1,n2,ZB,y1,c2,D2]
 cases hn:qiB y.Name with
 |false=>
  refine⟨8,?_,rfl,fun c=>absurd c (by decide)⟩
  simp only[Bool.not_false,if_true,ZB]
  by_cases hz:(y.Strength.length:Int)=0
  ·simp only[decide_eq_true hz,if_true,ZB,qiU (show 10<N by omega)];rfl
  simp only[decide_eq_false hz,ZF,if_false,ZB,qiU (show 10<N by omega)];rfl
 |true=>
  simp only[Bool.not_true,ZF,if_false,ZB]
  have Z: ∀v:Int,(if decide ((y.Strength.length:Int)=0)=true then some 12 else some 0:Option Int)=some v-> ∃e',(Option.bind (if decide ((y.Strength.length:Int)=0)=true then some 12 else some 0:Option Int) fun r4=>(yH N [0,e,chk y.Twist,r4,r,if db=true then 0 else 8]).bind fun r7=>some r7)=some e'/\e'=(if e=0 then if chk y.Twist=0 then if v=0 then if r=0 then(if db=true then 0 else 8)else r else v else chk y.Twist else e):=by
   intro v hv
   rw[hv,ZB,qiU (by omega),ZB,if_pos rfl]
   exact⟨_,rfl,rfl⟩
  by_cases hz:y.Strength.length=0
  ·obtain⟨e',q1,u⟩:=Z 12 (by rw[if_pos (by simp[hz])])
   refine⟨e',q1,?_,fun c=>?_⟩
   ·rw[u]
    by_cases he:e=0
    ·rw[if_pos he,if_pos he,ZB]
     by_cases hc:chk y.Twist=0
     ·rw[if_pos hc,hc,if_neg (by decide),if_pos (by omega),if_neg (by decide)]
     rw[if_neg hc,if_pos (nz hc)]
    rw[if_neg he,if_neg he,ZB,if_pos (nz he)]
   exfalso
   rw[u]at c
   split at c
   ·split at c
    ·rw[if_neg (by decide)]at c;omega
    contradiction
   contradiction
  obtain⟨e',q1,u⟩:=Z 0 (by rw[if_neg (by simp[hz])])
  rw[if_pos rfl]at u
  refine⟨e',q1,?_,fun c=>?_⟩
  ·rw[u]
   by_cases he:e=0
   ·rw[if_pos he,if_pos he,ZB]
    by_cases hc:chk y.Twist=0
    ·rw[if_pos hc,hc,if_neg (by decide),if_neg (by omega)]
     by_cases hl:256<y.Strength.length
     ·rw[if_pos (by omega),E2 hl,if_neg (by decide)]
     rw[if_neg (by omega)]
     rcases E3 (by omega)with⟨r0,g,_⟩|⟨r0,g⟩
     ·rw[g,r0,if_pos rfl]
      cases db<;>rfl
     rw[g,if_neg r0]
     rfl
    rw[if_neg hc,if_pos (nz hc)]
   rw[if_neg he,if_neg he,ZB,if_pos (nz he)]
  rw[u]at c
  by_cases he:e=0
  ·rw[if_pos he]at c
   by_cases hc:chk y.Twist=0
   ·rw[if_pos hc]at c
    by_cases hr:r=0
    ·have hl:y.Strength.length<=256:=by
      rcases Nat.lt_or_ge 256 y.Strength.length with h|h
      ·have:=E2 h;omega
      exact h
     rcases E3 hl with⟨_,_,g3⟩|⟨r0,_⟩
     ·obtain⟨d,ed,sd,d0⟩:=z1 he
      obtain⟨t,et,st,_⟩:=qgA (by omega) h3 hc
      have sd':Sml d 60:=qhQ (by omega) (by rw[<-ed];exact h2)
      exact⟨⟨d,t,ed,sd',d0,et,st,by omega,hl,g3⟩⟩
     exact absurd hr r0
    rw[if_neg hr]at c
    exact absurd c hr
   rw[if_neg hc]at c
   exact absurd c hc
  rw[if_neg he]at c
  exact absurd c he
end Go.Av
end
section
namespace Go.Av
theorem qoG {x:Int} (h:x≠0):(!decide (x=0))=true:=by rw[decide_eq_false h];rfl
end Go.Av
end
