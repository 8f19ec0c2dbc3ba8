/-
  The reference's numerals.
-/
import Derived.Test.YtlhmomppjidoiaaGreatDoorMyPa
import Derived.Test.YtlhmomppjidoiaaGreatDoorAvPt
noncomputable section
set_option linter.unusedVariables false
set_option linter.unusedSimpArgs false
set_option maxRecDepth 100000
section
namespace Go.Av
theorem qbn {a b:Str} (h:a.length+b.length<=1000000000):cat a b=some (a++b):=by
 unfold cat
 rw[if_pos (by omega)]
theorem dcut {d:Nat} (h:d<10):cut ([48,49,50,51,52,53,54,55,56,57]:Str) (d:Int) (w64 ((d:Int)+1))=some [dch d]:=by
 rw[jm (by omega)]
 rcases(show d=0\/d=1\/d=2\/d=3\/d=4\/d=5\/d=6\/d=7\/d=8\/d=9 by omega)with e|e|e|e|e|e|e|e|e|e<;>subst e<;>decide
theorem tm10 (n:Nat):(n:Int).tmod 10=((n%10:Nat):Int):=by rw[Int.tmod_eq_emod_of_nonneg (by omega)];omega
theorem td10 (n:Nat):(n:Int).tdiv 10=((n/10:Nat):Int):=by rw[YF (by omega)];omega
theorem qfZ {least:Int} {K n:Nat} {s:Str} (u:n<9223372036854775808) (hs:s.length<=1000) (h:0<n\/(s.length:Int)<least):qM least (K+1) (n:Int) s=qM least K ((n/10:Nat):Int) (dch (n%10)::s):=by
 have j:(if(n:Int)>0 then some true else some (decide ((s.length:Int)<least)):Option Bool)=some true:=by
  by_cases c:(n:Int)>0
  ·rw[if_pos c]
  rw[if_neg c,decide_eq_true (by omega)]
 rw[qM,j,ZB,if_pos rfl,tm10,td10,dcut (by omega),ZB,qbn (by simp;omega),ZB,qf (by omega) (by omega)]
 rfl
theorem qga {least:Int} {K:Nat} {s:Str} (h: ¬(s.length:Int)<least):qM least (K+1) 0 s=some s:=by
 rw[qM,if_neg (by omega),decide_eq_false h,ZB,if_neg (by simp)]
theorem qkO: ∀(k K n:Nat) (s:Str),n<10^k->s.length+k=9->k<K->qM 9 K (n:Int) s=some (qdT k n++s)
 |k,0,n,s,_,_,h=>by omega
 |0,K+1,n,s,hn,hs,h=>by
  simp at hn
  subst hn
  exact qga (by omega)
 |k+1,K+1,n,s,hn,hs,h=>by
  have j:(10:Nat)^(k+1)<=10^9:=Nat.pow_le_pow_right (by omega) (by omega)
  rw[Nat.pow_succ]at hn
  rw[qfZ (by rw[Nat.pow_succ]at j;omega) (by omega) (.inr (by omega)),qkO k K (n/10) _ (by omega) (by simp;omega) (by omega),qdT,Yz]
  rfl
theorem qkK: ∀(k K n:Nat) (s:Str),0<n->n<10^k->n<9223372036854775808->s.length+k<=900->k<K->qM 1 K (n:Int) s=some (Lib.decDigits n++s)
 |k,0,n,s,_,_,_,_,h=>by omega
 |0,K+1,n,s,h0,hn,_,hs,h=>by simp at hn;omega
 |k+1,K+1,n,s,h0,hn,h63,hs,h=>by
  rw[Nat.pow_succ]at hn
  rw[qfZ h63 (by omega) (.inl h0)]
  by_cases c:n<10
  ·obtain⟨K2,rfl⟩: ∃K2,K=K2+1:=⟨K-1,by omega⟩
   rw[show n/10=0 by omega,zH c,show n%10=n by omega]
   exact qga (by simp;omega)
  rw[qkK k K (n/10) _ (by omega) (by omega) (by omega) (by simp;omega) (by omega),qbs c,Yz]
  rfl
theorem qoA {N n:Nat} (hN:100<N) (h:n<1000000000):zB N (n:Int) 9=some (qdT 9 n):=by
 unfold zB
 rw[qkO 9 N n [] h rfl (by omega),ZB,YQ]
theorem qhD {N n:Nat} (hN:100<N) (h:n<9223372036854775808):zB N (n:Int) 1=some (Lib.decDigits n):=by
 unfold zB
 rcases Nat.eq_zero_or_pos n with e|e
 ·subst e
  obtain⟨K,rfl⟩: ∃K,N=K+1+1:=⟨N-2,by omega⟩
  have u:=qfZ (least:=1) (K:=K+1) (n:=0) (s:=[]) (by omega) (by simp) (.inr (by simp))
  rw[u,Nat.zero_div]
  have j:=qga (least:=1) (K:=K) (s:=[dch (0%10)]) (by simp)
  have j:qM 1 (K+1) ((0:Nat):Int) [dch (0%10)]=_:=j
  rw[j,ZB,zH (by decide)]
 rw[qkK 19 N n [] e (by omega) h (by simp) (by omega),ZB,YQ]
theorem qhT: ∀k:Nat,E9^k=((10^(9*k):Nat):Int)
 |0=>rfl
 |k+1=>by
  rw[Int.pow_succ,qhT k,Nat.mul_succ,Nat.pow_add,Int.natCast_mul]
  rfl
def nv (w:List Int):Nat:=(dv E9 w).toNat
theorem qjc {w:List Int} (h:Dg E9 w):(nv w:Int)=dv E9 w:=by
 have:=qA E0 h
 unfold nv
 omega
theorem nv_lt {w:List Int} (h:Dg E9 w):nv w<10^(9*w.length):=by
 have j:=yR E0 h
 rw[qhT,<-qjc h]at j
 omega
theorem qiE {w:List Int} (h:Dg E9 w):(Lib.decDigits (nv w)).length<=9*w.length+1:=by
 refine(qaS (by omega)).2 ?_
 have:=nv_lt h
 rw[Nat.pow_succ]
 omega
theorem qmn {w:List Int} (h:Dg E9 w) {i:Nat} (hi:i<w.length):nv (w.drop i)=w[i].toNat+1000000000*nv (w.drop (i+1)):=by
 have j:=qjc (h.drop i)
 have h2:=qjc (h.drop (i+1))
 have h3:=(h.at hi).1
 rw[qgY w hi]at j
 have u:E9*dv E9 (w.drop (i+1))=1000000000*dv E9 (w.drop (i+1)):=rfl
 omega
theorem qkz {N:Nat} (hN:100<N) {a:qD} (u:Dg E9 a.w) (a0:a.w.length<=100000): ∀(K i:Nat),i<=a.w.length->i<K->0<nv (a.w.drop i)->vT N a K (Lib.decDigits (nv (a.w.drop i))) ((i:Int)-1)=some (Lib.decDigits (nv a.w))
 |0,i,_,h,_=>by omega
 |K+1,0,_,_,_=>by
  rw[vT,if_neg (by omega),YR]
 |K+1,i+1,hi,h,hp=>by
  have j:i<a.w.length:=by omega
  have ax:=u.at j
  have ax2:a.w[i]<1000000000:=ax.2
  have ei:((i+1:Nat):Int)-1=(i:Int):=by omega
  have ed:a.w[i]=(a.w[i].toNat:Int):=by omega
  have el:=qmn u j
  have ll:=qiE (u.drop (i+1))
  rw[YJ]at ll
  rw[vT,ei,if_pos (by omega),qx,Ya j,ZB]
  have e9:zB N a.w[i] 9=some (qdT 9 a.w[i].toNat):=by
   conv=>lhs;rw[ed]
   exact qoA hN (by omega)
  rw[e9,ZB,qbn (by rw[qh0];omega),ZB,qf (by omega) (by omega)]
  have a1:Lib.decDigits (nv (a.w.drop (i+1)))++qdT 9 a.w[i].toNat=Lib.decDigits (nv (a.w.drop i)):=by
   have h9:(10:Nat)^9=1000000000:=rfl
   have q:nv (a.w.drop i)/10^9=nv (a.w.drop (i+1)):=by rw[h9];omega
   have r:nv (a.w.drop i)%10^9=a.w[i].toNat:=by rw[h9];omega
   rw[qh6 9 (nv (a.w.drop i)) (by rw[q];exact hp),q,r]
  rw[a1]
  exact qkz hN u a0 K i (by omega) (by omega) (by omega)
theorem vE {z:Int} (h:z<0):Lib.itoa z=45::Lib.decDigits z.natAbs:=by unfold Lib.itoa;rw[if_pos h]
theorem zN {z:Int} (h: ¬z<0):Lib.itoa z=Lib.decDigits z.natAbs:=by
 unfold Lib.itoa
 rw[if_neg h,show z.toNat=z.natAbs by omega]
theorem qjv {N:Nat} (hN:60000<N) {z:Int} (h:jd z 50000):qaO N (rI z)=some (Lib.itoa z):=by
 obtain⟨c,e⟩:=qf7 z
 have l:(rI z).w.length<=50000:=h.len
 have en:nv (rI z).w=z.natAbs:=by unfold nv;rw[e];omega
 have ng:(rI z).neg=decide (z<0):=rfl
 unfold qaO
 by_cases h0:(rI z).w.length=0
 ·have j:z=0:=by
   rw[YL.1 h0,zb]at e
   omega
  rw[if_pos (by omega),j]
  have:Lib.itoa 0=[48]:=by rw[zN (by decide)];exact zH (by decide)
  rw[this]
 have u:(rI z).w.length-1<(rI z).w.length:=by omega
 have ax:=c.1.at u
 have ax2:(rI z).w[(rI z).w.length-1]<1000000000:=ax.2
 have an:(rI z).w[(rI z).w.length-1]≠0:=c.2 _ (by rw[List.getLast?_eq_getElem?];exact Ya u)
 have ed:(rI z).w[(rI z).w.length-1]=((rI z).w[(rI z).w.length-1].toNat:Int):=by omega
 have e1:nv ((rI z).w.drop ((rI z).w.length-1))=(rI z).w[(rI z).w.length-1].toNat:=by
  rw[qmn c.1 u,List.drop_of_length_le (by omega)]
  rfl
 have e2:zB N (rI z).w[(rI z).w.length-1] 1=some (Lib.decDigits (nv ((rI z).w.drop ((rI z).w.length-1)))):=by
  conv=>lhs;rw[ed]
  rw[e1]
  exact qhD (by omega) (by omega)
 have e3:=qkz (N:=N) (by omega) c.1 (by omega) N ((rI z).w.length-1) (by omega) (by omega) (by rw[e1];omega)
 have ll:=qiE c.1
 rw[if_neg (by omega),qjr (by omega) (by omega),qx,Ya u,ZB,e2,ZB,show w64 (((rI z).w.length:Int)-2)=(((rI z).w.length-1:Nat):Int)-1 by rw[qf (by omega) (by omega)];omega,e3,ZB,ng]
 by_cases j:z<0
 ·rw[decide_eq_true j,if_pos rfl,qbn (by simp;omega),ZB,vE j,en]
  rfl
 rw[decide_eq_false j,if_neg (by simp),zN j,en]
theorem qkS {s:Str} (u:s.all vV=true) (hl:s.length<=18): ∀(K i:Nat),i<=s.length->s.length<K+i->jV s K ((qL 0 (s.take i):Nat):Int) (i:Int)=some ((qL 0 s:Nat):Int)
 |0,i,h,hK=>by omega
 |K+1,i,h,hK=>by
  rw[jV]
  by_cases hi:i<s.length
  ·have ht:s.take (i+1)=s.take i++[s[i]]:=List.take_succ_eq_append_getElem hi
   have j:vV s[i]=true:=Yp.1 u _ (List.getElem_mem hi)
   obtain⟨_,hc2⟩:=qlK j
   have hc1:48<=s[i].toNat:=by
    unfold vV at j
    rw[Bool.and_eq_true,decide_eq_true_eq]at j
    exact j.1
   have hv:=qey (s.take i) 0 (Yp.2 fun x hx=>Yp.1 u x (List.mem_of_mem_take hx))
   have hp:(10:Nat)^(s.take i).length<=10^17:=Nat.pow_le_pow_right (by omega) (by rw[Ym];omega)
   have hp2:(10:Nat)^17=100000000000000000:=rfl
   rw[if_pos (by omega),qx,Ya hi,ZB,qf (n:=10*((qL 0 (s.take i):Nat):Int)) (by omega) (by omega),qf (n:=(s[i].toNat:Int)) (by omega) (by omega),qf (n:=10*((qL 0 (s.take i):Nat):Int)+(s[i].toNat:Int)) (by omega) (by omega),qf (by omega) (by omega),jm (by omega)]
   have e:10*((qL 0 (s.take i):Nat):Int)+(s[i].toNat:Int)-48=((qL 0 (s.take (i+1)):Nat):Int):=by rw[ht,qfT];omega
   rw[e]
   exact qkS u hl K (i+1) (by omega) (by omega)
  rw[if_neg (by omega),List.take_of_length_le (by omega)]
theorem qfI {N:Nat} (hN:100<N) {s:Str} (h:s.all vV=true) (j:s.length<=18):xq N s=some ((qL 0 s:Nat):Int):=by
 have e:=qkS h j N 0 (by omega) (by omega)
 have e:jV s N 0 0=_:=e
 unfold xq
 rw[e,ZB]
theorem qh3 {s:Str} (h:s.all vV=true) (k:Nat):(s.take k).all vV=true:=Yp.2 fun x hx=>Yp.1 h x (List.mem_of_mem_take hx)
theorem qg2 {s:Str} (h:s.all vV=true) (k:Nat):(s.drop k).all vV=true:=Yp.2 fun x hx=>Yp.1 h x (List.mem_of_mem_drop hx)
theorem qjC {N:Nat} (hN:100<N): ∀(K:Nat) (l:List Int) (s:Str),s.all vV=true->l.length+s.length<=90000->s.length<K->Dg E9 l->
 ∃j s',yc N K l s=some (j,s')/\s'.length<=9/\s'.all vV=true/\Dg E9 j/\j.length<=90000/\dv E9 j+E9^j.length*(qL 0 s':Nat)=dv E9 l+E9^l.length*(qL 0 s:Nat)
 |0,l,s,_,_,h,_=>by omega
 |K+1,l,s,hd,hl,h,hg=>by
  rw[yc]
  by_cases c:s.length>9
  ·have lu:(s.drop (s.length-9)).length=9:=by rw[YJ];omega
   have hv:=qfI (N:=N) hN (qg2 hd (s.length-9)) (by omega)
   have u:=qey _ 0 (qg2 hd (s.length-9))
   rw[lu]at u
   rw[if_pos (by omega),show w64 ((s.length:Int)-9)=((s.length-9:Nat):Int)by rw[qf (by omega) (by omega)];omega,xJ (by omega),ZB,hv,ZB,qcJ (by simp;omega) (by simp;omega),ZB,y9 (by omega),ZB]
   obtain⟨j,s',f1,f2,f3,f4,f5,f6⟩:=qjC hN K (l++[((qL 0 (s.drop (s.length-9)):Nat):Int)]) (s.take (s.length-9)) (qh3 hd _) (by simp;omega) (by rw[Ym];omega) (hg.append (Dg.cons ⟨by omega,show((qL 0 (s.drop (s.length-9)):Nat):Int)<1000000000 by omega⟩ Dg.nil))
   refine⟨j,s',f1,f2,f3,f4,f5,?_⟩
   rw[f6,qez,Yq,List.length_singleton,Int.pow_succ,Int.mul_assoc]
   have e:qL 0 s=qL 0 (s.take (s.length-9))*1000000000+qL 0 (s.drop (s.length-9)):=by
    have:=qel (s.take (s.length-9)) (s.drop (s.length-9))
    rw[YS,lu]at this
    exact this
   have e2:((qL 0 s:Nat):Int)=((qL 0 (s.drop (s.length-9)):Nat):Int)+E9*((qL 0 (s.take (s.length-9)):Nat):Int):=by
    have h4:E9*((qL 0 (s.take (s.length-9)):Nat):Int)=1000000000*((qL 0 (s.take (s.length-9)):Nat):Int):=rfl
    omega
   rw[e2,Int.mul_add]
   omega
  rw[if_neg (by omega)]
  exact⟨l,s,rfl,by omega,hd,hg,by omega,rfl⟩
def sgn (s:Str):Bool:=decide (s[0]? =some 45)
def bdy (s:Str):Str:=if sgn s=true then s.drop 1 else s
theorem qfm (s:Str):(if(s.length:Int)>0 then(idx s 0).bind fun c=>some (decide ((c.toNat:Int)=45))else some false:Option Bool)=some (sgn s):=by
 unfold sgn
 cases s with
 |nil=>rfl
 |cons c t=>
  rw[if_pos (by simp),qb0]
  have e:((c.toNat:Int)=45)↔(some c=some (45:UInt8)):=⟨fun h=>congrArg some (UInt8.toNat_inj.1 (show c.toNat=45 by omega)),fun h=>by rw[Ye h];rfl⟩
  simp only[Yj,ZB]
  congr 1
  exact decide_eq_decide.2 e
theorem qlu (s:Str):(if sgn s=true then(cut s 1 (s.length:Int)).bind fun x=>some x else some s:Option Str)=some (bdy s):=by
 unfold bdy
 cases h:sgn s with
 |false=>rw[if_neg (by simp),if_neg (by simp)]
 |true=>
  have j:1<=s.length:=by
   cases s with
   |nil=>simp[sgn]at h
   |cons=>simp
  have:=xJ j
  have e:cut s 1 (s.length:Int)=some (s.drop 1):=this
  rw[if_pos rfl,if_pos rfl,e,ZB]
def qi9 (s:Str):Int:=if sgn s=true then-((qL 0 (bdy s):Nat):Int)else((qL 0 (bdy s):Nat):Int)
theorem qhs {N:Nat} (hN:100000<N) {s:Str} (u:(bdy s).all vV=true) (hl:(bdy s).length<=80000):xX N s=some (rI (qi9 s)):=by
 unfold xX
 rw[qfm,ZB,qlu,ZB]
 obtain⟨l,t,f1,f2,h,j,f5,f6⟩:=qjC (N:=N) (by omega) N [] (bdy s) u (by simp;omega) (by omega) Dg.nil
 have hv:=qfI (N:=N) (by omega) h (by omega)
 have hv2:=qey _ 0 h
 have hp:(10:Nat)^t.length<=10^9:=Nat.pow_le_pow_right (by omega) f2
 rw[f1,ZB]
 simp only
 have hg:=j.append (r:=[((qL 0 t:Nat):Int)]) (Dg.cons ⟨by omega,show((qL 0 t:Nat):Int)<1000000000 by omega⟩ Dg.nil)
 rw[hv,ZB,qcJ (by simp;omega) (by simp;omega),ZB,xQ _ hg (by simp;omega) (by simp;omega),ZB,qez,f6]
 simp only[zb,List.length_nil,Int.pow_zero,Int.one_mul,Int.zero_add]
 rfl
theorem qhl (z:Int):sgn (Lib.itoa z)=decide (z<0):=by
 unfold sgn
 by_cases h:z<0
 ·rw[vE h,decide_eq_true h];rfl
 rw[zN h,decide_eq_false h]
 refine decide_eq_false fun e=>?_
 have j:(45:UInt8)∈Lib.decDigits z.natAbs:=Yn e
 have:=Yp.1 (qbd z.natAbs) _ j
 exact absurd this (by decide)
theorem qcg (z:Int):bdy (Lib.itoa z)=Lib.decDigits z.natAbs:=by
 unfold bdy
 rw[qhl]
 by_cases h:z<0
 ·rw[decide_eq_true h,if_pos rfl,vE h];rfl
 rw[decide_eq_false h,if_neg (by simp),zN h]
theorem qde (z:Int):qi9 (Lib.itoa z)=z:=by
 unfold qi9
 rw[qhl,qcg,qb9]
 by_cases h:z<0
 ·rw[decide_eq_true h,if_pos rfl];omega
 rw[decide_eq_false h,if_neg (by simp)];omega
def slA:Str->Nat
 |[]=>0
 |c::s=>if c=47 then 0 else slA s+1
theorem qf5: ∀s:Str,slA s<=s.length
 |[]=>Nat.le_refl _
 |c::s=>by
  rw[slA,Yr]
  have:=qf5 s
  split<;>omega
theorem qjN {s:Str} (u:s.length<=1000000): ∀(K i:Nat),i<=s.length->s.length<K+i->jZ s K (i:Int)=some (if i+slA (s.drop i)<s.length then .inr ((i+slA (s.drop i):Nat):Int)else .inl ())
 |0,i,h,hK=>by omega
 |K+1,i,h,hK=>by
  rw[jZ]
  by_cases hi:i<s.length
  ·have j:s.drop i=s[i]::s.drop (i+1):=YG hi
   rw[if_pos (by omega),qx,Ya hi,ZB,j,slA]
   by_cases c:s[i]=47
   ·rw[if_pos c,if_pos (by rw[c];rfl),Nat.add_zero,if_pos hi]
   rw[if_neg c,if_neg (fun e=>c (UInt8.toNat_inj.1 (show s[i].toNat=47 by omega))),jm (by omega),qjN u K (i+1) (by omega) (by omega),show i+1+slA (s.drop (i+1))=i+(slA (s.drop (i+1))+1)by omega]
  rw[if_neg (by omega),List.drop_of_length_le (by omega),if_neg (by omega)]
theorem qc9 {N:Nat} {s:Str} (j:s.length<=1000000) (hN:s.length<N):yD N s=some (slA s:Int):=by
 have e:=qjN j N 0 (by omega) (by omega)
 have e:jZ s N 0=_:=e
 have h:=qf5 s
 unfold yD
 rw[e,YR,Nat.zero_add]
 by_cases c:slA s<s.length
 ·rw[if_pos c];rfl
 rw[if_neg c]
 have:slA s=s.length:=by omega
 rw[this]
 rfl
theorem qji: ∀(s t:Str),(∀c∈s,c≠47)->slA (s++47::t)=s.length/\slA s=s.length
 |[],t,_=>⟨by simp[slA],rfl⟩
 |c::s,t,h=>by
  have j:=qji s t fun x hx=>h x (List.mem_cons_of_mem _ hx)
  rw[List.cons_append,slA,slA,if_neg (h c (List.mem_cons_self ..)),if_neg (h c (List.mem_cons_self ..)),j.1,j.2]
  exact⟨rfl,rfl⟩
end Go.Av
end
section
namespace Go.Av
theorem and1 {n:Nat} (h:n<4611686018427387904):qy .i64 (n:Int) 1=((n%2:Nat):Int):=by
 show IntKind.wrap .i64 _=_
 have e:(BitVec.ofInt IntKind.i64.bits (n:Int)&&&BitVec.ofInt IntKind.i64.bits 1).toNat=n%2:=by
  rw[BitVec.toNat_and]
  show(BitVec.ofInt 64 (n:Int)).toNat&&&(BitVec.ofInt 64 1).toNat=_
  rw[qbW (by omega) (by omega),qbW (by omega) (by omega)]
  exact Nat.and_one_is_mod n
 rw[e]
 show w64 _=_
 exact qf (by omega) (by omega)
theorem shr1 (n:Nat):qm .i64 (n:Int) 1=((n/2:Nat):Int):=by
 show(n:Int).fdiv 2=_
 rw[Int.fdiv_eq_ediv_of_nonneg _ (by decide)]
 omega
theorem qoi {N:Nat} (hN:11000<N): ∀(K n:Nat) (b j:qj) (x y:Int) (mb ma:Nat),n<100000->n<K->IsZ b x->IsZ j y->Fit x mb->Fit y ma->ma+mb*n<=3900->
 ∃r,vw N K b.s b.w j.s j.w (n:Int)=some (r.s,r.w)/\IsZ r (y*x^n)
 |0,n,_,_,_,_,_,_,_,h,_,_,_,_,_=>by omega
 |K+1,n,b,j,x,y,mb,ma,hn,hK,hb,hacc,fx,fy,hm=>by
  rw[vw]
  by_cases h0:n=0
  ·subst h0
   rw[if_neg (by omega)]
   exact⟨j,rfl,by simpa using hacc⟩
  have hmb:mb<=mb*n:=Nat.le_mul_of_pos_right _ (by omega)
  obtain⟨m,r,hr,hmr⟩: ∃m r,r<2/\n=2*m+r:=⟨n/2,n%2,by omega,by omega⟩
  have emb:mb*n=mb*m+mb*m+mb*r:=by rw[hmr,Nat.mul_add,<-Nat.mul_assoc,Nat.mul_comm mb 2,Nat.two_mul,Nat.add_mul]
  have S1: ∃(u:qj) (m2:Nat),(if(qy .i64 (n:Int) 1)=1 then(qU N (⟨j.s,j.w⟩:qj) (⟨b.s,b.w⟩:qj)).bind fun r20=>some (r20.s,r20.w)else some (j.s,j.w):Option (Int×(List Int)))=some (u.s,u.w)/\IsZ u (y*x^r)/\Fit (y*x^r) m2/\m2=ma+mb*r:=by
   rw[and1 (by omega),show n%2=r by omega]
   rcases(show r=0\/r=1 by omega)with e|e<;>subst e
   ·rw[if_neg (by simp)]
    exact⟨j,ma,rfl,by simpa using hacc,by simpa using fy,by simp⟩
   obtain⟨p,e1,h1⟩:=qhu hN hacc hb (fy.mono (by omega)) (fx.mono (by omega))
   have e1:qU N (⟨j.s,j.w⟩:qj) (⟨b.s,b.w⟩:qj)=some p:=e1
   rw[if_pos (by simp),e1,ZB]
   exact⟨p,ma+mb,rfl,by rw[Int.pow_one];exact h1,by rw[Int.pow_one];exact qgH fy fx,by simp⟩
  obtain⟨u,m2,e1,h1,f1,em2⟩:=S1
  have S2: ∃(b2:qj) (x2:Int) (m3:Nat),(if(n:Int)>1 then(qU N (⟨b.s,b.w⟩:qj) (⟨b.s,b.w⟩:qj)).bind fun r22=>some (r22.s,r22.w,u.s,u.w)else some (b.s,b.w,u.s,u.w):Option (Int×(List Int)×Int×(List Int)))=some (b2.s,b2.w,u.s,u.w)/\IsZ b2 x2/\Fit x2 m3/\m3*m=mb*m+mb*m/\x2^m=(x*x)^m:=by
   by_cases c:(n:Int)>1
   ·have hm1:1<=m:=by omega
    have h3:mb<=mb*m:=Nat.le_mul_of_pos_right _ hm1
    obtain⟨p,e2,h2⟩:=qhu hN hb hb (fx.mono (by omega)) (fx.mono (by omega))
    have e2:qU N (⟨b.s,b.w⟩:qj) (⟨b.s,b.w⟩:qj)=some p:=e2
    rw[if_pos c,e2,ZB]
    exact⟨p,x*x,mb+mb,rfl,h2,qgH fx fx,Nat.add_mul _ _ _,rfl⟩
   have hm0:m=0:=by omega
   subst hm0
   rw[if_neg c]
   exact⟨b,x,mb,rfl,hb,fx,by simp,by simp⟩
  obtain⟨b2,x2,m3,e2,h2,f2,em3,ex⟩:=S2
  have S:((if(qy .i64 (n:Int) 1)=1 then(qU N (⟨j.s,j.w⟩:qj) (⟨b.s,b.w⟩:qj)).bind fun r20=>some (r20.s,r20.w)else some (j.s,j.w):Option (Int×(List Int)))).bind (fun(n16,l17)=>
   if(n:Int)>1 then(qU N (⟨b.s,b.w⟩:qj) (⟨b.s,b.w⟩:qj)).bind fun r22=>some (r22.s,r22.w,n16,l17)else some (b.s,b.w,n16,l17))=some (b2.s,b2.w,u.s,u.w):=by
   rw[e1,ZB]
   exact e2
  obtain⟨r',e3,h3⟩:=qoi hN K m b2 u x2 (y*x^r) m3 m2 (by omega) (by omega) h2 h1 f2 f1 (by omega)
  rw[if_pos (by omega),S,ZB]
  simp only
  rw[shr1,show n/2=m by omega]
  refine⟨r',e3,?_⟩
  have hx2:x*x=x^2:=by rw[Int.pow_succ,Int.pow_succ,Int.pow_zero,Int.one_mul]
  rw[ex,Int.mul_assoc,hx2,<-Int.pow_mul,<-Int.pow_add,show r+2*m=n by omega]at h3
  exact h3
theorem qqx {N:Nat} (hN:110000<N) {b:qj} {x:Int} {n mb:Nat} (hn:n<100000) (u:IsZ b x) (fx:Fit x mb) (j:1+mb*n<=3900): ∃r,qbD N b (n:Int)=some r/\IsZ r (x^n):=by
 obtain⟨r,e,h⟩:=qoi (N:=N) (by omega) N n b ⟨1,[]⟩ x 1 mb 1 hn (by omega) u (Uf (by decide) (by decide)) fx (F1 (by omega)) j
 have e:vw N N b.s b.w 1 [] (n:Int)=some (r.s,r.w):=e
 unfold qbD
 rw[qhP,ZB]
 simp only
 rw[e,ZB]
 exact⟨r,rfl,by rw[Int.one_mul]at h;exact h⟩
theorem qfG {z:Int} {p n:Nat} (h:(z.natAbs:Int)<((10^p:Nat):Int)) (hp:p<=19*n):Fit z n:=by
 have j:(10:Nat)^p<=10^(19*n):=Nat.pow_le_pow_right (by omega) hp
 have u:((10^(19*n):Nat):Int)<=W^n:=by
  rw[Nat.pow_mul]
  have:=(qen (x:=10000000000000000000) (y:=W) (by decide) (by decide) n).2
  rw[Int.natCast_pow]
  exact this
 unfold Fit
 omega
theorem qcr (s:Str):strings_HasPrefix s [45]=some (sgn s):=by
 unfold strings_HasPrefix stringslite_HasPrefix sgn
 cases s with
 |nil=>rfl
 |cons c t=>
  rw[if_pos (by simp;omega)]
  have e:cut (c::t) 0 (([45]:Str).length:Int)=some [c]:=y9 (l:=c::t) (k:=1) (by simp)
  rw[e]
  simp only[ZB,Yj]
  congr 1
  rw[Bool.eq_iff_iff,beq_iff_eq,decide_eq_true_eq]
  constructor
  ·intro h;injection h with h;rw[h]
  intro h;rw[Ye h]
theorem qiX {s:Str} (h:sgn s=true):1<=s.length:=by
 cases s with
 |nil=>simp[sgn]at h
 |cons=>simp
theorem qeX (s:Str):strings_TrimPrefix s [45]=some (bdy s):=by
 unfold strings_TrimPrefix stringslite_TrimPrefix
 have e:stringslite_HasPrefix s [45]=some (sgn s):=by
  have:=qcr s
  unfold strings_HasPrefix at this
  cases h:stringslite_HasPrefix s [45]with
  |none=>rw[h]at this;cases this
  |some b=>rw[h]at this;exact this
 rw[e,ZB]
 unfold bdy
 cases h:sgn s with
 |false=>rw[if_neg (by simp),if_neg (by simp),ZB]
 |true=>
  have j:cut s (([45]:Str).length:Int) (s.length:Int)=some (s.drop 1):=xJ (qiX h)
  rw[if_pos rfl,if_pos rfl,j,ZB,ZB]
theorem qi3 (s:Str):strings_CutPrefix s [45]=some (bdy s,sgn s):=by
 unfold strings_CutPrefix stringslite_CutPrefix
 have e:stringslite_HasPrefix s [45]=some (sgn s):=by
  have:=qcr s
  unfold strings_HasPrefix at this
  cases h:stringslite_HasPrefix s [45]with
  |none=>rw[h]at this;cases this
  |some b=>rw[h]at this;exact this
 rw[e,ZB]
 unfold bdy
 cases h:sgn s with
 |false=>rw[if_pos (by simp),if_neg (by simp),ZB]
 |true=>
  have j:cut s (([45]:Str).length:Int) (s.length:Int)=some (s.drop 1):=xJ (qiX h)
  rw[if_neg (by simp),if_pos rfl,j,ZB,ZB]
theorem qmj {N:Nat} (hN:600000<N): ∀(K:Nat) (x:qj) (y:Int) (s:Str) (p:Nat),IsZ x y->0<=y->y<((10^p:Nat):Int)->p+s.length<=19000->s.all vV=true->s.length<K->
 ∃r,xn N K x.s x.w s=some (r.s,r.w)/\IsZ r (y*((10^s.length:Nat):Int)+(qL 0 s:Nat))
 |0,_,_,_,_,_,_,_,_,_,h=>by omega
 |K+1,x,y,s,p,hx,y0,y1,hp,hd,hK=>by
  rw[xn]
  by_cases h0:s.length=0
  ·rw[if_neg (by omega)]
   have:s=[]:=YL.1 h0
   subst this
   exact⟨x,rfl,by simpa[qcm]using hx⟩
  rw[if_pos (by omega)]
  obtain⟨g,hg,hg0,hgl,hg18⟩: ∃g:Nat,(if(s.length:Int)<18 then(s.length:Int)else 18)=(g:Int)/\0<g/\g<=s.length/\g<=18:=by
   by_cases c:(s.length:Int)<18
   ·exact⟨s.length,by rw[if_pos c],by omega,by omega,by omega⟩
   exact⟨18,by rw[if_neg c];rfl,by omega,by omega,by omega⟩
  have lt:(s.take g).length=g:=by rw[Ym];omega
  have ea:=qkA (s:=s.take g) (by omega) (qh3 hd g)
  have et:qkM (s.take g)=some (((qL 0 (s.take g):Nat):Int),()):=by
   unfold qkM
   rw[if_pos (by omega),ea]
   rfl
  have hv:=qey (s.take g) 0 (qh3 hd g)
  rw[lt]at hv
  have hp18:(10:Nat)^g<=10^18:=Nat.pow_le_pow_right (by omega) hg18
  have h18:(10:Nat)^18=1000000000000000000:=rfl
  rw[hg,y9 hgl,ZB,et,ZB,qhP,ZB]
  obtain⟨r1,e1,h1⟩:=qqx (N:=N) (by omega) (b:=⟨10,[]⟩) (x:=10) (n:=g) (mb:=1) (by omega) (Uf (by decide) (by decide)) (qfG (p:=2) (by decide) (by omega)) (by omega)
  have ep:(10:Int)^g=((10^g:Nat):Int):=by rw[Int.natCast_pow];rfl
  rw[ep]at h1
  have fg:Fit ((10^g:Nat):Int) 1000:=qfG (p:=19) (by
   rw[Int.natAbs_natCast]
   have a0:(10:Nat)^19=10000000000000000000:=rfl
   omega) (by omega)
  have fy:Fit y 1000:=qfG (p:=p) (by omega) (by omega)
  have hpos:0<10^g:=Nat.pow_pos (by decide)
  have yg0:0<=y*((10^g:Nat):Int):=Yv y0 (by omega)
  have a1:(y+1)*((10^g:Nat):Int)<=((10^(p+g):Nat):Int):=by
   rw[Nat.pow_add,Int.natCast_mul]
   exact Int.mul_le_mul_of_nonneg_right (by omega) (by omega)
  rw[Int.add_mul,Int.one_mul]at a1
  obtain⟨r2,u,h2⟩:=qhu (N:=N) (by omega) hx h1 (fy.mono (by omega)) (fg.mono (by omega))
  have u:qU N (⟨x.s,x.w⟩:qj) r1=some r2:=u
  have j:IsZ ⟨((qL 0 (s.take g):Nat):Int),[]⟩ ((qL 0 (s.take g):Nat):Int):=Uf (by omega) (by omega)
  obtain⟨r3,e3,h3⟩:=qk5 (N:=N) (by omega) h2 j (qfG (p:=p+g) (by omega) (by omega)) (qfG (p:=19) (by
   rw[Int.natAbs_natCast]
   have a0:(10:Nat)^19=10000000000000000000:=rfl
   omega) (by omega))
  rw[e1,ZB,u,ZB,qhP,ZB,e3,ZB,xJ hgl,ZB]
  have ld:(s.drop g).length=s.length-g:=by rw[YJ]
  obtain⟨r,e4,h4⟩:=qmj hN K r3 _ (s.drop g) (p+g) h3 (by omega) (by omega) (by omega) (qg2 hd g) (by omega)
  refine⟨r,e4,?_⟩
  have e5:=qel (s.take g) (s.drop g)
  rw[YS]at e5
  have e6:(10:Nat)^s.length=10^g*10^(s.drop g).length:=by rw[<-Nat.pow_add,ld];congr 1;omega
  rw[e5,e6]
  rw[Int.add_mul]at h4
  rw[Int.natCast_mul,Int.natCast_add,Int.natCast_mul,<-Int.mul_assoc,<-Int.add_assoc]
  exact h4
theorem qgI {N:Nat} (hN:600000<N) {s:Str} (hd:(bdy s).all vV=true) (hl:(bdy s).length<=19000): ∃r,qa4 N s=some r/\IsZ r (qi9 s):=by
 obtain⟨r,e,h⟩:=qmj hN N ⟨0,[]⟩ 0 (bdy s) 0 (Uf (by decide) (by decide)) (by omega) (by decide) (by omega) hd (by omega)
 have e:xn N N 0 [] (bdy s)=some (r.s,r.w):=e
 rw[Int.zero_mul,Int.zero_add]at h
 unfold qa4
 rw[qcr,ZB,qeX,ZB,e,ZB]
 unfold qi9
 cases hs:sgn s with
 |false=>
  rw[if_neg (by simp)]
  exact⟨r,rfl,by simpa using h⟩
 |true=>
  obtain⟨u,j,h2⟩:=qfd h
  have j:zk (⟨r.s,r.w⟩:qj)=some u:=j
  simp only[if_true]
  rw[j]
  exact⟨u,rfl,h2⟩
end Go.Av
end
section
namespace Go.Av
theorem qlW: ∀n:Nat,Lib.repeatL [48] n=List.replicate n 48
 |0=>rfl
 |n+1=>by rw[Lib.repeatL,qlW,List.replicate_succ];rfl
theorem qiH: ∀k:Nat,qdT k 0=List.replicate k 48
 |0=>rfl
 |k+1=>by
  rw[qdT,Nat.zero_div,qiH k,List.replicate_succ']
  rfl
theorem qke: ∀(k n:Nat),n<10^(k+1)->qdT (k+1) n=List.replicate (k+1-(Lib.decDigits n).length) 48++Lib.decDigits n
 |0,n,h=>by
  have h:n<10:=by simpa using h
  rw[zH h,qdT,qdT,Nat.mod_eq_of_lt h]
  rfl
 |k+1,n,h=>by
  rw[qdT]
  by_cases c:n<10
  ·rw[zH c,Nat.div_eq_of_lt c,qiH,Nat.mod_eq_of_lt c]
   rfl
  rw[Nat.pow_succ]at h
  rw[qke k (n/10) (by omega),qbs c,Yz,Yq,List.length_singleton,show k+1+1-((Lib.decDigits (n/10)).length+1)=k+1-(Lib.decDigits (n/10)).length by omega]
theorem qeA (n:Nat):Lib.itoa (n:Int)=Lib.decDigits n:=by rw[zN (by omega),Int.natAbs_natCast]
theorem qot {r:Nat} (h:r<1000000000000000000) (c: ¬r=0):dg W (r:Int)=[(r:Int)]:=by
 rw[qjz (by omega) (by unfold W;omega)]
theorem qob {r:Nat} (h:r<1000000000000000000):qhd (r:Int) 10=some (Lib.decDigits r):=by
 unfold qhd
 rw[if_pos ⟨by omega,by omega,rfl⟩,qeA]
theorem qon:(if((dg W ((0:Nat):Int)).length:Int)>0 then(idx (dg W ((0:Nat):Int)) 0).bind fun x13=>(qhd x13 10).bind fun r14=>some r14 else some [48]:Option Str)=some (Lib.decDigits 0):=by
 rw[show((0:Nat):Int)=0 from rfl,qdH,if_neg (by simp),zH (by decide)]
 rfl
theorem qpM {r:Nat} (h:r<1000000000000000000):(if((dg W (r:Int)).length:Int)>0 then(idx (dg W (r:Int)) 0).bind fun x13=>(qhd x13 10).bind fun r14=>some r14 else some [48]:Option Str)=some (Lib.decDigits r):=by
 by_cases c:r=0
 ·rw[c]
  exact qon
 rw[qot h c,if_pos (show((([(r:Int)]:List Int).length:Nat):Int)>0 from by rw[List.length_singleton];decide),qb0,Yj,ZB,qob h]
 rfl
theorem p18:(10:Nat)^18=1000000000000000000:=rfl
theorem qpL {q r:Nat} (h:r<1000000000000000000): ∃t:Str,(if((dg W (q:Int)).length:Int)>0 then(qev [48] (w64 (18-((Lib.decDigits r).length:Int)))).bind fun r18=>(cat r18 (Lib.decDigits r)).bind fun s19=>some s19 else some (Lib.decDigits r):Option Str)=some t/\0<t.length/\Lib.decDigits (1000000000000000000*q+r)=(if q=0 then[]else Lib.decDigits q)++t:=by
 have hr:r<10^18:=by rw[p18];exact h
 have lD:(Lib.decDigits r).length<=18:=(qaS (by decide)).2 hr
 have j:=qg8 r
 by_cases c:q=0
 ·subst c
  rw[show((0:Nat):Int)=0 from rfl,qdH,if_neg (by simp),if_pos rfl,Nat.mul_zero,Nat.zero_add]
  exact⟨_,rfl,j,rfl⟩
 have u:dg W (q:Int)≠[]:=fun e=>by have:=(qhx W1 (by omega)).1 e;omega
 have hlen:0<(dg W (q:Int)).length:=List.length_pos_iff.2 u
 have et:qev [48] (w64 (18-((Lib.decDigits r).length:Int)))=some (List.replicate (18-(Lib.decDigits r).length) 48):=by
  rw[qf (by omega) (by omega)]
  unfold qev
  rw[if_pos ⟨by omega,by omega,by simp;omega⟩,qlW]
  congr 2
  omega
 have hp:=qke 17 r hr
 have hl:(qdT (17+1) r).length=18:=qh0 _ _
 have hs:=qh6 18 (1000000000000000000*q+r)
 rw[p18,Nat.mul_add_div (by omega),Nat.div_eq_of_lt h,Nat.add_zero,Nat.mul_add_mod,Nat.mod_eq_of_lt h]at hs
 rw[if_pos (by omega),et,ZB,qbn (by simp;omega),ZB,<-hp,if_neg c]
 exact⟨_,rfl,by omega,hs (by omega)⟩
theorem qqq {N:Nat} (hN:600000<N) (B:Nat) (hB:B<=3900) (K:Nat): ∀(k m:Nat) (l:List Str),m<10^(18*k)->k<K->k+l.length<=100000->Fit (m:Int) B->(∀t∈l,0<t.length)->
 ∃l',jk N K l (dg W (m:Int))=some l'/\(∀t∈l',0<t.length)/\l'.length<=k+l.length/\l'.reverse.flatten=(if m=0 then[]else Lib.decDigits m)++l.reverse.flatten:=by
 induction K with
 |zero=>intro k m l _ h;omega
 |succ K ih=>
  intro k m l hm hK hl fm hp
  rw[jk]
  by_cases h0:m=0
  ·subst h0
   rw[show((0:Nat):Int)=0 from rfl,qdH,if_neg (by simp),if_pos rfl]
   exact⟨l,rfl,hp,by omega,rfl⟩
  obtain⟨j,hj⟩: ∃j,k=j+1:=⟨k-1,by
   rcases Nat.eq_zero_or_pos k with e|e
   ·subst e;simp at hm;omega
   omega⟩
  rw[hj]at hm hK hl
  have a0:(0:Int)<=(m:Int):=by omega
  have hne:dg W (m:Int)≠[]:=fun e=>by have:=(qhx W1 a0).1 e;omega
  have hlen:0<(dg W (m:Int)).length:=List.length_pos_iff.2 hne
  have ln:(dg W (m:Int)).length<=3900:=Nat.le_trans fm.len hB
  have cB:Can W [1000000000000000000]:=by
   have:=z8 W1 (show(0:Int)<=1000000000000000000 by decide)
   rw[qjz (by decide) (by decide)]at this
   exact this
  have vB:dv W [1000000000000000000]=1000000000000000000:=by rw[zn,zb,Int.mul_zero,Int.add_zero]
  have ed:=qiL (N:=N) (by omega) (z8 W1 a0) cB (by omega) (by rw[vB];decide)
  rw[vB,jU W1 a0]at ed
  obtain⟨q,r,hq,hr⟩: ∃q r,m=1000000000000000000*q+r/\r<1000000000000000000:=⟨m/1000000000000000000,m%1000000000000000000,by omega,by omega⟩
  have eq:(m:Int)/1000000000000000000=(q:Int):=by omega
  have er:(m:Int)%1000000000000000000=(r:Int):=by omega
  rw[eq,er]at ed
  obtain⟨t,et,t0,eD⟩:=qpL (q:=q) hr
  rw[<-hq]at eD
  rw[if_pos (by omega),ed,ZB]
  simp only
  rw[qpM hr,ZB,et,ZB,qcJ (by simp;omega) (by simp;omega),ZB]
  have hk:q<10^(18*j):=by
   rw[Nat.mul_succ,Nat.pow_add,p18,Nat.mul_comm]at hm
   refine Nat.lt_of_mul_lt_mul_left (a:=1000000000000000000) ?_
   omega
  obtain⟨l',f1,f2,f3,f4⟩:=ih j q (l++[t]) hk (by omega) (by simp;omega) (qbm (by omega) fm) (fun u hu=>by
   rcases List.mem_append.1 hu with hu|hu
   ·exact hp u hu
   rw[List.mem_singleton.1 hu];exact t0)
  refine⟨l',f1,f2,by simp at f3;omega,?_⟩
  rw[f4,if_neg h0,eD,List.reverse_append,List.flatten_append,Yz]
  simp
def byN (s:Str):List Int:=s.map fun x=>(x.toNat:Int)
theorem qgJ (s:Str):(byN s).length=s.length:=by unfold byN;rw[List.length_map]
theorem qnv {l:List Str} (hp: ∀t∈l,0<t.length) (hl:l.length<=100000): ∀(K i:Nat) (o:Option (List Int)),i<=l.length->i<K->(hof o).length+(l.take i).flatten.length<=1000000000->
 ∃u,zm l K o.isSome o ((i:Int)-1)=some (u.isSome,u)/\hof u=hof o++byN (l.take i).reverse.flatten
 |0,i,o,_,h,_=>by omega
 |K+1,0,o,hi,h,hb=>by
  rw[zm,if_neg (by omega)]
  exact⟨o,rfl,by simp[byN]⟩
 |K+1,i+1,o,hi,h,hb=>by
  have j:i<l.length:=by omega
  have ei:((i+1:Nat):Int)-1=(i:Int):=by omega
  have ht:l.take (i+1)=l.take i++[l[i]]:=List.take_succ_eq_append_getElem j
  have h1:=hp l[i] (List.getElem_mem j)
  rw[ht,List.flatten_append,Yq]at hb
  simp only[List.flatten_cons,List.flatten_nil,YQ]at hb
  have ew:bWr o.isSome o l[i]=some (hof o++byN l[i]):=by
   unfold bWr
   rw[if_pos ⟨rfl,by omega,h1⟩]
   rfl
  rw[zm,ei,if_pos (by omega),qx,Ya j,ZB,ew,ZB,qf (by omega) (by omega)]
  obtain⟨u,f1,f2⟩:=qnv hp hl K i (some (hof o++byN l[i])) (by omega) (by omega) (by
   show(hof o++byN l[i]).length+_<=_
   rw[Yq,qgJ];omega)
  refine⟨u,f1,?_⟩
  rw[f2,ht,List.reverse_append,List.flatten_append]
  show hof o++byN l[i]++_=_
  rw[Yz]
  unfold byN
  simp
theorem qnY (s:Str):(byN s).map (fun n=>UInt8.ofNat n.toNat)=s:=by
 unfold byN
 rw[List.map_map]
 conv=>rhs;rw[<-List.map_id s]
 refine List.map_congr_left fun x _=>?_
 show UInt8.ofNat ((x.toNat:Int)).toNat=x
 rw[Int.toNat_natCast,UInt8.ofNat_toNat]
theorem qp6 (s:Str):(byN s).all (fun n=>decide (0<=n)&&decide (n<256))=true:=by
 unfold byN
 rw[List.all_map,Yp]
 intro x _
 have:x.toNat<256:=x.toNat_lt
 simp
 omega
theorem qi5: ∀l:List Str,l.reverse.flatten.length=l.flatten.length:=fun l=>by
 rw[List.length_flatten,List.length_flatten,List.map_reverse,List.sum_reverse]
theorem qeI {N:Nat} (hN:600000<N) {x:qj} {z:Int} (h:IsZ x z) (fz:Fit z 3900):jX N x=some (Lib.itoa z):=by
 unfold jX
 cases e:x.w.isEmpty with
 |true=>
  obtain⟨h1,h2,h3⟩:=h.emp e
  rw[if_pos rfl,h1]
  unfold qmh
  rw[if_pos ⟨h2,h3⟩,ZB]
 |false=>
  have hz:z.natAbs≠0:=by
   rcases h with⟨hw,_⟩|⟨_,_,h1,_⟩
   ·rw[hw]at e;cases e
   omega
  obtain⟨B8,hB8⟩: ∃B8:Nat,B8=8000:=⟨_,rfl⟩
  have pw:((10^(18*B8):Nat):Int)=(1000000000000000000:Int)^B8:=by
   rw[Nat.pow_mul,Int.natCast_pow]
   rfl
  have hm:z.natAbs<10^(18*B8):=by
   have h1:W^3900<=(1000000000000000000:Int)^B8:=by
    have a1:(1000000000000000000:Int)^B8=((1000000000000000000:Int)^2)^4000:=by rw[<-Int.pow_mul,hB8]
    have a2:W^4000<=((1000000000000000000:Int)^2)^4000:=(qen (by decide) (by decide) 4000).2
    have a3:W^3900<=W^4000:=yG (by decide) (by decide)
    rw[a1]
    exact Int.le_trans a3 a2
   rw[<-pw]at h1
   unfold Fit at fz
   omega
  obtain⟨l,f1,f2,f3,u⟩:=qqq hN 3900 (Nat.le_refl _) N B8 z.natAbs [] hm (by omega) (by simp;omega) (by unfold Fit;rw[Int.natAbs_natCast];exact fz) (fun t ht=>by cases ht)
  rw[if_neg hz]at u
  simp only[List.reverse_nil,List.flatten_nil,YQ,List.length_nil,Nat.add_zero]at f3 u
  have lD:(Lib.decDigits z.natAbs).length<=18*B8:=(qaS (by omega)).2 hm
  have lf:l.flatten.length<=18*B8:=by rw[<-qi5,u];exact lD
  have lpos:=qg8 z.natAbs
  rw[if_neg (by simp),parts_eq h,ZB]
  simp only
  rw[f1,ZB]
  have el:w64 ((l.length:Int)-1)=(l.length:Int)-1:=qf (by omega) (by omega)
  have j: ∀(o:Option (List Int)) (pre:Str),hof o=byN pre->pre.length<=10->((zm l N o.isSome o (w64 ((l.length:Int)-1))).bind fun(ok30,o31)=>(qmP ok30 o31).bind fun t38=>some t38)=some (pre++Lib.decDigits z.natAbs):=by
   intro o pre ho hpre
   obtain⟨o',g1,g2⟩:=qnv f2 (by omega) N l.length o (Nat.le_refl _) (by omega) (by rw[ho,qgJ,List.take_of_length_le (Nat.le_refl _)];omega)
   rw[List.take_of_length_le (Nat.le_refl _),u,ho]at g2
   have g3:hof o'=byN (pre++Lib.decDigits z.natAbs):=by
    rw[g2]
    unfold byN
    rw[List.map_append]
   have hs:o'.isSome=true:=by
    cases o' with
    |none=>
     have:=congrArg List.length g3
     rw[qgJ,Yq]at this
     simp at this
     omega
    |some q=>rfl
   rw[el,g1,ZB]
   simp only
   unfold qmP
   rw[if_pos ⟨hs,by rw[g3,qgJ,Yq];omega,by rw[g3];exact qp6 _⟩,g3,qnY,ZB]
  by_cases c:z<0
  ·have eb:bWr false (none:Option (List Int)) [45]=some [45]:=rfl
   rw[decide_eq_true c,if_pos rfl,eb,ZB,ZB]
   simp only
   have:=j (some [45]) [45] rfl (by simp)
   rw[vE c]
   exact this
  rw[decide_eq_false c,if_neg (by simp),ZB]
  simp only
  have:=j none [] rfl (by simp)
  rw[zN c]
  exact this
end Go.Av
end
section
namespace Go.Av
theorem qpS {x:qj} {z:Int} (h:IsZ x z) (fz:Fit z 3900): ∃b:Nat,qaZ x=some (b:Int)/\(z.natAbs:Int)<2^b:=by
 unfold qaZ
 rw[parts_eq h,ZB]
 simp only
 have hz:(0:Int)<=(z.natAbs:Int):=by omega
 have cc:=z8 W1 hz
 have vv:=jU W1 hz
 have ll:=fz.len
 generalize dg W (z.natAbs:Int)=w at*
 by_cases h0:w.length=0
 ·rw[if_pos (by omega)]
  rw[YL.1 h0,zb]at vv
  exact⟨0,rfl,by rw[<-vv];decide⟩
 have hk:w.length-1<w.length:=by omega
 have ax:=cc.1.at hk
 obtain⟨l,e,hl⟩:=qkH ax.1 ax.2
 have hl0:0<=l/\l<=64:=by
  rcases hl with⟨_,h⟩|⟨u,j,_⟩<;>omega
 have hl2:w[w.length-1]<2^l.toNat:=by
  rcases hl with⟨u,j⟩|⟨_,_,_,h⟩
  ·rw[u,j];decide
  exact h
 rw[if_neg (by omega),qjr (by omega) (by omega),qx,Ya hk,ZB,e,ZB,qf (n:=64*((w.length-1:Nat):Int)) (by omega) (by omega),qf (by omega) (by omega)]
 refine⟨64*(w.length-1)+l.toNat,by congr 1;omega,?_⟩
 have e1:=ql W w (w.length-1) hk
 rw[List.take_of_length_le (by omega),vv]at e1
 have u:=yR W0 (cc.1.take (w.length-1))
 rw[Ym,Nat.min_eq_left (by omega)]at u
 have e2:(2:Int)^(64*(w.length-1)+l.toNat)=W^(w.length-1)*2^l.toNat:=by
  rw[Int.pow_add,Int.pow_mul]
  rfl
 have j:W^(w.length-1)*(w[w.length-1]+1)<=W^(w.length-1)*2^l.toNat:=Yc (by omega) (Int.le_of_lt (pow_pos W0 _))
 rw[Int.mul_add,Int.mul_one]at j
 rw[e2]
 omega
theorem pow8: ∀n:Nat,(8:Int)^(n+1)<((10^(n+1):Nat):Int)
 |0=>by decide
 |n+1=>by
  have h:=pow8 n
  have j:=pow_pos (show(0:Int)<8 by decide) (n+1)
  rw[Int.pow_succ,Nat.pow_succ,Int.natCast_mul]
  omega
theorem qqE (n:Nat):(2:Int)^(3*n)=(8:Int)^n:=by
 rw[Int.pow_mul]
 rfl
theorem qpA {n m:Nat} (h:m=3*(n+1)):(2:Int)^m<((10^(n+1):Nat):Int):=by
 rw[h,qqE]
 exact pow8 n
def lng (z:Int):Bool:=decide (600<(Lib.decDigits z.natAbs).length)
theorem ql2 {N:Nat} (hN:600000<N) {x:qj} {z:Int} (h:IsZ x z) (fz:Fit z 3900):qcW N x=some (lng z):=by
 obtain⟨b,e,hb⟩:=qpS h fz
 unfold qcW
 rw[e,ZB]
 by_cases c:(b:Int)>1800
 ·rw[if_pos c,qeI hN h fz,ZB,qeX,qcg,ZB,ZB]
  congr 1
  exact decide_eq_decide.2 (by omega)
 rw[if_neg c,ZB]
 congr 1
 obtain⟨m,hm⟩: ∃m:Nat,m=3*(599+1):=⟨_,rfl⟩
 have u:(2:Int)^b<=2^m:=yG (by decide) (by omega)
 have h2:=qpA hm
 have j:z.natAbs<10^(599+1):=by omega
 have:=(qaS (n:=z.natAbs) (k:=599+1) (by decide)).2 j
 unfold lng
 rw[decide_eq_false (by omega)]
def qlF (q:Rat):Bool:=lng q.num||lng q.den
theorem qnQ {N:Nat} (hN:600000<N) {f:qB} {q:Rat} (h:IsF f q) (j:qcu q 3900):qah N f=some (qlF q):=by
 unfold qah qlF
 rw[ql2 hN h.1 j.1,ZB]
 cases lng q.num with
 |true=>rw[if_pos rfl,ZB,Bool.true_or]
 |false=>rw[if_neg (by simp),ql2 hN h.2 j.2,ZB,ZB,Bool.false_or]
def T (q:Rat):Str:=Lib.itoa q.num++(if q.den=1 then[]else 47::Lib.decDigits q.den)
theorem Fit.itoaLen {z:Int} (h:Fit z 3900):(Lib.itoa z).length<=200001:=by
 have u:(Lib.decDigits z.natAbs).length<=20*10000:=by
  refine(qaS (by decide)).2 ?_
  obtain⟨B,hB⟩: ∃B:Nat,B=10000:=⟨_,rfl⟩
  rw[<-hB]
  have h2:W^3900<=W^B:=yG (by decide) (by omega)
  have h3:W^B<=(100000000000000000000:Int)^B:=(qen (by decide) (by decide) B).2
  have j:((10^(20*B):Nat):Int)=(100000000000000000000:Int)^B:=by
   rw[Nat.pow_mul,Int.natCast_pow]
   rfl
  unfold Fit at h
  generalize W^3900=p at*
  omega
 by_cases c:z<0
 ·rw[vE c,Yr];omega
 rw[zN c];omega
theorem qpw {N:Nat} (hN:600000<N) {f:qB} {q:Rat} (h:IsF f q) (j:qcu q 3900):qaF N f=some (T q):=by
 unfold qaF T
 rw[qls h,ZB]
 by_cases c:q.den=1
 ·rw[decide_eq_true c,if_pos rfl,qeI hN h.1 j.1,ZB,if_pos c,YQ]
 have u:=Fit.itoaLen j.1
 have l2:=Fit.itoaLen j.2
 rw[decide_eq_false c,if_neg (by simp),qeI hN h.1 j.1,ZB,qbn (by simp;omega),ZB,qeI hN h.2 j.2,ZB,qbn (by simp;omega),ZB,if_neg c,qeA,Yz]
 rfl
theorem qp9 {α:Type} {b:Bool} {x y:α}:zI b x y=if b=true then x else y:=by cases b<;>rfl
theorem qkm: ∀(s:Str) (j:Nat),qih 47 s j=if slA s<s.length then((j+slA s:Nat):Int)else-1
 |[],j=>rfl
 |c::s,j=>by
  show zI (Nat.beq c.toNat 47) (Int.ofNat j) (qih 47 s (j+1))=_
  rw[qp9,qkm s (j+1),slA,Yr]
  by_cases h:c=47
  ·subst h
   rw[if_pos (by decide),if_pos rfl,if_pos (by omega)]
   rfl
  have u:c.toNat≠47:=fun e=>h (UInt8.toNat_inj.1 (by rw[e];rfl))
  rw[if_neg (by rw[qcA u];simp),if_neg h]
  by_cases c2:slA s<s.length
  ·rw[if_pos c2,if_pos (by omega)]
   congr 1
   omega
  rw[if_neg c2,if_neg (by omega)]
theorem qn0 {s:Str}:stringslite_Index s [47]=some (qih 47 s 0):=by
 unfold stringslite_Index stringslite_IndexByte qiU
 have j: ¬(([47]:Str).length:Int)=0:=by simp
 have h:(([47]:Str).length:Int)=1:=by simp
 rw[if_neg j]
 simp only[ZB]
 by_cases hs:(([47]:Str)==s)=true
 ·have:s=[47]:=(beq_iff_eq.1 hs).symm
  subst this
  rfl
 rw[if_neg hs,if_pos h,qb0,show([47]:Str)[0]? =some 47 from rfl,ZB,if_pos (by decide)]
 rfl
theorem qof {s:Str} (j:s.length<=1000000):strings_Cut s [47]=some (if slA s<s.length then(s.take (slA s),s.drop (slA s+1),true)else(s,[],false)):=by
 have h:=qf5 s
 unfold strings_Cut stringslite_Cut
 rw[qn0,qkm,ZB]
 by_cases c:slA s<s.length
 ·rw[if_pos c,if_pos (by omega),if_pos c,Nat.zero_add,y9 h,ZB,show w64 ((slA s:Int)+(([47]:Str).length:Int))=((slA s+1:Nat):Int)from jm (by omega),xJ (by omega),ZB,ZB]
 rw[if_neg c,if_neg (by omega),if_neg c,ZB]
theorem qfk {s:Str} (u:s.length<=1000000):jM s=some (decide (Dec s)):=by
 have j:qkq s [48,49,50,51,52,53,54,55,56,57]=some (Lib.trimS s [48,49,50,51,52,53,54,55,56,57]):=by
  unfold qkq
  rw[if_pos ⟨u,by decide,by decide⟩]
 unfold jM
 rw[j]
 simp only[ZB,qmH]
 cases s with
 |nil=>rfl
 |cons c t=>
  rw[if_pos (by rfl),qb0]
  simp only[Yj,ZB]
  cases hd:(c::t).all vV with
  |false=>
   rw[if_neg (by simp),ZB,decide_eq_false fun h=>by rw[h.2.1]at hd;cases hd]
  |true=>
   rw[if_pos rfl]
   by_cases h:c=48
   ·subst h
    rw[if_neg (by decide),ZB]
    congr 1
    rw[Bool.eq_iff_iff,beq_iff_eq,decide_eq_true_eq]
    exact⟨fun e=>by rw[e];exact qlP (by decide),fun h=>h.2.2 rfl⟩
   rw[if_pos (by simp[ne48 h]),ZB,decide_eq_true (show Dec (c::t)from⟨by simp,hd,fun e=>absurd (Ye e) h⟩)]
theorem qic {s:Str} (u:s.length<=1000000): ∀(K i:Nat),i<=s.length->s.length<K+i->jB s K (i:Int)=some (if(s.drop i).all vV=true then .inl ()else .inr false)
 |0,i,h,hK=>by omega
 |K+1,i,h,hK=>by
  rw[jB]
  by_cases hi:i<s.length
  ·have j:s.drop i=s[i]::s.drop (i+1):=YG hi
   rw[if_pos (by omega),qx,Ya hi,ZB,j,List.all_cons]
   generalize s[i]=c
   have e:(if(c.toNat:Int)<48 then some true else some (decide ((c.toNat:Int)>57)):Option Bool)=some (!vV c):=by
    by_cases h1:(c.toNat:Int)<48
    ·rw[if_pos h1]
     congr 1
     unfold vV
     rw[decide_eq_false (by omega)]
     rfl
    rw[if_neg h1]
    congr 1
    unfold vV
    rw[decide_eq_true (p:=48<=c.toNat) (by omega),Bool.true_and,<-decide_not]
    exact decide_eq_decide.2 (by omega)
   rw[e,ZB]
   cases hc:vV c with
   |true=>rw[if_neg (by simp),jm (by omega),qic u K (i+1) (by omega) (by omega),Bool.true_and]
   |false=>rw[if_pos (by simp),Bool.false_and,if_neg (by simp)]
  rw[if_neg (by omega),List.drop_of_length_le (by omega)]
  rfl
theorem qib {N:Nat} {s:Str} (hl:s.length<=1000000) (hN:s.length<N):jh N s=some (decide (Dec s)):=by
 have e:=qic hl N 0 (by omega) (by omega)
 have e:jB s N 0=_:=e
 have j:qa7 N s=some (s.all vV):=by
  unfold qa7
  rw[e,YR]
  cases s.all vV<;>rfl
 unfold jh
 cases s with
 |nil=>rfl
 |cons c t=>
  rw[if_neg (by simp;omega)]
  by_cases h1:((c::t).length:Int)>1
  ·rw[if_pos h1,qb0]
   simp only[Yj,ZB]
   by_cases h:c=48
   ·subst h
    rw[if_pos (by decide),decide_eq_false fun hD=>?_]
    have:=congrArg List.length (hD.2.2 rfl)
    rw[List.length_singleton]at this
    omega
   rw[if_neg (by simp[ne48 h]),j,ZB]
   congr 1
   rw[Bool.eq_iff_iff,decide_eq_true_eq]
   exact⟨fun hd=>⟨by simp,hd,fun e=>absurd (Ye e) h⟩,fun hD=>hD.2.1⟩
  rw[if_neg h1,ZB,if_neg (by simp),j,ZB]
  have u:t=[]:=YL.1 (by simp at h1;omega)
  subst u
  congr 1
  rw[Bool.eq_iff_iff,decide_eq_true_eq]
  exact⟨fun hd=>qlP (by simpa using hd),fun hD=>hD.2.1⟩
end Go.Av
end
section
namespace Go.Av
theorem qi8 {z:Int} {p n:Nat} (h:(z.natAbs:Int)<((10^p:Nat):Int)) (hp:p<=9*n):jd z n:=by
 have j:(10:Nat)^p<=10^(9*n):=Nat.pow_le_pow_right (by omega) hp
 unfold jd
 rw[qhT]
 omega
theorem qlH {N:Nat} (hN:10<N) (a b:Int):yJ N [a,b]=some (if a=0 then b else a):=by
 obtain⟨K,rfl⟩: ∃K,N=K+1+1+1:=⟨N-3,by omega⟩
 unfold yJ
 by_cases ha:a=0
 ·by_cases hb:b=0
  ·subst ha;subst hb
   rfl
  have h:zC [a,b] (K+1+1+1) 0=some (.inr b):=by
   rw[zC,if_pos (by simp),qb0]
   simp only[Yj,ZB]
   rw[if_neg (by simp[ha]),zC,show w64 ((0:Int)+1)=1 from rfl,if_pos (by simp),idx_1]
   simp only[List.getElem?_cons_succ,Yj,ZB]
   rw[if_pos (by simp[hb])]
  rw[h,if_pos ha]
  rfl
 have h:zC [a,b] (K+1+1+1) 0=some (.inr a):=by
  rw[zC,if_pos (by simp),qb0]
  simp only[Yj,ZB]
  rw[if_pos (by simp[ha])]
 rw[h,if_neg ha]
 rfl
def okF (s:Str):Bool:=decide (Dec ((bdy s).take (slA (bdy s)))/\ ¬(sgn s=true/\(bdy s).take (slA (bdy s))=[48]))
def qhp (s:Str):Bool:=decide (slA (bdy s)<(bdy s).length/\ ¬(Dec ((bdy s).drop (slA (bdy s)+1))/\(bdy s).drop (slA (bdy s)+1)≠[48]/\(bdy s).drop (slA (bdy s)+1)≠[49]))
def chk (s:Str):Int:=
 if okF s=false\/qhp s=true then 1
 else if 600<((bdy s).take (slA (bdy s))).length\/600<((bdy s).drop (slA (bdy s)+1)).length then 4
 else if slA (bdy s)<(bdy s).length/\Nat.gcd (qL 0 ((bdy s).take (slA (bdy s)))) (qL 0 ((bdy s).drop (slA (bdy s)+1)))≠1 then 1
 else 0
theorem qbu {s:Str} (h:s.all vV=true):sgn s=false/\bdy s=s:=by
 have e:sgn s=false:=decide_eq_false fun e=>by
  have j:(45:UInt8)∈s:=Yn e
  exact absurd (Yp.1 h _ j) (by decide)
 exact⟨e,by unfold bdy;rw[e];rfl⟩
theorem qdf {s:Str} (h:s.all vV=true):qi9 s=(qL 0 s:Nat):=by
 obtain⟨j,u⟩:=qbu h
 unfold qi9
 rw[j,u]
 rfl
theorem qfD (s:Str):(bdy s).length<=s.length:=by
 unfold bdy
 split
 ·rw[YJ];omega
 exact Nat.le_refl _
theorem qeC {s:Str} {k:Nat} (h:Dec s) (j:s.length<=k):((qL 0 s:Nat):Int).natAbs<10^k:=by
 have u:=qey s 0 h.2.1
 have h2:(10:Nat)^s.length<=10^k:=Nat.pow_le_pow_right (by omega) j
 omega
theorem qfB {s:Str} (h:Dec s) (j:s≠[48]):0<qL 0 s:=by
 rcases Nat.eq_zero_or_pos (qL 0 s)with e|e
 ·have:=h.eq
  rw[e,zH (by decide)]at this
  exact absurd this j
 exact e
theorem qeB {N:Nat} (hN:600000<N) {s:Str} (hl:s.length<=10000):qar N s=some (chk s):=by
 have hb:=qfD s
 have hk:=qf5 (bdy s)
 have lt:((bdy s).take (slA (bdy s))).length=slA (bdy s):=by rw[Ym];omega
 have ld:((bdy s).drop (slA (bdy s)+1)).length=(bdy s).length-(slA (bdy s)+1):=by rw[YJ]
 unfold qar
 rw[qi3,ZB]
 simp only
 have C:strings_Cut (bdy s) [47]=some ((bdy s).take (slA (bdy s)),(bdy s).drop (slA (bdy s)+1),decide (slA (bdy s)<(bdy s).length)):=by
  rw[qof (by omega)]
  by_cases c:slA (bdy s)<(bdy s).length
  ·rw[if_pos c,decide_eq_true c]
  rw[if_neg c,decide_eq_false c,List.take_of_length_le (by omega),List.drop_of_length_le (by omega)]
 rw[C,ZB]
 unfold chk okF qhp
 generalize hn:(bdy s).take (slA (bdy s))=n at*
 generalize hd:(bdy s).drop (slA (bdy s)+1)=d at*
 generalize slA (bdy s)=k at*
 generalize (bdy s).length=m at*
 simp only
 rw[qfk (by omega),ZB]
 have B6:(if decide (Dec n)=true then if(!sgn s)=true then some true else some (!(n==[48]))else some false:Option Bool)=some (decide (Dec n/\ ¬(sgn s=true/\n=[48]))):=by
  by_cases u:Dec n
  ·cases h2:sgn s with
   |false=>simp[u]
   |true=>
    by_cases h3:n=[48]<;>simp[u,h3]
  simp[u]
 rw[B6,ZB]
 generalize hf:decide (Dec n/\ ¬(sgn s=true/\n=[48]))=ok at*
 have B8:(if decide (k<m)=true then(if ok=true then(jM d).bind fun r12=>if r12=true then if(!(d==[48]))=true then some (!(d==[49]))else some false else some false else some false:Option Bool).bind fun b15=>some b15 else some ok:Option Bool)=some (ok&&!decide (k<m/\ ¬(Dec d/\d≠[48]/\d≠[49]))):=by
  by_cases u:k<m
  ·cases ok with
   |false=>simp[u]
   |true=>
    rw[qfk (by omega)]
    by_cases h2:Dec d
    ·by_cases h3:d=[48]
     ·simp[u,h2,h3]
     by_cases h4:d=[49]<;>simp[u,h2,h3,h4]
    simp[u,h2]
  simp[u]
 rw[B8,ZB]
 generalize hg:decide (k<m/\ ¬(Dec d/\d≠[48]/\d≠[49]))=bd at*
 have B:((zw (!(ok&&!bd)) 1).bind fun r17=>if(n.length:Int)>600 then(zw true 4).bind fun r19=>(yJ N ([r17,r19]:List Int)).bind fun r20=>some (r17,r19,r20)else(zw (decide ((d.length:Int)>600)) 4).bind fun r21=>(yJ N ([r17,r21]:List Int)).bind fun r22=>some (r17,r21,r22):Option (Int×Int×Int))=some (if ok=false\/bd=true then 1 else 0,if 600<n.length\/600<d.length then 4 else 0,if ok=false\/bd=true then 1 else if 600<n.length\/600<d.length then 4 else 0):=by
  have w1:zw (!(ok&&!bd)) 1=some (if ok=false\/bd=true then 1 else 0):=by
   unfold zw
   cases ok<;>cases bd<;>rfl
  rw[w1,ZB]
  by_cases c:(n.length:Int)>600
  ·rw[if_pos c,show zw true 4=some 4 from rfl,ZB,qlH (by omega),ZB,if_pos (show 600<n.length\/600<d.length from .inl (by omega))]
   by_cases c2:ok=false\/bd=true
   ·simp only[if_pos c2];rfl
   simp only[if_neg c2];rfl
  have w2:zw (decide ((d.length:Int)>600)) 4=some (if 600<n.length\/600<d.length then 4 else 0):=by
   unfold zw
   by_cases c2:(d.length:Int)>600
   ·rw[decide_eq_true c2,if_pos rfl,if_pos (.inr (by omega))]
   rw[decide_eq_false c2,if_neg (by simp),if_neg (by omega)]
  rw[if_neg c,w2,ZB,qlH (by omega),ZB]
  by_cases c2:ok=false\/bd=true
  ·simp only[if_pos c2];rfl
  simp only[if_neg c2];rfl
 rw[B,ZB]
 simp only
 by_cases c1:ok=false\/bd=true
 ·simp only[if_pos c1];rfl
 simp only[if_neg c1]
 by_cases c2:600<n.length\/600<d.length
 ·simp only[if_pos c2];rfl
 simp only[if_neg c2]
 rw[if_neg (show¬((!decide True)=true)by decide)]
 have ho:ok=true:=by cases ok<;>simp at c1⊢
 have hbd:bd=false:=by cases bd<;>simp at c1⊢
 have a0:=(of_decide_eq_true (hf.trans ho)).1
 by_cases c3:k<m
 ·have j:Dec d/\d≠[48]/\d≠[49]:=Classical.byContradiction fun hc=>of_decide_eq_false (hg.trans hbd) ⟨c3,hc⟩
  obtain⟨r1,e1,u⟩:=qgI hN (s:=n) (by rw[(qbu a0.2.1).2];exact a0.2.1) (by rw[(qbu a0.2.1).2];omega)
  obtain⟨r2,e2,h2⟩:=qgI hN (s:=d) (by rw[(qbu j.1.2.1).2];exact j.1.2.1) (by rw[(qbu j.1.2.1).2];omega)
  rw[qdf a0.2.1]at u
  rw[qdf j.1.2.1]at h2
  have f1:Fit ((qL 0 n:Nat):Int) 40:=qfG (p:=600) (by have:=qeC a0 (k:=600) (by omega);omega) (by omega)
  have f2:Fit ((qL 0 d:Nat):Int) 40:=qfG (p:=600) (by have:=qeC j.1 (k:=600) (by omega);omega) (by omega)
  obtain⟨g,e3,h3⟩:=qoy hN u h2 (f1.mono (by omega)) (f2.mono (by omega))
  have eg:Int.gcd ((qL 0 n:Nat):Int) ((qL 0 d:Nat):Int)=Nat.gcd (qL 0 n) (qL 0 d):=rfl
  rw[eg]at h3
  have hgp:0<Nat.gcd (qL 0 n) (qL 0 d):=Nat.gcd_pos_of_pos_right _ (qfB j.1 j.2.1)
  have fg:Fit ((Nat.gcd (qL 0 n) (qL 0 d):Nat):Int) 40:=qbm (by
   have:=Nat.le_of_dvd (qfB j.1 j.2.1) (Nat.gcd_dvd_right (qL 0 n) (qL 0 d))
   omega) f2
  have e4:=qqt (N:=N) (by omega) h3 (Uf (z:=1) (by decide) (by decide)) (fg.mono (by omega)) (F1 (by omega))
  rw[decide_eq_true c3,if_pos rfl,e1,ZB,e2,ZB,e3,ZB,qhP,ZB,e4,ZB,ZB]
  unfold zw
  by_cases c4:Nat.gcd (qL 0 n) (qL 0 d)=1
  ·rw[if_neg (show¬((Nat.gcd (qL 0 n) (qL 0 d):Nat):Int)<1 by omega),if_pos (show((Nat.gcd (qL 0 n) (qL 0 d):Nat):Int)=1 by omega),if_neg (show¬(k<m/\Nat.gcd (qL 0 n) (qL 0 d)≠1)from fun h=>h.2 c4)]
   rfl
  have: ¬((Nat.gcd (qL 0 n) (qL 0 d):Nat):Int)<1:=by omega
  rw[if_neg this,if_neg (show¬(((Nat.gcd (qL 0 n) (qL 0 d):Nat):Int)=1)by omega),if_pos (show k<m/\Nat.gcd (qL 0 n) (qL 0 d)≠1 from⟨c3,c4⟩)]
  rfl
 rw[decide_eq_false c3,if_neg (by simp),ZB,if_neg (by omega)]
 rfl
end Go.Av
end
section
namespace Go.Av
theorem qnk:dg E9 1=[1]:=qjz (by decide) (by decide)
theorem qqv {N:Nat} (hN:100<N):vS N 1=some (rI 1):=by
 obtain⟨K,rfl⟩: ∃K,N=K+1+1:=⟨N-2,by omega⟩
 have h:zR (K+1+1) [] 1=some [1]:=by
  rw[zR,if_pos (by decide),if_neg (by decide),ZB,qcJ (by simp) (by simp),ZB,show w64 ((1:Int).tdiv 1000000000)=0 from rfl,zR,if_neg (by decide)]
  rfl
 unfold vS
 rw[h,ZB,decide_eq_false (by decide),xQ false (w:=[1]) (Dg.cons ⟨by decide,by decide⟩ Dg.nil) (by simp) (by simp),ZB]
 rfl
theorem qiu {N:Nat} (hN:600000<N) {s:Str} (hl:s.length<=10000) (hk:slA s<s.length) (j:(bdy (s.take (slA s))).all vV=true) (u:(bdy (s.drop (slA s+1))).all vV=true):yB N s=some (rI (qi9 (s.take (slA s))),rI (qi9 (s.drop (slA s+1)))):=by
 have h:=qfD (s.take (slA s))
 have b2:=qfD (s.drop (slA s+1))
 rw[Ym]at h
 rw[YJ]at b2
 unfold yB
 rw[qc9 (by omega) (by omega),ZB,if_neg (by omega),y9 (by omega),ZB,qhs (by omega) j (by omega),ZB,jm (by omega),xJ (by omega),ZB,qhs (by omega) u (by omega),ZB]
theorem qeK {N:Nat} (hN:600000<N) {s:Str} (hl:s.length<=10000):qap N s=some (chk s):=by
 have hb:=qfD s
 have hk:=qf5 (bdy s)
 have lt:((bdy s).take (slA (bdy s))).length=slA (bdy s):=by rw[Ym];omega
 have ld:((bdy s).drop (slA (bdy s)+1)).length=(bdy s).length-(slA (bdy s)+1):=by rw[YJ]
 unfold qap
 rw[qfm,ZB,qlu,ZB,qc9 (by omega) (by omega),ZB,y9 hk,ZB,qib (by omega) (by omega),ZB]
 have I:Dec ((bdy s).take (slA (bdy s)))->((idx s 0).bind fun c13=>if(c13.toNat:Int)=45 then(some ((bdy s).take (slA (bdy s)))).bind fun s15=>some (s15==[48])else some false:Option Bool)=some (sgn s&&((bdy s).take (slA (bdy s))==[48])):=by
  intro hD
  have h1:=hD.1
  have hs:=qfm s
  rw[if_pos (by omega)]at hs
  rw[qb0]at hs⊢
  cases e:s[0]? with
  |none=>rw[e]at hs;cases hs
  |some c=>
   rw[e,ZB]at hs
   rw[ZB,<-Ye hs]
   by_cases c2:(c.toNat:Int)=45
   ·rw[if_pos c2,decide_eq_true c2,ZB,Bool.true_and]
   rw[if_neg c2,decide_eq_false c2,Bool.false_and]
 have S16:(if(!decide (Dec ((bdy s).take (slA (bdy s)))))=true then some true else(idx s 0).bind fun c13=>if(c13.toNat:Int)=45 then(some ((bdy s).take (slA (bdy s)))).bind fun s15=>some (s15==[48])else some false:Option Bool)=some (!okF s):=by
  unfold okF
  by_cases hD:Dec ((bdy s).take (slA (bdy s)))
  ·rw[if_neg (by simp[hD]),I hD]
   congr 1
   rw[Bool.eq_iff_iff]
   simp[hD]
  rw[if_pos (by simp[hD])]
  simp[hD]
 rw[S16,ZB]
 have S26:(if(slA (bdy s):Int)<((bdy s).length:Int)then(cut (bdy s) (w64 ((slA (bdy s):Int)+1)) ((bdy s).length:Int)).bind fun s20=>(jh N s20).bind fun r21=>if(!r21)=true then some true else(cut (bdy s) (w64 ((slA (bdy s):Int)+1)) ((bdy s).length:Int)).bind fun s23=>if(s23==[48])=true then some true else(cut (bdy s) (w64 ((slA (bdy s):Int)+1)) ((bdy s).length:Int)).bind fun s25=>some (s25==[49])else some false:Option Bool)=some (qhp s):=by
  unfold qhp
  by_cases c:slA (bdy s)<(bdy s).length
  ·rw[if_pos (by omega),jm (by omega),xJ (by omega),ZB,qib (by omega) (by omega),ZB]
   by_cases hD:Dec ((bdy s).drop (slA (bdy s)+1))
   ·rw[if_neg (by simp[hD]),ZB]
    by_cases h3:(bdy s).drop (slA (bdy s)+1)=[48]
    ·rw[if_pos (by simp[h3])]
     simp[c,h3]
    rw[if_neg (by simp[h3]),ZB]
    congr 1
    rw[Bool.eq_iff_iff]
    simp[c,h3,hD]
   rw[if_pos (by simp[hD])]
   simp[c,hD]
  rw[if_neg (by omega)]
  simp[c]
 have S30:(if(slA (bdy s):Int)>600 then some true else some (decide ((w64 ((w64 (((bdy s).length:Int)-(slA (bdy s):Int)))-1))>600)):Option Bool)=some (decide (600<((bdy s).take (slA (bdy s))).length\/600<((bdy s).drop (slA (bdy s)+1)).length)):=by
  rw[lt,ld]
  by_cases c:(slA (bdy s):Int)>600
  ·rw[if_pos c,decide_eq_true (.inl (by omega))]
  rw[if_neg c,qf (n:=((bdy s).length:Int)-(slA (bdy s):Int)) (by omega) (by omega),qf (by omega) (by omega)]
  congr 1
  exact decide_eq_decide.2 (by omega)
 unfold chk
 by_cases h1:okF s=true
 ·rw[h1,if_neg (by simp),S26,ZB]
  by_cases h2:qhp s=true
  ·rw[h2,if_pos rfl,if_pos (.inr rfl)]
  have a0:qhp s=false:=by simpa using h2
  rw[a0,if_neg (by simp),S30,ZB,if_neg (show¬(true=false\/false=true)by simp)]
  by_cases h3:600<((bdy s).take (slA (bdy s))).length\/600<((bdy s).drop (slA (bdy s)+1)).length
  ·rw[decide_eq_true h3,if_pos rfl,if_pos h3]
  rw[decide_eq_false h3,if_neg (by simp),if_neg h3]
  by_cases c:slA (bdy s)<(bdy s).length
  ·have u:=(of_decide_eq_true h1).1
   have j:Dec ((bdy s).drop (slA (bdy s)+1))/\(bdy s).drop (slA (bdy s)+1)≠[48]/\(bdy s).drop (slA (bdy s)+1)≠[49]:=Classical.byContradiction fun hc=>of_decide_eq_false a0 ⟨c,hc⟩
   have ep:=qiu hN (s:=bdy s) (by omega) c (by rw[(qbu u.2.1).2];exact u.2.1) (by rw[(qbu j.1.2.1).2];exact j.1.2.1)
   rw[qdf u.2.1,qdf j.1.2.1]at ep
   rw[if_pos (by omega),ep,ZB]
   simp only
   have v1:=qeC u (k:=600) (by omega)
   have v2:=qeC j.1 (k:=600) (by omega)
   have v3:=qfB j.1 j.2.1
   generalize qL 0 ((bdy s).take (slA (bdy s)))=n at*
   generalize qL 0 ((bdy s).drop (slA (bdy s)+1))=d at*
   have f1:jd ((n:Nat):Int) 8000:=(qi8 (p:=600) (n:=70) (by omega) (by omega)).mono (by omega)
   have f2:jd ((d:Nat):Int) 8000:=(qi8 (p:=600) (n:=70) (by omega) (by omega)).mono (by omega)
   have e1:(rI ((n:Nat):Int)).w=dg E9 ((n:Nat):Int):=by
    show dg E9 (((n:Nat):Int).natAbs:Int)=_
    rw[Int.natAbs_natCast]
   have e2:(rI ((d:Nat):Int)).w=dg E9 ((d:Nat):Int):=by
    show dg E9 (((d:Nat):Int).natAbs:Int)=_
    rw[Int.natAbs_natCast]
   have ec:=qiA (N:=N) hN (a:=((n:Nat):Int)) (b:=((d:Nat):Int)) (by omega) (by omega) f1 f2
   have eg:Int.gcd ((n:Nat):Int) ((d:Nat):Int)=Nat.gcd n d:=rfl
   rw[eg]at ec
   rw[e1,e2,ec,ZB]
   have hg:0<Nat.gcd n d:=Nat.gcd_pos_of_pos_right _ v3
   have cc:=z8 E1 (show(0:Int)<=((Nat.gcd n d:Nat):Int)by omega)
   have vv:=jU E1 (show(0:Int)<=((Nat.gcd n d:Nat):Int)by omega)
   by_cases h4:Nat.gcd n d=1
   ·have:dg E9 ((Nat.gcd n d:Nat):Int)=[1]:=by rw[show((Nat.gcd n d:Nat):Int)=1 by omega];exact qnk
    rw[this,if_neg (by simp),qb0,if_neg (fun h=>h.2 h4)]
    rfl
   rw[if_pos (show slA (bdy s)<(bdy s).length/\Nat.gcd n d≠1 from⟨c,h4⟩)]
   by_cases h5:(dg E9 ((Nat.gcd n d:Nat):Int)).length=1
   ·obtain⟨x,hx⟩:=List.length_eq_one_iff.1 h5
    rw[hx,zn,zb,Int.mul_zero,Int.add_zero]at vv
    have hx1:x≠1:=by omega
    rw[hx,if_neg (by simp),qb0]
    simp only[Yj,ZB,decide_eq_false hx1]
    rfl
   rw[if_pos (by simp;omega)]
   rfl
  rw[if_neg (by omega),if_neg (by omega)]
  rfl
 have h1':okF s=false:=by simpa using h1
 rw[h1',if_pos (by simp),if_pos (.inl rfl)]
end Go.Av
end
section
namespace Go.Av
def tl (q:Rat):Str:=if q.den=1 then[]else 47::Lib.decDigits q.den
theorem qm3 (q:Rat):T q=Lib.itoa q.num++tl q:=rfl
theorem no47 {s:Str} (h:s.all vV=true): ∀c∈s,c≠47:=fun c hc e=>by
 have:=Yp.1 h c hc
 rw[e]at this
 exact absurd this (by decide)
theorem qjS: ∀{s:Str},(∀c∈s,c≠47)->slA s=s.length:=fun {s} h=>(qji s [] h).2
theorem qh8 {s:Str} (h: ∀c∈s,c≠47) (q:Rat):slA (s++tl q)=s.length:=by
 unfold tl
 by_cases c:q.den=1
 ·rw[if_pos c,YQ]
  exact qjS h
 rw[if_neg c]
 exact(qji s _ h).1
theorem qeJ (z:Int): ∀c∈Lib.itoa z,c≠47:=by
 by_cases h:z<0
 ·rw[vE h]
  intro c hc
  rcases List.mem_cons.1 hc with e|e
  ·rw[e];decide
  exact no47 (qbd _) c e
 rw[zN h]
 exact no47 (qbd _)
theorem qqb {s t:Str} (h:0<s.length):sgn (s++t)=sgn s:=by
 unfold sgn
 rw[Yf h]
theorem qoV (z:Int):0<(Lib.itoa z).length:=by
 by_cases h:z<0
 ·rw[vE h];simp
 rw[zN h];exact qg8 _
theorem qjZ (q:Rat):sgn (T q)=decide (q.num<0):=by rw[qm3,qqb (qoV _),qhl]
theorem qkB (q:Rat):bdy (T q)=Lib.decDigits q.num.natAbs++tl q:=by
 unfold bdy
 rw[qjZ,qm3]
 by_cases h:q.num<0
 ·rw[decide_eq_true h,if_pos rfl,vE h]
  rfl
 rw[decide_eq_false h,if_neg (by simp),zN h]
theorem qpb {p q:Rat} (h:T p=T q):p=q:=by
 have u:=congrArg slA h
 have e1:slA (T p)=(Lib.itoa p.num).length:=qh8 (qeJ _) p
 have e2:slA (T q)=(Lib.itoa q.num).length:=qh8 (qeJ _) q
 rw[e1,e2]at u
 rw[qm3,qm3]at h
 obtain⟨h2,j⟩:=List.append_inj h u
 have n1:p.num=q.num:=by rw[<-qde p.num,h2,qde]
 have n2:p.den=q.den:=by
  unfold tl at j
  by_cases c:p.den=1
  ·by_cases d:q.den=1
   ·rw[c,d]
   rw[if_pos c,if_neg d]at j;cases j
  by_cases d:q.den=1
  ·rw[if_neg c,if_pos d]at j;cases j
  rw[if_neg c,if_neg d]at j
  injection j with _ j
  exact qlB j
 exact Rat.ext n1 n2
theorem ql5: ∀{s:Str},slA s<s.length->s=s.take (slA s)++47::s.drop (slA s+1)
 |[],h=>by simp at h
 |c::s,h=>by
  rw[slA]at h⊢
  by_cases e:c=47
  ·rw[if_pos e,e]
   rfl
  rw[if_neg e,Yr]at h
  rw[if_neg e,List.take_succ_cons,List.drop_succ_cons,List.cons_append,<-ql5 (show slA s<s.length by omega)]
theorem qpX (s:Str):s=if sgn s=true then 45::bdy s else bdy s:=by
 unfold bdy
 cases h:sgn s with
 |false=>rw[if_neg (by simp),if_neg (by simp)]
 |true=>
  rw[if_pos rfl,if_pos rfl]
  cases s with
  |nil=>cases h
  |cons c t=>
   have e:=of_decide_eq_true h
   simp only[Yj]at e
   rw[Ye e]
   rfl
theorem qjX {s:Str} (h:chk s=0): ∃q:Rat,s=T q/\(Lib.decDigits q.num.natAbs).length<=600/\(Lib.decDigits q.den).length<=600:=by
 have hk:=qf5 (bdy s)
 have lt:((bdy s).take (slA (bdy s))).length=slA (bdy s):=by rw[Ym];omega
 have hs:=qpX s
 have hsp:=@ql5 (bdy s)
 unfold chk at h
 by_cases h1:okF s=false\/qhp s=true
 ·rw[if_pos h1]at h;cases h
 rw[if_neg h1]at h
 by_cases h2:600<((bdy s).take (slA (bdy s))).length\/600<((bdy s).drop (slA (bdy s)+1)).length
 ·rw[if_pos h2]at h;cases h
 rw[if_neg h2]at h
 by_cases h3:slA (bdy s)<(bdy s).length/\Nat.gcd (qL 0 ((bdy s).take (slA (bdy s)))) (qL 0 ((bdy s).drop (slA (bdy s)+1)))≠1
 ·rw[if_pos h3]at h;cases h
 have ho:okF s=true:=by cases e:okF s with|true=>rfl|false=>exact absurd (.inl e) h1
 have hb:qhp s=false:=by cases e:qhp s with|false=>rfl|true=>exact absurd (.inr e) h1
 obtain⟨u,hng⟩:=of_decide_eq_true ho
 have en:=u.eq
 obtain⟨z,hz1,hz2⟩: ∃z:Int,z.natAbs=qL 0 ((bdy s).take (slA (bdy s)))/\(z<0↔sgn s=true):=by
  cases e:sgn s with
  |false=>exact⟨((qL 0 ((bdy s).take (slA (bdy s))):Nat):Int),by omega,by simp⟩
  |true=>
   have:=qfB u fun c=>hng ⟨e,c⟩
   exact⟨-((qL 0 ((bdy s).take (slA (bdy s))):Nat):Int),by omega,by simp;omega⟩
 have hT: ∀t:Str,bdy s=(bdy s).take (slA (bdy s))++t->s=Lib.itoa z++t:=by
  intro t ht
  rw[hs]
  by_cases c:z<0
  ·rw[if_pos (hz2.1 c),vE c,hz1,<-en,List.cons_append,<-ht]
  rw[if_neg fun e=>c (hz2.2 e),zN c,hz1,<-en,<-ht]
 by_cases c:slA (bdy s)<(bdy s).length
 ·have j:Dec ((bdy s).drop (slA (bdy s)+1))/\(bdy s).drop (slA (bdy s)+1)≠[48]/\(bdy s).drop (slA (bdy s)+1)≠[49]:=Classical.byContradiction fun hc=>of_decide_eq_false hb ⟨c,hc⟩
  have ed:=j.1.eq
  have hd0:=qfB j.1 j.2.1
  have hd1:qL 0 ((bdy s).drop (slA (bdy s)+1))≠1:=fun e=>by
   rw[e,zH (by decide)]at ed
   exact j.2.2 ed
  have hg:Nat.gcd z.natAbs (qL 0 ((bdy s).drop (slA (bdy s)+1)))=1:=by
   rw[hz1]
   exact Classical.byContradiction fun e=>h3 ⟨c,e⟩
  refine⟨⟨z,qL 0 ((bdy s).drop (slA (bdy s)+1)),by omega,hg⟩,?_,?_,?_⟩
  ·have:=hT _ (hsp c)
   unfold T
   rw[if_neg hd1]
   show s=Lib.itoa z++47::Lib.decDigits (qL 0 ((bdy s).drop (slA (bdy s)+1)))
   rw[<-ed]
   exact this
  ·show(Lib.decDigits z.natAbs).length<=600
   rw[hz1,<-en]
   omega
  show(Lib.decDigits (qL 0 ((bdy s).drop (slA (bdy s)+1)))).length<=600
  rw[<-ed]
  omega
 refine⟨(z:Rat),?_,?_,?_⟩
 ·have:=hT [] (by rw[YQ,List.take_of_length_le (by omega)])
  unfold T
  rw[Rat.den_intCast,if_pos rfl,Rat.num_intCast]
  exact this
 ·rw[Rat.num_intCast,hz1,<-en]
  omega
 rw[Rat.den_intCast,zH (by decide)]
 simp
end Go.Av
end
section
namespace Go.Av
def Sml (q:Rat) (k:Nat):Prop:=(Lib.decDigits q.num.natAbs).length<=k/\(Lib.decDigits q.den).length<=k
theorem qgL (z:Int):(Lib.itoa z).length<=(Lib.decDigits z.natAbs).length+1:=by
 by_cases h:z<0
 ·rw[vE h];simp
 rw[zN h];omega
theorem qgG (q:Rat) (h:q.den≠1):slA (T q)<(T q).length/\(T q).take (slA (T q))=Lib.itoa q.num/\(T q).drop (slA (T q)+1)=Lib.decDigits q.den:=by
 have e:slA (T q)=(Lib.itoa q.num).length:=qh8 (qeJ _) q
 have j:T q=Lib.itoa q.num++47::Lib.decDigits q.den:=by unfold T;rw[if_neg h]
 rw[e,j]
 refine⟨by rw[Yq,Yr];omega,?_,?_⟩
 ·rw[List.take_append_of_le_length (Nat.le_refl _),List.take_of_length_le (Nat.le_refl _)]
 rw[List.drop_append,List.drop_of_length_le (by omega),show(Lib.itoa q.num).length+1-(Lib.itoa q.num).length=1 by omega]
 rfl
theorem qfz (q:Rat) (h:q.den=1):T q=Lib.itoa q.num/\slA (T q)=(T q).length:=by
 have j:T q=Lib.itoa q.num:=by unfold T;rw[if_pos h,YQ]
 refine⟨j,?_⟩
 rw[j]
 exact qjS (qeJ _)
theorem qfh {q:Rat} {k:Nat} (h:Sml q k):(T q).length<=2*k+2:=by
 have j:=qgL q.num
 have h2:=h.1
 have u:=h.2
 unfold T
 rw[Yq]
 split
 ·simp;omega
 rw[Yr];omega
theorem qbc {N:Nat} (hN:600000<N) {q:Rat} (h:Sml q 9000): ∃f,vJ N (T q)=some f/\IsF f q:=by
 have hl:=qfh h
 have h1:=h.1
 have h2:=h.2
 unfold vJ
 rw[qof (by omega),ZB]
 obtain⟨r1,e1,i1⟩:=qgI hN (s:=Lib.itoa q.num) (by rw[qcg];exact qbd _) (by rw[qcg];omega)
 rw[qde]at i1
 by_cases c:q.den=1
 ·obtain⟨t1,t2⟩:=qfz q c
  rw[if_neg (show¬slA (T q)<(T q).length by omega)]
  obtain⟨f,e2,j⟩:=qkv i1
  rw[if_pos (by rfl),t1,e1,ZB,e2,ZB]
  refine⟨f,rfl,?_⟩
  have:(q.num:Rat)=q:=Rat.ext (by simp) (by simp[c])
  rw[this]at j
  exact j
 obtain⟨t1,t2,t3⟩:=qgG q c
 rw[if_pos t1]
 have u:=qbd q.den
 obtain⟨r2,e2,j⟩:=qgI hN (s:=Lib.decDigits q.den) (by rw[(qbu u).2];exact u) (by rw[(qbu u).2];omega)
 rw[qdf u,qb9]at j
 rw[if_neg (by simp),t2,t3,e1,ZB,e2,ZB]
 exact⟨⟨r1,r2⟩,rfl,i1,j⟩
theorem qiF {N:Nat} (hN:600000<N) {q:Rat} (h:Sml q 4000):yB N (T q)=some (rI q.num,rI (q.den:Int)):=by
 have hl:=qfh h
 have h1:=h.1
 have h2:=h.2
 by_cases c:q.den=1
 ·obtain⟨t1,j⟩:=qfz q c
  unfold yB
  rw[qc9 (by omega) (by omega),ZB,j,if_pos rfl,t1,qhs (by omega) (by rw[qcg];exact qbd _) (by rw[qcg];omega),ZB,qqv (by omega),ZB,qde,c]
  rfl
 obtain⟨t1,j,t3⟩:=qgG q c
 have u:=qbd q.den
 rw[qiu hN (by omega) t1 (by rw[j,qcg];exact qbd _) (by rw[t3,(qbu u).2];exact u),j,t3,qde,qdf u,qb9]
end Go.Av
end
section
namespace Go.Av
theorem qmJ {n:Nat} (h:0<n):(if((dg E9 (n:Int)).length:Int)=1 then(idx (dg E9 (n:Int)) 0).bind fun x15=>some (decide (x15=1))else some false:Option Bool)=some (decide (n=1)):=by
 have vv:=jU E1 (show(0:Int)<=(n:Int)by omega)
 by_cases h4:n=1
 ·rw[show(n:Int)=1 by omega,qnk,if_pos (by simp),qb0,h4]
  rfl
 rw[decide_eq_false h4]
 by_cases h5:(dg E9 (n:Int)).length=1
 ·obtain⟨x,u⟩:=List.length_eq_one_iff.1 h5
  rw[u,zn,zb,Int.mul_zero,Int.add_zero]at vv
  have j:x≠1:=by omega
  rw[u,if_pos (by simp),qb0]
  simp only[Yj,ZB,decide_eq_false j]
 rw[if_neg (by omega)]
theorem jd.abs {z:Int} {n:Nat} (h:jd z n):jd (z.natAbs:Int) n:=by
 unfold jd at h⊢
 rw[Int.natAbs_natCast]
 exact h
theorem jd.le {a b:Int} {n:Nat} (h:(a.natAbs:Int)<=(b.natAbs:Int)) (k:jd b n):jd a n:=Int.lt_of_le_of_lt h k
theorem jd.itoaLen {z:Int} {n:Nat} (h:jd z n) (hn:0<n):(Lib.itoa z).length<=9*n+1:=by
 have j:z.natAbs<10^(9*n):=by
  have h:(z.natAbs:Int)<E9^n:=h
  rw[qhT]at h
  exact Int.ofNat_lt.1 h
 have h3:=(qaS (show 0<9*n by omega)).2 j
 have u:=qgL z
 omega
theorem qlG {N:Nat} (hN:60000<N) {x y:Int} (h:0<=x) (u:0<y) {B:Nat} (hB:B<=8000) (j:jd x B):jE N (dg E9 x) (dg E9 y)=some (dg E9 (x/y),dg E9 (x%y)):=by
 have l:=j.len
 rw[show(x.natAbs:Int)=x by omega]at l
 rw[qdw hN (z8 E1 h) (z8 E1 (by omega)) (by omega) (by rw[jU E1 (by omega)];exact u),jU E1 h,jU E1 (by omega)]
theorem den_pos (q:Rat):0<q.den:=Nat.pos_of_ne_zero q.den_nz
theorem qh5 {a b:Int} (h:b≠0):(b.sign*a).natAbs=a.natAbs:=by rw[Int.natAbs_mul,Int.natAbs_sign_of_ne_zero h,Nat.one_mul]
theorem qmz (a b:Int):Int.gcd (a.natAbs:Int) (b.natAbs:Int)=Int.gcd b a:=by
 rw[Int.gcd_comm]
 rfl
theorem qjb {N:Nat} (hN:600000<N) {B:Nat} (j:0<B) (hB:B<=8000) {a b:Int} (fa:jd a B) (u:jd b B) (hb:b≠0):y7 N (rI a) (rI b)=some (T (Rat.divInt a b)):=by
 have hg:0<Int.gcd b a:=Int.gcd_pos_of_ne_zero_left _ hb
 have ea:=qh5 (a:=a) hb
 have S:(if(rI b).neg=true then(xm N (rI a)).bind fun r7=>(xm N (rI b)).bind fun r8=>some (r7.neg,r7.w,r8.neg,r8.w)else some ((rI a).neg,(rI a).w,(rI b).neg,(rI b).w):Option (Bool×(List Int)×Bool×(List Int)))=some (decide (b.sign*a<0),dg E9 (a.natAbs:Int),false,dg E9 (b.natAbs:Int)):=by
  by_cases h:b<0
  ·rw[if_pos (show(rI b).neg=true from decide_eq_true h),qky (by omega) (fa.mono (by omega)),ZB,qky (by omega) (u.mono (by omega)),ZB,Int.sign_eq_neg_one_of_neg h,Int.neg_mul,Int.one_mul]
   show some (decide (-a<0),dg E9 (((-a).natAbs:Nat):Int),decide (-b<0),dg E9 (((-b).natAbs:Nat):Int))=_
   rw[decide_eq_false (show¬ -b<0 by omega),Int.natAbs_neg,Int.natAbs_neg]
  rw[if_neg (show¬(rI b).neg=true from fun c=>h (of_decide_eq_true c)),Int.sign_eq_one_of_pos (by omega),Int.one_mul]
  show some (decide (a<0),dg E9 ((a.natAbs:Nat):Int),decide (b<0),dg E9 ((b.natAbs:Nat):Int))=_
  rw[decide_eq_false h]
 have en:(Rat.divInt a b).num=b.sign*a/(Int.gcd b a:Int):=Rat.num_divInt ..
 have ed:(b.natAbs:Int)/(Int.gcd b a:Int)=((Rat.divInt a b).den:Int):=by rw[Rat.den_divInt,if_neg hb,Int.natCast_ediv]
 have hd:=den_pos (Rat.divInt a b)
 have dvd:(Int.gcd b a:Int)∣b.sign*a:=Int.dvd_mul_of_dvd_right (Int.gcd_dvd_right ..)
 have fn:jd (Rat.divInt a b).num B:=by
  rw[en]
  exact jd.le (Int.le_trans (xB _ (by omega)) (by rw[ea];exact Int.le_refl _)) fa
 have fd:jd ((Rat.divInt a b).den:Int) B:=by
  rw[<-ed]
  exact jd.le (Int.le_trans (xB _ (by omega)) (Int.le_refl _)) u.abs
 have vn:(if decide (b.sign*a<0)=true then-dv E9 (dg E9 ((a.natAbs:Int)/(Int.gcd b a:Int)))else dv E9 (dg E9 ((a.natAbs:Int)/(Int.gcd b a:Int))))=(Rat.divInt a b).num:=by
  have p0:0<=(a.natAbs:Int)/(Int.gcd b a:Int):=Int.ediv_nonneg (by omega) (by omega)
  rw[jU E1 p0,en]
  by_cases c:b.sign*a<0
  ·rw[if_pos (decide_eq_true c),show(a.natAbs:Int)= -(b.sign*a)by omega,Int.neg_ediv_of_dvd dvd,Int.neg_neg]
  rw[if_neg (fun h=>c (of_decide_eq_true h)),show(a.natAbs:Int)=b.sign*a by omega]
 unfold y7
 rw[S,ZB]
 simp only
 rw[qiA hN (by omega) (by omega) (fa.abs.mono hB) (u.abs.mono hB),ZB,qmz,qlG (by omega) (by omega) (by omega) hB fa.abs,ZB,qlG (by omega) (by omega) (by omega) hB u.abs,ZB]
 simp only
 have p0:0<=(a.natAbs:Int)/(Int.gcd b a:Int):=Int.ediv_nonneg (by omega) (by omega)
 have ln:(dg E9 ((a.natAbs:Int)/(Int.gcd b a:Int))).length<=B:=by
  have:=(jd.le (Int.le_trans (xB _ (by omega)) (Int.le_refl _)) fa.abs:jd ((a.natAbs:Int)/(Int.gcd b a:Int)) B).len
  rw[show(((a.natAbs:Int)/(Int.gcd b a:Int)).natAbs:Int)=(a.natAbs:Int)/(Int.gcd b a:Int)by omega]at this
  exact this
 have ld:(dg E9 ((Rat.divInt a b).den:Int)).length<=B:=by
  have:=fd.len
  rw[Int.natAbs_natCast]at this
  exact this
 rw[xQ _ (z8 E1 p0).1 (by omega) (by omega),ZB,vn,qjv (by omega) (fn.mono (by omega)),ZB,ed,qmJ hd,ZB]
 have l1:=fn.itoaLen j
 have l2:=fd.itoaLen j
 unfold T
 by_cases c:(Rat.divInt a b).den=1
 ·rw[if_pos (decide_eq_true c),if_pos c,YQ]
 rw[if_neg (fun h=>c (of_decide_eq_true h)),if_neg c,qbn (by simp;omega),ZB,xQ _ (z8 E1 (by omega)).1 (by omega) (by omega),ZB,if_neg (by simp),jU E1 (by omega),qjv (by omega) (fd.mono (by omega)),ZB,qbn (by simp;omega),ZB,qeA,Yz]
 rfl
theorem qqg {a b:Int} (h:0<=a) (j:0<b):qeb .i64 a b=some (a%b):=by
 unfold qeb
 rw[if_neg (by omega),Int.tmod_eq_emod_of_nonneg h]
theorem qqj {a b:Int} (j:0<b) (u: -4000000000000000000<=a) (h2:a<=4000000000000000000) (h:b∣a):qci .i64 a b=some (a/b):=by
 have:=xB a j
 unfold qci
 rw[if_neg (by omega),Int.tdiv_eq_ediv_of_dvd h]
 show some (w64 _)=_
 rw[qf (by omega) (by omega)]
theorem qmr: ∀(k K:Nat) (a b:Int),0<=a->0<=b->b<2^k->2*k+2<=K->jO K a b=some (Int.gcd a b:Int)
 |k,0,a,b,_,_,_,hK=>by omega
 |k,K+1,a,b,ha,hb,hk,hK=>by
  have na:(a.natAbs:Int)=a:=by omega
  have nb:(b.natAbs:Int)=b:=by omega
  rcases(show b=0\/0<b by omega)with h0|h0
  ·rw[h0,jO,if_neg (by omega),Int.gcd_zero,na]
  match k,hk,hK with
  |0,hk,hK=>simp at hk;omega
  |k+1,hk,hK=>
   have j:=Int.emod_nonneg a (show b≠0 by omega)
   have m1:=Int.emod_lt_of_pos a h0
   rw[jO,if_pos (by omega),qqg ha h0,ZB,qdc ha hb]
   match K,hK with
   |0,hK=>omega
   |K+1,hK=>
    rcases(show a%b=0\/0<a%b by omega)with g0|g0
    ·rw[g0,jO,if_neg (by omega),Int.gcd_zero,nb]
    have u:=Int.emod_nonneg b (show a%b≠0 by omega)
    have n1:=Int.emod_lt_of_pos b g0
    have h:b%(a%b)<2^k:=by
     have d1:=Int.mul_ediv_add_emod b (a%b)
     have d2:1<=b/(a%b):=by
      rw[Int.le_ediv_iff_mul_le g0]
      omega
     have d3:a%b*1<=a%b*(b/(a%b)):=Yc d2 (by omega)
     rw[Int.pow_succ]at hk
     omega
    rw[jO,if_pos (by omega),qqg hb g0,ZB,qdc hb j]
    exact qmr k K (a%b) (b%(a%b)) j u h (by omega)
theorem qpB {N:Nat} (hN:200<N) {a b:Int} (u:0<=a) (j:0<=b) (h:b<9223372036854775808):qda N a b=some (Int.gcd a b:Int):=by
 unfold qda
 rw[qmr 63 N a b u j h (by omega),ZB]
theorem rabs {z:Int} (h: -9223372036854775807<=z) (j:z<=9223372036854775807):(if w64 (0-z)>z then w64 (0-z)else z)=(z.natAbs:Int):=by
 rw[qf (by omega) (by omega)]
 split<;>omega
theorem qqe {n:Nat} (h:n<=4000000000000000000):(Lib.decDigits n).length<=19:=(qaS (by decide)).2 (by omega)
theorem qqr {N:Nat} (hN:1000<N) {a b:Int} (a1: -4000000000000000000<=a) (a2:a<=4000000000000000000) (b1: -4000000000000000000<=b) (b2:b<=4000000000000000000) (j:b≠0):qea N a b=some (T (Rat.divInt a b)):=by
 have hg:0<Int.gcd b a:=Int.gcd_pos_of_ne_zero_left _ j
 have ea:=qh5 (a:=a) j
 have S:(if b<0 then some (w64 (0-a),w64 (0-b))else some (a,b):Option (Int×Int))=some (b.sign*a,(b.natAbs:Int)):=by
  by_cases h:b<0
  ·rw[if_pos h,qf (by omega) (by omega),qf (by omega) (by omega),Int.sign_eq_neg_one_of_neg h,show(-1:Int)*a=0-a by omega,show(b.natAbs:Int)=0-b by omega]
  rw[if_neg h,Int.sign_eq_one_of_pos (by omega),Int.one_mul,show(b.natAbs:Int)=b by omega]
 have en:(Rat.divInt a b).num=b.sign*a/(Int.gcd b a:Int):=Rat.num_divInt ..
 have ed:(b.natAbs:Int)/(Int.gcd b a:Int)=((Rat.divInt a b).den:Int):=by rw[Rat.den_divInt,if_neg j,Int.natCast_ediv]
 have hd:=den_pos (Rat.divInt a b)
 have a0:(Int.gcd b a:Int)∣b.sign*a:=Int.dvd_mul_of_dvd_right (Int.gcd_dvd_right ..)
 have u:(Int.gcd b a:Int)∣(b.natAbs:Int):=by
  rw[Int.dvd_natAbs]
  exact Int.gcd_dvd_left ..
 have n1:=xB (b.sign*a) (show(0:Int)<(Int.gcd b a:Int)by omega)
 have n2:=xB (b.natAbs:Int) (show(0:Int)<(Int.gcd b a:Int)by omega)
 rw[<-en,ea]at n1
 rw[ed,Int.natAbs_natCast,Int.natAbs_natCast]at n2
 unfold qea
 rw[if_neg (show¬a< -4000000000000000000 by omega),if_neg (show¬a>4000000000000000000 by omega),if_neg (show¬b< -4000000000000000000 by omega),decide_eq_false (show¬b>4000000000000000000 by omega),ZB,if_neg (by simp),S,ZB]
 simp only
 rw[rabs (by omega) (by omega),ea,qpB (by omega) (by omega) (by omega) (by omega),ZB,qmz,qqj (by omega) (by omega) (by omega) a0,ZB,qqj (by omega) (by omega) (by omega) u,ZB,<-en,ed,rabs (by omega) (by omega),qhD (by omega) (by omega),qhD (by omega) (by omega)]
 generalize Rat.divInt a b=q at*
 have l1:=qqe (n:=q.num.natAbs) (by omega)
 have l2:=qqe (n:=q.den) (by omega)
 have S2:((if q.num<0 then some [45]else some []:Option Str).bind fun s17=>(some (Lib.decDigits q.num.natAbs)).bind fun r20=>(cat s17 r20).bind fun s21=>(if(q.den:Int)>1 then(cat s21 [47]).bind fun s25=>(some (Lib.decDigits q.den)).bind fun r26=>(cat s25 r26).bind fun s27=>some s27 else some s21:Option Str).bind fun s22=>some s22)=some (T q):=by
  have li:(Lib.itoa q.num).length<=20:=by have:=qgL q.num;omega
  have I:((if q.num<0 then some [45]else some []:Option Str).bind fun s17=>(some (Lib.decDigits q.num.natAbs)).bind fun r20=>(cat s17 r20).bind fun s21=>(if(q.den:Int)>1 then(cat s21 [47]).bind fun s25=>(some (Lib.decDigits q.den)).bind fun r26=>(cat s25 r26).bind fun s27=>some s27 else some s21:Option Str).bind fun s22=>some s22)=((if(q.den:Int)>1 then(cat (Lib.itoa q.num) [47]).bind fun s25=>(some (Lib.decDigits q.den)).bind fun r26=>(cat s25 r26).bind fun s27=>some s27 else some (Lib.itoa q.num):Option Str).bind fun s22=>some s22):=by
   by_cases c:q.num<0
   ·rw[if_pos c,ZB,ZB,qbn (by simp;omega),ZB,vE c]
    rfl
   rw[if_neg c,ZB,ZB,qbn (by simp;omega),ZB,zN c]
   rfl
  rw[I]
  unfold T
  by_cases c:q.den=1
  ·rw[if_neg (by omega),if_pos c,ZB,YQ]
  rw[if_pos (by omega),if_neg c,qbn (by simp;omega),ZB,ZB,qbn (by simp;omega),ZB,ZB,Yz]
  rfl
 exact S2
end Go.Av
end
section
namespace Go.Av
theorem Sml.mono {q:Rat} {m n:Nat} (h:Sml q m) (j:m<=n):Sml q n:=⟨Nat.le_trans h.1 j,Nat.le_trans h.2 j⟩
theorem qgu {q:Rat} {k n:Nat} (h:Sml q k) (u:0<k) (j:k<=9*n):jd q.num n:=qi8 (p:=k) (Int.ofNat_lt.2 ((qaS u).1 h.1)) j
theorem qgx {q:Rat} {k n:Nat} (h:Sml q k) (u:0<k) (j:k<=9*n):jd (q.den:Int) n:=qi8 (p:=k) (by rw[Int.natAbs_natCast];exact Int.ofNat_lt.2 ((qaS u).1 h.2)) j
theorem zl {q:Rat} {k n:Nat} (h:Sml q k) (u:0<k) (j:k<=19*n):qcu q n:=⟨qfG (p:=k) (Int.ofNat_lt.2 ((qaS u).1 h.1)) j,qfG (p:=k) (by rw[Int.natAbs_natCast];exact Int.ofNat_lt.2 ((qaS u).1 h.2)) j⟩
theorem qlU {z:Int} {n:Nat} (h:jd z n) (j:0<n):(Lib.decDigits z.natAbs).length<=9*n:=by
 refine(qaS (by omega)).2 ?_
 have h:(z.natAbs:Int)<E9^n:=h
 rw[qhT]at h
 exact Int.ofNat_lt.1 h
theorem qj6 {q:Rat} {n:Nat} (u:jd q.num n) (h2:jd (q.den:Int) n) (h:0<n):Sml q (9*n):=by
 have j:=qlU h2 h
 rw[Int.natAbs_natCast]at j
 exact⟨qlU u h,j⟩
theorem qjU {a b:Int} {n:Nat} (h:b≠0) (fa:jd a n) (j:jd b n):jd (Rat.divInt a b).num n/\jd ((Rat.divInt a b).den:Int) n:=by
 have u:0<Int.gcd b a:=Int.gcd_pos_of_ne_zero_left _ h
 constructor
 ·rw[Rat.num_divInt]
  exact jd.le (Int.le_trans (xB _ (by omega)) (by rw[qh5 h];exact Int.le_refl _)) fa
 rw[Rat.den_divInt,if_neg h,Int.natCast_ediv]
 exact jd.le (Int.le_trans (xB _ (by omega)) (Int.le_refl _)) j.abs
theorem qch {a b:Int} {m n:Nat} (j:jd a m) (h:jd b n):jd (a*b) (m+n):=by
 unfold jd at*
 rw[Int.natAbs_mul,Int.natCast_mul,Int.pow_add]
 have u:(a.natAbs:Int)*(b.natAbs:Int)<=(a.natAbs:Int)*E9^n:=Yc (Int.le_of_lt h) (by omega)
 have h2:(a.natAbs:Int)*E9^n<E9^m*E9^n:=YH j (pow_pos E0 n)
 omega
theorem qpf {a b:Int} {n:Nat} (j:jd a n) (h:jd b n):jd (a+b) (n+1):=by
 unfold jd at*
 rw[Int.pow_succ]
 have hp:=pow_pos E0 n
 have:((a+b).natAbs:Int)<=(a.natAbs:Int)+(b.natAbs:Int):=by omega
 unfold E9 at*
 omega
theorem qoh {q:Rat} (h:Sml q 600):qlF q=false:=by
 have j:=h.1
 have u:=h.2
 unfold qlF lng
 rw[Int.natAbs_natCast,decide_eq_false (by omega),decide_eq_false (by omega)]
 rfl
theorem qnL (s:Str):yh s=some (if s=[48]then 0 else if sgn s=true then-1 else 1):=by
 unfold yh
 by_cases c:s=[48]
 ·rw[if_pos (by simp[c]),if_pos c]
 rw[if_neg (by simp[c]),qfm,ZB,if_neg c]
 cases sgn s<;>rfl
theorem itoa0:Lib.itoa 0=[48]:=by
 rw[zN (by decide),show(0:Int).natAbs=0 from rfl,zH (by decide)]
 rfl
theorem T0:T 0=[48]:=by
 rw[(qfz 0 rfl).1]
 exact itoa0
theorem qoM {q:Rat}:T q=[48]↔q=0:=by
 constructor
 ·intro h
  exact qpb (h.trans T0.symm)
 intro h
 rw[h]
 exact T0
theorem qgb (q:Rat):yh (T q)=some (if q.num<0 then-1 else if q.num=0 then 0 else 1):=by
 rw[qnL,qjZ]
 by_cases c:q=0
 ·rw[if_pos (qoM.2 c),c]
  rfl
 rw[if_neg (fun h=>c (qoM.1 h)),if_neg (show¬q.num=0 from fun h=>c (Rat.num_eq_zero.1 h))]
 by_cases d:q.num<0
 ·rw[decide_eq_true d,if_pos rfl,if_pos d]
 rw[decide_eq_false d,if_neg (by simp),if_neg d]
theorem qqV (q:Rat):tl (-q)=tl q:=by
 unfold tl
 rw[Rat.neg_den]
theorem Neg_T {N:Nat} {q:Rat} (h:(T q).length<=100000):qc8 (T q)=some (T (-q)):=by
 unfold qc8
 rw[qgb,ZB]
 have e:T (-q)=Lib.itoa (-q.num)++tl q:=by rw[qm3,qqV,Rat.neg_num]
 by_cases c:q.num<0
 ·have hs:sgn (T q)=true:=by rw[qjZ];exact decide_eq_true c
  have u:(T q).drop 1=bdy (T q):=by unfold bdy;rw[if_pos hs]
  have j:=qiX hs
  rw[if_pos c,if_pos (by decide),show(1:Int)=((1:Nat):Int)from rfl,xJ j,ZB,u,qkB,e,zN (by omega),Int.natAbs_neg]
 rw[if_neg c,if_neg (by split<;>decide),ZB]
 by_cases d:q.num=0
 ·rw[if_pos d,if_pos rfl,Rat.num_eq_zero.1 d]
  rfl
 rw[if_neg d,if_neg (by decide),qbn (by simp;omega),ZB,e,vE (by omega),Int.natAbs_neg,qm3,zN c]
 rfl
theorem qhS {N:Nat} (hN:100000<N) {q:Rat} {k:Nat} (h:Sml q k) (hk:k<=9000):yE N (T q)=some (0,0,false)\/(yE N (T q)=some (q.num,(q.den:Int),true)/\q.num.natAbs<1000000000/\q.den<1000000000):=by
 have hl:=qfh h
 have hb:=qfD (T q)
 have eb:=qkB q
 have es:slA (Lib.decDigits q.num.natAbs++tl q)=(Lib.decDigits q.num.natAbs).length:=qh8 (no47 (qbd _)) q
 have u:(Lib.decDigits q.num.natAbs++tl q).length=(Lib.decDigits q.num.natAbs).length+(tl q).length:=Yq
 rw[eb]at hb
 unfold yE
 by_cases c:((T q).length:Int)>20
 ·left
  rw[if_pos c]
 rw[if_neg c,qfm,ZB,qlu,ZB,eb,qc9 (by omega) (by omega),ZB,es,qjZ]
 by_cases c1:(Lib.decDigits q.num.natAbs).length>9
 ·left
  rw[if_pos (by omega),ZB,if_pos rfl]
 rw[if_neg (by omega),qf (by omega) (by omega)]
 by_cases c2:(tl q).length>10
 ·left
  rw[decide_eq_true (by omega),ZB,if_pos rfl]
 right
 rw[decide_eq_false (by omega),ZB,if_neg (by simp),y9 (by omega),ZB,List.take_left',qfI (by omega) (qbd _) (by omega),ZB,qb9]
 ·have hn:q.num.natAbs<1000000000:=(qaS (show 0<9 by decide)).1 (by omega)
  have sg:(if decide (q.num<0)=true then some (w64 (0-(q.num.natAbs:Int)))else some (q.num.natAbs:Int):Option Int)=some q.num:=by
   by_cases d:q.num<0
   ·rw[if_pos (decide_eq_true d),qf (by omega) (by omega)]
    congr 1
    omega
   rw[if_neg (fun h=>d (of_decide_eq_true h))]
   congr 1
   omega
  by_cases d:q.den=1
  ·have j:tl q=[]:=by unfold tl;rw[if_pos d]
   rw[j]at u
   rw[List.length_nil]at u
   rw[j,if_neg (by omega),ZB,sg,ZB,d]
   exact⟨rfl,hn,by decide⟩
  have j:tl q=47::Lib.decDigits q.den:=by unfold tl;rw[if_neg d]
  rw[j,Yr]at u c2
  have hd:q.den<1000000000:=(qaS (show 0<9 by decide)).1 (by omega)
  rw[j,if_pos (by omega),jm (by omega),xJ (by omega),ZB,List.drop_append,List.drop_of_length_le (by omega),show(Lib.decDigits q.num.natAbs).length+1-(Lib.decDigits q.num.natAbs).length=1 by omega,List.nil_append,List.drop_succ_cons,YR,qfI (by omega) (qbd _) (by omega),ZB,ZB,sg,ZB,qb9]
  exact⟨rfl,hn,hd⟩
 rfl
theorem qpW {N:Nat} (hN:100000<N) {p q:Rat} {k:Nat} (hk:k<=9000) (hp:Sml p k) (hq:Sml q k) {Fq:(Int×Int×Bool)->(Int×Int×Bool)->Option Str} {h:Option Str} {t:Str}
 (h1:p.num.natAbs<1000000000->p.den<1000000000->q.num.natAbs<1000000000->q.den<1000000000->Fq (p.num,(p.den:Int),true) (q.num,(q.den:Int),true)=some t) (h2:h=some t):
 ((yE N (T p)).bind fun r1=>(yE N (T q)).bind fun r2=>(if r1.2.2=true then some r2.2.2 else some false:Option Bool).bind fun b4=>if b4=true then(Fq r1 r2).bind fun r7=>some r7 else h)=some t:=by
 rcases qhS hN hp hk with u|⟨u,a1,a2⟩
 ·rcases qhS hN hq hk with j|⟨j,b1,b2⟩
  ·rw[u,ZB,j,ZB]
   exact h2
  rw[u,ZB,j,ZB]
  exact h2
 rcases qhS hN hq hk with j|⟨j,b1,b2⟩
 ·rw[u,ZB,j,ZB]
  exact h2
 rw[u,ZB,j,ZB]
 show((Fq (p.num,(p.den:Int),true) (q.num,(q.den:Int),true)).bind fun r7=>some r7)=some t
 rw[h1 a1 a2 b1 b2,ZB]
theorem mul9 {a b:Int} (u:a.natAbs<1000000000) (j:b.natAbs<1000000000): -1000000000000000000<=a*b/\a*b<=1000000000000000000:=by
 have h:(a*b).natAbs<=1000000000*1000000000:=by
  rw[Int.natAbs_mul]
  exact Nat.mul_le_mul (by omega) (by omega)
 omega
theorem qp3 {N:Nat} (hN:600000<N) {p q:Rat} {k:Nat} (h:0<k) (hk:k<=4000) (hp:Sml p k) (hq:Sml q k):qcV N (T p) (T q)=some (T (p+q)):=by
 unfold qcV
 obtain⟨n,hn⟩: ∃n:Nat,n=500:=⟨_,rfl⟩
 have p1:=qgu (n:=n) hp h (by omega)
 have u:=qgx (n:=n) hp h (by omega)
 have q1:=qgu (n:=n) hq h (by omega)
 have j:=qgx (n:=n) hq h (by omega)
 refine qpW (N:=N) (by omega) (show k<=9000 by omega) hp hq (fun a1 a2 b1 b2=>?_) ?_
 ·have m1:=mul9 a1 (show((q.den:Int)).natAbs<1000000000 by omega)
  have m2:=mul9 b1 (show((p.den:Int)).natAbs<1000000000 by omega)
  have m3:=mul9 (show((p.den:Int)).natAbs<1000000000 by omega) (show((q.den:Int)).natAbs<1000000000 by omega)
  have:=qh4 p q
  simp only
  rw[qf (n:=p.num*(q.den:Int)) (by omega) (by omega),qf (n:=q.num*(p.den:Int)) (by omega) (by omega),qf (n:=(p.den:Int)*(q.den:Int)) (by omega) (by omega),qf (by omega) (by omega),qqr (by omega) (by omega) (by omega) (by omega) (by omega) (qh4 p q),<-qhY]
 rw[qiF hN (hp.mono (by omega)),ZB,qiF hN (hq.mono (by omega)),ZB]
 simp only
 rw[qg5 (by omega) (p1.mono (by omega)) (j.mono (by omega)),ZB,qg5 (by omega) (q1.mono (by omega)) (u.mono (by omega)),ZB,qpu (by omega) ((qch p1 j).mono (by omega)) ((qch q1 u).mono (by omega)),ZB,qg5 (by omega) (u.mono (by omega)) (j.mono (by omega)),ZB,qjb hN (B:=n+n+1) (by omega) (by omega) (qpf (qch p1 j) (qch q1 u)) ((qch u j).mono (by omega)) (qh4 p q),ZB,<-qhY]
theorem qfv {p q:Rat} {n:Nat} (hn:0<n) (hp:Sml p (9*n)) (hq:Sml q (9*n)):Sml (p*q) (9*(n+n)):=by
 have h:=qgu (n:=n) hp (by omega) (by omega)
 have p2:=qgx (n:=n) hp (by omega) (by omega)
 have q1:=qgu (n:=n) hq (by omega) (by omega)
 have j:=qgx (n:=n) hq (by omega) (by omega)
 rw[qhA]
 obtain⟨u,f2⟩:=qjU (qh4 p q) (qch h q1) (qch p2 j)
 exact qj6 u f2 (by omega)
theorem qlS {p:Rat} {k:Nat} (h:Sml p k):Sml (-p) k:=by
 unfold Sml
 rw[Rat.neg_num,Rat.neg_den,Int.natAbs_neg]
 exact h
theorem qpV {p:Rat} {k:Nat} (h:Sml p k) (u:p≠0):Sml p⁻¹ k:=by
 have j:p.num≠0:=fun c=>u (Rat.num_eq_zero.1 c)
 unfold Sml
 rw[Rat.num_inv,Rat.den_inv,if_neg j,Int.natAbs_mul,Int.natAbs_sign_of_ne_zero j,Nat.one_mul,Int.natAbs_natCast]
 exact⟨h.2,h.1⟩
theorem qpJ {N:Nat} (hN:600000<N) {p q:Rat} {k:Nat} (h:0<k) (j:k<=4000) (hp:Sml p k) (hq:Sml q k):qc0 N (T p) (T q)=some (T (p-q)):=by
 have u:=qfh hq
 unfold qc0
 rw[Neg_T (N:=N) (by omega),ZB,qp3 hN h j hp (qlS hq),ZB,Rat.sub_eq_add_neg]
theorem qfn {N:Nat} (hN:600000<N) {p q:Rat} {k:Nat} (j:0<k) (hk:k<=4000) (hp:Sml p k) (hq:Sml q k):qaz N (T p) (T q)=some (if p<q then-1 else if p=q then 0 else 1):=by
 unfold qaz
 rw[qpJ hN j hk hp hq,ZB,qgb,ZB]
 have a1:((p-q).num<0)=(p<q):=by
  apply propext
  rw[<-Rat.not_le,Rat.le_iff_sub_nonneg q p,<-Rat.num_nonneg]
  omega
 have u:((p-q).num=0)=(p=q):=by
  apply propext
  rw[Rat.num_eq_zero]
  constructor
  ·intro h
   have:p-q+q=p:=Rat.sub_add_cancel
   rw[h,Rat.zero_add]at this
   exact this.symm
  intro h
  rw[h,Rat.sub_self]
 simp only[a1,u]
end Go.Av
end
section
namespace Go.Av
def res (q:Rat):Str×Int:=if qlF q=true then([],4)else(T q,0)
section ops
variable {N:Nat} (hN:600000<N)
include hN
variable {p q:Rat} (hp:Sml p 600) (hq:Sml q 600) (cp:chk (T p)=0) (cq:chk (T q)=0)
include hp hq cp cq
end ops
end Go.Av
end
section
namespace Go.Av
theorem qj4 {s:Str} {k:Nat} {c:UInt8} (h:s[k]? =some c):((⟨s.toArray⟩:ByteArray).get! k)=c:=by
 have j:=(Yb.1 h).1
 show s.toArray[k]! =c
 rw[getElem!_def]
 simp[h]
theorem qkU {s:Str} {k:Nat} {c:UInt8} (h:s[k]? =some c) (j:c.toNat<128):yo s k=c.toNat/\runeLen s k=1:=by
 have e:=qj4 h
 unfold yo runeLen Utf8.decode
 simp only[Nat.add_zero,e,if_pos j,and_self]
theorem qmY {s:Str} {k:Nat} {c:UInt8} (h:s[k]? =some c) (j:128<=c.toNat):128<=yo s k:=by
 have e:=qj4 h
 unfold yo Utf8.decode
 simp only[Nat.add_zero,e,if_neg (Nat.not_lt.2 j)]
 have u:(128:Nat)<=Utf8.runeError:=by decide
 repeat' split
 all_goals first|(simp only[Bool.and_eq_true,decide_eq_true_eq]at*;omega)|(simp;omega)|omega
def qkZ (c:Int):Bool:=(decide (97<=c)&&decide (c<=122))||(decide (65<=c)&&decide (c<=90))
theorem qkn (c:Int):xC c=some (qkZ c):=by
 unfold xC qkZ
 by_cases h1:c>=97<;>by_cases h2:c<=122<;>by_cases h3:c>=65<;>by_cases h4:c<=90<;>simp[h1,h2,h3,h4]<;>omega
def qmQ (k:Nat) (c:Int):Bool:=!qkZ c&&(decide (k=0)||(!decide (c=95)&&(decide (c<48)||decide (c>57))))
def qlO (s:Str):Bool:=decide (1<=s.length)&&decide (s.length<=24)&&!((List.range s.length).any fun k=>qmQ k (s.getD k 0).toNat)
theorem qnw {k:Nat} {c:Int} (h:128<=c):qmQ k c=true:=by
 unfold qmQ qkZ
 simp
 omega
def qbT (s:Str) (k:Nat):Bool:=(List.range (s.length-k)).any fun j=>qmQ (k+j) (s.getD (k+j) 0).toNat
theorem qjp {s:Str} {k:Nat} {c:UInt8} (h:s[k]? =some c):qbT s k=(qmQ k c.toNat||qbT s (k+1)):=by
 have u:=(Yb.1 h).1
 unfold qbT
 rw[show s.length-k=(s.length-(k+1))+1 by omega,List.range_succ_eq_map,List.any_cons,List.any_map]
 congr 1
 ·simp[List.getD,h]
 congr 1
 funext j
 simp only[Function.comp,Nat.succ_eq_add_one]
 rw[show k+(j+1)=k+1+j by omega]
theorem qj0 {s:Str} {k:Nat} (h:s.length<=k):qbT s k=false:=by
 unfold qbT
 rw[show s.length-k=0 by omega]
 rfl
theorem qiC (s:Str): ∀(K k:Nat),k<=s.length->s.length<K+k->jL s K k=some (if qbT s k then .inr false else .inl ())
 |0,k,h,hK=>by omega
 |K+1,k,h,hK=>by
  unfold jL
  by_cases hk:k<s.length
  ·have hc:s[k]? =some s[k]:=Ya hk
   rw[if_pos hk,qkn,qjp hc]
   by_cases ha:(s[k]).toNat<128
   ·obtain⟨e1,e2⟩:=qkU hc ha
    rw[e1,e2,qiC s K (k+1) (by omega) (by omega)]
    have ek:((k:Int)=0)↔k=0:=by omega
    unfold qmQ
    generalize ((s[k]).toNat:Int)=c
    cases j:qkZ c<;>by_cases h0:k=0<;>by_cases u:c=95<;>by_cases h2:c<48<;>by_cases h3:57<c<;>
     simp[j,h0,u,h2,h3]
   have hw:=qmY hc (by omega)
   rw[qnw (show(128:Int)<=((s[k]).toNat:Int)by omega)]
   have j:qkZ (yo s k)=false:=by unfold qkZ;simp;omega
   have u: ¬yo s k=95:=by omega
   have h2: ¬yo s k<48:=by omega
   have h3:yo s k>57:=by omega
   have ek:((k:Int)=0)↔k=0:=by omega
   simp only[j,ZB,Bool.not_false,if_true,u,h2,h3,decide_true,decide_false,if_false,Bool.true_or,ek]
   by_cases h0:k=0
   ·simp only[h0,if_true,ZB]
   simp only[h0,if_false,ZB,if_true]
  rw[if_neg hk,qj0 (by omega)]
  rfl
theorem qn7 (s:Str):qlO s=(decide (1<=s.length)&&decide (s.length<=24)&&!qbT s 0):=by
 unfold qlO qbT
 simp
theorem qmM {N:Nat} {s:Str} (h:s.length<N):xL N s=some (qlO s):=by
 unfold xL
 rw[qiC s N 0 (Nat.zero_le _) (by omega),qn7]
 cases hb:qbT s 0
 ·cases s with
  |nil=>simp
  |cons x xs=>
   have e:((x::xs)==([]:Str))=false:=rfl
   simp only[ZB,ZF,if_false,e,Bool.not_false,if_true,Bool.and_true,ZI]
   have:(1<=(x::xs).length):=by simp
   rw[Bool.eq_iff_iff]
   simp only[decide_eq_true_eq,Bool.and_eq_true,this,true_and]
   omega
 simp
end Go.Av
end
section
namespace Go.Av
theorem qmX {N:Nat} (hN:600000<N) {f:qB} {q:Rat} (h:IsF f q) (j:qcu q 3900): ∃r,qab N f=some r/\IsZ r q.floor:=by
 obtain⟨a,b,e,u,i2⟩:=qeG (N:=N) (by omega) h.1 h.2 j.1 j.2 (by have:=q.den_pos;omega)
 refine⟨a,?_,?_⟩
 ·unfold qab
  rw[e,ZB]
 rw[Rat.floor_def]
 exact u
end Go.Av
end
section
namespace Go.Av
open Classical
theorem qlf {q:Rat} {k:Nat} (j:0<k) (h:(T q).length<=k):Sml q k:=by
 have u:(Lib.decDigits q.num.natAbs).length<=(Lib.itoa q.num).length:=by
  by_cases c:q.num<0
  ·rw[vE c,Yr]
   omega
  rw[zN c]
  exact Nat.le_refl _
 unfold T at h
 rw[Yq]at h
 refine⟨by omega,?_⟩
 by_cases c:q.den=1
 ·rw[c]
  exact(qaS j).2 (Nat.one_lt_pow (by omega) (by decide))
 rw[if_neg c,Yr]at h
 omega
theorem qpn {s:Str} {k:Nat} (j:0<k) (u:s.length<=k) (h:chk s=0): ∃q:Rat,s=T q/\Sml q k/\chk (T q)=0:=by
 obtain⟨q,rfl,_,_⟩:=qjX h
 exact⟨q,rfl,qlf j u,h⟩
def IsL:List qB->List Rat->Prop
 |[],[]=>True
 |f::l,q::r=>IsF f q/\IsL l r
 |_,_=>False
theorem IsL.get: ∀{l:List qB} {r:List Rat},IsL l r->l.length=r.length/\ ∀(i:Nat) (q:Rat),r[i]? =some q-> ∃f,l[i]? =some f/\IsF f q
 |[],[],_=>⟨rfl,fun i q h=>by simp at h⟩
 |f::l,q::r,h=>by
  obtain⟨j,u⟩:=h
  obtain⟨a,b⟩:=IsL.get u
  refine⟨by simp[a],fun i x hx=>?_⟩
  match i,hx with
  |0,hx=>
   simp at hx
   exact⟨f,rfl,hx▸j⟩
  |i+1,hx=>
   rw[List.getElem?_cons_succ]at hx⊢
   exact b i x hx
 |[],_::_,h=>h.elim
 |_::_,[],h=>h.elim
end Go.Av
end
section
namespace Go.Av
theorem qoY {q:Rat}:0<q.num↔0<q:=by
 have j:=Rat.num_nonneg (q:=q)
 have u:=Rat.num_eq_zero (q:=q)
 constructor
 ·intro h
  exact Rat.lt_of_le_of_ne (j.1 (by omega)) (fun e=>by have:=u.2 e.symm;omega)
 intro h
 have h3:=j.2 (Rat.le_of_lt h)
 have h4:q.num≠0:=fun e=>Rat.ne_of_gt h (u.1 e)
 omega
theorem qhU {f:qB} {q:Rat} (h:IsF f q):qaE f=some (if q.num<0 then-1 else if q.num=0 then 0 else 1):=by
 unfold qaE
 rw[qdu h.1,ZB]
theorem qgQ {q:Rat}:((if q.num<0 then-1 else if q.num=0 then 0 else 1:Int)<=0)↔q<=0:=by
 rw[<-Rat.not_lt,<-qoY]
 constructor
 ·intro h c
  rw[if_neg (by omega),if_neg (by omega)]at h
  omega
 intro h
 split
 ·omega
 rw[if_pos (by omega)]
 omega
section ops
variable {N:Nat} (hN:600000<N)
include hN
variable {p p' q q':Rat} (hp:Sml p 60) (hp':Sml p' 60) (hq:Sml q 60) (hq':Sml q' 60) (cp:chk (T p)=0) (cp':chk (T p')=0) (cq:chk (T q)=0) (cq':chk (T q')=0) (hpp:p<=p') (hqq:q<=q')
include hp hp' hq hq' cp cp' cq cq' hpp hqq
end ops
end Go.Av
end
section
namespace Go.Av
theorem tdm {n:Int}:((n.tdiv 1000000000).natAbs:Int)=(n.natAbs:Int)/1000000000/\((n.tmod 1000000000).natAbs:Int)=(n.natAbs:Int)%1000000000/\(n.tmod 1000000000<0->n<0):=by
 rcases Int.lt_or_le n 0 with h|h
 ·obtain⟨m,rfl⟩: ∃m,n= -m:=⟨-n,by omega⟩
  rw[Int.neg_tdiv,Int.neg_tmod,YF (by omega),Int.tmod_eq_emod_of_nonneg (by omega)]
  omega
 rw[YF h,Int.tmod_eq_emod_of_nonneg h]
 omega
theorem qjK: ∀(k K:Nat) (l:List Int) (n:Int),(n.natAbs:Int)<E9^k->k<=3->k<K-> -9223372036854775808<=n->n<=9223372036854775807->l.length+k<=1000-> ∃w,zR K l n=some (l++w)/\Dg E9 w/\dv E9 w=(n.natAbs:Int)/\w.length<=k
 |k,0,l,n,_,_,hK,_,_,_=>by omega
 |k,K+1,l,n,hn,hk,hK,h1,h2,hl=>by
  rw[zR]
  by_cases h0:n=0
  ·rw[if_neg (by simp[h0]),h0]
   exact⟨[],by simp,Dg.nil,rfl,by simp⟩
  match k,hn,hk,hK with
  |0,hn,hk,hK=>
   rw[Int.pow_zero]at hn
   omega
  |k+1,hn,hk,hK=>
   obtain⟨h,t2,t3⟩:=tdm (n:=n)
   have ed:(if n.tmod 1000000000<0 then some (w64 (0-n.tmod 1000000000))else some (n.tmod 1000000000):Option Int)=some ((n.natAbs:Int)%1000000000):=by
    by_cases c:n.tmod 1000000000<0
    ·rw[if_pos c,qf (by omega) (by omega)]
     congr 1
     omega
    rw[if_neg c]
    congr 1
    omega
   have e9:E9^(k+1)=E9^k*E9:=Int.pow_succ ..
   have hq:((n.tdiv 1000000000).natAbs:Int)<E9^k:=by
    rw[h]
    exact Int.ediv_lt_of_lt_mul (by decide) (by rw[<-e9];exact hn)
   rw[if_pos (by simp[h0]),ed,ZB,qcJ (by simp;omega) (by simp;omega),ZB,qf (by omega) (by omega)]
   obtain⟨w,e,j,u,d3⟩:=qjK k K (l++[(n.natAbs:Int)%1000000000]) (n.tdiv 1000000000) hq (by omega) (by omega) (by omega) (by omega) (by simp;omega)
   refine⟨(n.natAbs:Int)%1000000000::w,by rw[e,Yz];rfl,Dg.cons ⟨by omega,by show _<(1000000000:Int);omega⟩ j,?_,by simp;omega⟩
   rw[zn,u,h]
   show(n.natAbs:Int)%1000000000+1000000000*((n.natAbs:Int)/1000000000)=_
   omega
theorem qoK {N:Nat} (hN:100<N) {n:Int} (j: -9223372036854775808<=n) (h2:n<=9223372036854775807):vS N n=some (rI n):=by
 obtain⟨w,e,d1,u,d3⟩:=qjK 3 N [] n (by show _<(1000000000:Int)^3;omega) (by omega) (by omega) j h2 (by simp)
 unfold vS
 rw[e,ZB,List.nil_append,xQ _ d1 (by omega) (by omega),ZB,u]
 congr 2
 by_cases c:n<0
 ·rw[if_pos (decide_eq_true c)]
  omega
 rw[if_neg (fun h=>c (of_decide_eq_true h))]
 omega
theorem qoT (n:Int):T (n:Rat)=Lib.itoa n:=by
 unfold T
 rw[Rat.num_intCast,Rat.den_intCast,if_pos rfl,YQ]
theorem qpe {n:Int} (h: -9223372036854775808<=n) (j:n<=9223372036854775807):jd n 3:=by
 show(n.natAbs:Int)<(1000000000:Int)^3
 omega
theorem qhO {N:Nat} (hN:60000<N) {n:Int} (h: -9223372036854775808<=n) (j:n<=9223372036854775807):xK N n=some (T (n:Rat)):=by
 unfold xK
 rw[qoK (by omega) h j,ZB,qjv hN ((qpe h j).mono (by omega)),ZB,qoT]
theorem qjj {n:Int} (h: -9223372036854775808<=n) (j:n<=9223372036854775807):Sml (n:Rat) 27:=by
 refine qj6 (n:=3) ?_ ?_ (by omega)
 ·rw[Rat.num_intCast]
  exact qpe h j
 rw[Rat.den_intCast]
 exact qpe (by decide) (by decide)
def bst (x b y:Rat):Rat:=if(x-y).abs<(x-b).abs then y else b
def cnd (x:Rat) (i:Nat):Rat:=Rat.divInt ((x*((i/2:Nat):Rat)).floor+((i%2:Nat):Int)) ((i/2:Nat):Int)
def Fst (x b:Rat) (n:Nat):Prop:= ∃i,2<=i/\i<n/\b=cnd x i/\ ∀j,2<=j->j<n->(x-b).abs<(x-cnd x j).abs\/((x-b).abs=(x-cnd x j).abs/\i<=j)
theorem Fst.step {x b:Rat} {n:Nat} (h:Fst x b n):Fst x (bst x b (cnd x n)) (n+1):=by
 obtain⟨i,h1,h2,h3,u⟩:=h
 unfold bst
 by_cases c:(x-cnd x n).abs<(x-b).abs
 ·rw[if_pos c]
  refine⟨n,by omega,by omega,rfl,fun j j1 j2=>?_⟩
  by_cases e:j=n
  ·exact .inr ⟨by rw[e],by omega⟩
  rcases u j j1 (by omega)with k|⟨k,_⟩
  ·exact .inl (qqh c k)
  exact .inl (k▸c)
 rw[if_neg c]
 refine⟨i,h1,by omega,h3,fun j j1 j2=>?_⟩
 by_cases e:j=n
 ·rw[e]
  rcases Rat.le_iff_lt_or_eq.1 (Rat.not_lt.1 c)with k|k
  ·exact .inl k
  exact .inr ⟨k,by omega⟩
 exact u j j1 (by omega)
end Go.Av
end
section
namespace Go.Av
theorem qnH {n:Nat}:Lib.decDigits n=[48]↔n=0:=by
 constructor
 ·intro h
  exact qlB (h.trans (by rw[zH (by decide)];rfl))
 rintro rfl
 rw[zH (by decide)]
 rfl
theorem qqs {n:Nat}:Lib.decDigits n=[49]↔n=1:=by
 constructor
 ·intro h
  exact qlB (h.trans (by rw[zH (by decide)];rfl))
 rintro rfl
 rw[zH (by decide)]
 rfl
theorem qku {q:Rat} (h:Sml q 600):chk (T q)=0:=by
 have a1:=no47 (qbd q.num.natAbs)
 have es:=qh8 a1 q
 have et:(bdy (T q)).take (slA (bdy (T q)))=Lib.decDigits q.num.natAbs:=by
  rw[qkB,es,List.take_append_of_le_length (Nat.le_refl _),List.take_length]
 have hd:=den_pos q
 have ed:slA (bdy (T q))<(bdy (T q)).length↔q.den≠1:=by
  rw[qkB,es,Yq]
  unfold tl
  by_cases c:q.den=1
  ·rw[if_pos c]
   simp[c]
  rw[if_neg c]
  simp[c]
 have er:(bdy (T q)).drop (slA (bdy (T q))+1)=if q.den=1 then[]else Lib.decDigits q.den:=by
  rw[qkB,es]
  unfold tl
  by_cases c:q.den=1
  ·rw[if_pos c,if_pos c,YQ,List.drop_of_length_le (by omega)]
  rw[if_neg c,if_neg c,List.drop_append,List.drop_of_length_le (by omega),List.nil_append,show(Lib.decDigits q.num.natAbs).length+1-(Lib.decDigits q.num.natAbs).length=1 by omega]
  rfl
 have a2:okF (T q)=true:=by
  unfold okF
  rw[et,qjZ]
  refine decide_eq_true ⟨qnS _,?_⟩
  rintro⟨u,j⟩
  have u:=of_decide_eq_true u
  have:=qnH.1 j
  omega
 have a0:qhp (T q)=false:=by
  unfold qhp
  refine decide_eq_false ?_
  rintro⟨u,j⟩
  have c:=ed.1 u
  rw[er,if_neg c]at j
  exact j ⟨qnS _,fun e=>by have:=qnH.1 e;omega,fun e=>c (qqs.1 e)⟩
 unfold chk
 rw[if_neg (by rw[a2,a0];simp),et,er,if_neg,if_neg]
 ·rintro⟨u,j⟩
  have c:=ed.1 u
  rw[if_neg c,qb9,qb9]at j
  exact j q.reduced
 have u:=h.1
 have j:=h.2
 split<;>simp<;>omega
theorem Num_T {N:Nat} (hN:100000<N) {q:Rat} (hl:(T q).length<=50000):qc7 N (T q)=some (Lib.itoa q.num):=by
 have hs:=qc9 (N:=N) (s:=T q) (by omega) (by omega)
 unfold qc7
 rw[hs,ZB]
 by_cases c:q.den=1
 ·obtain⟨j,h⟩:=qfz q c
  rw[y9 (by omega),ZB,h,List.take_length,j]
 obtain⟨j,h,u⟩:=qgG q c
 rw[y9 (by omega),ZB,h]
theorem Den_T {N:Nat} (hN:100000<N) {q:Rat} (hl:(T q).length<=50000):qcT N (T q)=some (Lib.decDigits q.den):=by
 have hs:=qc9 (N:=N) (s:=T q) (by omega) (by omega)
 unfold qcT
 rw[hs,ZB]
 by_cases c:q.den=1
 ·obtain⟨u,h⟩:=qfz q c
  rw[if_pos (by omega),c,zH (by decide)]
  rfl
 obtain⟨u,h,j⟩:=qgG q c
 rw[if_neg (by omega),jm (by omega),xJ (by omega),ZB,j]
theorem qmV {z:Int} (j:(Lib.itoa z).length<=50000):qcU (Lib.itoa z)=some (Lib.decDigits z.natAbs):=by
 have hs:=qgb (z:Rat)
 rw[qoT,Rat.num_intCast]at hs
 unfold qcU
 rw[hs,ZB]
 by_cases c:z<0
 ·have h:=xJ (l:=(45:UInt8)::Lib.decDigits z.natAbs) (k:=1) (by simp)
  rw[if_pos c,if_pos (by decide),vE c,show(1:Int)=((1:Nat):Int)from rfl,h]
  rfl
 rw[if_neg c,if_neg (by split<;>decide),zN (by omega)]
theorem qqn (n:Nat):Lib.decDigits n=T ((n:Int):Rat):=by rw[qoT,qeA]
theorem qny {N:Nat} (hN:600000<N) {s:Str} {d:Nat} (u:0<d) (j:d<=1000): ∃b,qbY N s (d:Int)=some b/\(b=true-> ∃q:Rat,s=T q/\Sml q d/\chk (T q)=0):=by
 unfold qbY
 rw[qf (n:=2*(d:Int)) (by omega) (by omega),qf (n:=2*(d:Int)+2) (by omega) (by omega)]
 by_cases c:(s.length:Int)<=2*(d:Int)+2
 ·rw[if_pos c,qeK hN (by omega),ZB]
  by_cases hc:chk s=0
  ·obtain⟨q,rfl,q1,q2⟩:=qjX hc
   have li:=qgL q.num
   rw[if_pos hc,Num_T (by omega) (by omega),ZB,qmV (by omega),ZB,Den_T (by omega) (by omega),ZB]
   by_cases e:(Lib.decDigits q.num.natAbs).length<=d
   ·rw[if_pos (by omega),ZB]
    exact⟨_,rfl,fun h=>⟨q,rfl,⟨e,by have:=of_decide_eq_true h;omega⟩,hc⟩⟩
   rw[if_neg (by omega),ZB]
   exact⟨_,rfl,fun h=>by cases h⟩
  rw[if_neg hc,ZB]
  exact⟨_,rfl,fun h=>by cases h⟩
 rw[if_neg c,ZB]
 exact⟨_,rfl,fun h=>by cases h⟩
end Go.Av
end
section
namespace Go.Av
theorem F_eq {n:Int} (h: -9223372036854775808<=n) (j:n<=9223372036854775807): ∃f,qg3 n=some f/\IsF f (n:Rat):=by
 obtain⟨f,e,i⟩:=qkv (Uf h j)
 refine⟨f,?_,i⟩
 unfold qg3
 rw[qhP,ZB,e,ZB]
theorem qki (r:Rat):r-(r.floor:Rat)=Rat.divInt (r.num%(r.den:Int)) (r.den:Int):=by
 have h:((r.den:Int):Rat)≠0:=by
  rw[Ne,Rat.intCast_eq_zero_iff]
  have:=r.den_pos
  omega
 have e:(r-(r.floor:Rat))*((r.den:Int):Rat)=((r.num%(r.den:Int):Int):Rat):=by
  rw[Rat.sub_eq_add_neg,Rat.add_mul,qqd,Rat.floor_def,Int.emod_def,Rat.intCast_sub,Rat.intCast_mul]
  grind
 rw[Rat.divInt_eq_div,<-e,Rat.mul_div_cancel h]
theorem qmS {r:Rat} {n:Nat} (h:qcu r n):qcu (r-(r.floor:Rat)) n:=by
 rw[qki]
 have j:=r.den_pos
 refine qlA (by omega) ?_ h.2
 refine qbm ?_ h.2
 have:=Int.emod_nonneg r.num (show(r.den:Int)≠0 by omega)
 have:=Int.emod_lt_of_pos r.num (show(0:Int)<(r.den:Int)by omega)
 omega
theorem qlk {x:Rat} {n:Nat} (h:qcu x n):x<=((W^n:Int):Rat)/\ -((W^n:Int):Rat)<=x:=by
 have j:=x.den_pos
 have h1:(x.num.natAbs:Int)<W^n:=h.1
 have hp:(0:Int)<=W^n:=by omega
 have u:W^n*1<=W^n*(x.den:Int):=Yc (by omega) hp
 rw[<-Rat.intCast_neg]
 constructor
 ·rw[Rat.le_iff,Rat.num_intCast,Rat.den_intCast]
  omega
 rw[Rat.le_iff,Rat.num_intCast,Rat.den_intCast,Int.neg_mul]
 omega
theorem qn2 {x:Rat} {n m:Nat} (hx:qcu x n) {c d:Int} (h0:0<=d) (hd:d<=m) (hm:m<=1000) (h1:(c:Rat)-x*(d:Rat)<=1) (h2: -1<=(c:Rat)-x*(d:Rat)):Fit c (n+1):=by
 obtain⟨u,b2⟩:=qlk hx
 have h:(0:Rat)<=(d:Rat):=Rat.intCast_nonneg.2 h0
 have hW:(1:Int)<=W^n:=pow_pos (show(0:Int)<W by decide) n
 have m1:=Rat.mul_le_mul_of_nonneg_right u h
 have m2:=Rat.mul_le_mul_of_nonneg_right b2 h
 have u1:(c:Rat)<=((W^n*d+1:Int):Rat):=by
  rw[Rat.intCast_add,Rat.intCast_mul,show((1:Int):Rat)=1 from rfl]
  grind
 have j:((-(W^n*d+1):Int):Rat)<=(c:Rat):=by
  rw[Rat.intCast_neg,Rat.intCast_add,Rat.intCast_mul,show((1:Int):Rat)=1 from rfl]
  grind
 rw[Rat.intCast_le_intCast]at u1 j
 have m3:W^n*d<=W^n*1000:=Yc (by omega) (by omega)
 have e:W^(n+1)=W^n*W:=Int.pow_succ ..
 have m4:W^n*1001<W^n*W:=Int.mul_lt_mul_of_pos_left (by decide) (by omega)
 unfold Fit
 omega
structure Cvg (x:Rat) (m:Nat) (a b c d:Int) (r:Rat):Prop where
 b0:0<=b
 d0:0<=d
 bm:b<=m
 dm:d<=m
 st:(b=1/\d=0)\/(1<=d/\1<r)
 fr:qcu r 4
 za:Fit a 5
 zc:Fit c 5
 eq:x*((d:Rat)*r+(b:Rat))=(c:Rat)*r+(a:Rat)
 det:c*b-d*a=1\/c*b-d*a= -1
theorem qmN {r:Rat} (h:1<r):1<=r.floor:=by
 rw[Rat.le_floor_iff]
 exact Rat.le_of_lt h
theorem Cvg.next {x:Rat} {m:Nat} {a b c d:Int} {r:Rat} (h:Cvg x m a b c d r) (hm1:1<=m) (hm:m<=1000) (fx:qcu x 4) (hd:d*r.floor+b<=m) (hr:r≠(r.floor:Rat)):
 Cvg x m c d (c*r.floor+a) (d*r.floor+b) (r-(r.floor:Rat))⁻¹/\1<=d*r.floor+b/\b+d+1<=d+(d*r.floor+b)+(if d=0 then 1 else 0):=by
 have j:0<r-(r.floor:Rat):=by
  rw[<-Rat.lt_iff_sub_pos]
  exact Rat.lt_of_le_of_ne (Rat.floor_le _) (Ne.symm hr)
 have hlt:r-(r.floor:Rat)<1:=by
  have:=Rat.lt_floor_add_one r
  rw[Rat.intCast_add,show((1:Int):Rat)=1 from rfl]at this
  grind
 have hne:r-(r.floor:Rat)≠0:=Rat.ne_of_gt j
 have k1:1<=d*r.floor+b/\b+d+1<=d+(d*r.floor+b)+(if d=0 then 1 else 0):=by
  rcases h.st with⟨e1,e2⟩|⟨e1,e2⟩
  ·rw[e1,e2]
   simp
  have f1:=qmN e2
  have:=Yc f1 h.d0
  have:=h.b0
  rw[if_neg (by omega)]
  omega
 have u:=Rat.mul_inv_cancel _ hne
 have hs:(1:Rat)<(r-(r.floor:Rat))⁻¹:=by
  have p:=Rat.inv_pos.2 j
  have:=Rat.mul_lt_mul_of_pos_right hlt p
  rw[u,Rat.one_mul]at this
  exact this
 generalize hg:(r-(r.floor:Rat))⁻¹=s at*
 have er:r=(r.floor:Rat)+s⁻¹:=by
  rw[<-hg,Rat.inv_inv]
  grind
 generalize hk:r.floor=k at*
 have es:(r-(k:Rat))*s=1:=u
 have e2:x*(((d*k+b:Int):Rat)*s+(d:Rat))=((c*k+a:Int):Rat)*s+(c:Rat):=by
  have h1:=h.eq
  rw[Rat.intCast_add,Rat.intCast_mul,Rat.intCast_add,Rat.intCast_mul]
  have h2:x*((d:Rat)*r+(b:Rat))*s=((c:Rat)*r+(a:Rat))*s:=by rw[h1]
  have h3:r*s=1+(k:Rat)*s:=by grind
  have h4:x*((d:Rat)*(r*s)+(b:Rat)*s)=(c:Rat)*(r*s)+(a:Rat)*s:=by grind
  rw[h3]at h4
  grind
 have dt:(c*k+a)*d-(d*k+b)*c=1\/(c*k+a)*d-(d*k+b)*c= -1:=by
  have:(c*k+a)*d-(d*k+b)*c= -(c*b-d*a):=by grind
  rcases h.det with e|e
  ·right;rw[this,e]
  left;rw[this,e];rfl
 refine⟨?_,k1⟩
 have D1:(1:Rat)<=((d*k+b:Int):Rat)*s+(d:Rat):=by
  have a1:(1:Rat)<=((d*k+b:Int):Rat):=by
   have:=Rat.intCast_le_intCast.2 k1.1
   exact this
  have a2:(0:Rat)<=(d:Rat):=Rat.intCast_nonneg.2 h.d0
  have a3:=Rat.mul_le_mul_of_nonneg_right a1 (show(0:Rat)<=s from Rat.le_trans (by decide) (Rat.le_of_lt hs))
  rw[Rat.one_mul]at a3
  have:=Rat.le_of_lt hs
  grind
 have zz:(((c*k+a:Int):Rat)-x*((d*k+b:Int):Rat))*(((d*k+b:Int):Rat)*s+(d:Rat))=(((c*k+a)*d-(d*k+b)*c:Int):Rat):=by
  rw[Rat.intCast_sub,Rat.intCast_mul,Rat.intCast_mul]
  generalize ((c*k+a:Int):Rat)=C at*
  generalize ((d*k+b:Int):Rat)=E at*
  generalize (c:Rat)=c' at*
  generalize (d:Rat)=d' at*
  have:(C-x*E)*(E*s+d')=C*(E*s+d')-E*(x*(E*s+d')):=by grind
  rw[this,e2]
  grind
 have hz:((c*k+a:Int):Rat)-x*((d*k+b:Int):Rat)<=1/\ -1<=((c*k+a:Int):Rat)-x*((d*k+b:Int):Rat):=by
  generalize ((c*k+a:Int):Rat)-x*((d*k+b:Int):Rat)=z at*
  generalize ((d*k+b:Int):Rat)*s+(d:Rat)=D at*
  have hD0:(0:Rat)<=D:=Rat.le_trans (by decide) D1
  have hb:z*D=1\/z*D= -1:=by
   rw[zz]
   rcases dt with e|e
   ·left;rw[e];rfl
   right;rw[e];rfl
  constructor
  ·rw[<-Rat.not_lt]
   intro hc
   have:=Rat.mul_lt_mul_of_pos_right hc (show(0:Rat)<D by grind)
   rw[Rat.one_mul]at this
   grind
  rw[<-Rat.not_lt]
  intro hc
  have:=Rat.mul_lt_mul_of_pos_right hc (show(0:Rat)<D by grind)
  grind
 exact {b0:=h.d0,d0:=by omega,bm:=h.dm,dm:=hd,st:= .inr ⟨k1.1,hs⟩,fr:=by rw[<-hg];exact qjH (by rw[<-hk];exact qmS h.fr) (by omega),za:=h.zc,zc:=qn2 fx (by omega) hd hm hz.1 hz.2,eq:=e2,det:=dt}
end Go.Av
end
section
namespace Go.Av
def qhX (a:qC):Bool:=decide (a.Length<1)||decide (999999999<a.Length)||decide (a.Mass<1)||decide (999999999<a.Mass)
def vG (a:qC):Int:=if qhX a=true then 3 else 0
theorem qkf {a:qC} (h:vG a=0):1<=a.Length/\a.Length<=999999999/\1<=a.Mass/\a.Mass<=999999999:=by
 unfold vG at h
 by_cases c:qhX a=true
 ·rw[if_pos c]at h;omega
 unfold qhX at c
 simp only[Bool.or_eq_true,decide_eq_true_eq,not_or]at c
 omega
theorem qpo (a:qC):vD a=some (vG a):=by
 unfold vD qcR vG qhX
 by_cases h1:a.Length<1
 ·simp[h1]
 by_cases h2:999999999<a.Length
 ·simp[h1,h2]
 by_cases h3:a.Mass<1
 ·simp[h1,h2,h3]
 by_cases h4:999999999<a.Mass
 ·simp[h1,h2,h3,h4]
 simp[h1,h2,h3,h4]
theorem qeH {N:Nat} (hN:10<N) (a b:Int):zA N [a,b]=some (if a=0 then b else a):=by
 obtain⟨K,rfl⟩: ∃K,N=K+1+1+1:=⟨N-3,by omega⟩
 have j:w64 1=1:=rfl
 have u:w64 2=2:=rfl
 have h: ∀a b:Int,idx [a,b] 0=some a:=fun _ _=>rfl
 have i1: ∀a b:Int,idx [a,b] 1=some b:=fun _ _=>rfl
 unfold zA
 by_cases ha:a=0
 ·by_cases hb:b=0
  ·simp[zD,h,i1,ha,hb,j,u]
  simp[zD,h,i1,ha,hb,j,u]
 simp[zD,h,ha]
theorem qmx {N:Nat} (hN:10<N) (a b c:Int):zA N [a,b,c]=some (if a=0 then(if b=0 then c else b)else a):=by
 obtain⟨K,rfl⟩: ∃K,N=K+1+1+1+1:=⟨N-4,by omega⟩
 have j:w64 1=1:=rfl
 have w2:w64 2=2:=rfl
 have w3:w64 3=3:=rfl
 have h: ∀a b c:Int,idx [a,b,c] 0=some a:=fun _ _ _=>rfl
 have u: ∀a b c:Int,idx [a,b,c] 1=some b:=fun _ _ _=>rfl
 have i2: ∀a b c:Int,idx [a,b,c] 2=some c:=fun _ _ _=>rfl
 unfold zA
 by_cases ha:a=0
 ·by_cases hb:b=0
  ·by_cases hc:c=0
   ·simp[zD,h,u,i2,ha,hb,hc,j,w2,w3]
   simp[zD,h,u,i2,ha,hb,hc,j,w2,w3]
  simp[zD,h,u,ha,hb,j,w2]
 simp[zD,h,ha]
theorem qoj {N:Nat} (hN:10<N) (a b:Int):qac N [a,b]=some (if a=0 then b else a):=by
 obtain⟨K,rfl⟩: ∃K,N=K+1+1+1:=⟨N-3,by omega⟩
 have j:w64 1=1:=rfl
 have u:w64 2=2:=rfl
 have h: ∀a b:Int,idx [a,b] 0=some a:=fun _ _=>rfl
 have i1: ∀a b:Int,idx [a,b] 1=some b:=fun _ _=>rfl
 unfold qac
 by_cases ha:a=0
 ·by_cases hb:b=0
  ·simp[jY,h,i1,ha,hb,j,u]
  simp[jY,h,i1,ha,hb,j,u]
 simp[jY,h,ha]
theorem qe3 (n:Int):qam n 1 999999999=some (if n<1\/999999999<n then 3 else 0):=by
 unfold qam jK
 by_cases h1:n<1
 ·simp[h1]
 by_cases h2:999999999<n
 ·simp[h1,h2]
 simp[h1,h2]
theorem qgN {N:Nat} (hN:10<N) (a:qC):jb N a=some (vG a):=by
 unfold jb
 rw[qe3,ZB,qe3,ZB,qeH hN,ZB]
 unfold vG qhX
 by_cases h1:a.Length<1
 ·simp[h1]
 by_cases h2:999999999<a.Length
 ·simp[h1,h2]
 by_cases h3:a.Mass<1
 ·simp[h1,h2,h3]
 by_cases h4:999999999<a.Mass
 ·simp[h1,h2,h3,h4]
 simp[h1,h2,h3,h4]
theorem qkx {N:Nat} (hN:600000<N) {s:Str} (hl:s.length<=600): ∃e,ze N s=some e/\zO N s=some e/\(e=0-> ∃q:Rat,s=T q/\Sml q 600/\0<q):=by
 unfold ze qaP zO jK
 rw[qeB hN (by omega),qeK hN (by omega),ZB,ZB]
 by_cases hc:chk s=0
 ·obtain⟨q,rfl,sq,_⟩:=qpn (by omega) hl hc
  obtain⟨f,u,i1⟩:=qbc hN (sq.mono (show 600<=9000 by omega))
  rw[hc,if_neg (by decide),if_pos rfl,u,ZB,qhU i1,ZB,qgb,ZB]
  by_cases h:q<=0
  ·have j:=(qgQ (q:=q)).2 h
   refine⟨3,?_,?_,fun c=>absurd c (by decide)⟩
   ·rw[if_pos (decide_eq_true (Int.lt_of_le_of_lt j (by decide)))];rfl
   rw[decide_eq_true j];rfl
  have j: ¬_<=(0:Int):=fun c=>h ((qgQ (q:=q)).1 c)
  refine⟨0,?_,?_,fun _=>⟨q,rfl,sq,Rat.not_le.1 h⟩⟩
  ·rw[if_neg (by rw[decide_eq_true_eq];omega)];rfl
  rw[decide_eq_false j];rfl
 refine⟨chk s,?_,?_,fun c=>absurd c hc⟩
 ·rw[if_pos (by simp[hc])];rfl
 rw[if_neg hc];rfl
def qlr (q:Rat):Str×Int:=if qlF q=true then([],4)else(T q,0)
theorem qcp {N:Nat} (hN:600000<N) {f:qB} {q:Rat} (h:IsF f q) (j:qcu q 3900):yA N f=some (qlr q):=by
 unfold yA qlr
 rw[qnQ hN h j,ZB]
 by_cases c:qlF q=true
 ·rw[if_pos c,if_pos c]
 rw[if_neg c,if_neg c,qpw hN h j,ZB]
def scQ (a:qC):Rat:=(a.Mass:Rat)/(a.Length:Rat)
def xh (a:qC) (q:Rat):Rat:=if a.Direct=true then q*scQ a else scQ a/q
def qgm (a:qC) (q:Rat):Rat:=if a.Direct=true then q/scQ a else scQ a/q
theorem qeE {p q:Rat} {n:Nat} (h:0<n) (hp:Sml p (9*n)) (hq:Sml q (9*n)) (j:q≠0):Sml (p/q) (9*(n+n)):=by
 rw[Rat.div_def]
 exact qfv h hp (qpV hq j)
theorem qlZ {a:qC} (h:vG a=0):Sml (a.Mass:Rat) 27/\Sml (a.Length:Rat) 27/\0<(a.Mass:Rat)/\0<(a.Length:Rat):=by
 obtain⟨u,h2,h3,j⟩:=qkf h
 exact⟨qjj (by omega) (by omega),qjj (by omega) (by omega),Rat.intCast_pos.2 (by omega),Rat.intCast_pos.2 (by omega)⟩
theorem qe5 {a:qC} (h:vG a=0):Sml (scQ a) 54/\0<scQ a:=by
 obtain⟨s1,s2,u,j⟩:=qlZ h
 refine⟨qeE (n:=3) (by omega) s1 s2 (Rat.ne_of_gt j),?_⟩
 unfold scQ
 rw[Rat.div_def]
 exact Rat.mul_pos u (Rat.inv_pos.2 j)
theorem qgw {a:qC} (h:vG a=0) {q:Rat} {n:Nat} (hn:6<=n) (hq:Sml q (9*n)) (j:0<q):Sml (xh a q) (9*(n+n))/\0<xh a q:=by
 obtain⟨s1,u⟩:=qe5 h
 unfold xh
 split
 ·exact⟨qfv (by omega) hq (s1.mono (by omega)),Rat.mul_pos j u⟩
 refine⟨qeE (by omega) (s1.mono (by omega)) hq (Rat.ne_of_gt j),?_⟩
 rw[Rat.div_def]
 exact Rat.mul_pos u (Rat.inv_pos.2 j)
theorem qi4 {a:qC} (h:vG a=0) {q:Rat} {n:Nat} (hn:6<=n) (hq:Sml q (9*n)) (u:0<q):Sml (qgm a q) (9*(n+n))/\0<qgm a q:=by
 obtain⟨s1,j⟩:=qe5 h
 unfold qgm
 split
 ·refine⟨qeE (by omega) hq (s1.mono (by omega)) (Rat.ne_of_gt j),?_⟩
  rw[Rat.div_def]
  exact Rat.mul_pos u (Rat.inv_pos.2 j)
 refine⟨qeE (by omega) (s1.mono (by omega)) hq (Rat.ne_of_gt u),?_⟩
 rw[Rat.div_def]
 exact Rat.mul_pos j (Rat.inv_pos.2 u)
theorem qj8 {N:Nat} (hN:600000<N) {a:qC} (h:vG a=0): ∃f,zM N a=some f/\IsF f (scQ a):=by
 obtain⟨h1,h2,h3,h4⟩:=qkf h
 obtain⟨s1,s2,p1,p2⟩:=qlZ h
 obtain⟨f,j,i1⟩:=F_eq (n:=a.Mass) (by omega) (by omega)
 obtain⟨g,u,i2⟩:=F_eq (n:=a.Length) (by omega) (by omega)
 obtain⟨r,e3,i3⟩:=qet hN i1 i2 (n:=2) (by omega) (by omega) (zl s1 (by omega) (by omega)) (zl s2 (by omega) (by omega)) (Rat.ne_of_gt p2)
 refine⟨r,?_,i3⟩
 unfold zM
 rw[j,ZB,u,ZB,e3,ZB]
theorem qka {N:Nat} (hN:600000<N) {a:qC} (h:vG a=0) {g:qB} {q:Rat} (hg:IsF g q) {k:Nat} (hk:54<=k) (hk2:k<=3600) (sq:Sml q k) (h0:0<q): ∃f,jo N a g=some f/\IsF f (xh a q):=by
 obtain⟨f,e1,i1⟩:=qj8 hN h
 obtain⟨s1,p1⟩:=qe5 h
 unfold jo xh
 by_cases c:a.Direct=true
 ·obtain⟨r,j,u⟩:=qgS hN hg i1 (n:=200) (by omega) (zl sq (by omega) (by omega)) (zl s1 (by omega) (by omega))
  refine⟨r,?_,?_⟩
  ·rw[if_pos c,e1,ZB,j,ZB]
  rw[if_pos c];exact u
 obtain⟨r,j,u⟩:=qet hN i1 hg (n:=200) (by omega) (by omega) (zl s1 (by omega) (by omega)) (zl sq (by omega) (by omega)) (Rat.ne_of_gt h0)
 refine⟨r,?_,?_⟩
 ·rw[if_neg c,e1,ZB,j,ZB]
 rw[if_neg c];exact u
theorem qmi {N:Nat} (hN:600000<N) {a:qC} (h:vG a=0) {g:qB} {q:Rat} (hg:IsF g q) {k:Nat} (hk:54<=k) (hk2:k<=3600) (sq:Sml q k) (h0:0<q): ∃f,vz N a g=some f/\IsF f (qgm a q):=by
 obtain⟨f,e1,i1⟩:=qj8 hN h
 obtain⟨s1,p1⟩:=qe5 h
 unfold vz qgm
 by_cases c:a.Direct=true
 ·obtain⟨r,j,u⟩:=qet hN hg i1 (n:=200) (by omega) (by omega) (zl sq (by omega) (by omega)) (zl s1 (by omega) (by omega)) (Rat.ne_of_gt p1)
  refine⟨r,?_,?_⟩
  ·rw[if_pos c,e1,ZB,j,ZB]
  rw[if_pos c];exact u
 obtain⟨r,j,u⟩:=qet hN i1 hg (n:=200) (by omega) (by omega) (zl s1 (by omega) (by omega)) (zl sq (by omega) (by omega)) (Rat.ne_of_gt h0)
 refine⟨r,?_,?_⟩
 ·rw[if_neg c,e1,ZB,j,ZB]
 rw[if_neg c];exact u
theorem qkl {N:Nat} (hN:600000<N) {a:qC} (h:vG a=0) {q:Rat} (sq:Sml q 600) (j:0<q) (hp:ze N (T q)=some 0):qas N a (T q)=some (qlr (xh a q)):=by
 obtain⟨g,u,i1⟩:=qbc hN (sq.mono (show 600<=9000 by omega))
 obtain⟨f,e2,i2⟩:=qka hN h i1 (by omega) (by omega) sq j
 have s2:=(qgw h (n:=67) (by omega) (sq.mono (by omega)) j).1
 unfold qas
 rw[qgN (by omega),ZB,hp,ZB,qeH (by omega),h,if_pos rfl,ZB,if_neg (by decide),u,ZB,e2,ZB,qcp hN i2 (zl s2 (by omega) (by omega)),ZB]
theorem qpO {N:Nat} (hN:600000<N) {a:qC} (h:vG a=0) {q:Rat} (sq:Sml q 600) (j:0<q) (hp:ze N (T q)=some 0):qcc N a (T q)=some (qlr (qgm a q)):=by
 obtain⟨g,u,i1⟩:=qbc hN (sq.mono (show 600<=9000 by omega))
 obtain⟨f,e2,i2⟩:=qmi hN h i1 (by omega) (by omega) sq j
 have s2:=(qi4 h (n:=67) (by omega) (sq.mono (by omega)) j).1
 unfold qcc
 rw[qgN (by omega),ZB,hp,ZB,qeH (by omega),h,if_pos rfl,ZB,if_neg (by decide),u,ZB,e2,ZB,qcp hN i2 (zl s2 (by omega) (by omega)),ZB]
theorem qj3 {N:Nat} (hN:600000<N) {a b:qC} (h:vG a=0) (j:vG b=0) {q:Rat} (sq:Sml q 600) (h0:0<q) (hp:ze N (T q)=some 0):qaw N a b (T q)=some (qlr (qgm b (xh a q))):=by
 obtain⟨g,e1,i1⟩:=qbc hN (sq.mono (show 600<=9000 by omega))
 obtain⟨f,e2,i2⟩:=qka hN h i1 (by omega) (by omega) sq h0
 obtain⟨u,p2⟩:=qgw h (n:=67) (by omega) (sq.mono (by omega)) h0
 obtain⟨f',e3,i3⟩:=qmi hN j i2 (k:=1206) (by omega) (by omega) (u.mono (by omega)) p2
 have s3:=(qi4 j (n:=134) (by omega) (u.mono (by omega)) p2).1
 unfold qaw
 rw[qgN (by omega),ZB,qgN (by omega),ZB,hp,ZB,qmx (by omega),h,j,if_pos rfl,if_pos rfl,ZB,if_neg (by decide),e1,ZB,e2,ZB,e3,ZB,qcp hN i3 (zl s3 (by omega) (by omega)),ZB]
end Go.Av
end
section
namespace Go.Av
end Go.Av
end
section
namespace Go.Av
end Go.Av
end
section
namespace Go.Av
end Go.Av
end
section
namespace Go.Av
theorem qpY {b:qC} (h:vG b=0) {d:Rat} (u:0<d):xh b (qgm b d)=d:=by
 obtain⟨_,p⟩:=qe5 h
 have j:=Rat.ne_of_gt p
 have n2:=Rat.ne_of_gt u
 unfold xh qgm
 split
 ·exact Rat.div_mul_cancel j
 rw[Rat.div_def,Rat.div_def,Rat.inv_mul_rev,Rat.inv_inv]
 rw[Rat.mul_comm d,<-Rat.mul_assoc,Rat.mul_inv_cancel _ j,Rat.one_mul]
theorem qlN {b:qC} (h:vG b=0) {d:Rat} (u:0<d):qgm b (xh b d)=d:=by
 obtain⟨_,p⟩:=qe5 h
 have j:=Rat.ne_of_gt p
 have n2:=Rat.ne_of_gt u
 unfold xh qgm
 split
 ·exact Rat.mul_div_cancel j
 rw[Rat.div_def,Rat.div_def,Rat.inv_mul_rev,Rat.inv_inv]
 rw[Rat.mul_comm d,<-Rat.mul_assoc,Rat.mul_inv_cancel _ j,Rat.one_mul]
theorem qb7 {q:Rat} (h:Sml q 600):qlr q=(T q,0):=by
 unfold qlr
 rw[if_neg (by rw[qoh h];decide)]
theorem qcv {N:Nat} (hN:600000<N) {q:Rat} (h:Sml q 600):(0<q->ze N (T q)=some 0)/\(0<=q->vL N (T q)=some 0):=by
 have hl:=qfh h
 obtain⟨f,j,u⟩:=qbc hN (h.mono (show 600<=9000 by omega))
 constructor
 ·intro h0
  have h1: ¬_<=(0:Int):=fun c=>absurd ((qgQ (q:=q)).1 c) (Rat.not_le.2 h0)
  unfold ze qaP jK
  rw[qeB hN (by omega),ZB,qku h,if_neg (by decide),j,ZB,qhU u,ZB]
  rw[if_neg (by rw[decide_eq_true_eq];omega)];rfl
 intro h0
 have h1:0<=q.num:=Rat.num_nonneg.2 h0
 unfold vL qaP jK
 rw[qeB hN (by omega),ZB,qku h,if_neg (by decide),j,ZB,qhU u,ZB]
 rw[if_neg (by rw[decide_eq_true_eq];split;omega;split<;>omega)];rfl
theorem qor {N:Nat} (hN:600000<N) {q:Rat} (h:Sml q 600) (j:0<q):zO N (T q)=some 0:=by
 have hl:=qfh h
 unfold zO
 have u: ¬_<=(0:Int):=fun c=>absurd ((qgQ (q:=q)).1 c) (Rat.not_le.2 j)
 rw[qeK hN (by omega),ZB,qku h,if_pos rfl,qgb,ZB,decide_eq_false u];rfl
theorem qpa {N:Nat} (hN:600000<N) {q:Rat} (h:Sml q 600) (j:0<=q):qae N (T q)=some 0:=by
 have u:=qfh h
 unfold qae
 have h1:0<=q.num:=Rat.num_nonneg.2 j
 rw[qeK hN (by omega),ZB,qku h,if_pos rfl,qgb,ZB,decide_eq_false (by split;omega;split<;>omega)];rfl
theorem T1n:T (1:Rat)=[49]:=by
 rw[show(1:Rat)=(((1:Nat):Int):Rat)from rfl,<-qqn,zH (by decide)]
 rfl
theorem qq0:T ((1000000:Int):Rat)=[49,48,48,48,48,48,48]:=by
 rw[show((1000000:Int):Rat)=(((1000000:Nat):Int):Rat)from rfl,<-qqn,qbs (by decide),qbs (by decide),qbs (by decide),qbs (by decide),qbs (by decide),qbs (by decide),zH (by decide)]
 rfl
theorem qbZ {n:Int} (j: -9223372036854775808<=n) (u:n<=9223372036854775807) {k:Nat} (h:27<=k):Sml (n:Rat) k:=(qjj j u).mono h
abbrev zY (s:Str):qbL:=⟨[122],s,[48],([(⟨[48],[49]⟩:qP)]:List qP),[]⟩
theorem qpv {N:Nat} (hN:10<N):zA N [0,0,0,0,0,0]=some 0:=by
 obtain⟨K,rfl⟩: ∃K,N=K+1+1+1+1+1+1+1:=⟨N-7,by omega⟩
 rfl
theorem qpk {N:Nat} (hN:600000<N) {d:Rat} (h:Sml d 600) (h0:0<d):vZ N (zY (T d))=some 0:=by
 have j:Sml (0:Rat) 600:=qbZ (n:=0) (by omega) (by omega) (by omega)
 have s1:Sml (1:Rat) 600:=qbZ (n:=1) (by omega) (by omega) (by omega)
 have u:=(qcv hN j).2 Rat.le_refl
 have n1:=(qcv hN s1).2 (by decide)
 have c0:=qku j
 rw[T0]at u c0
 rw[T1n]at n1
 have P:xH N ⟨[48],[49]⟩ []=some 0:=by
  unfold xH
  simp only
  rw[u,ZB,n1,ZB,qeH (by omega)]
  rfl
 have E:yj N [(⟨[48],[49]⟩:qP)] 256=some 0:=by
  obtain⟨K,hK⟩: ∃K,N=K+1+1:=⟨N-2,by omega⟩
  unfold yj
  rw[if_neg (show¬(([(⟨[48],[49]⟩:qP)]:List qP).length:Int)>256 by decide)]
  have e:qG N [(⟨[48],[49]⟩:qP)] N 0=some (.inl ()):=by
   rw[show qG N [(⟨[48],[49]⟩:qP)] N 0=qG N [(⟨[48],[49]⟩:qP)] (K+1+1) 0 by rw[<-hK],qG,if_pos (show(0:Int)<(([(⟨[48],[49]⟩:qP)]:List qP).length:Int)by decide),show idx [(⟨[48],[49]⟩:qP)] 0=some ⟨[48],[49]⟩from rfl,ZB,show cut [(⟨[48],[49]⟩:qP)] 0 0=some []from rfl,ZB,P,ZB,if_neg (by decide),show w64 (0+1)=1 from rfl,qG,if_neg (show¬(1:Int)<(([(⟨[48],[49]⟩:qP)]:List qP).length:Int)by decide)]
  rw[e];rfl
 unfold vZ qdl qby
 simp only
 rw[qmM (s:=[122]) (show 1<N by omega),ZB,show qlO [122]=true by decide,(qcv hN h).1 h0,qeB hN (show([48]:Str).length<=10000 by decide),c0,E]
 unfold jK
 exact(by rw[qpv (show 10<N by omega)];rfl:((zA N [0,0,0,0,0,0]).bind fun r7=>some r7)=some 0)
theorem qok {N:Nat} (hN:600000<N) {d q:Rat} (h:Sml d 108) (d0:0<d) (sq:Sml q 108) (q0:0<=q):qdb N (zY (T d)) (T q)=some (T (d*q),0):=by
 obtain⟨f,u,i1⟩:=qbc hN (h.mono (show 108<=9000 by omega))
 obtain⟨g,e2,i2⟩:=qbc hN (sq.mono (show 108<=9000 by omega))
 obtain⟨r,e3,i3⟩:=qgS hN i1 i2 (n:=200) (by omega) (zl h (by omega) (by omega)) (zl sq (by omega) (by omega))
 have j:Sml (d*q) 216:=qfv (n:=12) (by omega) h sq
 unfold qdb
 rw[qpk hN (h.mono (by omega)) d0,ZB,(qcv hN (sq.mono (by omega))).2 q0,ZB,qeH (by omega),if_pos rfl,ZB,if_neg (by decide)]
 simp only
 rw[u,ZB,e2,ZB,e3,ZB,qcp hN i3 (zl j (by omega) (by omega)),qb7 (j.mono (by omega)),ZB]
theorem qp2 {N:Nat} (hN:600000<N) {d m:Rat} (j:Sml d 216) (u:0<d) (h:Sml m 216) (m0:0<=m):qbE N (zY (T d)) (T m)=some (T (m/d),0):=by
 obtain⟨f,e1,i1⟩:=qbc hN (j.mono (show 216<=9000 by omega))
 obtain⟨g,e2,i2⟩:=qbc hN (h.mono (show 216<=9000 by omega))
 obtain⟨r,e3,i3⟩:=qet hN i2 i1 (n:=200) (by omega) (by omega) (zl h (by omega) (by omega)) (zl j (by omega) (by omega)) (Rat.ne_of_gt u)
 have s3:Sml (m/d) 432:=qeE (n:=24) (by omega) h j (Rat.ne_of_gt u)
 unfold qbE
 rw[qpk hN (j.mono (by omega)) u,ZB,(qcv hN (h.mono (by omega))).2 m0,ZB,qeH (by omega),if_pos rfl,ZB,if_neg (by decide)]
 simp only
 rw[e2,ZB,e1,ZB,e3,ZB,qcp hN i3 (zl s3 (by omega) (by omega)),qb7 (s3.mono (by omega)),ZB]
def qdh (q:Rat):Int:= -((-q).floor)
theorem qjF (q:Rat):q<=(qdh q:Rat):=by
 have:=Rat.floor_le (-q)
 unfold qdh
 rw[Rat.intCast_neg]
 grind
theorem qoC (q:Rat):(qdh q:Rat)-1<q:=by
 have:=Rat.lt_floor (x:= -q)
 unfold qdh
 rw[Rat.intCast_neg]
 grind
theorem qpP {N:Nat} (hN:600000<N) {d q:Rat} (j:Sml d 108) (d0:0<d) (sq:Sml q 108) (q0:0<=q):qaY N (zY (T d)) 100 (T q)=some (if 999999999<qdh (d*q/100)then(0,4)else(qdh (d*q/100),0)):=by
 obtain⟨f,e1,i1⟩:=qbc hN (j.mono (show 108<=9000 by omega))
 obtain⟨g,e2,i2⟩:=qbc hN (sq.mono (show 108<=9000 by omega))
 obtain⟨r,e3,i3⟩:=qgS hN i1 i2 (n:=200) (by omega) (zl j (by omega) (by omega)) (zl sq (by omega) (by omega))
 have s3:Sml (d*q) 216:=qfv (n:=12) (by omega) j sq
 obtain⟨c,e4,i4⟩:=F_eq (n:=100) (by omega) (by omega)
 have sc:Sml ((100:Int):Rat) 216:=qbZ (by omega) (by omega) (by omega)
 have c0:((100:Int):Rat)≠0:=by decide
 obtain⟨x,e5,i5⟩:=qet hN i3 i4 (n:=200) (by omega) (by omega) (zl s3 (by omega) (by omega)) (zl sc (by omega) (by omega)) c0
 have s5:Sml (d*q/((100:Int):Rat)) 432:=qeE (n:=24) (by omega) s3 sc c0
 obtain⟨y,e6,i6⟩:=qp4 i5
 obtain⟨z,e7,i7⟩:=qmX hN i6 (zl (qlS s5) (by omega) (by omega))
 obtain⟨w,e8,i8⟩:=qfd i7
 have hc:((100:Int):Rat)=100:=rfl
 rw[hc]at i8
 have h0:0<=qdh (d*q/100):=by
  have h1:0<=d*q/100:=by
   rw[Rat.div_def]
   exact Rat.mul_nonneg (Rat.mul_nonneg (Rat.le_of_lt d0) q0) (Rat.le_of_lt (Rat.inv_pos.2 (by decide)))
  have h2:=Rat.le_trans h1 (qjF _)
  exact Rat.intCast_nonneg.1 h2
 change IsZ w (qdh (d*q/100))at i8
 unfold qaY qbx qbw
 rw[qpk hN (j.mono (by omega)) d0,ZB,qe3,if_neg (by omega),ZB,(qcv hN (sq.mono (by omega))).2 q0,ZB,qmx (by omega),if_pos rfl,if_pos rfl,ZB,if_neg (by decide)]
 simp only
 rw[e1,ZB,e2,ZB,e3,ZB,e4,ZB,e5,ZB,e6,ZB,e7,ZB,e8,ZB,ZB,ZB]
 rcases i8 with⟨u,w2,_⟩|⟨_,u,w2,_⟩
 ·rw[u,w2]
  by_cases h:999999999<qdh (d*q/100)
  ·simp[h]
  simp[h]
 rw[show w.w.isEmpty=false by simpa using u]
 rw[if_pos (by rfl),ZB,if_pos rfl,if_pos (by omega)]
theorem neg1:w64 (0- -1)=1:=rfl
theorem neg0:w64 (0-0)=0:=rfl
theorem neg1':w64 (0-1)= -1:=rfl
theorem qiR {a:qC} (h:vG a=0) {p q:Rat} (p0:0<p) (q0:0<q) (j:p<q):if a.Direct=true then xh a p<xh a q else xh a q<xh a p:=by
 obtain⟨_,u⟩:=qe5 h
 unfold xh
 split
 ·exact Rat.mul_lt_mul_of_pos_right j u
 rw[Rat.div_lt_iff q0,Rat.div_def,Rat.mul_assoc]
 have h1:1<p⁻¹*q:=by
  rw[Rat.mul_comm,<-Rat.div_def,Rat.lt_div_iff p0,Rat.one_mul]
  exact j
 have:=Rat.mul_lt_mul_of_pos_left h1 u
 rw[Rat.mul_one]at this
 exact this
theorem qgj {N:Nat} (hN:600000<N) (a b:qC) (n:Str×Str):qaJ N a b n=some true:=by
 obtain⟨s,t⟩:=n
 unfold qaJ
 simp only
 obtain⟨u,hu,fu⟩:=qny hN (s:=s) (d:=9) (by omega) (by omega)
 obtain⟨v,hv,fv⟩:=qny hN (s:=t) (d:=9) (by omega) (by omega)
 have aw: ∀x:Bool->Option Bool,((some true:Option Bool).bind fun b12=>if b12=true then awk.bind fun r15=>some r15 else x b12)=some true:=fun x=>rfl
 simp only[qpo,ZB,qoj (show 10<N by omega)]
 by_cases hs:(if vG a=0 then vG b else vG a)=0
 case neg=>rw[if_pos (by rw[decide_eq_false hs];rfl)];rfl
 rw[if_neg (by rw[decide_eq_true hs];decide),show(9:Int)=((9:Nat):Int)from rfl,hu,ZB,hv]
 have hA:vG a=0/\vG b=0:=by
  split at hs
  ·rename_i c;exact⟨c,hs⟩
  rename_i c;exact absurd hs c
 obtain⟨ha,hb⟩:=hA
 cases u with
 |false=>rw[if_pos (show(!false)=true from rfl)];rfl
 |true=>
 rw[if_neg (show¬(!true)=true by decide),ZB]
 cases v with
 |false=>rw[if_pos (show(!false)=true from rfl)];rfl
 |true=>
 rw[if_neg (show¬(!true)=true by decide)]
 obtain⟨p,rfl,sp,cp⟩:=fu rfl
 obtain⟨q,rfl,sq,cq⟩:=fv rfl
 have lp:=qfh sp
 have lq:=qfh sq
 obtain⟨e1,x1,y1,z1⟩:=qkx hN (s:=T p) (by omega)
 obtain⟨e2,x2,y2,z2⟩:=qkx hN (s:=T q) (by omega)
 rw[y1,ZB,y2,ZB,ZB]
 by_cases he:(if e1=0 then e2 else e1)=0
 case neg=>rw[decide_eq_false he];rfl
 rw[decide_eq_true he,if_neg (show¬(!true)=true by decide)]
 have hE:e1=0/\e2=0:=by
  split at he
  ·rename_i c;exact⟨c,he⟩
  rename_i c;exact absurd he c
 obtain⟨rfl,rfl⟩:=hE
 have p0:0<p:=by
  obtain⟨p',e,_,h⟩:=z1 rfl
  rw[qpb e];exact h
 have q0:0<q:=by
  obtain⟨p',e,_,h⟩:=z2 rfl
  rw[qpb e];exact h
 have j:Sml p 600:=sp.mono (by omega)
 have sq':Sml q 600:=sq.mono (by omega)
 obtain⟨sd,d0⟩:=qgw ha (n:=6) (by omega) (sp.mono (by omega)) p0
 obtain⟨so,o0⟩:=qgw ha (n:=6) (by omega) (sq.mono (by omega)) q0
 obtain⟨sc,c0⟩:=qi4 hb (n:=12) (by omega) (sd.mono (by omega)) d0
 have sd':Sml (xh a p) 600:=sd.mono (by omega)
 have so':Sml (xh a q) 600:=so.mono (by omega)
 have sc':Sml (qgm b (xh a p)) 600:=sc.mono (by omega)
 rw[qj3 hN ha hb j p0 x1,qb7 sc',ZB]
 simp only
 rw[qj3 hN hb ha sc' c0 ((qcv hN sc').1 c0),qpY hb d0,qlN ha p0,qb7 j,ZB,qkl hN ha j p0 x1,qb7 sd',ZB]
 simp only
 rw[qpO hN ha sd' d0 ((qcv hN sd').1 d0),qlN ha p0,qb7 j,ZB,qkl hN ha sq' q0 x2,qb7 so',ZB]
 simp only
 rw[if_neg (by decide),if_neg (by decide),if_neg (by decide),if_neg (by decide),if_neg (by decide),if_neg (by simp),if_neg (by simp),qor hN sd' d0,ZB,qor hN so' o0,ZB,if_pos rfl,ZB,if_neg (by decide),qfn hN (k:=600) (by omega) (by omega) j sq',ZB]
 have O:(if(!a.Direct)=true then some (w64 (0-(if p<q then-1 else if p=q then 0 else 1:Int)))else some (if p<q then-1 else if p=q then 0 else 1:Int):Option Int)=some (if xh a p<xh a q then-1 else if xh a p=xh a q then 0 else 1:Int):=by
  by_cases h1:p<q
  ·have h:=qiR ha p0 q0 h1
   rw[if_pos h1]
   by_cases c:a.Direct=true
   ·rw[if_pos c]at h
    rw[if_neg (by simp[c]),if_pos h]
   rw[if_neg c]at h
   rw[if_pos (by simpa using c),neg1,if_neg (Rat.not_lt.2 (Rat.le_of_lt h)),if_neg (fun e=>absurd h (by rw[e];exact Rat.lt_irrefl))]
  by_cases h2:p=q
  ·subst h2
   rw[if_neg h1,if_pos rfl,if_neg Rat.lt_irrefl,if_pos rfl,neg0]
   split<;>rfl
  have h3:q<p:=by grind
  have h:=qiR ha q0 p0 h3
  rw[if_neg h1,if_neg h2]
  by_cases c:a.Direct=true
  ·rw[if_pos c]at h
   rw[if_neg (by simp[c]),if_neg (Rat.not_lt.2 (Rat.le_of_lt h)),if_neg (fun e=>absurd h (by rw[e];exact Rat.lt_irrefl))]
  rw[if_neg c]at h
  rw[if_pos (by simpa using c),neg1',if_pos h]
 rw[O,ZB,qfn hN (k:=600) (by omega) (by omega) sd' so',ZB,if_neg (by simp)]
 have sm:Sml (xh a p*q) 216:=qfv (n:=12) (by omega) sd (sq.mono (by omega))
 have m0:0<=xh a p*q:=Rat.mul_nonneg (Rat.le_of_lt d0) (Rat.le_of_lt q0)
 have sm':Sml (xh a p*q) 600:=sm.mono (by omega)
 rw[qok hN sd d0 (sq.mono (by omega)) (Rat.le_of_lt q0),ZB]
 simp only
 rw[qp2 hN (sd.mono (by omega)) d0 sm m0,Rat.mul_comm (xh a p) q,Rat.mul_div_cancel (Rat.ne_of_gt d0),Rat.mul_comm q,ZB]
 simp only
 rw[if_neg (by decide),if_neg (by decide),if_neg (by simp),qpa hN sm' m0,ZB,ZB,if_neg (by decide),qpP hN sd d0 (sq.mono (by omega)) (Rat.le_of_lt q0),ZB]
 have L:=qjF (xh a p*q/100)
 have U:=qoC (xh a p*q/100)
 have hd:xh a p*q/100*100=xh a p*q:=Rat.div_mul_cancel (by decide)
 have h100:(0:Rat)<100:=by decide
 have L':=Rat.mul_le_mul_of_nonneg_right L (Rat.le_of_lt h100)
 have U':=Rat.mul_lt_mul_of_pos_right U h100
 rw[hd]at L' U'
 by_cases h:999999999<qdh (xh a p*q/100)
 ·rw[if_pos h]
  simp only
  rw[if_pos trivial,<-qq0,qfn hN (k:=600) (by omega) (by omega) sm' (qbZ (by omega) (by omega) (by omega)),ZB]
  have h1:((1000000000:Int):Rat)<=(qdh (xh a p*q/100):Rat):=Rat.intCast_le_intCast.2 (by omega)
  have h2:((1000000000:Int):Rat)=1000000000:=rfl
  have h3:((1000000:Int):Rat)=1000000:=rfl
  have h4:((1000000:Int):Rat)<xh a p*q:=by
   rw[h2]at h1
   rw[h3]
   grind
  have ne: ¬xh a p*q=((1000000:Int):Rat):=fun e=>absurd h4 (by rw[e];exact Rat.lt_irrefl)
  rw[if_neg (Rat.not_lt.2 (Rat.le_of_lt h4)),if_neg ne,if_pos (by decide)]
  rfl
 have hn:0<=qdh (xh a p*q/100):=by
  have h1:0<=xh a p*q/100:=by
   rw[Rat.div_def]
   exact Rat.mul_nonneg m0 (Rat.le_of_lt (Rat.inv_pos.2 (by decide)))
  exact Rat.intCast_nonneg.1 (Rat.le_trans h1 L)
 rw[if_neg h]
 simp only
 generalize qdh (xh a p*q/100)=z at*
 have w1:w64 (100*z)=100*z:=qf (by omega) (by omega)
 have w2:w64 (100*z-100)=100*z-100:=qf (by omega) (by omega)
 rw[if_neg (by decide),if_pos trivial,w1,w2,qhO (by omega) (by omega) (by omega),ZB,qfn hN (k:=600) (by omega) (by omega) sm' (qbZ (by omega) (by omega) (by omega)),ZB]
 have h1:xh a p*q<=((100*z:Int):Rat):=by
  rw[Rat.intCast_mul]
  have:((100:Int):Rat)=100:=rfl
  grind
 have h2:((100*z-100:Int):Rat)<xh a p*q:=by
  rw[Rat.intCast_sub,Rat.intCast_mul]
  have:((100:Int):Rat)=100:=rfl
  grind
 rw[if_pos (by split;omega;split;omega;exact absurd h1 (by grind)),qhO (by omega) (by omega) (by omega),ZB,qfn hN (k:=600) (by omega) (by omega) sm' (qbZ (by omega) (by omega) (by omega)),ZB]
 have ne: ¬xh a p*q=((100*z-100:Int):Rat):=fun e=>absurd h2 (by rw[e];exact Rat.lt_irrefl)
 rw[if_neg (Rat.not_lt.2 (Rat.le_of_lt h2)),if_neg ne,if_pos (by decide)]
 rfl
end Go.Av
end
