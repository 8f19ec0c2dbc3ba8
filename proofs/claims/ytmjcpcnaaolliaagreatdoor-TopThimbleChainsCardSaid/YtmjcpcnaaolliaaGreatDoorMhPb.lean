/-
  The program's numerals.
-/
import Derived.Test.YtmjcpcnaaolliaaGreatDoorMhPa
import Derived.Test.YtmjcpcnaaolliaaGreatDoorAvPt
noncomputable section
set_option linter.unusedVariables false
set_option linter.unusedSimpArgs false
set_option maxRecDepth 100000
section
namespace Go.Av
theorem and1 {n:Nat} (h:n<4611686018427387904):qy .i64 (n:Int) 1=((n%2:Nat):Int):=by
 show IntKind.wrap .i64 _=_
 have e:(BitVec.ofInt IntKind.i64.bits (n:Int)&&&BitVec.ofInt IntKind.i64.bits 1).toNat=n%2:=by
  rw[BitVec.toNat_and]
  show(BitVec.ofInt 64 (n:Int)).toNat&&&(BitVec.ofInt 64 1).toNat=_
  rw[qbw (by omega) (by omega),qbw (by omega) (by omega)]
  exact Nat.and_one_is_mod n
 rw[e]
 show w64 _=_
 exact qh (by omega) (by omega)
theorem shr1 (n:Nat):ql .i64 (n:Int) 1=((n/2:Nat):Int):=by
 show(n:Int).fdiv 2=_
 rw[Int.fdiv_eq_ediv_of_nonneg _ (by decide)]
 omega
theorem qnw {N:Nat} (hN:11000<N): ∀(K n:Nat) (b acc:qj) (x y:Int) (mb ma:Nat),n<100000->n<K->IsZ b x->IsZ acc y->Fit x mb->Fit y ma->ma+mb*n<=3900->
 ∃r,jE N K b.s b.w acc.s acc.w (n:Int)=some (r.s,r.w)/\IsZ r (y*x^n)
 |0,n,_,_,_,_,_,_,_,h,_,_,_,_,_=>by omega
 |K+1,n,b,acc,x,y,mb,ma,hn,hK,hb,hacc,fx,fy,hm=>by
  rw[jE]
  by_cases h0:n=0
  ·subst h0
   rw[if_neg (by omega)]
   exact⟨acc,rfl,by simpa using hacc⟩
  have hmb:mb<=mb*n:=Nat.le_mul_of_pos_right _ (by omega)
  obtain⟨m,r,hr,hmr⟩: ∃m r,r<2/\n=2*m+r:=⟨n/2,n%2,by omega,by omega⟩
  have emb:mb*n=mb*m+mb*m+mb*r:=by rw[hmr,Nat.mul_add,<-Nat.mul_assoc,Nat.mul_comm mb 2,Nat.two_mul,Nat.add_mul]
  have S1: ∃(a2:qj) (m2:Nat),(if(qy .i64 (n:Int) 1)=1 then(qU N (⟨acc.s,acc.w⟩:qj) (⟨b.s,b.w⟩:qj)).bind fun r20=>some (r20.s,r20.w)else some (acc.s,acc.w):Option (Int×(List Int)))=some (a2.s,a2.w)/\IsZ a2 (y*x^r)/\Fit (y*x^r) m2/\m2=ma+mb*r:=by
   rw[and1 (by omega),show n%2=r by omega]
   rcases(show r=0\/r=1 by omega)with e|e<;>subst e
   ·rw[if_neg (by simp)]
    exact⟨acc,ma,rfl,by simpa using hacc,by simpa using fy,by simp⟩
   obtain⟨p,e1,h1⟩:=qex hN hacc hb (fy.mono (by omega)) (fx.mono (by omega))
   have e1:qU N (⟨acc.s,acc.w⟩:qj) (⟨b.s,b.w⟩:qj)=some p:=e1
   rw[if_pos (by simp),e1,ZB]
   exact⟨p,ma+mb,rfl,by rw[Int.pow_one];exact h1,by rw[Int.pow_one];exact qb0 fy fx,by simp⟩
  obtain⟨a2,m2,e1,h1,f1,em2⟩:=S1
  have S2: ∃(b2:qj) (x2:Int) (m3:Nat),(if(n:Int)>1 then(qU N (⟨b.s,b.w⟩:qj) (⟨b.s,b.w⟩:qj)).bind fun r22=>some (r22.s,r22.w,a2.s,a2.w)else some (b.s,b.w,a2.s,a2.w):Option (Int×(List Int)×Int×(List Int)))=some (b2.s,b2.w,a2.s,a2.w)/\IsZ b2 x2/\Fit x2 m3/\m3*m=mb*m+mb*m/\x2^m=(x*x)^m:=by
   by_cases c:(n:Int)>1
   ·have hm1:1<=m:=by omega
    have h3:mb<=mb*m:=Nat.le_mul_of_pos_right _ hm1
    obtain⟨p,e2,h2⟩:=qex hN hb hb (fx.mono (by omega)) (fx.mono (by omega))
    have e2:qU N (⟨b.s,b.w⟩:qj) (⟨b.s,b.w⟩:qj)=some p:=e2
    rw[if_pos c,e2,ZB]
    exact⟨p,x*x,mb+mb,rfl,h2,qb0 fx fx,Nat.add_mul _ _ _,rfl⟩
   have hm0:m=0:=by omega
   subst hm0
   rw[if_neg c]
   exact⟨b,x,mb,rfl,hb,fx,by simp,by simp⟩
  obtain⟨b2,x2,m3,e2,h2,f2,em3,ex⟩:=S2
  have S:((if(qy .i64 (n:Int) 1)=1 then(qU N (⟨acc.s,acc.w⟩:qj) (⟨b.s,b.w⟩:qj)).bind fun r20=>some (r20.s,r20.w)else some (acc.s,acc.w):Option (Int×(List Int)))).bind (fun(n16,l17)=>
   if(n:Int)>1 then(qU N (⟨b.s,b.w⟩:qj) (⟨b.s,b.w⟩:qj)).bind fun r22=>some (r22.s,r22.w,n16,l17)else some (b.s,b.w,n16,l17))=some (b2.s,b2.w,a2.s,a2.w):=by
   rw[e1,ZB]
   exact e2
  obtain⟨r',e3,h3⟩:=qnw hN K m b2 a2 x2 (y*x^r) m3 m2 (by omega) (by omega) h2 h1 f2 f1 (by omega)
  rw[if_pos (by omega),S,ZB]
  simp only
  rw[shr1,show n/2=m by omega]
  refine⟨r',e3,?_⟩
  have hx2:x*x=x^2:=by rw[Int.pow_succ,Int.pow_succ,Int.pow_zero,Int.one_mul]
  rw[ex,Int.mul_assoc,hx2,<-Int.pow_mul,<-Int.pow_add,show r+2*m=n by omega]at h3
  exact h3
theorem qpa {N:Nat} (hN:110000<N) {b:qj} {x:Int} {n mb:Nat} (hn:n<100000) (hb:IsZ b x) (fx:Fit x mb) (hm:1+mb*n<=3900): ∃r,qbb N b (n:Int)=some r/\IsZ r (x^n):=by
 obtain⟨r,e,h⟩:=qnw (N:=N) (by omega) N n b ⟨1,[]⟩ x 1 mb 1 hn (by omega) hb (Ud (by decide) (by decide)) fx (F1 (by omega)) hm
 have e:jE N N b.s b.w 1 [] (n:Int)=some (r.s,r.w):=e
 unfold qbb
 rw[qgA,ZB]
 simp only
 rw[e,ZB]
 exact⟨r,rfl,by rw[Int.one_mul]at h;exact h⟩
theorem qeA {z:Int} {p n:Nat} (h:(z.natAbs:Int)<((10^p:Nat):Int)) (hp:p<=19*n):Fit z n:=by
 have h1:(10:Nat)^p<=10^(19*n):=Nat.pow_le_pow_right (by omega) hp
 have h2:((10^(19*n):Nat):Int)<=W^n:=by
  rw[Nat.pow_mul]
  have:=(qdO (x:=10000000000000000000) (y:=W) (by decide) (by decide) n).2
  rw[Int.natCast_pow]
  exact this
 unfold Fit
 omega
theorem qbI (s:Str):strings_HasPrefix s [45]=some (sgn s):=by
 unfold strings_HasPrefix stringslite_HasPrefix sgn
 cases s with
 |nil=>rfl
 |cons c t=>
  rw[if_pos (by simp;omega)]
  have e:cut (c::t) 0 (([45]:Str).length:Int)=some [c]:=y7 (l:=c::t) (k:=1) (by simp)
  rw[e]
  simp only[ZB,Yj]
  congr 1
  rw[Bool.eq_iff_iff,beq_iff_eq,decide_eq_true_eq]
  constructor
  ·intro h;injection h with h;rw[h]
  intro h;rw[Ye h]
theorem qk6 {s:Str} (h:sgn s=true):1<=s.length:=by
 cases s with
 |nil=>simp[sgn]at h
 |cons=>simp
theorem qed (s:Str):strings_TrimPrefix s [45]=some (bdy s):=by
 unfold strings_TrimPrefix stringslite_TrimPrefix
 have e:stringslite_HasPrefix s [45]=some (sgn s):=by
  have:=qbI s
  unfold strings_HasPrefix at this
  cases h:stringslite_HasPrefix s [45]with
  |none=>rw[h]at this;cases this
  |some b=>rw[h]at this;exact this
 rw[e,ZB]
 unfold bdy
 cases h:sgn s with
 |false=>rw[if_neg (by simp),if_neg (by simp),ZB]
 |true=>
  have e2:cut s (([45]:Str).length:Int) (s.length:Int)=some (s.drop 1):=qad (qk6 h)
  rw[if_pos rfl,if_pos rfl,e2,ZB,ZB]
theorem qiv (s:Str):strings_CutPrefix s [45]=some (bdy s,sgn s):=by
 unfold strings_CutPrefix stringslite_CutPrefix
 have e:stringslite_HasPrefix s [45]=some (sgn s):=by
  have:=qbI s
  unfold strings_HasPrefix at this
  cases h:stringslite_HasPrefix s [45]with
  |none=>rw[h]at this;cases this
  |some b=>rw[h]at this;exact this
 rw[e,ZB]
 unfold bdy
 cases h:sgn s with
 |false=>rw[if_pos (by simp),if_neg (by simp),ZB]
 |true=>
  have e2:cut s (([45]:Str).length:Int) (s.length:Int)=some (s.drop 1):=qad (qk6 h)
  rw[if_neg (by simp),if_pos rfl,e2,ZB,ZB]
theorem qkG {N:Nat} (hN:600000<N): ∀(K:Nat) (x:qj) (y:Int) (s:Str) (p:Nat),IsZ x y->0<=y->y<((10^p:Nat):Int)->p+s.length<=19000->s.all vC=true->s.length<K->
 ∃r,yN N K x.s x.w s=some (r.s,r.w)/\IsZ r (y*((10^s.length:Nat):Int)+(qL 0 s:Nat))
 |0,_,_,_,_,_,_,_,_,_,h=>by omega
 |K+1,x,y,s,p,hx,y0,y1,hp,hd,hK=>by
  rw[yN]
  by_cases h0:s.length=0
  ·rw[if_neg (by omega)]
   have:s=[]:=YL.1 h0
   subst this
   exact⟨x,rfl,by simpa[qbG]using hx⟩
  rw[if_pos (by omega)]
  obtain⟨g,hg,hg0,hgl,hg18⟩: ∃g:Nat,(if(s.length:Int)<18 then(s.length:Int)else 18)=(g:Int)/\0<g/\g<=s.length/\g<=18:=by
   by_cases c:(s.length:Int)<18
   ·exact⟨s.length,by rw[if_pos c],by omega,by omega,by omega⟩
   exact⟨18,by rw[if_neg c];rfl,by omega,by omega,by omega⟩
  have lt:(s.take g).length=g:=by rw[Ym];omega
  have ea:=qjv (s:=s.take g) (by omega) (qhi hd g)
  have et:qjr (s.take g)=some (((qL 0 (s.take g):Nat):Int),()):=by
   unfold qjr
   rw[if_pos (by omega),ea]
   rfl
  have hv:=qdZ (s.take g) 0 (qhi hd g)
  rw[lt]at hv
  have hp18:(10:Nat)^g<=10^18:=Nat.pow_le_pow_right (by omega) hg18
  have h18:(10:Nat)^18=1000000000000000000:=rfl
  rw[hg,y7 hgl,ZB,et,ZB,qgA,ZB]
  obtain⟨r1,e1,h1⟩:=qpa (N:=N) (by omega) (b:=⟨10,[]⟩) (x:=10) (n:=g) (mb:=1) (by omega) (Ud (by decide) (by decide)) (qeA (p:=2) (by decide) (by omega)) (by omega)
  have ep:(10:Int)^g=((10^g:Nat):Int):=by rw[Int.natCast_pow];rfl
  rw[ep]at h1
  have fg:Fit ((10^g:Nat):Int) 1000:=qeA (p:=19) (by
   rw[Int.natAbs_natCast]
   have h19:(10:Nat)^19=10000000000000000000:=rfl
   omega) (by omega)
  have fy:Fit y 1000:=qeA (p:=p) (by omega) (by omega)
  have hpos:0<10^g:=Nat.pow_pos (by decide)
  have yg0:0<=y*((10^g:Nat):Int):=Yv y0 (by omega)
  have yg1:(y+1)*((10^g:Nat):Int)<=((10^(p+g):Nat):Int):=by
   rw[Nat.pow_add,Int.natCast_mul]
   exact Int.mul_le_mul_of_nonneg_right (by omega) (by omega)
  rw[Int.add_mul,Int.one_mul]at yg1
  obtain⟨r2,e2,h2⟩:=qex (N:=N) (by omega) hx h1 (fy.mono (by omega)) (fg.mono (by omega))
  have e2:qU N (⟨x.s,x.w⟩:qj) r1=some r2:=e2
  have hd2:IsZ ⟨((qL 0 (s.take g):Nat):Int),[]⟩ ((qL 0 (s.take g):Nat):Int):=Ud (by omega) (by omega)
  obtain⟨r3,e3,h3⟩:=qkg (N:=N) (by omega) h2 hd2 (qeA (p:=p+g) (by omega) (by omega)) (qeA (p:=19) (by
   rw[Int.natAbs_natCast]
   have h19:(10:Nat)^19=10000000000000000000:=rfl
   omega) (by omega))
  rw[e1,ZB,e2,ZB,qgA,ZB,e3,ZB,qad hgl,ZB]
  have ld:(s.drop g).length=s.length-g:=by rw[YJ]
  obtain⟨r,e4,h4⟩:=qkG hN K r3 _ (s.drop g) (p+g) h3 (by omega) (by omega) (by omega) (qgJ hd g) (by omega)
  refine⟨r,e4,?_⟩
  have e5:=qdf (s.take g) (s.drop g)
  rw[YS]at e5
  have e6:(10:Nat)^s.length=10^g*10^(s.drop g).length:=by rw[<-Nat.pow_add,ld];congr 1;omega
  rw[e5,e6]
  rw[Int.add_mul]at h4
  rw[Int.natCast_mul,Int.natCast_add,Int.natCast_mul,<-Int.mul_assoc,<-Int.add_assoc]
  exact h4
theorem qga {N:Nat} (hN:600000<N) {s:Str} (hd:(bdy s).all vC=true) (hl:(bdy s).length<=19000): ∃r,qaF N s=some r/\IsZ r (qii s):=by
 obtain⟨r,e,h⟩:=qkG hN N ⟨0,[]⟩ 0 (bdy s) 0 (Ud (by decide) (by decide)) (by omega) (by decide) (by omega) hd (by omega)
 have e:yN N N 0 [] (bdy s)=some (r.s,r.w):=e
 rw[Int.zero_mul,Int.zero_add]at h
 unfold qaF
 rw[qbI,ZB,qed,ZB,e,ZB]
 unfold qii
 cases hs:sgn s with
 |false=>
  rw[if_neg (by simp)]
  exact⟨r,rfl,by simpa using h⟩
 |true=>
  obtain⟨r2,e2,h2⟩:=qg5 h
  have e2:zD (⟨r.s,r.w⟩:qj)=some r2:=e2
  simp only[if_true]
  rw[e2]
  exact⟨r2,rfl,h2⟩
end Go.Av
end
section
namespace Go.Av
theorem qkM: ∀n:Nat,Lib.repeatL [48] n=List.replicate n 48
 |0=>rfl
 |n+1=>by rw[Lib.repeatL,qkM,List.replicate_succ];rfl
theorem qhC: ∀k:Nat,qfp k 0=List.replicate k 48
 |0=>rfl
 |k+1=>by
  rw[qfp,Nat.zero_div,qhC k,List.replicate_succ']
  rfl
theorem qiL: ∀(k n:Nat),n<10^(k+1)->qfp (k+1) n=List.replicate (k+1-(Lib.decDigits n).length) 48++Lib.decDigits n
 |0,n,h=>by
  have h:n<10:=by simpa using h
  rw[zH h,qfp,qfp,Nat.mod_eq_of_lt h]
  rfl
 |k+1,n,h=>by
  rw[qfp]
  by_cases c:n<10
  ·rw[zH c,Nat.div_eq_of_lt c,qhC,Nat.mod_eq_of_lt c]
   rfl
  rw[Nat.pow_succ]at h
  rw[qiL k (n/10) (by omega),qdy c,Yz,Yq,List.length_singleton,show k+1+1-((Lib.decDigits (n/10)).length+1)=k+1-(Lib.decDigits (n/10)).length by omega]
theorem qfs (n:Nat):Lib.itoa (n:Int)=Lib.decDigits n:=by rw[vz (by omega),Int.natAbs_natCast]
theorem qmH {r:Nat} (h:r<1000000000000000000) (c: ¬r=0):dg W (r:Int)=[(r:Int)]:=by
 rw[qil (by omega) (by unfold W;omega)]
theorem qnx {r:Nat} (h:r<1000000000000000000):qgT (r:Int) 10=some (Lib.decDigits r):=by
 unfold qgT
 rw[if_pos ⟨by omega,by omega,rfl⟩,qfs]
theorem qmY:(if((dg W ((0:Nat):Int)).length:Int)>0 then(idx (dg W ((0:Nat):Int)) 0).bind fun x13=>(qgT x13 10).bind fun r14=>some r14 else some [48]:Option Str)=some (Lib.decDigits 0):=by
 rw[show((0:Nat):Int)=0 from rfl,qcI,if_neg (by simp),zH (by decide)]
 rfl
theorem qop {r:Nat} (h:r<1000000000000000000):(if((dg W (r:Int)).length:Int)>0 then(idx (dg W (r:Int)) 0).bind fun x13=>(qgT x13 10).bind fun r14=>some r14 else some [48]:Option Str)=some (Lib.decDigits r):=by
 by_cases c:r=0
 ·rw[c]
  exact qmY
 rw[qmH h c,if_pos (show((([(r:Int)]:List Int).length:Nat):Int)>0 from by rw[List.length_singleton];decide),qb1,Yj,ZB,qnx h]
 rfl
theorem p18:(10:Nat)^18=1000000000000000000:=rfl
theorem qoz {q r:Nat} (h:r<1000000000000000000): ∃t:Str,(if((dg W (q:Int)).length:Int)>0 then(qd0 [48] (w64 (18-((Lib.decDigits r).length:Int)))).bind fun r18=>(cat r18 (Lib.decDigits r)).bind fun s19=>some s19 else some (Lib.decDigits r):Option Str)=some t/\0<t.length/\Lib.decDigits (1000000000000000000*q+r)=(if q=0 then[]else Lib.decDigits q)++t:=by
 have hr:r<10^18:=by rw[p18];exact h
 have lD:(Lib.decDigits r).length<=18:=(qbK (by decide)).2 hr
 have lD0:=qgZ r
 by_cases c:q=0
 ·subst c
  rw[show((0:Nat):Int)=0 from rfl,qcI,if_neg (by simp),if_pos rfl,Nat.mul_zero,Nat.zero_add]
  exact⟨_,rfl,lD0,rfl⟩
 have hne:dg W (q:Int)≠[]:=fun e=>by have:=(qgW W1 (by omega)).1 e;omega
 have hlen:0<(dg W (q:Int)).length:=List.length_pos_iff.2 hne
 have et:qd0 [48] (w64 (18-((Lib.decDigits r).length:Int)))=some (List.replicate (18-(Lib.decDigits r).length) 48):=by
  rw[qh (by omega) (by omega)]
  unfold qd0
  rw[if_pos ⟨by omega,by omega,by simp;omega⟩,qkM]
  congr 2
  omega
 have hp:=qiL 17 r hr
 have hl:(qfp (17+1) r).length=18:=qjJ _ _
 have hs:=qjq 18 (1000000000000000000*q+r)
 rw[p18,Nat.mul_add_div (by omega),Nat.div_eq_of_lt h,Nat.add_zero,Nat.mul_add_mod,Nat.mod_eq_of_lt h]at hs
 rw[if_pos (by omega),et,ZB,qkv (by simp;omega),ZB,<-hp,if_neg c]
 exact⟨_,rfl,by omega,hs (by omega)⟩
theorem qpb {N:Nat} (hN:600000<N) (B:Nat) (hB:B<=3900) (K:Nat): ∀(k m:Nat) (l:List Str),m<10^(18*k)->k<K->k+l.length<=100000->Fit (m:Int) B->(∀t∈l,0<t.length)->
 ∃l',zT N K l (dg W (m:Int))=some l'/\(∀t∈l',0<t.length)/\l'.length<=k+l.length/\l'.reverse.flatten=(if m=0 then[]else Lib.decDigits m)++l.reverse.flatten:=by
 induction K with
 |zero=>intro k m l _ h;omega
 |succ K ih=>
  intro k m l hm hK hl fm hp
  rw[zT]
  by_cases h0:m=0
  ·subst h0
   rw[show((0:Nat):Int)=0 from rfl,qcI,if_neg (by simp),if_pos rfl]
   exact⟨l,rfl,hp,by omega,rfl⟩
  obtain⟨j,hj⟩: ∃j,k=j+1:=⟨k-1,by
   rcases Nat.eq_zero_or_pos k with e|e
   ·subst e;simp at hm;omega
   omega⟩
  rw[hj]at hm hK hl
  have hm0:(0:Int)<=(m:Int):=by omega
  have hne:dg W (m:Int)≠[]:=fun e=>by have:=(qgW W1 hm0).1 e;omega
  have hlen:0<(dg W (m:Int)).length:=List.length_pos_iff.2 hne
  have ln:(dg W (m:Int)).length<=3900:=Nat.le_trans fm.len hB
  have cB:Can W [1000000000000000000]:=by
   have:=vH W1 (show(0:Int)<=1000000000000000000 by decide)
   rw[qil (by decide) (by decide)]at this
   exact this
  have vB:dv W [1000000000000000000]=1000000000000000000:=by rw[zx,zi,Int.mul_zero,Int.add_zero]
  have ed:=qhH (N:=N) (by omega) (vH W1 hm0) cB (by omega) (by rw[vB];decide)
  rw[vB,xe W1 hm0]at ed
  obtain⟨q,r,hq,hr⟩: ∃q r,m=1000000000000000000*q+r/\r<1000000000000000000:=⟨m/1000000000000000000,m%1000000000000000000,by omega,by omega⟩
  have eq:(m:Int)/1000000000000000000=(q:Int):=by omega
  have er:(m:Int)%1000000000000000000=(r:Int):=by omega
  rw[eq,er]at ed
  obtain⟨t,et,t0,eD⟩:=qoz (q:=q) hr
  rw[<-hq]at eD
  rw[if_pos (by omega),ed,ZB]
  simp only
  rw[qop hr,ZB,et,ZB,qg4 (by simp;omega) (by simp;omega),ZB]
  have hk:q<10^(18*j):=by
   rw[Nat.mul_succ,Nat.pow_add,p18,Nat.mul_comm]at hm
   refine Nat.lt_of_mul_lt_mul_left (a:=1000000000000000000) ?_
   omega
  obtain⟨l',f1,f2,f3,f4⟩:=ih j q (l++[t]) hk (by omega) (by simp;omega) (qaO (by omega) fm) (fun u hu=>by
   rcases List.mem_append.1 hu with hu|hu
   ·exact hp u hu
   rw[List.mem_singleton.1 hu];exact t0)
  refine⟨l',f1,f2,by simp at f3;omega,?_⟩
  rw[f4,if_neg h0,eD,List.reverse_append,List.flatten_append,Yz]
  simp
def byN (s:Str):List Int:=s.map fun x=>(x.toNat:Int)
theorem qfN (s:Str):(byN s).length=s.length:=by unfold byN;rw[List.length_map]
theorem qng {l:List Str} (hp: ∀t∈l,0<t.length) (hl:l.length<=100000): ∀(K i:Nat) (o:Option (List Int)),i<=l.length->i<K->(hof o).length+(l.take i).flatten.length<=1000000000->
 ∃o',zg l K o.isSome o ((i:Int)-1)=some (o'.isSome,o')/\hof o'=hof o++byN (l.take i).reverse.flatten
 |0,i,o,_,h,_=>by omega
 |K+1,0,o,hi,h,hb=>by
  rw[zg,if_neg (by omega)]
  exact⟨o,rfl,by simp[byN]⟩
 |K+1,i+1,o,hi,h,hb=>by
  have hil:i<l.length:=by omega
  have ei:((i+1:Nat):Int)-1=(i:Int):=by omega
  have ht:l.take (i+1)=l.take i++[l[i]]:=List.take_succ_eq_append_getElem hil
  have h1:=hp l[i] (List.getElem_mem hil)
  rw[ht,List.flatten_append,Yq]at hb
  simp only[List.flatten_cons,List.flatten_nil,YQ]at hb
  have ew:bWr o.isSome o l[i]=some (hof o++byN l[i]):=by
   unfold bWr
   rw[if_pos ⟨rfl,by omega,h1⟩]
   rfl
  rw[zg,ei,if_pos (by omega),qA,Ya hil,ZB,ew,ZB,qh (by omega) (by omega)]
  obtain⟨o',f1,f2⟩:=qng hp hl K i (some (hof o++byN l[i])) (by omega) (by omega) (by
   show(hof o++byN l[i]).length+_<=_
   rw[Yq,qfN];omega)
  refine⟨o',f1,?_⟩
  rw[f2,ht,List.reverse_append,List.flatten_append]
  show hof o++byN l[i]++_=_
  rw[Yz]
  unfold byN
  simp
theorem qni (s:Str):(byN s).map (fun n=>UInt8.ofNat n.toNat)=s:=by
 unfold byN
 rw[List.map_map]
 conv=>rhs;rw[<-List.map_id s]
 refine List.map_congr_left fun x _=>?_
 show UInt8.ofNat ((x.toNat:Int)).toNat=x
 rw[Int.toNat_natCast,UInt8.ofNat_toNat]
theorem qoJ (s:Str):(byN s).all (fun n=>decide (0<=n)&&decide (n<256))=true:=by
 unfold byN
 rw[List.all_map,Yp]
 intro x _
 have:x.toNat<256:=x.toNat_lt
 simp
 omega
theorem qiq: ∀l:List Str,l.reverse.flatten.length=l.flatten.length:=fun l=>by
 rw[List.length_flatten,List.length_flatten,List.map_reverse,List.sum_reverse]
theorem qd2 {N:Nat} (hN:600000<N) {x:qj} {z:Int} (h:IsZ x z) (fz:Fit z 3900):jJ N x=some (Lib.itoa z):=by
 unfold jJ
 cases e:x.w.isEmpty with
 |true=>
  obtain⟨h1,h2,h3⟩:=h.emp e
  rw[if_pos rfl,h1]
  unfold qlo
  rw[if_pos ⟨h2,h3⟩,ZB]
 |false=>
  have hz:z.natAbs≠0:=by
   rcases h with⟨hw,_⟩|⟨_,_,h1,_⟩
   ·rw[hw]at e;cases e
   omega
  obtain⟨B8,hB8⟩: ∃B8:Nat,B8=8000:=⟨_,rfl⟩
  have pw:((10^(18*B8):Nat):Int)=(1000000000000000000:Int)^B8:=by
   rw[Nat.pow_mul,Int.natCast_pow]
   rfl
  have hm:z.natAbs<10^(18*B8):=by
   have h1:W^3900<=(1000000000000000000:Int)^B8:=by
    have a1:(1000000000000000000:Int)^B8=((1000000000000000000:Int)^2)^4000:=by rw[<-Int.pow_mul,hB8]
    have a2:W^4000<=((1000000000000000000:Int)^2)^4000:=(qdO (by decide) (by decide) 4000).2
    have a3:W^3900<=W^4000:=yf (by decide) (by decide)
    rw[a1]
    exact Int.le_trans a3 a2
   rw[<-pw]at h1
   unfold Fit at fz
   omega
  obtain⟨l,f1,f2,f3,f4⟩:=qpb hN 3900 (Nat.le_refl _) N B8 z.natAbs [] hm (by omega) (by simp;omega) (by unfold Fit;rw[Int.natAbs_natCast];exact fz) (fun t ht=>by cases ht)
  rw[if_neg hz]at f4
  simp only[List.reverse_nil,List.flatten_nil,YQ,List.length_nil,Nat.add_zero]at f3 f4
  have lD:(Lib.decDigits z.natAbs).length<=18*B8:=(qbK (by omega)).2 hm
  have lf:l.flatten.length<=18*B8:=by rw[<-qiq,f4];exact lD
  have lpos:=qgZ z.natAbs
  rw[if_neg (by simp),parts_eq h,ZB]
  simp only
  rw[f1,ZB]
  have el:w64 ((l.length:Int)-1)=(l.length:Int)-1:=qh (by omega) (by omega)
  have fin: ∀(o:Option (List Int)) (pre:Str),hof o=byN pre->pre.length<=10->((zg l N o.isSome o (w64 ((l.length:Int)-1))).bind fun(ok30,o31)=>(qlv ok30 o31).bind fun t38=>some t38)=some (pre++Lib.decDigits z.natAbs):=by
   intro o pre ho hpre
   obtain⟨o',g1,g2⟩:=qng f2 (by omega) N l.length o (Nat.le_refl _) (by omega) (by rw[ho,qfN,List.take_of_length_le (Nat.le_refl _)];omega)
   rw[List.take_of_length_le (Nat.le_refl _),f4,ho]at g2
   have g3:hof o'=byN (pre++Lib.decDigits z.natAbs):=by
    rw[g2]
    unfold byN
    rw[List.map_append]
   have hs:o'.isSome=true:=by
    cases o' with
    |none=>
     have:=congrArg List.length g3
     rw[qfN,Yq]at this
     simp at this
     omega
    |some q=>rfl
   rw[el,g1,ZB]
   simp only
   unfold qlv
   rw[if_pos ⟨hs,by rw[g3,qfN,Yq];omega,by rw[g3];exact qoJ _⟩,g3,qni,ZB]
  by_cases c:z<0
  ·have eb:bWr false (none:Option (List Int)) [45]=some [45]:=rfl
   rw[decide_eq_true c,if_pos rfl,eb,ZB,ZB]
   simp only
   have:=fin (some [45]) [45] rfl (by simp)
   rw[yA c]
   exact this
  rw[decide_eq_false c,if_neg (by simp),ZB]
  simp only
  have:=fin none [] rfl (by simp)
  rw[vz c]
  exact this
end Go.Av
end
section
namespace Go.Av
theorem qoF {x:qj} {z:Int} (h:IsZ x z) (fz:Fit z 3900): ∃b:Nat,qaE x=some (b:Int)/\(z.natAbs:Int)<2^b:=by
 unfold qaE
 rw[parts_eq h,ZB]
 simp only
 have hz:(0:Int)<=(z.natAbs:Int):=by omega
 have cc:=vH W1 hz
 have vv:=xe W1 hz
 have ll:=fz.len
 generalize dg W (z.natAbs:Int)=w at*
 by_cases h0:w.length=0
 ·rw[if_pos (by omega)]
  rw[YL.1 h0,zi]at vv
  exact⟨0,rfl,by rw[<-vv];decide⟩
 have hk:w.length-1<w.length:=by omega
 have ax:=cc.1.at hk
 obtain⟨l,e,hl⟩:=qjy ax.1 ax.2
 have hl0:0<=l/\l<=64:=by
  rcases hl with⟨_,h⟩|⟨h1,h2,_⟩<;>omega
 have hl2:w[w.length-1]<2^l.toNat:=by
  rcases hl with⟨h1,h2⟩|⟨_,_,_,h⟩
  ·rw[h1,h2];decide
  exact h
 rw[if_neg (by omega),qj6 (by omega) (by omega),qA,Ya hk,ZB,e,ZB,qh (n:=64*((w.length-1:Nat):Int)) (by omega) (by omega),qh (by omega) (by omega)]
 refine⟨64*(w.length-1)+l.toNat,by congr 1;omega,?_⟩
 have e1:=qm W w (w.length-1) hk
 rw[List.take_of_length_le (by omega),vv]at e1
 have h1:=yM W0 (cc.1.take (w.length-1))
 rw[Ym,Nat.min_eq_left (by omega)]at h1
 have e2:(2:Int)^(64*(w.length-1)+l.toNat)=W^(w.length-1)*2^l.toNat:=by
  rw[Int.pow_add,Int.pow_mul]
  rfl
 have h2:W^(w.length-1)*(w[w.length-1]+1)<=W^(w.length-1)*2^l.toNat:=Yc (by omega) (Int.le_of_lt (pow_pos W0 _))
 rw[Int.mul_add,Int.mul_one]at h2
 rw[e2]
 omega
theorem pow8: ∀n:Nat,(8:Int)^(n+1)<((10^(n+1):Nat):Int)
 |0=>by decide
 |n+1=>by
  have ih:=pow8 n
  have a1:=pow_pos (show(0:Int)<8 by decide) (n+1)
  rw[Int.pow_succ,Nat.pow_succ,Int.natCast_mul]
  omega
theorem qpE (n:Nat):(2:Int)^(3*n)=(8:Int)^n:=by
 rw[Int.pow_mul]
 rfl
theorem qoQ {n m:Nat} (hm:m=3*(n+1)):(2:Int)^m<((10^(n+1):Nat):Int):=by
 rw[hm,qpE]
 exact pow8 n
def lng (z:Int):Bool:=decide (600<(Lib.decDigits z.natAbs).length)
theorem qk5 {N:Nat} (hN:600000<N) {x:qj} {z:Int} (h:IsZ x z) (fz:Fit z 3900):qcr N x=some (lng z):=by
 obtain⟨b,e,hb⟩:=qoF h fz
 unfold qcr
 rw[e,ZB]
 by_cases c:(b:Int)>1800
 ·rw[if_pos c,qd2 hN h fz,ZB,qed,qeI,ZB,ZB]
  congr 1
  exact decide_eq_decide.2 (by omega)
 rw[if_neg c,ZB]
 congr 1
 obtain⟨m,hm⟩: ∃m:Nat,m=3*(599+1):=⟨_,rfl⟩
 have h1:(2:Int)^b<=2^m:=yf (by decide) (by omega)
 have h2:=qoQ hm
 have h3:z.natAbs<10^(599+1):=by omega
 have:=(qbK (n:=z.natAbs) (k:=599+1) (by decide)).2 h3
 unfold lng
 rw[decide_eq_false (by omega)]
def qh6 (q:Rat):Bool:=lng q.num||lng q.den
theorem qjF {N:Nat} (hN:600000<N) {f:qG} {q:Rat} (h:IsF f q) (fq:qaV q 3900):yw N f=some (qh6 q):=by
 unfold yw qh6
 rw[qk5 hN h.1 fq.1,ZB]
 cases lng q.num with
 |true=>rw[if_pos rfl,ZB,Bool.true_or]
 |false=>rw[if_neg (by simp),qk5 hN h.2 fq.2,ZB,ZB,Bool.false_or]
def T (q:Rat):Str:=Lib.itoa q.num++(if q.den=1 then[]else 47::Lib.decDigits q.den)
theorem Fit.itoaLen {z:Int} (h:Fit z 3900):(Lib.itoa z).length<=200001:=by
 have h1:(Lib.decDigits z.natAbs).length<=20*10000:=by
  refine(qbK (by decide)).2 ?_
  obtain⟨B,hB⟩: ∃B:Nat,B=10000:=⟨_,rfl⟩
  rw[<-hB]
  have h2:W^3900<=W^B:=yf (by decide) (by omega)
  have h3:W^B<=(100000000000000000000:Int)^B:=(qdO (by decide) (by decide) B).2
  have h4:((10^(20*B):Nat):Int)=(100000000000000000000:Int)^B:=by
   rw[Nat.pow_mul,Int.natCast_pow]
   rfl
  unfold Fit at h
  generalize W^3900=p at*
  omega
 by_cases c:z<0
 ·rw[yA c,Yr];omega
 rw[vz c];omega
theorem qlc {N:Nat} (hN:600000<N) {f:qG} {q:Rat} (h:IsF f q) (fq:qaV q 3900):xu N f=some (T q):=by
 unfold xu T
 rw[qjU h,ZB]
 by_cases c:q.den=1
 ·rw[decide_eq_true c,if_pos rfl,qd2 hN h.1 fq.1,ZB,if_pos c,YQ]
 have l1:=Fit.itoaLen fq.1
 have l2:=Fit.itoaLen fq.2
 rw[decide_eq_false c,if_neg (by simp),qd2 hN h.1 fq.1,ZB,qkv (by simp;omega),ZB,qd2 hN h.2 fq.2,ZB,qkv (by simp;omega),ZB,if_neg c,qfs,Yz]
 rfl
theorem qlt {N:Nat} (hN:600000<N) {f:qG} {q:Rat} (h:IsF f q) (fq:qaV q 3900):qae N f=some (if qh6 q=true then([],4)else(T q,0)):=by
 unfold qae
 rw[qjF hN h fq,ZB]
 cases qh6 q with
 |true=>rfl
 |false=>rw[if_neg (by simp),qlc hN h fq,ZB,if_neg (by simp)]
theorem qoU {α:Type} {b:Bool} {x y:α}:zB b x y=if b=true then x else y:=by cases b<;>rfl
theorem qiM: ∀(s:Str) (j:Nat),qhl 47 s j=if slA s<s.length then((j+slA s:Nat):Int)else-1
 |[],j=>rfl
 |c::s,j=>by
  show zB (Nat.beq c.toNat 47) (Int.ofNat j) (qhl 47 s (j+1))=_
  rw[qoU,qiM s (j+1),slA,Yr]
  by_cases h:c=47
  ·subst h
   rw[if_pos (by decide),if_pos rfl,if_pos (by omega)]
   rfl
  have h2:c.toNat≠47:=fun e=>h (UInt8.toNat_inj.1 (by rw[e];rfl))
  rw[if_neg (by rw[qbV h2];simp),if_neg h]
  by_cases c2:slA s<s.length
  ·rw[if_pos c2,if_pos (by omega)]
   congr 1
   omega
  rw[if_neg c2,if_neg (by omega)]
theorem qmO {s:Str}:stringslite_Index s [47]=some (qhl 47 s 0):=by
 unfold stringslite_Index stringslite_IndexByte qij
 have h0: ¬(([47]:Str).length:Int)=0:=by simp
 have h1:(([47]:Str).length:Int)=1:=by simp
 rw[if_neg h0]
 simp only[ZB]
 by_cases hs:(([47]:Str)==s)=true
 ·have:s=[47]:=(beq_iff_eq.1 hs).symm
  subst this
  rfl
 rw[if_neg hs,if_pos h1,qb1,show([47]:Str)[0]? =some 47 from rfl,ZB,if_pos (by decide)]
 rfl
theorem qoa {s:Str} (hl:s.length<=1000000):strings_Cut s [47]=some (if slA s<s.length then(s.take (slA s),s.drop (slA s+1),true)else(s,[],false)):=by
 have h:=qe9 s
 unfold strings_Cut stringslite_Cut
 rw[qmO,qiM,ZB]
 by_cases c:slA s<s.length
 ·rw[if_pos c,if_pos (by omega),if_pos c,Nat.zero_add,y7 h,ZB,show w64 ((slA s:Int)+(([47]:Str).length:Int))=((slA s+1:Nat):Int)from jY (by omega),qad (by omega),ZB,ZB]
 rw[if_neg c,if_neg (by omega),if_neg c,ZB]
theorem qeF {s:Str} (hl:s.length<=1000000):jm s=some (decide (Dec s)):=by
 have hT:qjg s [48,49,50,51,52,53,54,55,56,57]=some (Lib.trimS s [48,49,50,51,52,53,54,55,56,57]):=by
  unfold qjg
  rw[if_pos ⟨hl,by decide,by decide⟩]
 unfold jm
 rw[hT]
 simp only[ZB,qlM]
 cases s with
 |nil=>rfl
 |cons c t=>
  rw[if_pos (by rfl),qb1]
  simp only[Yj,ZB]
  cases hd:(c::t).all vC with
  |false=>
   rw[if_neg (by simp),ZB,decide_eq_false fun h=>by rw[h.2.1]at hd;cases hd]
  |true=>
   rw[if_pos rfl]
   by_cases h:c=48
   ·subst h
    rw[if_neg (by decide),ZB]
    congr 1
    rw[Bool.eq_iff_iff,beq_iff_eq,decide_eq_true_eq]
    exact⟨fun e=>by rw[e];exact qla (by decide),fun h=>h.2.2 rfl⟩
   rw[if_pos (by simp[ne48 h]),ZB,decide_eq_true (show Dec (c::t)from⟨by simp,hd,fun e=>absurd (Ye e) h⟩)]
theorem qgq {s:Str} (hl:s.length<=1000000): ∀(K i:Nat),i<=s.length->s.length<K+i->jc s K (i:Int)=some (if(s.drop i).all vC=true then .inl ()else .inr false)
 |0,i,h,hK=>by omega
 |K+1,i,h,hK=>by
  rw[jc]
  by_cases hi:i<s.length
  ·have hd:s.drop i=s[i]::s.drop (i+1):=YG hi
   rw[if_pos (by omega),qA,Ya hi,ZB,hd,List.all_cons]
   generalize s[i]=c
   have e:(if(c.toNat:Int)<48 then some true else some (decide ((c.toNat:Int)>57)):Option Bool)=some (!vC c):=by
    by_cases h1:(c.toNat:Int)<48
    ·rw[if_pos h1]
     congr 1
     unfold vC
     rw[decide_eq_false (by omega)]
     rfl
    rw[if_neg h1]
    congr 1
    unfold vC
    rw[decide_eq_true (p:=48<=c.toNat) (by omega),Bool.true_and,<-decide_not]
    exact decide_eq_decide.2 (by omega)
   rw[e,ZB]
   cases hc:vC c with
   |true=>rw[if_neg (by simp),jY (by omega),qgq hl K (i+1) (by omega) (by omega),Bool.true_and]
   |false=>rw[if_pos (by simp),Bool.false_and,if_neg (by simp)]
  rw[if_neg (by omega),List.drop_of_length_le (by omega)]
  rfl
theorem qgS {N:Nat} {s:Str} (hl:s.length<=1000000) (hN:s.length<N):zV N s=some (decide (Dec s)):=by
 have e:=qgq hl N 0 (by omega) (by omega)
 have e:jc s N 0=_:=e
 have ed:qau N s=some (s.all vC):=by
  unfold qau
  rw[e,YR]
  cases s.all vC<;>rfl
 unfold zV
 cases s with
 |nil=>rfl
 |cons c t=>
  rw[if_neg (by simp;omega)]
  by_cases h1:((c::t).length:Int)>1
  ·rw[if_pos h1,qb1]
   simp only[Yj,ZB]
   by_cases h:c=48
   ·subst h
    rw[if_pos (by decide),decide_eq_false fun hD=>?_]
    have:=congrArg List.length (hD.2.2 rfl)
    rw[List.length_singleton]at this
    omega
   rw[if_neg (by simp[ne48 h]),ed,ZB]
   congr 1
   rw[Bool.eq_iff_iff,decide_eq_true_eq]
   exact⟨fun hd=>⟨by simp,hd,fun e=>absurd (Ye e) h⟩,fun hD=>hD.2.1⟩
  rw[if_neg h1,ZB,if_neg (by simp),ed,ZB]
  have ht:t=[]:=YL.1 (by simp at h1;omega)
  subst ht
  congr 1
  rw[Bool.eq_iff_iff,decide_eq_true_eq]
  exact⟨fun hd=>qla (by simpa using hd),fun hD=>hD.2.1⟩
end Go.Av
end
section
namespace Go.Av
theorem qh2 {z:Int} {p n:Nat} (h:(z.natAbs:Int)<((10^p:Nat):Int)) (hp:p<=9*n):yn z n:=by
 have h1:(10:Nat)^p<=10^(9*n):=Nat.pow_le_pow_right (by omega) hp
 unfold yn
 rw[qif]
 omega
theorem qiz {N:Nat} (hN:10<N) (a b:Int):jZ N [a,b]=some (if a=0 then b else a):=by
 obtain⟨K,rfl⟩: ∃K,N=K+1+1+1:=⟨N-3,by omega⟩
 unfold jZ
 by_cases ha:a=0
 ·by_cases hb:b=0
  ·subst ha;subst hb
   rfl
  have h1:zt [a,b] (K+1+1+1) 0=some (.inr b):=by
   rw[zt,if_pos (by simp),qb1]
   simp only[Yj,ZB]
   rw[if_neg (by simp[ha]),zt,show w64 ((0:Int)+1)=1 from rfl,if_pos (by simp),idx_1]
   simp only[List.getElem?_cons_succ,Yj,ZB]
   rw[if_pos (by simp[hb])]
  rw[h1,if_pos ha]
  rfl
 have h1:zt [a,b] (K+1+1+1) 0=some (.inr a):=by
  rw[zt,if_pos (by simp),qb1]
  simp only[Yj,ZB]
  rw[if_pos (by simp[ha])]
 rw[h1,if_neg ha]
 rfl
def okF (s:Str):Bool:=decide (Dec ((bdy s).take (slA (bdy s)))/\ ¬(sgn s=true/\(bdy s).take (slA (bdy s))=[48]))
def qgh (s:Str):Bool:=decide (slA (bdy s)<(bdy s).length/\ ¬(Dec ((bdy s).drop (slA (bdy s)+1))/\(bdy s).drop (slA (bdy s)+1)≠[48]/\(bdy s).drop (slA (bdy s)+1)≠[49]))
def chk (s:Str):Int:=
 if okF s=false\/qgh s=true then 1
 else if 600<((bdy s).take (slA (bdy s))).length\/600<((bdy s).drop (slA (bdy s)+1)).length then 4
 else if slA (bdy s)<(bdy s).length/\Nat.gcd (qL 0 ((bdy s).take (slA (bdy s)))) (qL 0 ((bdy s).drop (slA (bdy s)+1)))≠1 then 1
 else 0
theorem qbl {s:Str} (h:s.all vC=true):sgn s=false/\bdy s=s:=by
 have e:sgn s=false:=decide_eq_false fun e=>by
  have hm:(45:UInt8)∈s:=Yn e
  exact absurd (Yp.1 h _ hm) (by decide)
 exact⟨e,by unfold bdy;rw[e];rfl⟩
theorem qdA {s:Str} (h:s.all vC=true):qii s=(qL 0 s:Nat):=by
 obtain⟨h1,h2⟩:=qbl h
 unfold qii
 rw[h1,h2]
 rfl
theorem qfO (s:Str):(bdy s).length<=s.length:=by
 unfold bdy
 split
 ·rw[YJ];omega
 exact Nat.le_refl _
theorem qdY {s:Str} {k:Nat} (h:Dec s) (hk:s.length<=k):((qL 0 s:Nat):Int).natAbs<10^k:=by
 have h1:=qdZ s 0 h.2.1
 have h2:(10:Nat)^s.length<=10^k:=Nat.pow_le_pow_right (by omega) hk
 omega
theorem qeX {s:Str} (h:Dec s) (h0:s≠[48]):0<qL 0 s:=by
 rcases Nat.eq_zero_or_pos (qL 0 s)with e|e
 ·have:=h.eq
  rw[e,zH (by decide)]at this
  exact absurd this h0
 exact e
theorem qbv {N:Nat} (hN:600000<N) {s:Str} (hl:s.length<=10000):yR N s=some (chk s):=by
 have hb:=qfO s
 have hk:=qe9 (bdy s)
 have lt:((bdy s).take (slA (bdy s))).length=slA (bdy s):=by rw[Ym];omega
 have ld:((bdy s).drop (slA (bdy s)+1)).length=(bdy s).length-(slA (bdy s)+1):=by rw[YJ]
 unfold yR
 rw[qiv,ZB]
 simp only
 have C:strings_Cut (bdy s) [47]=some ((bdy s).take (slA (bdy s)),(bdy s).drop (slA (bdy s)+1),decide (slA (bdy s)<(bdy s).length)):=by
  rw[qoa (by omega)]
  by_cases c:slA (bdy s)<(bdy s).length
  ·rw[if_pos c,decide_eq_true c]
  rw[if_neg c,decide_eq_false c,List.take_of_length_le (by omega),List.drop_of_length_le (by omega)]
 rw[C,ZB]
 unfold chk okF qgh
 generalize hn:(bdy s).take (slA (bdy s))=n at*
 generalize hd:(bdy s).drop (slA (bdy s)+1)=d at*
 generalize slA (bdy s)=k at*
 generalize (bdy s).length=m at*
 simp only
 rw[qeF (by omega),ZB]
 have B6:(if decide (Dec n)=true then if(!sgn s)=true then some true else some (!(n==[48]))else some false:Option Bool)=some (decide (Dec n/\ ¬(sgn s=true/\n=[48]))):=by
  by_cases h1:Dec n
  ·cases h2:sgn s with
   |false=>simp[h1]
   |true=>
    by_cases h3:n=[48]<;>simp[h1,h3]
  simp[h1]
 rw[B6,ZB]
 generalize hf:decide (Dec n/\ ¬(sgn s=true/\n=[48]))=ok at*
 have B8:(if decide (k<m)=true then(if ok=true then(jm d).bind fun r12=>if r12=true then if(!(d==[48]))=true then some (!(d==[49]))else some false else some false else some false:Option Bool).bind fun b15=>some b15 else some ok:Option Bool)=some (ok&&!decide (k<m/\ ¬(Dec d/\d≠[48]/\d≠[49]))):=by
  by_cases h1:k<m
  ·cases ok with
   |false=>simp[h1]
   |true=>
    rw[qeF (by omega)]
    by_cases h2:Dec d
    ·by_cases h3:d=[48]
     ·simp[h1,h2,h3]
     by_cases h4:d=[49]<;>simp[h1,h2,h3,h4]
    simp[h1,h2]
  simp[h1]
 rw[B8,ZB]
 generalize hg:decide (k<m/\ ¬(Dec d/\d≠[48]/\d≠[49]))=bd at*
 have B:((qZ (!(ok&&!bd)) 1).bind fun r17=>if(n.length:Int)>600 then(qZ true 4).bind fun r19=>(jZ N ([r17,r19]:List Int)).bind fun r20=>some (r17,r19,r20)else(qZ (decide ((d.length:Int)>600)) 4).bind fun r21=>(jZ N ([r17,r21]:List Int)).bind fun r22=>some (r17,r21,r22):Option (Int×Int×Int))=some (if ok=false\/bd=true then 1 else 0,if 600<n.length\/600<d.length then 4 else 0,if ok=false\/bd=true then 1 else if 600<n.length\/600<d.length then 4 else 0):=by
  have w1:qZ (!(ok&&!bd)) 1=some (if ok=false\/bd=true then 1 else 0):=by
   unfold qZ
   cases ok<;>cases bd<;>rfl
  rw[w1,ZB]
  by_cases c:(n.length:Int)>600
  ·rw[if_pos c,show qZ true 4=some 4 from rfl,ZB,qiz (by omega),ZB,if_pos (show 600<n.length\/600<d.length from .inl (by omega))]
   by_cases c2:ok=false\/bd=true
   ·simp only[if_pos c2];rfl
   simp only[if_neg c2];rfl
  have w2:qZ (decide ((d.length:Int)>600)) 4=some (if 600<n.length\/600<d.length then 4 else 0):=by
   unfold qZ
   by_cases c2:(d.length:Int)>600
   ·rw[decide_eq_true c2,if_pos rfl,if_pos (.inr (by omega))]
   rw[decide_eq_false c2,if_neg (by simp),if_neg (by omega)]
  rw[if_neg c,w2,ZB,qiz (by omega),ZB]
  by_cases c2:ok=false\/bd=true
  ·simp only[if_pos c2];rfl
  simp only[if_neg c2];rfl
 rw[B,ZB]
 simp only
 by_cases c1:ok=false\/bd=true
 ·simp only[if_pos c1];rfl
 simp only[if_neg c1]
 by_cases c2:600<n.length\/600<d.length
 ·simp only[if_pos c2];rfl
 simp only[if_neg c2]
 rw[if_neg (show¬((!decide True)=true)by decide)]
 have ho:ok=true:=by cases ok<;>simp at c1⊢
 have hbd:bd=false:=by cases bd<;>simp at c1⊢
 have hDn:=(of_decide_eq_true (hf.trans ho)).1
 by_cases c3:k<m
 ·have hDd:Dec d/\d≠[48]/\d≠[49]:=Classical.byContradiction fun hc=>of_decide_eq_false (hg.trans hbd) ⟨c3,hc⟩
  obtain⟨r1,e1,h1⟩:=qga hN (s:=n) (by rw[(qbl hDn.2.1).2];exact hDn.2.1) (by rw[(qbl hDn.2.1).2];omega)
  obtain⟨r2,e2,h2⟩:=qga hN (s:=d) (by rw[(qbl hDd.1.2.1).2];exact hDd.1.2.1) (by rw[(qbl hDd.1.2.1).2];omega)
  rw[qdA hDn.2.1]at h1
  rw[qdA hDd.1.2.1]at h2
  have f1:Fit ((qL 0 n:Nat):Int) 40:=qeA (p:=600) (by have:=qdY hDn (k:=600) (by omega);omega) (by omega)
  have f2:Fit ((qL 0 d:Nat):Int) 40:=qeA (p:=600) (by have:=qdY hDd.1 (k:=600) (by omega);omega) (by omega)
  obtain⟨g,e3,h3⟩:=qmN hN h1 h2 (f1.mono (by omega)) (f2.mono (by omega))
  have eg:Int.gcd ((qL 0 n:Nat):Int) ((qL 0 d:Nat):Int)=Nat.gcd (qL 0 n) (qL 0 d):=rfl
  rw[eg]at h3
  have hgp:0<Nat.gcd (qL 0 n) (qL 0 d):=Nat.gcd_pos_of_pos_right _ (qeX hDd.1 hDd.2.1)
  have fg:Fit ((Nat.gcd (qL 0 n) (qL 0 d):Nat):Int) 40:=qaO (by
   have:=Nat.le_of_dvd (qeX hDd.1 hDd.2.1) (Nat.gcd_dvd_right (qL 0 n) (qL 0 d))
   omega) f2
  have e4:=qmS (N:=N) (by omega) h3 (Ud (z:=1) (by decide) (by decide)) (fg.mono (by omega)) (F1 (by omega))
  rw[decide_eq_true c3,if_pos rfl,e1,ZB,e2,ZB,e3,ZB,qgA,ZB,e4,ZB,ZB]
  unfold qZ
  by_cases c4:Nat.gcd (qL 0 n) (qL 0 d)=1
  ·rw[if_neg (show¬((Nat.gcd (qL 0 n) (qL 0 d):Nat):Int)<1 by omega),if_pos (show((Nat.gcd (qL 0 n) (qL 0 d):Nat):Int)=1 by omega),if_neg (show¬(k<m/\Nat.gcd (qL 0 n) (qL 0 d)≠1)from fun h=>h.2 c4)]
   rfl
  have: ¬((Nat.gcd (qL 0 n) (qL 0 d):Nat):Int)<1:=by omega
  rw[if_neg this,if_neg (show¬(((Nat.gcd (qL 0 n) (qL 0 d):Nat):Int)=1)by omega),if_pos (show k<m/\Nat.gcd (qL 0 n) (qL 0 d)≠1 from⟨c3,c4⟩)]
  rfl
 rw[decide_eq_false c3,if_neg (by simp),ZB,if_neg (by omega)]
 rfl
end Go.Av
end
section
namespace Go.Av
theorem qpP:dg E9 1=[1]:=qil (by decide) (by decide)
theorem qlz {N:Nat} (hN:600000<N) {s:Str} (hl:s.length<=10000) (hk:slA s<s.length) (h1:(bdy (s.take (slA s))).all vC=true) (h2:(bdy (s.drop (slA s+1))).all vC=true):qa7 N s=some (rI (qii (s.take (slA s))),rI (qii (s.drop (slA s+1)))):=by
 have b1:=qfO (s.take (slA s))
 have b2:=qfO (s.drop (slA s+1))
 rw[Ym]at b1
 rw[YJ]at b2
 unfold qa7
 rw[qeO (by omega) (by omega),ZB,if_neg (by omega),y7 (by omega),ZB,qjc (by omega) h1 (by omega),ZB,jY (by omega),qad (by omega),ZB,qjc (by omega) h2 (by omega),ZB]
theorem qdX {N:Nat} (hN:600000<N) {s:Str} (hl:s.length<=10000):xO N s=some (chk s):=by
 have hb:=qfO s
 have hk:=qe9 (bdy s)
 have lt:((bdy s).take (slA (bdy s))).length=slA (bdy s):=by rw[Ym];omega
 have ld:((bdy s).drop (slA (bdy s)+1)).length=(bdy s).length-(slA (bdy s)+1):=by rw[YJ]
 unfold xO
 rw[qfY,ZB,qn2,ZB,qeO (by omega) (by omega),ZB,y7 hk,ZB,qgS (by omega) (by omega),ZB]
 have I:Dec ((bdy s).take (slA (bdy s)))->((idx s 0).bind fun c13=>if(c13.toNat:Int)=45 then(some ((bdy s).take (slA (bdy s)))).bind fun s15=>some (s15==[48])else some false:Option Bool)=some (sgn s&&((bdy s).take (slA (bdy s))==[48])):=by
  intro hD
  have h1:=hD.1
  have hs:=qfY s
  rw[if_pos (by omega)]at hs
  rw[qb1]at hs⊢
  cases e:s[0]? with
  |none=>rw[e]at hs;cases hs
  |some c=>
   rw[e,ZB]at hs
   rw[ZB,<-Ye hs]
   by_cases c2:(c.toNat:Int)=45
   ·rw[if_pos c2,decide_eq_true c2,ZB,Bool.true_and]
   rw[if_neg c2,decide_eq_false c2,Bool.false_and]
 have S16:(if(!decide (Dec ((bdy s).take (slA (bdy s)))))=true then some true else(idx s 0).bind fun c13=>if(c13.toNat:Int)=45 then(some ((bdy s).take (slA (bdy s)))).bind fun s15=>some (s15==[48])else some false:Option Bool)=some (!okF s):=by
  unfold okF
  by_cases hD:Dec ((bdy s).take (slA (bdy s)))
  ·rw[if_neg (by simp[hD]),I hD]
   congr 1
   rw[Bool.eq_iff_iff]
   simp[hD]
  rw[if_pos (by simp[hD])]
  simp[hD]
 rw[S16,ZB]
 have S26:(if(slA (bdy s):Int)<((bdy s).length:Int)then(cut (bdy s) (w64 ((slA (bdy s):Int)+1)) ((bdy s).length:Int)).bind fun s20=>(zV N s20).bind fun r21=>if(!r21)=true then some true else(cut (bdy s) (w64 ((slA (bdy s):Int)+1)) ((bdy s).length:Int)).bind fun s23=>if(s23==[48])=true then some true else(cut (bdy s) (w64 ((slA (bdy s):Int)+1)) ((bdy s).length:Int)).bind fun s25=>some (s25==[49])else some false:Option Bool)=some (qgh s):=by
  unfold qgh
  by_cases c:slA (bdy s)<(bdy s).length
  ·rw[if_pos (by omega),jY (by omega),qad (by omega),ZB,qgS (by omega) (by omega),ZB]
   by_cases hD:Dec ((bdy s).drop (slA (bdy s)+1))
   ·rw[if_neg (by simp[hD]),ZB]
    by_cases h3:(bdy s).drop (slA (bdy s)+1)=[48]
    ·rw[if_pos (by simp[h3])]
     simp[c,h3]
    rw[if_neg (by simp[h3]),ZB]
    congr 1
    rw[Bool.eq_iff_iff]
    simp[c,h3,hD]
   rw[if_pos (by simp[hD])]
   simp[c,hD]
  rw[if_neg (by omega)]
  simp[c]
 have S30:(if(slA (bdy s):Int)>600 then some true else some (decide ((w64 ((w64 (((bdy s).length:Int)-(slA (bdy s):Int)))-1))>600)):Option Bool)=some (decide (600<((bdy s).take (slA (bdy s))).length\/600<((bdy s).drop (slA (bdy s)+1)).length)):=by
  rw[lt,ld]
  by_cases c:(slA (bdy s):Int)>600
  ·rw[if_pos c,decide_eq_true (.inl (by omega))]
  rw[if_neg c,qh (n:=((bdy s).length:Int)-(slA (bdy s):Int)) (by omega) (by omega),qh (by omega) (by omega)]
  congr 1
  exact decide_eq_decide.2 (by omega)
 unfold chk
 by_cases h1:okF s=true
 ·rw[h1,if_neg (by simp),S26,ZB]
  by_cases h2:qgh s=true
  ·rw[h2,if_pos rfl,if_pos (.inr rfl)]
  have h2':qgh s=false:=by simpa using h2
  rw[h2',if_neg (by simp),S30,ZB,if_neg (show¬(true=false\/false=true)by simp)]
  by_cases h3:600<((bdy s).take (slA (bdy s))).length\/600<((bdy s).drop (slA (bdy s)+1)).length
  ·rw[decide_eq_true h3,if_pos rfl,if_pos h3]
  rw[decide_eq_false h3,if_neg (by simp),if_neg h3]
  by_cases c:slA (bdy s)<(bdy s).length
  ·have hDn:=(of_decide_eq_true h1).1
   have hDd:Dec ((bdy s).drop (slA (bdy s)+1))/\(bdy s).drop (slA (bdy s)+1)≠[48]/\(bdy s).drop (slA (bdy s)+1)≠[49]:=Classical.byContradiction fun hc=>of_decide_eq_false h2' ⟨c,hc⟩
   have ep:=qlz hN (s:=bdy s) (by omega) c (by rw[(qbl hDn.2.1).2];exact hDn.2.1) (by rw[(qbl hDd.1.2.1).2];exact hDd.1.2.1)
   rw[qdA hDn.2.1,qdA hDd.1.2.1]at ep
   rw[if_pos (by omega),ep,ZB]
   simp only
   have v1:=qdY hDn (k:=600) (by omega)
   have v2:=qdY hDd.1 (k:=600) (by omega)
   have v3:=qeX hDd.1 hDd.2.1
   generalize qL 0 ((bdy s).take (slA (bdy s)))=n at*
   generalize qL 0 ((bdy s).drop (slA (bdy s)+1))=d at*
   have f1:yn ((n:Nat):Int) 8000:=(qh2 (p:=600) (n:=70) (by omega) (by omega)).mono (by omega)
   have f2:yn ((d:Nat):Int) 8000:=(qh2 (p:=600) (n:=70) (by omega) (by omega)).mono (by omega)
   have e1:(rI ((n:Nat):Int)).w=dg E9 ((n:Nat):Int):=by
    show dg E9 (((n:Nat):Int).natAbs:Int)=_
    rw[Int.natAbs_natCast]
   have e2:(rI ((d:Nat):Int)).w=dg E9 ((d:Nat):Int):=by
    show dg E9 (((d:Nat):Int).natAbs:Int)=_
    rw[Int.natAbs_natCast]
   have ec:=qlR (N:=N) hN (a:=((n:Nat):Int)) (b:=((d:Nat):Int)) (by omega) (by omega) f1 f2
   have eg:Int.gcd ((n:Nat):Int) ((d:Nat):Int)=Nat.gcd n d:=rfl
   rw[eg]at ec
   rw[e1,e2,ec,ZB]
   have hg:0<Nat.gcd n d:=Nat.gcd_pos_of_pos_right _ v3
   have cc:=vH E1 (show(0:Int)<=((Nat.gcd n d:Nat):Int)by omega)
   have vv:=xe E1 (show(0:Int)<=((Nat.gcd n d:Nat):Int)by omega)
   by_cases h4:Nat.gcd n d=1
   ·have:dg E9 ((Nat.gcd n d:Nat):Int)=[1]:=by rw[show((Nat.gcd n d:Nat):Int)=1 by omega];exact qpP
    rw[this,if_neg (by simp),qb1,if_neg (fun h=>h.2 h4)]
    rfl
   rw[if_pos (show slA (bdy s)<(bdy s).length/\Nat.gcd n d≠1 from⟨c,h4⟩)]
   by_cases h5:(dg E9 ((Nat.gcd n d:Nat):Int)).length=1
   ·obtain⟨x,hx⟩:=List.length_eq_one_iff.1 h5
    rw[hx,zx,zi,Int.mul_zero,Int.add_zero]at vv
    have hx1:x≠1:=by omega
    rw[hx,if_neg (by simp),qb1]
    simp only[Yj,ZB,decide_eq_false hx1]
    rfl
   rw[if_pos (by simp;omega)]
   rfl
  rw[if_neg (by omega),if_neg (by omega)]
  rfl
 have h1':okF s=false:=by simpa using h1
 rw[h1',if_pos (by simp),if_pos (.inl rfl)]
end Go.Av
end
section
namespace Go.Av
def tl (q:Rat):Str:=if q.den=1 then[]else 47::Lib.decDigits q.den
theorem T_eq (q:Rat):T q=Lib.itoa q.num++tl q:=rfl
theorem no47 {s:Str} (h:s.all vC=true): ∀c∈s,c≠47:=fun c hc e=>by
 have:=Yp.1 h c hc
 rw[e]at this
 exact absurd this (by decide)
theorem qjk: ∀{s:Str},(∀c∈s,c≠47)->slA s=s.length:=fun {s} h=>(qix s [] h).2
theorem qh1 {s:Str} (h: ∀c∈s,c≠47) (q:Rat):slA (s++tl q)=s.length:=by
 unfold tl
 by_cases c:q.den=1
 ·rw[if_pos c,YQ]
  exact qjk h
 rw[if_neg c]
 exact(qix s _ h).1
theorem qdQ (z:Int): ∀c∈Lib.itoa z,c≠47:=by
 by_cases h:z<0
 ·rw[yA h]
  intro c hc
  rcases List.mem_cons.1 hc with e|e
  ·rw[e];decide
  exact no47 (qdo _) c e
 rw[vz h]
 exact no47 (qdo _)
theorem qoh {s t:Str} (h:0<s.length):sgn (s++t)=sgn s:=by
 unfold sgn
 rw[Yf h]
theorem qmi (z:Int):0<(Lib.itoa z).length:=by
 by_cases h:z<0
 ·rw[yA h];simp
 rw[vz h];exact qgZ _
theorem qnb (q:Rat):sgn (T q)=decide (q.num<0):=by rw[T_eq,qoh (qmi _),qgf]
theorem qnL (q:Rat):bdy (T q)=Lib.decDigits q.num.natAbs++tl q:=by
 unfold bdy
 rw[qnb,T_eq]
 by_cases h:q.num<0
 ·rw[decide_eq_true h,if_pos rfl,yA h]
  rfl
 rw[decide_eq_false h,if_neg (by simp),vz h]
theorem qo2 {p q:Rat} (h:T p=T q):p=q:=by
 have h1:=congrArg slA h
 have e1:slA (T p)=(Lib.itoa p.num).length:=qh1 (qdQ _) p
 have e2:slA (T q)=(Lib.itoa q.num).length:=qh1 (qdQ _) q
 rw[e1,e2]at h1
 rw[T_eq,T_eq]at h
 obtain⟨h2,h3⟩:=List.append_inj h h1
 have n1:p.num=q.num:=by rw[<-qff p.num,h2,qff]
 have n2:p.den=q.den:=by
  unfold tl at h3
  by_cases c:p.den=1
  ·by_cases d:q.den=1
   ·rw[c,d]
   rw[if_pos c,if_neg d]at h3;cases h3
  by_cases d:q.den=1
  ·rw[if_neg c,if_pos d]at h3;cases h3
  rw[if_neg c,if_neg d]at h3
  injection h3 with _ h3
  exact qkr h3
 exact Rat.ext n1 n2
theorem qkV: ∀{s:Str},slA s<s.length->s=s.take (slA s)++47::s.drop (slA s+1)
 |[],h=>by simp at h
 |c::s,h=>by
  rw[slA]at h⊢
  by_cases e:c=47
  ·rw[if_pos e,e]
   rfl
  rw[if_neg e,Yr]at h
  rw[if_neg e,List.take_succ_cons,List.drop_succ_cons,List.cons_append,<-qkV (show slA s<s.length by omega)]
theorem qoG (s:Str):s=if sgn s=true then 45::bdy s else bdy s:=by
 unfold bdy
 cases h:sgn s with
 |false=>rw[if_neg (by simp),if_neg (by simp)]
 |true=>
  rw[if_pos rfl,if_pos rfl]
  cases s with
  |nil=>cases h
  |cons c t=>
   have e:=of_decide_eq_true h
   simp only[Yj]at e
   rw[Ye e]
   rfl
theorem qi0 {s:Str} (h:chk s=0): ∃q:Rat,s=T q/\(Lib.decDigits q.num.natAbs).length<=600/\(Lib.decDigits q.den).length<=600:=by
 have hk:=qe9 (bdy s)
 have lt:((bdy s).take (slA (bdy s))).length=slA (bdy s):=by rw[Ym];omega
 have hs:=qoG s
 have hsp:=@qkV (bdy s)
 unfold chk at h
 by_cases h1:okF s=false\/qgh s=true
 ·rw[if_pos h1]at h;cases h
 rw[if_neg h1]at h
 by_cases h2:600<((bdy s).take (slA (bdy s))).length\/600<((bdy s).drop (slA (bdy s)+1)).length
 ·rw[if_pos h2]at h;cases h
 rw[if_neg h2]at h
 by_cases h3:slA (bdy s)<(bdy s).length/\Nat.gcd (qL 0 ((bdy s).take (slA (bdy s)))) (qL 0 ((bdy s).drop (slA (bdy s)+1)))≠1
 ·rw[if_pos h3]at h;cases h
 have ho:okF s=true:=by cases e:okF s with|true=>rfl|false=>exact absurd (.inl e) h1
 have hb:qgh s=false:=by cases e:qgh s with|false=>rfl|true=>exact absurd (.inr e) h1
 obtain⟨hDn,hng⟩:=of_decide_eq_true ho
 have en:=hDn.eq
 obtain⟨z,hz1,hz2⟩: ∃z:Int,z.natAbs=qL 0 ((bdy s).take (slA (bdy s)))/\(z<0↔sgn s=true):=by
  cases e:sgn s with
  |false=>exact⟨((qL 0 ((bdy s).take (slA (bdy s))):Nat):Int),by omega,by simp⟩
  |true=>
   have:=qeX hDn fun c=>hng ⟨e,c⟩
   exact⟨-((qL 0 ((bdy s).take (slA (bdy s))):Nat):Int),by omega,by simp;omega⟩
 have hT: ∀t:Str,bdy s=(bdy s).take (slA (bdy s))++t->s=Lib.itoa z++t:=by
  intro t ht
  rw[hs]
  by_cases c:z<0
  ·rw[if_pos (hz2.1 c),yA c,hz1,<-en,List.cons_append,<-ht]
  rw[if_neg fun e=>c (hz2.2 e),vz c,hz1,<-en,<-ht]
 by_cases c:slA (bdy s)<(bdy s).length
 ·have hDd:Dec ((bdy s).drop (slA (bdy s)+1))/\(bdy s).drop (slA (bdy s)+1)≠[48]/\(bdy s).drop (slA (bdy s)+1)≠[49]:=Classical.byContradiction fun hc=>of_decide_eq_false hb ⟨c,hc⟩
  have ed:=hDd.1.eq
  have hd0:=qeX hDd.1 hDd.2.1
  have hd1:qL 0 ((bdy s).drop (slA (bdy s)+1))≠1:=fun e=>by
   rw[e,zH (by decide)]at ed
   exact hDd.2.2 ed
  have hg:Nat.gcd z.natAbs (qL 0 ((bdy s).drop (slA (bdy s)+1)))=1:=by
   rw[hz1]
   exact Classical.byContradiction fun e=>h3 ⟨c,e⟩
  refine⟨⟨z,qL 0 ((bdy s).drop (slA (bdy s)+1)),by omega,hg⟩,?_,?_,?_⟩
  ·have:=hT _ (hsp c)
   unfold T
   rw[if_neg hd1]
   show s=Lib.itoa z++47::Lib.decDigits (qL 0 ((bdy s).drop (slA (bdy s)+1)))
   rw[<-ed]
   exact this
  ·show(Lib.decDigits z.natAbs).length<=600
   rw[hz1,<-en]
   omega
  show(Lib.decDigits (qL 0 ((bdy s).drop (slA (bdy s)+1)))).length<=600
  rw[<-ed]
  omega
 refine⟨(z:Rat),?_,?_,?_⟩
 ·have:=hT [] (by rw[YQ,List.take_of_length_le (by omega)])
  unfold T
  rw[Rat.den_intCast,if_pos rfl,Rat.num_intCast]
  exact this
 ·rw[Rat.num_intCast,hz1,<-en]
  omega
 rw[Rat.den_intCast,zH (by decide)]
 simp
end Go.Av
end
section
namespace Go.Av
def Sml (q:Rat) (k:Nat):Prop:=(Lib.decDigits q.num.natAbs).length<=k/\(Lib.decDigits q.den).length<=k
theorem qh4 (z:Int):(Lib.itoa z).length<=(Lib.decDigits z.natAbs).length+1:=by
 by_cases h:z<0
 ·rw[yA h];simp
 rw[vz h];omega
theorem qis (q:Rat) (h:q.den≠1):slA (T q)<(T q).length/\(T q).take (slA (T q))=Lib.itoa q.num/\(T q).drop (slA (T q)+1)=Lib.decDigits q.den:=by
 have e:slA (T q)=(Lib.itoa q.num).length:=qh1 (qdQ _) q
 have ht:T q=Lib.itoa q.num++47::Lib.decDigits q.den:=by unfold T;rw[if_neg h]
 rw[e,ht]
 refine⟨by rw[Yq,Yr];omega,?_,?_⟩
 ·rw[List.take_append_of_le_length (Nat.le_refl _),List.take_of_length_le (Nat.le_refl _)]
 rw[List.drop_append,List.drop_of_length_le (by omega),show(Lib.itoa q.num).length+1-(Lib.itoa q.num).length=1 by omega]
 rfl
theorem qfX (q:Rat) (h:q.den=1):T q=Lib.itoa q.num/\slA (T q)=(T q).length:=by
 have ht:T q=Lib.itoa q.num:=by unfold T;rw[if_pos h,YQ]
 refine⟨ht,?_⟩
 rw[ht]
 exact qjk (qdQ _)
theorem qha {q:Rat} {k:Nat} (h:Sml q k):(T q).length<=2*k+2:=by
 have h1:=qh4 q.num
 have h2:=h.1
 have h3:=h.2
 unfold T
 rw[Yq]
 split
 ·simp;omega
 rw[Yr];omega
theorem qaY {N:Nat} (hN:600000<N) {q:Rat} (h:Sml q 9000): ∃f,yE N (T q)=some f/\IsF f q:=by
 have hl:=qha h
 have h1:=h.1
 have h2:=h.2
 unfold yE
 rw[qoa (by omega),ZB]
 obtain⟨r1,e1,i1⟩:=qga hN (s:=Lib.itoa q.num) (by rw[qeI];exact qdo _) (by rw[qeI];omega)
 rw[qff]at i1
 by_cases c:q.den=1
 ·obtain⟨t1,t2⟩:=qfX q c
  rw[if_neg (show¬slA (T q)<(T q).length by omega)]
  obtain⟨f,e2,i2⟩:=qjm i1
  rw[if_pos (by rfl),t1,e1,ZB,e2,ZB]
  refine⟨f,rfl,?_⟩
  have:(q.num:Rat)=q:=Rat.ext (by simp) (by simp[c])
  rw[this]at i2
  exact i2
 obtain⟨t1,t2,t3⟩:=qis q c
 rw[if_pos t1]
 have hd:=qdo q.den
 obtain⟨r2,e2,i2⟩:=qga hN (s:=Lib.decDigits q.den) (by rw[(qbl hd).2];exact hd) (by rw[(qbl hd).2];omega)
 rw[qdA hd,qdk]at i2
 rw[if_neg (by simp),t2,t3,e1,ZB,e2,ZB]
 exact⟨⟨r1,r2⟩,rfl,i1,i2⟩
end Go.Av
end
section
namespace Go.Av
theorem yn.abs {z:Int} {n:Nat} (h:yn z n):yn (z.natAbs:Int) n:=by
 unfold yn at h⊢
 rw[Int.natAbs_natCast]
 exact h
theorem yn.le {a b:Int} {n:Nat} (h:(a.natAbs:Int)<=(b.natAbs:Int)) (k:yn b n):yn a n:=Int.lt_of_le_of_lt h k
theorem yn.itoaLen {z:Int} {n:Nat} (h:yn z n) (hn:0<n):(Lib.itoa z).length<=9*n+1:=by
 have h2:z.natAbs<10^(9*n):=by
  have h:(z.natAbs:Int)<E9^n:=h
  rw[qif]at h
  exact Int.ofNat_lt.1 h
 have h3:=(qbK (show 0<9*n by omega)).2 h2
 have h4:=qh4 z
 omega
theorem den_pos (q:Rat):0<q.den:=Nat.pos_of_ne_zero q.den_nz
theorem qmh {a b:Int} (hb:b≠0):(b.sign*a).natAbs=a.natAbs:=by rw[Int.natAbs_mul,Int.natAbs_sign_of_ne_zero hb,Nat.one_mul]
end Go.Av
end
section
namespace Go.Av
theorem Sml.mono {q:Rat} {m n:Nat} (h:Sml q m) (hn:m<=n):Sml q n:=⟨Nat.le_trans h.1 hn,Nat.le_trans h.2 hn⟩
theorem qlq {q:Rat} {k n:Nat} (h:Sml q k) (hk:0<k) (hn:k<=9*n):yn q.num n:=qh2 (p:=k) (Int.ofNat_lt.2 ((qbK hk).1 h.1)) hn
theorem qld {q:Rat} {k n:Nat} (h:Sml q k) (hk:0<k) (hn:k<=9*n):yn (q.den:Int) n:=qh2 (p:=k) (by rw[Int.natAbs_natCast];exact Int.ofNat_lt.2 ((qbK hk).1 h.2)) hn
theorem zW {q:Rat} {k n:Nat} (h:Sml q k) (hk:0<k) (hn:k<=19*n):qaV q n:=⟨qeA (p:=k) (Int.ofNat_lt.2 ((qbK hk).1 h.1)) hn,qeA (p:=k) (by rw[Int.natAbs_natCast];exact Int.ofNat_lt.2 ((qbK hk).1 h.2)) hn⟩
theorem qll {z:Int} {n:Nat} (h:yn z n) (hn:0<n):(Lib.decDigits z.natAbs).length<=9*n:=by
 refine(qbK (by omega)).2 ?_
 have h:(z.natAbs:Int)<E9^n:=h
 rw[qif]at h
 exact Int.ofNat_lt.1 h
theorem qjp {q:Rat} {n:Nat} (h1:yn q.num n) (h2:yn (q.den:Int) n) (hn:0<n):Sml q (9*n):=by
 have h3:=qll h2 hn
 rw[Int.natAbs_natCast]at h3
 exact⟨qll h1 hn,h3⟩
theorem qju {a b:Int} {n:Nat} (hb:b≠0) (fa:yn a n) (fb:yn b n):yn (Rat.divInt a b).num n/\yn ((Rat.divInt a b).den:Int) n:=by
 have hg:0<Int.gcd b a:=Int.gcd_pos_of_ne_zero_left _ hb
 constructor
 ·rw[Rat.num_divInt]
  exact yn.le (Int.le_trans (qeo _ (by omega)) (by rw[qmh hb];exact Int.le_refl _)) fa
 rw[Rat.den_divInt,if_neg hb,Int.natCast_ediv]
 exact yn.le (Int.le_trans (qeo _ (by omega)) (Int.le_refl _)) fb.abs
theorem qjB {a b:Int} {m n:Nat} (ha:yn a m) (hb:yn b n):yn (a*b) (m+n):=by
 unfold yn at*
 rw[Int.natAbs_mul,Int.natCast_mul,Int.pow_add]
 have h1:(a.natAbs:Int)*(b.natAbs:Int)<=(a.natAbs:Int)*E9^n:=Yc (Int.le_of_lt hb) (by omega)
 have h2:(a.natAbs:Int)*E9^n<E9^m*E9^n:=YH ha (pow_pos E0 n)
 omega
theorem qi8 {q:Rat} (h:Sml q 600):qh6 q=false:=by
 have h1:=h.1
 have h2:=h.2
 unfold qh6 lng
 rw[Int.natAbs_natCast,decide_eq_false (by omega),decide_eq_false (by omega)]
 rfl
theorem qnH (s:Str):xG s=some (if s=[48]then 0 else if sgn s=true then-1 else 1):=by
 unfold xG
 by_cases c:s=[48]
 ·rw[if_pos (by simp[c]),if_pos c]
 rw[if_neg (by simp[c]),qfY,ZB,if_neg c]
 cases sgn s<;>rfl
theorem itoa0:Lib.itoa 0=[48]:=by
 rw[vz (by decide),show(0:Int).natAbs=0 from rfl,zH (by decide)]
 rfl
theorem T0:T 0=[48]:=by
 rw[(qfX 0 rfl).1]
 exact itoa0
theorem qkn {q:Rat}:T q=[48]↔q=0:=by
 constructor
 ·intro h
  exact qo2 (h.trans T0.symm)
 intro h
 rw[h]
 exact T0
theorem qhS (q:Rat):xG (T q)=some (if q.num<0 then-1 else if q.num=0 then 0 else 1):=by
 rw[qnH,qnb]
 by_cases c:q=0
 ·rw[if_pos (qkn.2 c),c]
  rfl
 rw[if_neg (fun h=>c (qkn.1 h)),if_neg (show¬q.num=0 from fun h=>c (Rat.num_eq_zero.1 h))]
 by_cases d:q.num<0
 ·rw[decide_eq_true d,if_pos rfl,if_pos d]
 rw[decide_eq_false d,if_neg (by simp),if_neg d]
theorem qf2 {p q:Rat} {n:Nat} (hn:0<n) (hp:Sml p (9*n)) (hq:Sml q (9*n)):Sml (p*q) (9*(n+n)):=by
 have p1:=qlq (n:=n) hp (by omega) (by omega)
 have p2:=qld (n:=n) hp (by omega) (by omega)
 have q1:=qlq (n:=n) hq (by omega) (by omega)
 have q2:=qld (n:=n) hq (by omega) (by omega)
 rw[qeg]
 obtain⟨f1,f2⟩:=qju (qkc p q) (qjB p1 q1) (qjB p2 q2)
 exact qjp f1 f2 (by omega)
theorem qou {p:Rat} {k:Nat} (h:Sml p k) (h0:p≠0):Sml p⁻¹ k:=by
 have hn:p.num≠0:=fun c=>h0 (Rat.num_eq_zero.1 c)
 unfold Sml
 rw[Rat.num_inv,Rat.den_inv,if_neg hn,Int.natAbs_mul,Int.natAbs_sign_of_ne_zero hn,Nat.one_mul,Int.natAbs_natCast]
 exact⟨h.2,h.1⟩
end Go.Av
end
section
namespace Go.Av
theorem qlT {N:Nat} (hN:600000<N) {a b:Str} (ha:a.length<=10000) (hb:b.length<=10000):jR N [a,b]=some (if chk a=0 then chk b else chk a):=by
 have e1:=qbv hN ha
 have e2:=qbv hN hb
 unfold jR
 obtain⟨K,hK⟩: ∃K,N=K+1+1+1:=⟨N-3,by omega⟩
 have L:qQ N [a,b] (K+1+1+1) 0=some (if chk a=0 then(if chk b=0 then .inl ()else .inr (chk b))else .inr (chk a)):=by
  rw[qQ,if_pos (by simp),qb1]
  simp only[Yj,ZB]
  rw[e1,ZB]
  by_cases c:chk a=0
  ·rw[if_neg (by simp[c]),if_pos c,show w64 (0+1)=((1:Nat):Int)from rfl,qQ,if_pos (by simp),qA]
   simp only[List.getElem?_cons_succ,Yj,ZB]
   rw[e2,ZB]
   by_cases d:chk b=0
   ·rw[if_neg (by simp[d]),if_pos d,show w64 (((1:Nat):Int)+1)=2 from rfl,qQ,if_neg (by simp)]
   rw[if_pos (by simp[d]),if_neg d]
  rw[if_pos (by simp[c]),if_neg c]
 rw[show qQ N [a,b] N 0=qQ N [a,b] (K+1+1+1) 0 by rw[<-hK],L,ZB]
 by_cases c:chk a=0
 ·by_cases d:chk b=0
  ·rw[if_pos c,if_pos d,if_pos c,d]
  rw[if_pos c,if_neg d,if_pos c]
 rw[if_neg c,if_neg c]
def res (q:Rat):Str×Int:=if qh6 q=true then([],4)else(T q,0)
section ops
variable {N:Nat} (hN:600000<N)
include hN
variable {p q:Rat} (hp:Sml p 600) (hq:Sml q 600) (cp:chk (T p)=0) (cq:chk (T q)=0)
include hp hq cp cq
theorem okAll:jR N [T p,T q]=some 0:=by
 have h1:=qha hp
 have h2:=qha hq
 rw[qlT hN (by omega) (by omega),if_pos cp,cq]
theorem qnP (h0:q≠0):qal N (T p) (T q)=some (res (p/q)):=by
 have f1:=zW (n:=32) hp (by omega) (by omega)
 have f2:=zW (n:=32) hq (by omega) (by omega)
 obtain⟨f,e1,i1⟩:=qaY hN (hp.mono (show 600<=9000 by omega))
 obtain⟨g,e2,i2⟩:=qaY hN (hq.mono (show 600<=9000 by omega))
 obtain⟨r,e3,i3⟩:=qeD hN i1 i2 (n:=32) (by omega) (by omega) f1 f2 h0
 unfold qal xA qZ
 rw[okAll hN hp hq cp cq,ZB,if_neg (show¬(T q==[48])=true from fun c=>h0 (qkn.1 (by simpa using c))),ZB,qiz (by omega),if_pos rfl,ZB,if_neg (by simp),ZB,if_neg (by simp),e1,ZB,e2,ZB,e3,ZB,qlt hN i3 (by rw[Rat.div_def];exact(qmE f1 (qg1 f2 (by omega))).mono (by omega))]
 rfl
end ops
end Go.Av
end
section
namespace Go.Av
theorem qjb {s:Str} {k:Nat} {c:UInt8} (h:s[k]? =some c):((⟨s.toArray⟩:ByteArray).get! k)=c:=by
 have hk:=(Yb.1 h).1
 show s.toArray[k]! =c
 rw[getElem!_def]
 simp[h]
theorem qkB {s:Str} {k:Nat} {c:UInt8} (h:s[k]? =some c) (hc:c.toNat<128):vP s k=c.toNat/\runeLen s k=1:=by
 have e:=qjb h
 unfold vP runeLen Utf8.decode
 simp only[Nat.add_zero,e,if_pos hc,and_self]
theorem qlw {s:Str} {k:Nat} {c:UInt8} (h:s[k]? =some c) (hc:128<=c.toNat):128<=vP s k:=by
 have e:=qjb h
 unfold vP Utf8.decode
 simp only[Nat.add_zero,e,if_neg (Nat.not_lt.2 hc)]
 have hr:(128:Nat)<=Utf8.runeError:=by decide
 repeat' split
 all_goals first|(simp only[Bool.and_eq_true,decide_eq_true_eq]at*;omega)|(simp;omega)|omega
def qkx (c:Int):Bool:=(decide (97<=c)&&decide (c<=122))||(decide (65<=c)&&decide (c<=90))
theorem qiF (c:Int):yZ c=some (qkx c):=by
 unfold yZ qkx
 by_cases h1:c>=97<;>by_cases h2:c<=122<;>by_cases h3:c>=65<;>by_cases h4:c<=90<;>simp[h1,h2,h3,h4]<;>omega
def ql4 (k:Nat) (c:Int):Bool:=!qkx c&&(decide (k=0)||(!decide (c=95)&&(decide (c<48)||decide (c>57))))
def qkJ (s:Str):Bool:=decide (1<=s.length)&&decide (s.length<=24)&&!((List.range s.length).any fun k=>ql4 k (s.getD k 0).toNat)
theorem qmw {k:Nat} {c:Int} (h:128<=c):ql4 k c=true:=by
 unfold ql4 qkx
 simp
 omega
def qbp (s:Str) (k:Nat):Bool:=(List.range (s.length-k)).any fun j=>ql4 (k+j) (s.getD (k+j) 0).toNat
theorem qik {s:Str} {k:Nat} {c:UInt8} (h:s[k]? =some c):qbp s k=(ql4 k c.toNat||qbp s (k+1)):=by
 have hk:=(Yb.1 h).1
 unfold qbp
 rw[show s.length-k=(s.length-(k+1))+1 by omega,List.range_succ_eq_map,List.any_cons,List.any_map]
 congr 1
 ·simp[List.getD,h]
 congr 1
 funext j
 simp only[Function.comp,Nat.succ_eq_add_one]
 rw[show k+(j+1)=k+1+j by omega]
theorem qiE {s:Str} {k:Nat} (h:s.length<=k):qbp s k=false:=by
 unfold qbp
 rw[show s.length-k=0 by omega]
 rfl
theorem qhQ (s:Str): ∀(K k:Nat),k<=s.length->s.length<K+k->jl s K k=some (if qbp s k then .inr false else .inl ())
 |0,k,h,hK=>by omega
 |K+1,k,h,hK=>by
  unfold jl
  by_cases hk:k<s.length
  ·have hc:s[k]? =some s[k]:=Ya hk
   rw[if_pos hk,qiF,qik hc]
   by_cases ha:(s[k]).toNat<128
   ·obtain⟨e1,e2⟩:=qkB hc ha
    rw[e1,e2,qhQ s K (k+1) (by omega) (by omega)]
    have ek:((k:Int)=0)↔k=0:=by omega
    unfold ql4
    generalize ((s[k]).toNat:Int)=c
    cases hl:qkx c<;>by_cases h0:k=0<;>by_cases h1:c=95<;>by_cases h2:c<48<;>by_cases h3:57<c<;>
     simp[hl,h0,h1,h2,h3]
   have hw:=qlw hc (by omega)
   rw[qmw (show(128:Int)<=((s[k]).toNat:Int)by omega)]
   have hl:qkx (vP s k)=false:=by unfold qkx;simp;omega
   have h1: ¬vP s k=95:=by omega
   have h2: ¬vP s k<48:=by omega
   have h3:vP s k>57:=by omega
   have ek:((k:Int)=0)↔k=0:=by omega
   simp only[hl,ZB,Bool.not_false,if_true,h1,h2,h3,decide_true,decide_false,if_false,Bool.true_or,ek]
   by_cases h0:k=0
   ·simp only[h0,if_true,ZB]
   simp only[h0,if_false,ZB,if_true]
  rw[if_neg hk,qiE (by omega)]
  rfl
theorem qn0 (s:Str):qkJ s=(decide (1<=s.length)&&decide (s.length<=24)&&!qbp s 0):=by
 unfold qkJ qbp
 simp
theorem ql7 {N:Nat} {s:Str} (h:s.length<N):xn N s=some (qkJ s):=by
 unfold xn
 rw[qhQ s N 0 (Nat.zero_le _) (by omega),qn0]
 cases hb:qbp s 0
 ·cases s with
  |nil=>simp
  |cons x xs=>
   have e:((x::xs)==([]:Str))=false:=rfl
   simp only[ZB,ZF,if_false,e,Bool.not_false,if_true,Bool.and_true,ZI]
   have:(1<=(x::xs).length):=by simp
   rw[Bool.eq_iff_iff]
   simp only[decide_eq_true_eq,Bool.and_eq_true,this,true_and]
   omega
 simp
end Go.Av
end
section
namespace Go.Av
end Go.Av
end
section
namespace Go.Av
open Classical
theorem qkA {q:Rat} {k:Nat} (hk:0<k) (h:(T q).length<=k):Sml q k:=by
 have h1:(Lib.decDigits q.num.natAbs).length<=(Lib.itoa q.num).length:=by
  by_cases c:q.num<0
  ·rw[yA c,Yr]
   omega
  rw[vz c]
  exact Nat.le_refl _
 unfold T at h
 rw[Yq]at h
 refine⟨by omega,?_⟩
 by_cases c:q.den=1
 ·rw[c]
  exact(qbK hk).2 (Nat.one_lt_pow (by omega) (by decide))
 rw[if_neg c,Yr]at h
 omega
theorem qoi {s:Str} {k:Nat} (hk:0<k) (hl:s.length<=k) (h:chk s=0): ∃q:Rat,s=T q/\Sml q k/\chk (T q)=0:=by
 obtain⟨q,rfl,_,_⟩:=qi0 h
 exact⟨q,rfl,qkA hk hl,h⟩
theorem qfe {p q:Rat}:((if p<q then-1 else if p=q then 0 else 1:Int)>0)↔q<p:=by
 by_cases h:p<q
 ·rw[if_pos h]
  exact⟨fun c=>absurd c (by decide),fun c=>absurd c (Rat.not_lt.2 (Rat.le_of_lt h))⟩
 rw[if_neg h]
 by_cases e:p=q
 ·rw[if_pos e]
  exact⟨fun c=>absurd c (by decide),fun c=>absurd (e▸c) Rat.lt_irrefl⟩
 rw[if_neg e]
 refine⟨fun _=>?_,fun _=>by decide⟩
 exact Rat.lt_of_le_of_ne (Rat.not_lt.1 h) (Ne.symm e)
def IsL:List qG->List Rat->Prop
 |[],[]=>True
 |f::l,q::r=>IsF f q/\IsL l r
 |_,_=>False
theorem IsL.get: ∀{l:List qG} {r:List Rat},IsL l r->l.length=r.length/\ ∀(i:Nat) (q:Rat),r[i]? =some q-> ∃f,l[i]? =some f/\IsF f q
 |[],[],_=>⟨rfl,fun i q h=>by simp at h⟩
 |f::l,q::r,h=>by
  obtain⟨h1,h2⟩:=h
  obtain⟨a,b⟩:=IsL.get h2
  refine⟨by simp[a],fun i x hx=>?_⟩
  match i,hx with
  |0,hx=>
   simp at hx
   exact⟨f,rfl,hx▸h1⟩
  |i+1,hx=>
   rw[List.getElem?_cons_succ]at hx⊢
   exact b i x hx
 |[],_::_,h=>h.elim
 |_::_,[],h=>h.elim
end Go.Av
end
section
namespace Go.Av
theorem qn9 {q:Rat}:0<q.num↔0<q:=by
 have h1:=Rat.num_nonneg (q:=q)
 have h2:=Rat.num_eq_zero (q:=q)
 constructor
 ·intro h
  exact Rat.lt_of_le_of_ne (h1.1 (by omega)) (fun e=>by have:=h2.2 e.symm;omega)
 intro h
 have h3:=h1.2 (Rat.le_of_lt h)
 have h4:q.num≠0:=fun e=>Rat.ne_of_gt h (h2.1 e)
 omega
theorem qgv {f:qG} {q:Rat} (h:IsF f q):qac f=some (if q.num<0 then-1 else if q.num=0 then 0 else 1):=by
 unfold qac
 rw[qcF h.1,ZB]
theorem qh5 {q:Rat}:((if q.num<0 then-1 else if q.num=0 then 0 else 1:Int)<=0)↔q<=0:=by
 rw[<-Rat.not_lt,<-qn9]
 constructor
 ·intro h c
  rw[if_neg (by omega),if_neg (by omega)]at h
  omega
 intro h
 split
 ·omega
 rw[if_pos (by omega)]
 omega
section ops
variable {N:Nat} (hN:600000<N)
include hN
variable {p p' q q':Rat} (hp:Sml p 60) (hp':Sml p' 60) (hq:Sml q 60) (hq':Sml q' 60) (cp:chk (T p)=0) (cp':chk (T p')=0) (cq:chk (T q)=0) (cq':chk (T q')=0) (hpp:p<=p') (hqq:q<=q')
include hp hp' hq hq' cp cp' cq cq' hpp hqq
end ops
end Go.Av
end
section
namespace Go.Av
theorem qoZ (n:Int):T (n:Rat)=Lib.itoa n:=by
 unfold T
 rw[Rat.num_intCast,Rat.den_intCast,if_pos rfl,YQ]
theorem qo4 {n:Int} (h1: -9223372036854775808<=n) (h2:n<=9223372036854775807):yn n 3:=by
 show(n.natAbs:Int)<(1000000000:Int)^3
 omega
theorem qio {n:Int} (h1: -9223372036854775808<=n) (h2:n<=9223372036854775807):Sml (n:Rat) 27:=by
 refine qjp (n:=3) ?_ ?_ (by omega)
 ·rw[Rat.num_intCast]
  exact qo4 h1 h2
 rw[Rat.den_intCast]
 exact qo4 (by decide) (by decide)
def bst (x b y:Rat):Rat:=if(x-y).abs<(x-b).abs then y else b
def cnd (x:Rat) (i:Nat):Rat:=Rat.divInt ((x*((i/2:Nat):Rat)).floor+((i%2:Nat):Int)) ((i/2:Nat):Int)
def Fst (x b:Rat) (n:Nat):Prop:= ∃i,2<=i/\i<n/\b=cnd x i/\ ∀j,2<=j->j<n->(x-b).abs<(x-cnd x j).abs\/((x-b).abs=(x-cnd x j).abs/\i<=j)
theorem Fst.step {x b:Rat} {n:Nat} (h:Fst x b n):Fst x (bst x b (cnd x n)) (n+1):=by
 obtain⟨i,h1,h2,h3,h4⟩:=h
 unfold bst
 by_cases c:(x-cnd x n).abs<(x-b).abs
 ·rw[if_pos c]
  refine⟨n,by omega,by omega,rfl,fun j j1 j2=>?_⟩
  by_cases e:j=n
  ·exact .inr ⟨by rw[e],by omega⟩
  rcases h4 j j1 (by omega)with k|⟨k,_⟩
  ·exact .inl (qo0 c k)
  exact .inl (k▸c)
 rw[if_neg c]
 refine⟨i,h1,by omega,h3,fun j j1 j2=>?_⟩
 by_cases e:j=n
 ·rw[e]
  rcases Rat.le_iff_lt_or_eq.1 (Rat.not_lt.1 c)with k|k
  ·exact .inl k
  exact .inr ⟨k,by omega⟩
 exact h4 j j1 (by omega)
end Go.Av
end
section
namespace Go.Av
theorem qnS {n:Nat}:Lib.decDigits n=[48]↔n=0:=by
 constructor
 ·intro h
  exact qkr (h.trans (by rw[zH (by decide)];rfl))
 rintro rfl
 rw[zH (by decide)]
 rfl
theorem qpe {n:Nat}:Lib.decDigits n=[49]↔n=1:=by
 constructor
 ·intro h
  exact qkr (h.trans (by rw[zH (by decide)];rfl))
 rintro rfl
 rw[zH (by decide)]
 rfl
theorem qeU {q:Rat} (h:Sml q 600):chk (T q)=0:=by
 have n47:=no47 (qdo q.num.natAbs)
 have es:=qh1 n47 q
 have et:(bdy (T q)).take (slA (bdy (T q)))=Lib.decDigits q.num.natAbs:=by
  rw[qnL,es,List.take_append_of_le_length (Nat.le_refl _),List.take_length]
 have hd:=den_pos q
 have ed:slA (bdy (T q))<(bdy (T q)).length↔q.den≠1:=by
  rw[qnL,es,Yq]
  unfold tl
  by_cases c:q.den=1
  ·rw[if_pos c]
   simp[c]
  rw[if_neg c]
  simp[c]
 have er:(bdy (T q)).drop (slA (bdy (T q))+1)=if q.den=1 then[]else Lib.decDigits q.den:=by
  rw[qnL,es]
  unfold tl
  by_cases c:q.den=1
  ·rw[if_pos c,if_pos c,YQ,List.drop_of_length_le (by omega)]
  rw[if_neg c,if_neg c,List.drop_append,List.drop_of_length_le (by omega),List.nil_append,show(Lib.decDigits q.num.natAbs).length+1-(Lib.decDigits q.num.natAbs).length=1 by omega]
  rfl
 have hok:okF (T q)=true:=by
  unfold okF
  rw[et,qnb]
  refine decide_eq_true ⟨qmv _,?_⟩
  rintro⟨h1,h2⟩
  have h1:=of_decide_eq_true h1
  have:=qnS.1 h2
  omega
 have hbad:qgh (T q)=false:=by
  unfold qgh
  refine decide_eq_false ?_
  rintro⟨h1,h2⟩
  have c:=ed.1 h1
  rw[er,if_neg c]at h2
  exact h2 ⟨qmv _,fun e=>by have:=qnS.1 e;omega,fun e=>c (qpe.1 e)⟩
 unfold chk
 rw[if_neg (by rw[hok,hbad];simp),et,er,if_neg,if_neg]
 ·rintro⟨h1,h2⟩
  have c:=ed.1 h1
  rw[if_neg c,qdk,qdk]at h2
  exact h2 q.reduced
 have h1:=h.1
 have h2:=h.2
 split<;>simp<;>omega
theorem Num_T {N:Nat} (hN:100000<N) {q:Rat} (hl:(T q).length<=50000):qcm N (T q)=some (Lib.itoa q.num):=by
 have hs:=qeO (N:=N) (s:=T q) (by omega) (by omega)
 unfold qcm
 rw[hs,ZB]
 by_cases c:q.den=1
 ·obtain⟨t1,t2⟩:=qfX q c
  rw[y7 (by omega),ZB,t2,List.take_length,t1]
 obtain⟨t1,t2,t3⟩:=qis q c
 rw[y7 (by omega),ZB,t2]
theorem Den_T {N:Nat} (hN:100000<N) {q:Rat} (hl:(T q).length<=50000):qcn N (T q)=some (Lib.decDigits q.den):=by
 have hs:=qeO (N:=N) (s:=T q) (by omega) (by omega)
 unfold qcn
 rw[hs,ZB]
 by_cases c:q.den=1
 ·obtain⟨t1,t2⟩:=qfX q c
  rw[if_pos (by omega),c,zH (by decide)]
  rfl
 obtain⟨t1,t2,t3⟩:=qis q c
 rw[if_neg (by omega),jY (by omega),qad (by omega),ZB,t3]
theorem qlU {z:Int} (hl:(Lib.itoa z).length<=50000):qco (Lib.itoa z)=some (Lib.decDigits z.natAbs):=by
 have hs:=qhS (z:Rat)
 rw[qoZ,Rat.num_intCast]at hs
 unfold qco
 rw[hs,ZB]
 by_cases c:z<0
 ·have h1:=qad (l:=(45:UInt8)::Lib.decDigits z.natAbs) (k:=1) (by simp)
  rw[if_pos c,if_pos (by decide),yA c,show(1:Int)=((1:Nat):Int)from rfl,h1]
  rfl
 rw[if_neg c,if_neg (by split<;>decide),vz (by omega)]
theorem qlk (n:Nat):Lib.decDigits n=T ((n:Int):Rat):=by rw[qoZ,qfs]
theorem qkp {N:Nat} (hN:600000<N) {s:Str} {d:Nat} (hd:0<d) (hd2:d<=1000): ∃b,qaX N s (d:Int)=some b/\(b=true-> ∃q:Rat,s=T q/\Sml q d/\chk (T q)=0):=by
 unfold qaX
 rw[qh (n:=2*(d:Int)) (by omega) (by omega),qh (n:=2*(d:Int)+2) (by omega) (by omega)]
 by_cases c:(s.length:Int)<=2*(d:Int)+2
 ·rw[if_pos c,qdX hN (by omega),ZB]
  by_cases hc:chk s=0
  ·obtain⟨q,rfl,q1,q2⟩:=qi0 hc
   have li:=qh4 q.num
   rw[if_pos hc,Num_T (by omega) (by omega),ZB,qlU (by omega),ZB,Den_T (by omega) (by omega),ZB]
   by_cases e:(Lib.decDigits q.num.natAbs).length<=d
   ·rw[if_pos (by omega),ZB]
    exact⟨_,rfl,fun h=>⟨q,rfl,⟨e,by have:=of_decide_eq_true h;omega⟩,hc⟩⟩
   rw[if_neg (by omega),ZB]
   exact⟨_,rfl,fun h=>by cases h⟩
  rw[if_neg hc,ZB]
  exact⟨_,rfl,fun h=>by cases h⟩
 rw[if_neg c,ZB]
 exact⟨_,rfl,fun h=>by cases h⟩
end Go.Av
end
section
namespace Go.Av
theorem F_eq {n:Int} (h1: -9223372036854775808<=n) (h2:n<=9223372036854775807): ∃f,qhN n=some f/\IsF f (n:Rat):=by
 obtain⟨f,e,i⟩:=qjm (Ud h1 h2)
 refine⟨f,?_,i⟩
 unfold qhN
 rw[qgA,ZB,e,ZB]
theorem qjM (r:Rat):r-(r.floor:Rat)=Rat.divInt (r.num%(r.den:Int)) (r.den:Int):=by
 have h:((r.den:Int):Rat)≠0:=by
  rw[Ne,Rat.intCast_eq_zero_iff]
  have:=r.den_pos
  omega
 have e:(r-(r.floor:Rat))*((r.den:Int):Rat)=((r.num%(r.den:Int):Int):Rat):=by
  rw[Rat.sub_eq_add_neg,Rat.add_mul,qox,Rat.floor_def,Int.emod_def,Rat.intCast_sub,Rat.intCast_mul]
  grind
 rw[Rat.divInt_eq_div,<-e,Rat.mul_div_cancel h]
theorem qlP {r:Rat} {n:Nat} (h:qaV r n):qaV (r-(r.floor:Rat)) n:=by
 rw[qjM]
 have hd:=r.den_pos
 refine qgC (by omega) ?_ h.2
 refine qaO ?_ h.2
 have:=Int.emod_nonneg r.num (show(r.den:Int)≠0 by omega)
 have:=Int.emod_lt_of_pos r.num (show(0:Int)<(r.den:Int)by omega)
 omega
theorem qjW {x:Rat} {n:Nat} (h:qaV x n):x<=((W^n:Int):Rat)/\ -((W^n:Int):Rat)<=x:=by
 have hd:=x.den_pos
 have h1:(x.num.natAbs:Int)<W^n:=h.1
 have hp:(0:Int)<=W^n:=by omega
 have hm:W^n*1<=W^n*(x.den:Int):=Yc (by omega) hp
 rw[<-Rat.intCast_neg]
 constructor
 ·rw[Rat.le_iff,Rat.num_intCast,Rat.den_intCast]
  omega
 rw[Rat.le_iff,Rat.num_intCast,Rat.den_intCast,Int.neg_mul]
 omega
theorem qnR {x:Rat} {n m:Nat} (hx:qaV x n) {c d:Int} (h0:0<=d) (hd:d<=m) (hm:m<=1000) (h1:(c:Rat)-x*(d:Rat)<=1) (h2: -1<=(c:Rat)-x*(d:Rat)):Fit c (n+1):=by
 obtain⟨b1,b2⟩:=qjW hx
 have hd':(0:Rat)<=(d:Rat):=Rat.intCast_nonneg.2 h0
 have hW:(1:Int)<=W^n:=pow_pos (show(0:Int)<W by decide) n
 have m1:=Rat.mul_le_mul_of_nonneg_right b1 hd'
 have m2:=Rat.mul_le_mul_of_nonneg_right b2 hd'
 have u1:(c:Rat)<=((W^n*d+1:Int):Rat):=by
  rw[Rat.intCast_add,Rat.intCast_mul,show((1:Int):Rat)=1 from rfl]
  grind
 have u2:((-(W^n*d+1):Int):Rat)<=(c:Rat):=by
  rw[Rat.intCast_neg,Rat.intCast_add,Rat.intCast_mul,show((1:Int):Rat)=1 from rfl]
  grind
 rw[Rat.intCast_le_intCast]at u1 u2
 have m3:W^n*d<=W^n*1000:=Yc (by omega) (by omega)
 have e:W^(n+1)=W^n*W:=Int.pow_succ ..
 have m4:W^n*1001<W^n*W:=Int.mul_lt_mul_of_pos_left (by decide) (by omega)
 unfold Fit
 omega
structure Cvg (x:Rat) (m:Nat) (a b c d:Int) (r:Rat):Prop where
 b0:0<=b
 d0:0<=d
 bm:b<=m
 dm:d<=m
 st:(b=1/\d=0)\/(1<=d/\1<r)
 fr:qaV r 4
 za:Fit a 5
 zc:Fit c 5
 eq:x*((d:Rat)*r+(b:Rat))=(c:Rat)*r+(a:Rat)
 det:c*b-d*a=1\/c*b-d*a= -1
theorem qlB {r:Rat} (h:1<r):1<=r.floor:=by
 rw[Rat.le_floor_iff]
 exact Rat.le_of_lt h
theorem Cvg.next {x:Rat} {m:Nat} {a b c d:Int} {r:Rat} (h:Cvg x m a b c d r) (hm1:1<=m) (hm:m<=1000) (fx:qaV x 4) (hd:d*r.floor+b<=m) (hr:r≠(r.floor:Rat)):
 Cvg x m c d (c*r.floor+a) (d*r.floor+b) (r-(r.floor:Rat))⁻¹/\1<=d*r.floor+b/\b+d+1<=d+(d*r.floor+b)+(if d=0 then 1 else 0):=by
 have hpos:0<r-(r.floor:Rat):=by
  rw[<-Rat.lt_iff_sub_pos]
  exact Rat.lt_of_le_of_ne (Rat.floor_le _) (Ne.symm hr)
 have hlt:r-(r.floor:Rat)<1:=by
  have:=Rat.lt_floor_add_one r
  rw[Rat.intCast_add,show((1:Int):Rat)=1 from rfl]at this
  grind
 have hne:r-(r.floor:Rat)≠0:=Rat.ne_of_gt hpos
 have k1:1<=d*r.floor+b/\b+d+1<=d+(d*r.floor+b)+(if d=0 then 1 else 0):=by
  rcases h.st with⟨e1,e2⟩|⟨e1,e2⟩
  ·rw[e1,e2]
   simp
  have f1:=qlB e2
  have:=Yc f1 h.d0
  have:=h.b0
  rw[if_neg (by omega)]
  omega
 have hinv:=Rat.mul_inv_cancel _ hne
 have hs:(1:Rat)<(r-(r.floor:Rat))⁻¹:=by
  have p:=Rat.inv_pos.2 hpos
  have:=Rat.mul_lt_mul_of_pos_right hlt p
  rw[hinv,Rat.one_mul]at this
  exact this
 generalize hg:(r-(r.floor:Rat))⁻¹=s at*
 have er:r=(r.floor:Rat)+s⁻¹:=by
  rw[<-hg,Rat.inv_inv]
  grind
 generalize hk:r.floor=k at*
 have es:(r-(k:Rat))*s=1:=hinv
 have e2:x*(((d*k+b:Int):Rat)*s+(d:Rat))=((c*k+a:Int):Rat)*s+(c:Rat):=by
  have h1:=h.eq
  rw[Rat.intCast_add,Rat.intCast_mul,Rat.intCast_add,Rat.intCast_mul]
  have h2:x*((d:Rat)*r+(b:Rat))*s=((c:Rat)*r+(a:Rat))*s:=by rw[h1]
  have h3:r*s=1+(k:Rat)*s:=by grind
  have h4:x*((d:Rat)*(r*s)+(b:Rat)*s)=(c:Rat)*(r*s)+(a:Rat)*s:=by grind
  rw[h3]at h4
  grind
 have dt:(c*k+a)*d-(d*k+b)*c=1\/(c*k+a)*d-(d*k+b)*c= -1:=by
  have:(c*k+a)*d-(d*k+b)*c= -(c*b-d*a):=by grind
  rcases h.det with e|e
  ·right;rw[this,e]
  left;rw[this,e];rfl
 refine⟨?_,k1⟩
 have D1:(1:Rat)<=((d*k+b:Int):Rat)*s+(d:Rat):=by
  have a1:(1:Rat)<=((d*k+b:Int):Rat):=by
   have:=Rat.intCast_le_intCast.2 k1.1
   exact this
  have a2:(0:Rat)<=(d:Rat):=Rat.intCast_nonneg.2 h.d0
  have a3:=Rat.mul_le_mul_of_nonneg_right a1 (show(0:Rat)<=s from Rat.le_trans (by decide) (Rat.le_of_lt hs))
  rw[Rat.one_mul]at a3
  have:=Rat.le_of_lt hs
  grind
 have zz:(((c*k+a:Int):Rat)-x*((d*k+b:Int):Rat))*(((d*k+b:Int):Rat)*s+(d:Rat))=(((c*k+a)*d-(d*k+b)*c:Int):Rat):=by
  rw[Rat.intCast_sub,Rat.intCast_mul,Rat.intCast_mul]
  generalize ((c*k+a:Int):Rat)=C at*
  generalize ((d*k+b:Int):Rat)=E at*
  generalize (c:Rat)=c' at*
  generalize (d:Rat)=d' at*
  have:(C-x*E)*(E*s+d')=C*(E*s+d')-E*(x*(E*s+d')):=by grind
  rw[this,e2]
  grind
 have hz:((c*k+a:Int):Rat)-x*((d*k+b:Int):Rat)<=1/\ -1<=((c*k+a:Int):Rat)-x*((d*k+b:Int):Rat):=by
  generalize ((c*k+a:Int):Rat)-x*((d*k+b:Int):Rat)=z at*
  generalize ((d*k+b:Int):Rat)*s+(d:Rat)=D at*
  have hD0:(0:Rat)<=D:=Rat.le_trans (by decide) D1
  have hb:z*D=1\/z*D= -1:=by
   rw[zz]
   rcases dt with e|e
   ·left;rw[e];rfl
   right;rw[e];rfl
  constructor
  ·rw[<-Rat.not_lt]
   intro hc
   have:=Rat.mul_lt_mul_of_pos_right hc (show(0:Rat)<D by grind)
   rw[Rat.one_mul]at this
   grind
  rw[<-Rat.not_lt]
  intro hc
  have:=Rat.mul_lt_mul_of_pos_right hc (show(0:Rat)<D by grind)
  grind
 exact {b0:=h.d0,d0:=by omega,bm:=h.dm,dm:=hd,st:= .inr ⟨k1.1,hs⟩,fr:=by rw[<-hg];exact qg1 (by rw[<-hk];exact qlP h.fr) (by omega),za:=h.zc,zc:=qnR fx (by omega) hd hm hz.1 hz.2,eq:=e2,det:=dt}
end Go.Av
end
section
namespace Go.Av
def qgl (a:qz):Bool:=decide (a.Length<1)||decide (999999999<a.Length)||decide (a.Mass<1)||decide (999999999<a.Mass)
def jU (a:qz):Int:=if qgl a=true then 3 else 0
theorem qiA {a:qz} (h:jU a=0):1<=a.Length/\a.Length<=999999999/\1<=a.Mass/\a.Mass<=999999999:=by
 unfold jU at h
 by_cases c:qgl a=true
 ·rw[if_pos c]at h;omega
 unfold qgl at c
 simp only[Bool.or_eq_true,decide_eq_true_eq,not_or]at c
 omega
theorem qbs (a:qz):vV a=some (jU a):=by
 unfold vV qch jU qgl
 by_cases h1:a.Length<1
 ·simp[h1]
 by_cases h2:999999999<a.Length
 ·simp[h1,h2]
 by_cases h3:a.Mass<1
 ·simp[h1,h2,h3]
 by_cases h4:999999999<a.Mass
 ·simp[h1,h2,h3,h4]
 simp[h1,h2,h3,h4]
theorem qeW {N:Nat} (hN:10<N) (a b:Int):zX N [a,b]=some (if a=0 then b else a):=by
 obtain⟨K,rfl⟩: ∃K,N=K+1+1+1:=⟨N-3,by omega⟩
 have w1:w64 1=1:=rfl
 have w2:w64 2=2:=rfl
 have i0: ∀a b:Int,idx [a,b] 0=some a:=fun _ _=>rfl
 have i1: ∀a b:Int,idx [a,b] 1=some b:=fun _ _=>rfl
 unfold zX
 by_cases ha:a=0
 ·by_cases hb:b=0
  ·simp[zu,i0,i1,ha,hb,w1,w2]
  simp[zu,i0,i1,ha,hb,w1,w2]
 simp[zu,i0,ha]
theorem qoD {N:Nat} (hN:10<N) (a b c:Int):zX N [a,b,c]=some (if a=0 then(if b=0 then c else b)else a):=by
 obtain⟨K,rfl⟩: ∃K,N=K+1+1+1+1:=⟨N-4,by omega⟩
 have w1:w64 1=1:=rfl
 have w2:w64 2=2:=rfl
 have w3:w64 3=3:=rfl
 have i0: ∀a b c:Int,idx [a,b,c] 0=some a:=fun _ _ _=>rfl
 have i1: ∀a b c:Int,idx [a,b,c] 1=some b:=fun _ _ _=>rfl
 have i2: ∀a b c:Int,idx [a,b,c] 2=some c:=fun _ _ _=>rfl
 unfold zX
 by_cases ha:a=0
 ·by_cases hb:b=0
  ·by_cases hc:c=0
   ·simp[zu,i0,i1,i2,ha,hb,hc,w1,w2,w3]
   simp[zu,i0,i1,i2,ha,hb,hc,w1,w2,w3]
  simp[zu,i0,i1,ha,hb,w1,w2]
 simp[zu,i0,ha]
theorem qhg (n:Int):qat n 1 999999999=some (if n<1\/999999999<n then 3 else 0):=by
 unfold qat jv
 by_cases h1:n<1
 ·simp[h1]
 by_cases h2:999999999<n
 ·simp[h1,h2]
 simp[h1,h2]
theorem qih {N:Nat} (hN:10<N) (a:qz):jk N a=some (jU a):=by
 unfold jk
 rw[qhg,ZB,qhg,ZB,qeW hN,ZB]
 unfold jU qgl
 by_cases h1:a.Length<1
 ·simp[h1]
 by_cases h2:999999999<a.Length
 ·simp[h1,h2]
 by_cases h3:a.Mass<1
 ·simp[h1,h2,h3]
 by_cases h4:999999999<a.Mass
 ·simp[h1,h2,h3,h4]
 simp[h1,h2,h3,h4]
def qj5 (q:Rat):Str×Int:=if qh6 q=true then([],4)else(T q,0)
theorem qeq {N:Nat} (hN:600000<N) {f:qG} {q:Rat} (h:IsF f q) (fq:qaV q 3900):xK N f=some (qj5 q):=by
 unfold xK qj5
 rw[qjF hN h fq,ZB]
 by_cases c:qh6 q=true
 ·rw[if_pos c,if_pos c]
 rw[if_neg c,if_neg c,qlc hN h fq,ZB]
def scQ (a:qz):Rat:=(a.Mass:Rat)/(a.Length:Rat)
def xh (a:qz) (q:Rat):Rat:=if a.Direct=true then q*scQ a else scQ a/q
def qaJ (a:qz) (q:Rat):Rat:=if a.Direct=true then q/scQ a else scQ a/q
theorem qcJ {p q:Rat} {n:Nat} (hn:0<n) (hp:Sml p (9*n)) (hq:Sml q (9*n)) (h0:q≠0):Sml (p/q) (9*(n+n)):=by
 rw[Rat.div_def]
 exact qf2 hn hp (qou hq h0)
theorem qkL {a:qz} (h:jU a=0):Sml (a.Mass:Rat) 27/\Sml (a.Length:Rat) 27/\0<(a.Mass:Rat)/\0<(a.Length:Rat):=by
 obtain⟨h1,h2,h3,h4⟩:=qiA h
 exact⟨qio (by omega) (by omega),qio (by omega) (by omega),Rat.intCast_pos.2 (by omega),Rat.intCast_pos.2 (by omega)⟩
theorem qei {a:qz} (h:jU a=0):Sml (scQ a) 54/\0<scQ a:=by
 obtain⟨s1,s2,p1,p2⟩:=qkL h
 refine⟨qcJ (n:=3) (by omega) s1 s2 (Rat.ne_of_gt p2),?_⟩
 unfold scQ
 rw[Rat.div_def]
 exact Rat.mul_pos p1 (Rat.inv_pos.2 p2)
theorem qfK {a:qz} (h:jU a=0) {q:Rat} {n:Nat} (hn:6<=n) (hq:Sml q (9*n)) (h0:0<q):Sml (xh a q) (9*(n+n))/\0<xh a q:=by
 obtain⟨s1,p1⟩:=qei h
 unfold xh
 split
 ·exact⟨qf2 (by omega) hq (s1.mono (by omega)),Rat.mul_pos h0 p1⟩
 refine⟨qcJ (by omega) (s1.mono (by omega)) hq (Rat.ne_of_gt h0),?_⟩
 rw[Rat.div_def]
 exact Rat.mul_pos p1 (Rat.inv_pos.2 h0)
theorem qfR {a:qz} (h:jU a=0) {q:Rat} {n:Nat} (hn:6<=n) (hq:Sml q (9*n)) (h0:0<q):Sml (qaJ a q) (9*(n+n))/\0<qaJ a q:=by
 obtain⟨s1,p1⟩:=qei h
 unfold qaJ
 split
 ·refine⟨qcJ (by omega) hq (s1.mono (by omega)) (Rat.ne_of_gt p1),?_⟩
  rw[Rat.div_def]
  exact Rat.mul_pos h0 (Rat.inv_pos.2 p1)
 refine⟨qcJ (by omega) (s1.mono (by omega)) hq (Rat.ne_of_gt h0),?_⟩
 rw[Rat.div_def]
 exact Rat.mul_pos p1 (Rat.inv_pos.2 h0)
theorem qjd {N:Nat} (hN:600000<N) {a:qz} (h:jU a=0): ∃f,zC N a=some f/\IsF f (scQ a):=by
 obtain⟨h1,h2,h3,h4⟩:=qiA h
 obtain⟨s1,s2,p1,p2⟩:=qkL h
 obtain⟨f,e1,i1⟩:=F_eq (n:=a.Mass) (by omega) (by omega)
 obtain⟨g,e2,i2⟩:=F_eq (n:=a.Length) (by omega) (by omega)
 obtain⟨r,e3,i3⟩:=qeD hN i1 i2 (n:=2) (by omega) (by omega) (zW s1 (by omega) (by omega)) (zW s2 (by omega) (by omega)) (Rat.ne_of_gt p2)
 refine⟨r,?_,i3⟩
 unfold zC
 rw[e1,ZB,e2,ZB,e3,ZB]
theorem qjG {N:Nat} (hN:600000<N) {a:qz} (h:jU a=0) {g:qG} {q:Rat} (hg:IsF g q) {k:Nat} (hk:54<=k) (hk2:k<=3600) (sq:Sml q k) (h0:0<q): ∃f,jb N a g=some f/\IsF f (xh a q):=by
 obtain⟨f,e1,i1⟩:=qjd hN h
 obtain⟨s1,p1⟩:=qei h
 unfold jb xh
 by_cases c:a.Direct=true
 ·obtain⟨r,e2,i2⟩:=qhT hN hg i1 (n:=200) (by omega) (zW sq (by omega) (by omega)) (zW s1 (by omega) (by omega))
  refine⟨r,?_,?_⟩
  ·rw[if_pos c,e1,ZB,e2,ZB]
  rw[if_pos c];exact i2
 obtain⟨r,e2,i2⟩:=qeD hN i1 hg (n:=200) (by omega) (by omega) (zW s1 (by omega) (by omega)) (zW sq (by omega) (by omega)) (Rat.ne_of_gt h0)
 refine⟨r,?_,?_⟩
 ·rw[if_neg c,e1,ZB,e2,ZB]
 rw[if_neg c];exact i2
theorem qoP {N:Nat} (hN:600000<N) {a:qz} (h:jU a=0) {g:qG} {q:Rat} (hg:IsF g q) {k:Nat} (hk:54<=k) (hk2:k<=3600) (sq:Sml q k) (h0:0<q): ∃f,vZ N a g=some f/\IsF f (qaJ a q):=by
 obtain⟨f,e1,i1⟩:=qjd hN h
 obtain⟨s1,p1⟩:=qei h
 unfold vZ qaJ
 by_cases c:a.Direct=true
 ·obtain⟨r,e2,i2⟩:=qeD hN hg i1 (n:=200) (by omega) (by omega) (zW sq (by omega) (by omega)) (zW s1 (by omega) (by omega)) (Rat.ne_of_gt p1)
  refine⟨r,?_,?_⟩
  ·rw[if_pos c,e1,ZB,e2,ZB]
  rw[if_pos c];exact i2
 obtain⟨r,e2,i2⟩:=qeD hN i1 hg (n:=200) (by omega) (by omega) (zW s1 (by omega) (by omega)) (zW sq (by omega) (by omega)) (Rat.ne_of_gt h0)
 refine⟨r,?_,?_⟩
 ·rw[if_neg c,e1,ZB,e2,ZB]
 rw[if_neg c];exact i2
theorem qhd {N:Nat} (hN:600000<N) {a:qz} (h:jU a=0) {q:Rat} (sq:Sml q 600) (h0:0<q) (hp:jD N (T q)=some 0):yY N a (T q)=some (qj5 (xh a q)):=by
 obtain⟨g,e1,i1⟩:=qaY hN (sq.mono (show 600<=9000 by omega))
 obtain⟨f,e2,i2⟩:=qjG hN h i1 (by omega) (by omega) sq h0
 have s2:=(qfK h (n:=67) (by omega) (sq.mono (by omega)) h0).1
 unfold yY
 rw[qih (by omega),ZB,hp,ZB,qeW (by omega),h,if_pos rfl,ZB,if_neg (by decide),e1,ZB,e2,ZB,qeq hN i2 (zW s2 (by omega) (by omega)),ZB]
theorem qeP {N:Nat} (hN:600000<N) {a b:qz} (h:jU a=0) (h':jU b=0) {q:Rat} (sq:Sml q 600) (h0:0<q) (hp:jD N (T q)=some 0):vT N a b (T q)=some (qj5 (qaJ b (xh a q))):=by
 obtain⟨g,e1,i1⟩:=qaY hN (sq.mono (show 600<=9000 by omega))
 obtain⟨f,e2,i2⟩:=qjG hN h i1 (by omega) (by omega) sq h0
 obtain⟨s2,p2⟩:=qfK h (n:=67) (by omega) (sq.mono (by omega)) h0
 obtain⟨f',e3,i3⟩:=qoP hN h' i2 (k:=1206) (by omega) (by omega) (s2.mono (by omega)) p2
 have s3:=(qfR h' (n:=134) (by omega) (s2.mono (by omega)) p2).1
 unfold vT
 rw[qih (by omega),ZB,qih (by omega),ZB,hp,ZB,qoD (by omega),h,h',if_pos rfl,if_pos rfl,ZB,if_neg (by decide),e1,ZB,e2,ZB,e3,ZB,qeq hN i3 (zW s3 (by omega) (by omega)),ZB]
end Go.Av
end
section
namespace Go.Av
end Go.Av
end
section
namespace Go.Av
end Go.Av
end
section
namespace Go.Av
end Go.Av
end
section
namespace Go.Av
theorem qie {b:qz} (h:jU b=0) {d:Rat} (h0:0<d):xh b (qaJ b d)=d:=by
 obtain⟨_,p⟩:=qei h
 have n1:=Rat.ne_of_gt p
 have n2:=Rat.ne_of_gt h0
 unfold xh qaJ
 split
 ·exact Rat.div_mul_cancel n1
 rw[Rat.div_def,Rat.div_def,Rat.inv_mul_rev,Rat.inv_inv]
 rw[Rat.mul_comm d,<-Rat.mul_assoc,Rat.mul_inv_cancel _ n1,Rat.one_mul]
theorem qa3 {q:Rat} (h:Sml q 600):qj5 q=(T q,0):=by
 unfold qj5
 rw[if_neg (by rw[qi8 h];decide)]
theorem qaz {N:Nat} (hN:600000<N) {q:Rat} (h:Sml q 600):(0<q->jD N (T q)=some 0)/\(0<=q->jA N (T q)=some 0):=by
 have hl:=qha h
 obtain⟨f,e1,i1⟩:=qaY hN (h.mono (show 600<=9000 by omega))
 constructor
 ·intro h0
  have h1: ¬_<=(0:Int):=fun c=>absurd ((qh5 (q:=q)).1 c) (Rat.not_le.2 h0)
  unfold jD qao jv
  rw[qbv hN (by omega),ZB,qeU h,if_neg (by decide),e1,ZB,qgv i1,ZB]
  rw[if_neg (by rw[decide_eq_true_eq];omega)];rfl
 intro h0
 have h1:0<=q.num:=Rat.num_nonneg.2 h0
 unfold jA qao jv
 rw[qbv hN (by omega),ZB,qeU h,if_neg (by decide),e1,ZB,qgv i1,ZB]
 rw[if_neg (by rw[decide_eq_true_eq];split;omega;split<;>omega)];rfl
theorem qiw {N:Nat} (hN:600000<N) {q:Rat} (h:Sml q 600) (h0:0<q):zo N (T q)=some 0:=by
 have hl:=qha h
 unfold zo
 have h1: ¬_<=(0:Int):=fun c=>absurd ((qh5 (q:=q)).1 c) (Rat.not_le.2 h0)
 rw[qdX hN (by omega),ZB,qeU h,if_pos rfl,qhS,ZB,decide_eq_false h1];rfl
theorem qcl {n:Int} (h1: -9223372036854775808<=n) (h2:n<=9223372036854775807) {k:Nat} (hk:27<=k):Sml (n:Rat) k:=(qio h1 h2).mono hk
theorem qoY {N:Nat} (hN:10<N):zX N [0,0,0,0,0,0]=some 0:=by
 obtain⟨K,rfl⟩: ∃K,N=K+1+1+1+1+1+1+1:=⟨N-7,by omega⟩
 rfl
end Go.Av
end
section
namespace Go.Av
theorem qfL {p q:Rat}:((if p<q then-1 else if p=q then 0 else 1:Int)=0)↔p=q:=by
 by_cases h:p<q
 ·rw[if_pos h]
  exact⟨fun c=>absurd c (by decide),fun c=>absurd (c▸h) Rat.lt_irrefl⟩
 rw[if_neg h]
 by_cases e:p=q
 ·rw[if_pos e]
  exact⟨fun _=>e,fun _=>rfl⟩
 rw[if_neg e]
 exact⟨fun c=>absurd c (by decide),fun c=>absurd c e⟩
end Go.Av
end
section
namespace Go.Av
theorem pick {x L M:Rat} {d f:Int} (nL:(L.den:Int)=d) (nM:(M.den:Int)=f) {c:Int}
 (hc:c=if(if(x-L).abs<(x-M).abs then-1 else if(x-L).abs=(x-M).abs then 0 else 1:Int)=0 then(if(if(d:Rat)<(f:Rat)then-1 else if(d:Rat)=(f:Rat)then 0 else 1:Int)=0 then(if L<M then-1 else if L=M then 0 else 1)else(if(d:Rat)<(f:Rat)then-1 else if(d:Rat)=(f:Rat)then 0 else 1))else(if(x-L).abs<(x-M).abs then-1 else if(x-L).abs=(x-M).abs then 0 else 1)):
 (¬c>0->le3 x L M)/\(c>0->le3 x M L):=by
 by_cases h1:(x-L).abs=(x-M).abs
 ·rw[if_pos (qfL.2 h1)]at hc
  by_cases h2:(d:Rat)=(f:Rat)
  ·rw[if_pos (qfL.2 h2)]at hc
   have h2:=Rat.intCast_inj.1 h2
   constructor
   ·intro h
    rw[hc]at h
    exact .inr ⟨h1,.inr ⟨by omega,Rat.not_lt.1 fun k=>h (qfe.2 k)⟩⟩
   intro h
   rw[hc]at h
   exact .inr ⟨h1.symm,.inr ⟨by omega,Rat.le_of_lt (qfe.1 h)⟩⟩
  rw[if_neg (fun k=>h2 (qfL.1 k))]at hc
  constructor
  ·intro h
   rw[hc]at h
   have h:=Rat.not_lt.1 (fun k=>h (qfe.2 k))
   have h3:d≠f:=fun k=>h2 (by rw[k])
   have:=Rat.intCast_le_intCast.1 h
   exact .inr ⟨h1,.inl (by omega)⟩
  intro h
  rw[hc]at h
  have:=Rat.intCast_lt_intCast.1 (qfe.1 h)
  exact .inr ⟨h1.symm,.inl (by omega)⟩
 rw[if_neg (fun k=>h1 (qfL.1 k))]at hc
 constructor
 ·intro h
  rw[hc]at h
  have h:=Rat.not_lt.1 (fun k=>h (qfe.2 k))
  exact .inl (Rat.lt_of_le_of_ne h h1)
 intro h
 rw[hc]at h
 exact .inl (qfe.1 h)
end Go.Av
end
section
namespace Go.Av
end Go.Av
end
section
namespace Go.Av
end Go.Av
end
section
namespace Go.Av
theorem qn7 {N:Nat} (hN:600000<N) {s:Str} {k:Nat} (hk:0<k) (hk2:k<=600) (hl:s.length<=k): ∃e,jA N s=some e/\xC N s=some e/\(e=0-> ∃q:Rat,s=T q/\Sml q k/\0<=q):=by
 unfold jA qao xC jv
 rw[qbv hN (by omega),qdX hN (by omega),ZB,ZB]
 by_cases hc:chk s=0
 ·obtain⟨q,rfl,sq,_⟩:=qoi hk hl hc
  obtain⟨f,e1,i1⟩:=qaY hN (sq.mono (show k<=9000 by omega))
  rw[hc,if_neg (by decide),if_pos rfl,e1,ZB,qgv i1,ZB,qhS,ZB]
  by_cases h:0<=q
  ·have h1:0<=q.num:=Rat.num_nonneg.2 h
   have h2: ¬(if q.num<0 then-1 else if q.num=0 then 0 else 1:Int)<0:=by split;omega;split<;>omega
   refine⟨0,?_,?_,fun _=>⟨q,rfl,sq,h⟩⟩
   ·rw[if_neg (by rw[decide_eq_true_eq];exact h2)];rfl
   rw[decide_eq_false h2];rfl
  have h1:q.num<0:=Int.not_le.1 fun c=>h (Rat.num_nonneg.1 c)
  have h2:(if q.num<0 then-1 else if q.num=0 then 0 else 1:Int)<0:=by rw[if_pos h1];decide
  refine⟨3,?_,?_,fun c=>absurd c (by decide)⟩
  ·rw[if_pos (decide_eq_true h2)];rfl
  rw[decide_eq_true h2];rfl
 refine⟨chk s,?_,?_,fun c=>absurd c hc⟩
 ·rw[if_pos (by simp[hc])];rfl
 rw[if_neg hc];rfl
def PtOK (p:qI):Prop:= ∃a b:Rat,p=⟨T a,T b⟩/\Sml a 60/\Sml b 60/\0<=a/\0<=b
def PtsOK (l:List qI) (i:Nat):Prop:=(∀j,j<i-> ∀p,l[j]? =some p->PtOK p)/\ ∀j,j+1<i-> ∀a b a' b',l[j]? =some ⟨T a,T b⟩->l[j+1]? =some ⟨T a',T b'⟩->a<a'
structure YarnOK (y:qcd) where
 d:Rat
 t:Rat
 ed:y.Density=T d
 sd:Sml d 60
 d0:0<d
 et:y.Twist=T t
 st:Sml t 60
 ne:0<y.Strength.length
 few:y.Strength.length<=256
 pts:PtsOK y.Strength y.Strength.length
end Go.Av
end
section
namespace Go.Av
theorem qnq {N:Nat} (hN:600000<N) {y:qcd} {d q:Rat} (hy:yx N y=some 0) (ed:y.Density=T d) (hq:jA N (T q)=some 0) (sd:Sml d 108) (sq:Sml q 108):qck N y (T q)=some (qj5 (d*q)):=by
 obtain⟨f,e1,i1⟩:=qaY hN (sd.mono (show 108<=9000 by omega))
 obtain⟨g,e2,i2⟩:=qaY hN (sq.mono (show 108<=9000 by omega))
 obtain⟨r,e3,i3⟩:=qhT hN i1 i2 (n:=200) (by omega) (zW sd (by omega) (by omega)) (zW sq (by omega) (by omega))
 have s3:Sml (d*q) 216:=qf2 (n:=12) (by omega) sd sq
 unfold qck
 rw[hy,ZB,hq,ZB,qeW (by omega),if_pos rfl,ZB,if_neg (by decide),ed,e1,ZB,e2,ZB,e3,ZB,qeq hN i3 (zW s3 (by omega) (by omega)),ZB]
end Go.Av
end
section
namespace Go.Av
theorem qo3 {N:Nat} (hN:600000<N) {q:Rat} (h:Sml q 600):zo N (T q)=some (if 0<q then 0 else 3):=by
 by_cases h0:0<q
 ·rw[qiw hN h h0,if_pos h0]
 have hl:=qha h
 have h1:=(qh5 (q:=q)).2 (Rat.not_lt.1 h0)
 unfold zo
 rw[qdX hN (by omega),ZB,qeU h,if_pos rfl,qhS,ZB,decide_eq_true h1,if_neg h0];rfl
theorem T4:T ((4:Int):Rat)=[52]:=by
 rw[show((4:Int):Rat)=(((4:Nat):Int):Rat)from rfl,<-qlk,zH (by decide)]
 rfl
theorem T7:T ((7:Int):Rat)=[55]:=by
 rw[show((7:Int):Rat)=(((7:Nat):Int):Rat)from rfl,<-qlk,zH (by decide)]
 rfl
theorem T50:T ((50:Int):Rat)=[53,48]:=by
 rw[show((50:Int):Rat)=(((50:Nat):Int):Rat)from rfl,<-qlk,qdy (by decide),zH (by decide)]
 rfl
theorem T10:T ((10:Int):Rat)=[49,48]:=by
 rw[show((10:Int):Rat)=(((10:Nat):Int):Rat)from rfl,<-qlk,qdy (by decide),zH (by decide)]
 rfl
abbrev thY (s:Str):qcd:=⟨[121],s,[49,48],[(⟨[48],[52]⟩:qI),(⟨[53,48],[55]⟩:qI)],[]⟩
theorem th_ok {N:Nat} (hN:600000<N) {d:Rat} (h:Sml d 600) (h0:0<d):yx N (thY (T d))=some 0:=by
 have s0:Sml ((0:Int):Rat) 600:=qcl (n:=0) (by omega) (by omega) (by omega)
 have s4:Sml ((4:Int):Rat) 600:=qcl (n:=4) (by omega) (by omega) (by omega)
 have s7:Sml ((7:Int):Rat) 600:=qcl (n:=7) (by omega) (by omega) (by omega)
 have s50:Sml ((50:Int):Rat) 600:=qcl (n:=50) (by omega) (by omega) (by omega)
 have s10:Sml ((10:Int):Rat) 600:=qcl (n:=10) (by omega) (by omega) (by omega)
 have t0:T ((0:Int):Rat)=[48]:=T0
 have n0:=(qaz hN s0).2 (by decide)
 have n4:=(qaz hN s4).2 (by decide)
 have n7:=(qaz hN s7).2 (by decide)
 have n50:=(qaz hN s50).2 (by decide)
 have c10:=qeU s10
 obtain⟨f,f1,i1⟩:=qaY hN (s50.mono (show 600<=9000 by omega))
 obtain⟨g,g1,i2⟩:=qaY hN (s0.mono (show 600<=9000 by omega))
 have fc:=qog hN i1 i2 (n:=200) (by omega) (zW s50 (by omega) (by omega)) (zW s0 (by omega) (by omega))
 rw[t0]at n0 g1
 rw[T4]at n4
 rw[T7]at n7
 rw[T50]at n50 f1
 rw[T10]at c10
 rw[if_neg (by decide),if_neg (by decide)]at fc
 have P:jS N ⟨[48],[52]⟩ []=some 0:=by
  unfold jS
  simp only
  rw[n0,ZB,n4,ZB,qeW (by omega)]
  rfl
 have P2:jS N ⟨[53,48],[55]⟩ [⟨[48],[52]⟩]=some 0:=by
  unfold jS
  simp only
  rw[n50,ZB,n7,ZB,qeW (by omega),ZB,if_pos rfl,if_neg (by decide),ZB,if_neg (by decide),show w64 ((([(⟨[48],[52]⟩:qI)]:List qI).length:Int)-1)=0 from rfl,show idx [(⟨[48],[52]⟩:qI)] 0=some ⟨[48],[52]⟩from rfl,ZB,f1,ZB]
  simp only
  rw[g1,ZB,fc,ZB]
  rfl
 have E:vK N [(⟨[48],[52]⟩:qI),(⟨[53,48],[55]⟩:qI)] 256=some 0:=by
  obtain⟨K,hK⟩: ∃K,N=K+1+1+1:=⟨N-3,by omega⟩
  have e:qD N [(⟨[48],[52]⟩:qI),(⟨[53,48],[55]⟩:qI)] N 0=some (.inl ()):=by
   rw[show qD N [(⟨[48],[52]⟩:qI),(⟨[53,48],[55]⟩:qI)] N 0=qD N [(⟨[48],[52]⟩:qI),(⟨[53,48],[55]⟩:qI)] (K+1+1+1) 0 by rw[<-hK],qD,if_pos (show(0:Int)<(([(⟨[48],[52]⟩:qI),(⟨[53,48],[55]⟩:qI)]:List qI).length:Int)by decide),
    show idx [(⟨[48],[52]⟩:qI),(⟨[53,48],[55]⟩:qI)] 0=some ⟨[48],[52]⟩from rfl,ZB,show cut [(⟨[48],[52]⟩:qI),(⟨[53,48],[55]⟩:qI)] 0 0=some []from rfl,ZB,P,ZB,if_neg (by decide),show w64 (0+1)=1 from rfl,
    qD,if_pos (show(1:Int)<(([(⟨[48],[52]⟩:qI),(⟨[53,48],[55]⟩:qI)]:List qI).length:Int)by decide),
    show idx [(⟨[48],[52]⟩:qI),(⟨[53,48],[55]⟩:qI)] 1=some ⟨[53,48],[55]⟩from rfl,ZB,show cut [(⟨[48],[52]⟩:qI),(⟨[53,48],[55]⟩:qI)] 0 1=some [⟨[48],[52]⟩]from rfl,ZB,P2,ZB,if_neg (by decide),show w64 (1+1)=2 from rfl,
    qD,if_neg (show¬(2:Int)<(([(⟨[48],[52]⟩:qI),(⟨[53,48],[55]⟩:qI)]:List qI).length:Int)by decide)]
  unfold vK
  rw[if_neg (show¬(([(⟨[48],[52]⟩:qI),(⟨[53,48],[55]⟩:qI)]:List qI).length:Int)>256 by decide),e];rfl
 unfold yx qcB qaZ
 simp only
 rw[ql7 (s:=[121]) (show 1<N by omega),ZB,show qkJ [121]=true by decide,(qaz hN h).1 h0,qbv hN (show([49,48]:Str).length<=10000 by decide),c10,E]
 unfold jv
 exact(by rw[qoY (show 10<N by omega)];rfl:((zX N [0,0,0,0,0,0]).bind fun r7=>some r7)=some 0)
theorem qps {N:Nat} (hN:600000<N) (a b c:qz):(jU a=0/\jU b=0/\jU c=0/\qf (a,b,c) N 0=some (.inl ()))\/qf (a,b,c) N 0=some (.inr true):=by
 obtain⟨K,rfl⟩: ∃K,N=K+1+1+1+1:=⟨N-4,by omega⟩
 have nz: ∀{x:Int},x≠0->(!decide (x=0))=true:=fun h=>by simp[h]
 have w1:w64 (0+1)=1:=rfl
 have w2:w64 (1+1)=2:=rfl
 have w3:w64 (2+1)=3:=rfl
 by_cases h1:jU a=0
 case neg=>
  right
  rw[qf,if_pos (by decide),if_pos rfl,ZB]
  simp only[qbs,ZB]
  rw[if_pos (nz h1)]
  rfl
 by_cases h2:jU b=0
 case neg=>
  right
  rw[qf,if_pos (by decide),if_pos rfl,ZB]
  simp only[qbs,ZB]
  rw[if_neg (by simp[h1]),w1,qf,if_pos (by decide),if_neg (by decide),if_pos rfl,ZB]
  simp only[qbs,ZB]
  rw[if_pos (nz h2)]
  rfl
 by_cases h3:jU c=0
 case neg=>
  right
  rw[qf,if_pos (by decide),if_pos rfl,ZB]
  simp only[qbs,ZB]
  rw[if_neg (by simp[h1]),w1,qf,if_pos (by decide),if_neg (by decide),if_pos rfl,ZB]
  simp only[qbs,ZB]
  rw[if_neg (by simp[h2]),w2,qf,if_pos (by decide),if_neg (by decide),if_neg (by decide),if_pos rfl,ZB]
  simp only[qbs,ZB]
  rw[if_pos (nz h3)]
  rfl
 refine .inl ⟨h1,h2,h3,?_⟩
 rw[qf,if_pos (by decide),if_pos rfl,ZB]
 simp only[qbs,ZB]
 rw[if_neg (by simp[h1]),w1,qf,if_pos (by decide),if_neg (by decide),if_pos rfl,ZB]
 simp only[qbs,ZB]
 rw[if_neg (by simp[h2]),w2,qf,if_pos (by decide),if_neg (by decide),if_neg (by decide),if_pos rfl,ZB]
 simp only[qbs,ZB]
 rw[if_neg (by simp[h3]),w3,qf,if_neg (by decide)]
theorem qlC {a c:qz} (ha:jU a=0) (hc:jU c=0) {p q:Rat} (p0:0<p) (q0:0<q):
 (if a.Direct=c.Direct then qaJ c (xh a p)/qaJ c (xh a q)else qaJ c (xh a q)/qaJ c (xh a p))=p/q:=by
 obtain⟨_,s0⟩:=qei ha
 obtain⟨_,t0⟩:=qei hc
 have n1:=Rat.ne_of_gt s0
 have n2:=Rat.ne_of_gt t0
 have n3:=Rat.ne_of_gt p0
 have n4:=Rat.ne_of_gt q0
 have m1:scQ a*(scQ a)⁻¹=1:=Rat.mul_inv_cancel _ n1
 have m2:scQ c*(scQ c)⁻¹=1:=Rat.mul_inv_cancel _ n2
 have m3:p*p⁻¹=1:=Rat.mul_inv_cancel _ n3
 have m4:q*q⁻¹=1:=Rat.mul_inv_cancel _ n4
 unfold qaJ xh
 generalize scQ a=s at*
 generalize scQ c=t at*
 cases a.Direct<;>cases c.Direct<;>simp only[if_true,if_false,ZF,reduceCtorEq,Rat.div_def,Rat.inv_mul_rev,Rat.inv_inv]<;>grind
theorem qcD {N:Nat} (hN:600000<N) (l:qz×qz×qz) (n:Str×Str) (length:Str):zY N l n length=some true:=by
 obtain⟨a,b,c⟩:=l
 obtain⟨s,t⟩:=n
 unfold zY
 rcases qps hN a b c with⟨ha,hb,hc,e0⟩|e0
 case inr=>rw[e0];rfl
 rw[e0,ZB]
 simp only
 obtain⟨u,hu,fu⟩:=qkp hN (s:=s) (d:=9) (by omega) (by omega)
 obtain⟨v,hv,fv⟩:=qkp hN (s:=t) (d:=9) (by omega) (by omega)
 obtain⟨x,hx,fx⟩:=qkp hN (s:=length) (d:=9) (by omega) (by omega)
 rw[show(9:Int)=((9:Nat):Int)from rfl,hu,ZB]
 cases u with
 |false=>rfl
 |true=>
 rw[if_neg (show¬(!true)=true by decide),hv,ZB]
 cases v with
 |false=>rfl
 |true=>
 rw[if_neg (show¬(!true)=true by decide),hx,ZB]
 cases x with
 |false=>rfl
 |true=>
 rw[if_neg (show¬(!true)=true by decide)]
 obtain⟨p,rfl,sp,cp⟩:=fu rfl
 obtain⟨q,rfl,sq,cq⟩:=fv rfl
 obtain⟨m,rfl,sm,cm⟩:=fx rfl
 have sp':Sml p 600:=sp.mono (by omega)
 have sq':Sml q 600:=sq.mono (by omega)
 have lm:=qha sm
 rw[qo3 hN sp',ZB,qo3 hN sq',ZB]
 by_cases p0:0<p
 case neg=>
  rw[if_neg p0]
  by_cases q0:0<q
  ·rw[if_pos q0];rfl
  rw[if_neg q0];rfl
 by_cases q0:0<q
 case neg=>rw[if_pos p0,if_neg q0];rfl
 obtain⟨e,y1,y2,y3⟩:=qn7 hN (s:=T m) (k:=60) (by omega) (by omega) (by omega)
 rw[if_pos p0,if_pos q0,if_neg (by decide),y2,ZB]
 by_cases he:e=0
 case neg=>rw[decide_eq_false he];rfl
 subst he
 have m0:0<=m:=by
  obtain⟨m',e,_,h⟩:=y3 rfl
  rw[qo2 e];exact h
 have x1:=(qaz hN sp').1 p0
 have x2:=(qaz hN sq').1 q0
 obtain⟨sd,d0⟩:=qfK ha (n:=6) (by omega) (sp.mono (by omega)) p0
 obtain⟨so,o0⟩:=qfK ha (n:=6) (by omega) (sq.mono (by omega)) q0
 obtain⟨sh,h0⟩:=qfR hb (n:=12) (by omega) (sd.mono (by omega)) d0
 obtain⟨sf,f0⟩:=qfR hc (n:=12) (by omega) (sd.mono (by omega)) d0
 obtain⟨sg,g0⟩:=qfR hc (n:=12) (by omega) (so.mono (by omega)) o0
 have sd':Sml (xh a p) 600:=sd.mono (by omega)
 have sh':Sml (qaJ b (xh a p)) 600:=sh.mono (by omega)
 have sf':Sml (qaJ c (xh a p)) 600:=sf.mono (by omega)
 have sg':Sml (qaJ c (xh a q)) 600:=sg.mono (by omega)
 have kq:=qlC ha hc p0 q0
 have s1:Sml (p/q) 600:=(qcJ (n:=6) (by omega) (sp.mono (by omega)) (sq.mono (by omega)) (Rat.ne_of_gt q0)).mono (by omega)
 have s2:Sml (qaJ c (xh a p)/qaJ c (xh a q)) 600:=(qcJ (n:=24) (by omega) sf sg (Rat.ne_of_gt g0)).mono (by omega)
 have s3:Sml (qaJ c (xh a q)/qaJ c (xh a p)) 600:=(qcJ (n:=24) (by omega) sg sf (Rat.ne_of_gt f0)).mono (by omega)
 have R: ∀{z:Rat},Sml z 600->res z=(T z,0):=fun {z} h=>by
  unfold res
  rw[if_neg (by rw[qi8 h];decide)]
 have D1:=qnP hN sp' sq' cp cq (Rat.ne_of_gt q0)
 have D2:=qnP hN sf' sg' (qeU sf') (qeU sg') (Rat.ne_of_gt g0)
 have D3:=qnP hN sg' sf' (qeU sg') (qeU sf') (Rat.ne_of_gt f0)
 rw[R s1]at D1
 rw[R s2]at D2
 rw[R s3]at D3
 have C1:=qeP hN ha hb sp' p0 x1
 have C2:=qeP hN hb hc sh' h0 ((qaz hN sh').1 h0)
 have C3:=qeP hN ha hc sp' p0 x1
 have C4:=qeP hN ha hc sq' q0 x2
 rw[qa3 sh']at C1
 rw[qie hb d0,qa3 sf']at C2
 rw[qa3 sf']at C3
 rw[qa3 sg']at C4
 rw[decide_eq_true rfl]
 simp only[Bool.not_true,ZB,ZF,if_false,C1,C2,C3,C4,decide_true,beq_self_eq_true,qiw hN sf' f0,qiw hN sg' g0,qiw hN sh' h0]
 rw[show w64 (w64 (0+0)+0)=0 from rfl,decide_eq_true rfl]
 simp only[Bool.not_true,ZF,if_false,D1,D2,D3,ZB]
 have Q:((if(!(a.Direct==c.Direct))=true then some (T (qaJ c (xh a q)/qaJ c (xh a p)),(0:Int))else some (T (qaJ c (xh a p)/qaJ c (xh a q)),0):Option (Str×Int)))=some (T (p/q),0):=by
  by_cases h:a.Direct=c.Direct
  ·rw[if_pos h]at kq
   rw[if_neg (by simp[h]),kq]
  rw[if_neg h]at kq
  rw[if_pos (by simpa using h),kq]
 rw[Q,ZB]
 simp only[decide_true,Bool.not_true,ZF,if_false,beq_self_eq_true,ZB]
 have E1:=qhd hN ha sp' p0 x1
 have E2:=qhd hN hb sh' h0 ((qaz hN sh').1 h0)
 have E3:=qhd hN hc sf' f0 ((qaz hN sf').1 f0)
 rw[qa3 sd']at E1
 rw[qie hb d0,qa3 sd']at E2
 rw[qie hc d0,qa3 sd']at E3
 have sM:Sml (xh a p*m) 600:=(qf2 (n:=12) (by omega) sd (sm.mono (by omega))).mono (by omega)
 have M:=qnq hN (y:=thY (T (xh a p))) (th_ok hN sd' d0) rfl ((qaz hN (sm.mono (show 9<=600 by omega))).2 m0) sd (sm.mono (show 9<=108 by omega))
 rw[qa3 sM]at M
 have L:qo N (a,b,c) (T p,T q) (T m) (T (qaJ b (xh a p)),0) (T (qaJ c (xh a p)),0) N [] [] [] 0=some (.inl (T (xh a p*m),T (xh a p*m),T (xh a p*m))):=by
  obtain⟨K,hK⟩: ∃K,N=K+1+1+1+1:=⟨N-4,by omega⟩
  have w1:w64 (0+1)=1:=rfl
  have w2:w64 (1+1)=2:=rfl
  have w3:w64 (2+1)=3:=rfl
  have i0: ∀x y z:Str,idx [x,y,z] 0=some x:=fun _ _ _=>rfl
  have i1: ∀x y z:Str,idx [x,y,z] 1=some y:=fun _ _ _=>rfl
  have i2: ∀x y z:Str,idx [x,y,z] 2=some z:=fun _ _ _=>rfl
  have th:jP [121]=some ⟨[121],[49,47,50,48],[49,48],[(⟨[48],[52]⟩:qI),(⟨[53,48],[55]⟩:qI)],[]⟩:=rfl
  have go: ∀k:Nat,k=K+1+1+1+1->qo N (a,b,c) (T p,T q) (T m) (T (qaJ b (xh a p)),0) (T (qaJ c (xh a p)),0) k [] [] [] 0=some (.inl (T (xh a p*m),T (xh a p*m),T (xh a p*m))):=by
   rintro k rfl
   rw[qo,if_pos (by decide)]
   simp only[i0,ZB,if_true,E1,th,M,decide_true,Bool.not_true,ZF,if_false]
   rw[w1,qo,if_pos (by decide)]
   simp only[i1,ZB,if_true,E2,th,M,decide_true,Bool.not_true,ZF,if_false,show¬((1:Int)=0)by decide]
   rw[w2,qo,if_pos (by decide)]
   simp only[i2,ZB,if_true,E3,th,M,decide_true,Bool.not_true,ZF,if_false,show¬((2:Int)=0)by decide,show¬((2:Int)=1)by decide]
   rw[w3,qo,if_neg (by decide)]
  exact go N hK
 rw[L,ZB]
 simp only[beq_self_eq_true,if_true]
 rfl
end Go.Av
end
