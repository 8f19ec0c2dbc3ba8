/-
  The program's nearest fraction: continued fractions.
-/
import Derived.Test.YtbhnngdbhdfhiaaGreatDoorMrPa
noncomputable section
set_option linter.unusedVariables false
set_option linter.unusedSimpArgs false
set_option maxRecDepth 100000
section
namespace Go.Av
theorem F_eq {n:Int} (h1: -9223372036854775808<=n) (h2:n<=9223372036854775807): ∃f,qe9 n=some f/\IsF f (n:Rat):=by
 obtain⟨f,e,i⟩:=qgJ (Ud h1 h2)
 refine⟨f,?_,i⟩
 unfold qe9
 rw[qkl,ZB,e,ZB]
theorem qgH (r:Rat):r-(r.floor:Rat)=Rat.divInt (r.num%(r.den:Int)) (r.den:Int):=by
 have h:((r.den:Int):Rat)≠0:=by
  rw[Ne,Rat.intCast_eq_zero_iff]
  have:=r.den_pos
  omega
 have e:(r-(r.floor:Rat))*((r.den:Int):Rat)=((r.num%(r.den:Int):Int):Rat):=by
  rw[Rat.sub_eq_add_neg,Rat.add_mul,qb2,Rat.floor_def,Int.emod_def,Rat.intCast_sub,Rat.intCast_mul]
  grind
 rw[Rat.divInt_eq_div,<-e,Rat.mul_div_cancel h]
theorem qis {r:Rat} {n:Nat} (h:qaw r n):qaw (r-(r.floor:Rat)) n:=by
 rw[qgH]
 have hd:=r.den_pos
 refine qhh (by omega) ?_ h.2
 refine xI ?_ h.2
 have:=Int.emod_nonneg r.num (show(r.den:Int)≠0 by omega)
 have:=Int.emod_lt_of_pos r.num (show(0:Int)<(r.den:Int)by omega)
 omega
theorem qhq {x:Rat} {n:Nat} (h:qaw x n):x<=((W^n:Int):Rat)/\ -((W^n:Int):Rat)<=x:=by
 have hd:=x.den_pos
 have h1:(x.num.natAbs:Int)<W^n:=h.1
 have hp:(0:Int)<=W^n:=by omega
 have hm:W^n*1<=W^n*(x.den:Int):=Yc (by omega) hp
 rw[<-Rat.intCast_neg]
 constructor
 ·rw[Rat.le_iff,Rat.num_intCast,Rat.den_intCast]
  omega
 rw[Rat.le_iff,Rat.num_intCast,Rat.den_intCast,Int.neg_mul]
 omega
theorem qjc {x:Rat} {n m:Nat} (hx:qaw x n) {c d:Int} (h0:0<=d) (hd:d<=m) (hm:m<=1000) (h1:(c:Rat)-x*(d:Rat)<=1) (h2: -1<=(c:Rat)-x*(d:Rat)):Fit c (n+1):=by
 obtain⟨b1,b2⟩:=qhq hx
 have hd':(0:Rat)<=(d:Rat):=Rat.intCast_nonneg.2 h0
 have hW:(1:Int)<=W^n:=pow_pos (show(0:Int)<W by decide) n
 have m1:=Rat.mul_le_mul_of_nonneg_right b1 hd'
 have m2:=Rat.mul_le_mul_of_nonneg_right b2 hd'
 have u1:(c:Rat)<=((W^n*d+1:Int):Rat):=by
  rw[Rat.intCast_add,Rat.intCast_mul,show((1:Int):Rat)=1 from rfl]
  grind
 have u2:((-(W^n*d+1):Int):Rat)<=(c:Rat):=by
  rw[Rat.intCast_neg,Rat.intCast_add,Rat.intCast_mul,show((1:Int):Rat)=1 from rfl]
  grind
 rw[Rat.intCast_le_intCast]at u1 u2
 have m3:W^n*d<=W^n*1000:=Yc (by omega) (by omega)
 have e:W^(n+1)=W^n*W:=Int.pow_succ ..
 have m4:W^n*1001<W^n*W:=Int.mul_lt_mul_of_pos_left (by decide) (by omega)
 unfold Fit
 omega
structure Cvg (x:Rat) (m:Nat) (a b c d:Int) (r:Rat):Prop where
 b0:0<=b
 d0:0<=d
 bm:b<=m
 dm:d<=m
 st:(b=1/\d=0)\/(1<=d/\1<r)
 fr:qaw r 4
 za:Fit a 5
 zc:Fit c 5
 eq:x*((d:Rat)*r+(b:Rat))=(c:Rat)*r+(a:Rat)
 det:c*b-d*a=1\/c*b-d*a= -1
theorem qiO {r:Rat} (h:1<r):1<=r.floor:=by
 rw[Rat.le_floor_iff]
 exact Rat.le_of_lt h
theorem Cvg.next {x:Rat} {m:Nat} {a b c d:Int} {r:Rat} (h:Cvg x m a b c d r) (hm1:1<=m) (hm:m<=1000) (fx:qaw x 4) (hd:d*r.floor+b<=m) (hr:r≠(r.floor:Rat)):
 Cvg x m c d (c*r.floor+a) (d*r.floor+b) (r-(r.floor:Rat))⁻¹/\1<=d*r.floor+b/\b+d+1<=d+(d*r.floor+b)+(if d=0 then 1 else 0):=by
 have hpos:0<r-(r.floor:Rat):=by
  rw[<-Rat.lt_iff_sub_pos]
  exact Rat.lt_of_le_of_ne (Rat.floor_le _) (Ne.symm hr)
 have hlt:r-(r.floor:Rat)<1:=by
  have:=Rat.lt_floor_add_one r
  rw[Rat.intCast_add,show((1:Int):Rat)=1 from rfl]at this
  grind
 have hne:r-(r.floor:Rat)≠0:=Rat.ne_of_gt hpos
 have k1:1<=d*r.floor+b/\b+d+1<=d+(d*r.floor+b)+(if d=0 then 1 else 0):=by
  rcases h.st with⟨e1,e2⟩|⟨e1,e2⟩
  ·rw[e1,e2]
   simp
  have f1:=qiO e2
  have:=Yc f1 h.d0
  have:=h.b0
  rw[if_neg (by omega)]
  omega
 have hinv:=Rat.mul_inv_cancel _ hne
 have hs:(1:Rat)<(r-(r.floor:Rat))⁻¹:=by
  have p:=Rat.inv_pos.2 hpos
  have:=Rat.mul_lt_mul_of_pos_right hlt p
  rw[hinv,Rat.one_mul]at this
  exact this
 generalize hg:(r-(r.floor:Rat))⁻¹=s at*
 have er:r=(r.floor:Rat)+s⁻¹:=by
  rw[<-hg,Rat.inv_inv]
  grind
 generalize hk:r.floor=k at*
 have es:(r-(k:Rat))*s=1:=hinv
 have e2:x*(((d*k+b:Int):Rat)*s+(d:Rat))=((c*k+a:Int):Rat)*s+(c:Rat):=by
  have h1:=h.eq
  rw[Rat.intCast_add,Rat.intCast_mul,Rat.intCast_add,Rat.intCast_mul]
  have h2:x*((d:Rat)*r+(b:Rat))*s=((c:Rat)*r+(a:Rat))*s:=by rw[h1]
  have h3:r*s=1+(k:Rat)*s:=by grind
  have h4:x*((d:Rat)*(r*s)+(b:Rat)*s)=(c:Rat)*(r*s)+(a:Rat)*s:=by grind
  rw[h3]at h4
  grind
 have dt:(c*k+a)*d-(d*k+b)*c=1\/(c*k+a)*d-(d*k+b)*c= -1:=by
  have:(c*k+a)*d-(d*k+b)*c= -(c*b-d*a):=by grind
  rcases h.det with e|e
  ·right;rw[this,e]
  left;rw[this,e];rfl
 refine⟨?_,k1⟩
 have D1:(1:Rat)<=((d*k+b:Int):Rat)*s+(d:Rat):=by
  have a1:(1:Rat)<=((d*k+b:Int):Rat):=by
   have:=Rat.intCast_le_intCast.2 k1.1
   exact this
  have a2:(0:Rat)<=(d:Rat):=Rat.intCast_nonneg.2 h.d0
  have a3:=Rat.mul_le_mul_of_nonneg_right a1 (show(0:Rat)<=s from Rat.le_trans (by decide) (Rat.le_of_lt hs))
  rw[Rat.one_mul]at a3
  have:=Rat.le_of_lt hs
  grind
 have zz:(((c*k+a:Int):Rat)-x*((d*k+b:Int):Rat))*(((d*k+b:Int):Rat)*s+(d:Rat))=(((c*k+a)*d-(d*k+b)*c:Int):Rat):=by
  rw[Rat.intCast_sub,Rat.intCast_mul,Rat.intCast_mul]
  generalize ((c*k+a:Int):Rat)=C at*
  generalize ((d*k+b:Int):Rat)=E at*
  generalize (c:Rat)=c' at*
  generalize (d:Rat)=d' at*
  have:(C-x*E)*(E*s+d')=C*(E*s+d')-E*(x*(E*s+d')):=by grind
  rw[this,e2]
  grind
 have hz:((c*k+a:Int):Rat)-x*((d*k+b:Int):Rat)<=1/\ -1<=((c*k+a:Int):Rat)-x*((d*k+b:Int):Rat):=by
  generalize ((c*k+a:Int):Rat)-x*((d*k+b:Int):Rat)=z at*
  generalize ((d*k+b:Int):Rat)*s+(d:Rat)=D at*
  have hD0:(0:Rat)<=D:=Rat.le_trans (by decide) D1
  have hb:z*D=1\/z*D= -1:=by
   rw[zz]
   rcases dt with e|e
   ·left;rw[e];rfl
   right;rw[e];rfl
  constructor
  ·rw[<-Rat.not_lt]
   intro hc
   have:=Rat.mul_lt_mul_of_pos_right hc (show(0:Rat)<D by grind)
   rw[Rat.one_mul]at this
   grind
  rw[<-Rat.not_lt]
  intro hc
  have:=Rat.mul_lt_mul_of_pos_right hc (show(0:Rat)<D by grind)
  grind
 exact {b0:=h.d0,d0:=by omega,bm:=h.dm,dm:=hd,st:= .inr ⟨k1.1,hs⟩,fr:=by rw[<-hg];exact qgu (by rw[<-hk];exact qis h.fr) (by omega),za:=h.zc,zc:=qjc fx (by omega) hd hm hz.1 hz.2,eq:=e2,det:=dt}
end Go.Av
end
section
namespace Go.Av
end Go.Av
end
section
namespace Go.Av
end Go.Av
end
section
namespace Go.Av
end Go.Av
end
section
namespace Go.Av
end Go.Av
end
section
namespace Go.Av
end Go.Av
end
section
namespace Go.Av
theorem qdM {p q:Rat}:((if p<q then-1 else if p=q then 0 else 1:Int)=0)↔p=q:=by
 by_cases h:p<q
 ·rw[if_pos h]
  exact⟨fun c=>absurd c (by decide),fun c=>absurd (c▸h) Rat.lt_irrefl⟩
 rw[if_neg h]
 by_cases e:p=q
 ·rw[if_pos e]
  exact⟨fun _=>e,fun _=>rfl⟩
 rw[if_neg e]
 exact⟨fun c=>absurd c (by decide),fun c=>absurd c e⟩
end Go.Av
end
section
namespace Go.Av
theorem pick {x L M:Rat} {d f:Int} (nL:(L.den:Int)=d) (nM:(M.den:Int)=f) {c:Int}
 (hc:c=if(if(x-L).abs<(x-M).abs then-1 else if(x-L).abs=(x-M).abs then 0 else 1:Int)=0 then(if(if(d:Rat)<(f:Rat)then-1 else if(d:Rat)=(f:Rat)then 0 else 1:Int)=0 then(if L<M then-1 else if L=M then 0 else 1)else(if(d:Rat)<(f:Rat)then-1 else if(d:Rat)=(f:Rat)then 0 else 1))else(if(x-L).abs<(x-M).abs then-1 else if(x-L).abs=(x-M).abs then 0 else 1)):
 (¬c>0->le3 x L M)/\(c>0->le3 x M L):=by
 by_cases h1:(x-L).abs=(x-M).abs
 ·rw[if_pos (qdM.2 h1)]at hc
  by_cases h2:(d:Rat)=(f:Rat)
  ·rw[if_pos (qdM.2 h2)]at hc
   have h2:=Rat.intCast_inj.1 h2
   constructor
   ·intro h
    rw[hc]at h
    exact .inr ⟨h1,.inr ⟨by omega,Rat.not_lt.1 fun k=>h (qdk.2 k)⟩⟩
   intro h
   rw[hc]at h
   exact .inr ⟨h1.symm,.inr ⟨by omega,Rat.le_of_lt (qdk.1 h)⟩⟩
  rw[if_neg (fun k=>h2 (qdM.1 k))]at hc
  constructor
  ·intro h
   rw[hc]at h
   have h:=Rat.not_lt.1 (fun k=>h (qdk.2 k))
   have h3:d≠f:=fun k=>h2 (by rw[k])
   have:=Rat.intCast_le_intCast.1 h
   exact .inr ⟨h1,.inl (by omega)⟩
  intro h
  rw[hc]at h
  have:=Rat.intCast_lt_intCast.1 (qdk.1 h)
  exact .inr ⟨h1.symm,.inl (by omega)⟩
 rw[if_neg (fun k=>h1 (qdM.1 k))]at hc
 constructor
 ·intro h
  rw[hc]at h
  have h:=Rat.not_lt.1 (fun k=>h (qdk.2 k))
  exact .inl (Rat.lt_of_le_of_ne h h1)
 intro h
 rw[hc]at h
 exact .inl (qdk.1 h)
end Go.Av
end
section
namespace Go.Av
end Go.Av
end
section
namespace Go.Av
end Go.Av
end
section
namespace Go.Av
end Go.Av
end
section
namespace Go.Av
end Go.Av
end
section
namespace Go.Av
end Go.Av
end
section
namespace Go.Av
theorem qkc {m:List (Int×Bool)} (k k':Int) (v:Bool):qaB (qb7 m k v) k'=if k'=k then some v else qaB m k':=by
 induction m with
 |nil=>
  unfold qb7 qaB
  by_cases h:k'=k
  ·simp[h]
  simp[h]
 |cons p m ih=>
  obtain⟨a,b⟩:=p
  unfold qb7
  by_cases h:(k==a)=true
  ·have e:k=a:=by simpa using h
   subst e
   rw[if_pos h]
   unfold qaB
   by_cases c:k'=k
   ·simp[c]
   have c2:(k'==k)=false:=by simpa using c
   rw[List.find?_cons_of_neg (by simp[c2]),List.find?_cons_of_neg (by simp[c2]),if_neg c]
  rw[if_neg h]
  have e:k≠a:=by simpa using h
  unfold qaB at ih⊢
  by_cases c:k'=a
  ·have c2:(k'==a)=true:=by simpa using c
   rw[List.find?_cons_of_pos (by simpa using c2),List.find?_cons_of_pos (by simpa using c2),if_neg (by rw[c];exact fun x=>e x.symm)]
  have c2:(k'==a)=false:=by simpa using c
  rw[List.find?_cons_of_neg (by simp[c2]),List.find?_cons_of_neg (by simp[c2])]
  exact ih
structure IsP (p:List Int):Prop where
 few:p.length<=256
 at_: ∀k,k<p.length-> ∃v:Nat,v<p.length/\p[k]? =some (v:Int)
 inj: ∀(k k':Nat) (v:Int),p[k]? =some v->p[k']? =some v->k=k'
theorem qg7 {p:List Int} (hl:p.length<=256) {i:Nat} (hi:i<p.length) {x:Int} (hx:p[i]? =some x): ∀(K j:Nat),j<=i->i<K+j->(∀k,k<j->p[k]? ≠some x)->
 (qQ p (i:Int) K (j:Int)=some (.inl ())/\ ∀k,k<i->p[k]? ≠some x)\/(qQ p (i:Int) K (j:Int)=some (.inr 15)/\ ∃k,k<i/\p[k]? =some x)
 |0,j,h,hK,hn=>by omega
 |K+1,j,h,hK,hn=>by
  unfold qQ
  by_cases hj:j<i
  ·have hy:p[j]? =some p[j]:=Ya (by omega)
   rw[if_pos (by omega),qj,hy,ZB,qj,hx,ZB]
   by_cases e:p[j]=x
   ·rw[if_pos e]
    exact .inr ⟨rfl,j,hj,by rw[hy,e]⟩
   rw[if_neg e,zD (by omega)]
   refine qg7 hl hi hx K (j+1) (by omega) (by omega) (fun k hk=>?_)
   by_cases c:k=j
   ·subst c
    rw[hy]
    exact fun z=>e (Ye z)
   exact hn k (by omega)
  rw[if_neg (by omega)]
  exact .inl ⟨rfl,fun k hk=>hn k (by omega)⟩
theorem qh9 {N:Nat} (hN:2000<N) {p:List Int} (hl:p.length<=256): ∀(K i:Nat) (m:List (Int×Bool)),i<=p.length->p.length<K+i->(∀x,(qaB m x).getD false=true↔ ∃k,k<i/\p[k]? =some x)->
 ∃r,zo p K m (i:Int)=some r/\qV N p K (i:Int)=some r/\((r= .inl ()/\ ∀j,i<=j->j<p.length-> ∃v:Nat,v<p.length/\p[j]? =some (v:Int)/\ ∀k,k<j->p[k]? ≠some (v:Int))\/r= .inr 15)
 |0,i,m,h,hK,hm=>by omega
 |K+1,i,m,h,hK,hm=>by
  unfold zo qV
  by_cases hi:i<p.length
  ·have hx:p[i]? =some p[i]:=Ya hi
   generalize p[i]=x at hx
   rw[if_pos (by omega),if_pos (by omega),qj,hx]
   simp only[ZB]
   by_cases h1:x<0
   ·rw[if_pos h1,if_pos h1]
    exact⟨_,rfl,rfl,.inr rfl⟩
   by_cases h2:x>=(p.length:Int)
   ·rw[if_neg h1,if_pos h2,if_neg h1,decide_eq_true h2]
    exact⟨_,rfl,rfl,.inr rfl⟩
   rw[if_neg h1,if_neg h2,if_neg h1,decide_eq_false h2]
   simp only[ZB,ZF,if_false]
   rcases qg7 hl hi hx N 0 (by omega) (by omega) (fun k hk=>by omega)with⟨g1,g2⟩|⟨g1,k,g2,g3⟩
   ·have hf:(qaB m x).getD false=false:=by
     cases c:(qaB m x).getD false with
     |false=>rfl
     |true=>
      obtain⟨k,k1,k2⟩:=(hm x).1 c
      exact absurd k2 (g2 k k1)
    rw[show((0:Nat):Int)=0 from rfl]at g1
    rw[hf,g1,zD (by omega)]
    simp only[ZF,if_false,ZB]
    obtain⟨r,r1,r2,r3⟩:=qh9 hN hl K (i+1) (qb7 m x true) (by omega) (by omega) (fun y=>by
     rw[qkc]
     by_cases e:y=x
     ·rw[if_pos e]
      exact⟨fun _=>⟨i,by omega,by rw[hx,e]⟩,fun _=>rfl⟩
     rw[if_neg e,hm y]
     constructor
     ·rintro⟨k,k1,k2⟩
      exact⟨k,by omega,k2⟩
     rintro⟨k,k1,k2⟩
     refine⟨k,?_,k2⟩
     rcases Nat.lt_or_ge k i with c|c
     ·exact c
     have:k=i:=by omega
     subst this
     rw[hx]at k2
     exact absurd (Ye k2).symm e)
    refine⟨r,r1,r2,?_⟩
    rcases r3 with⟨r3,r4⟩|r3
    ·refine .inl ⟨r3,fun j hj hjl=>?_⟩
     by_cases c:j=i
     ·subst c
      refine⟨x.toNat,by omega,by rw[hx];congr 1;omega,fun k hk=>?_⟩
      rw[show((x.toNat:Nat):Int)=x by omega]
      exact g2 k hk
     exact r4 j (by omega) hjl
    exact .inr r3
   have ht:(qaB m x).getD false=true:=(hm x).2 ⟨k,g2,g3⟩
   rw[show((0:Nat):Int)=0 from rfl]at g1
   rw[ht,g1]
   exact⟨_,rfl,rfl,.inr rfl⟩
  rw[if_neg (by omega),if_neg (by omega)]
  exact⟨_,rfl,rfl,.inl ⟨rfl,fun j hj hjl=>by omega⟩⟩
theorem qfn {N:Nat} (hN:2000<N) {p:List Int} (hl:p.length<=1000): ∃e,qM N p=some e/\zh N p=some e/\(e=0->IsP p):=by
 unfold qM zh
 by_cases h:256<p.length
 ·rw[if_pos (by omega),if_pos (by omega)]
  exact⟨5,rfl,rfl,fun c=>absurd c (by decide)⟩
 rw[if_neg (by omega),if_neg (by omega)]
 obtain⟨r,r1,r2,r3⟩:=qh9 hN (p:=p) (by omega) N 0 [] (by omega) (by omega) (fun x=>by
  constructor
  ·intro c;simp[qaB]at c
  rintro⟨k,k1,_⟩;omega)
 rw[show(0:Int)=((0:Nat):Int)from rfl,r1,r2]
 rcases r3 with⟨rfl,r4⟩|rfl
 ·refine⟨0,rfl,rfl,fun _=>⟨by omega,fun k hk=>?_,fun k k' v hk hk'=>?_⟩⟩
  ·obtain⟨v,v1,v2,_⟩:=r4 k (by omega) hk
   exact⟨v,v1,v2⟩
  have l1:k<p.length:=(Yb.1 hk).1
  have l2:k'<p.length:=(Yb.1 hk').1
  rcases Nat.lt_trichotomy k k' with c|c|c
  ·obtain⟨w,w1,w2,w3⟩:=r4 k' (by omega) l2
   rw[hk']at w2
   have:=Ye w2
   subst this
   exact absurd hk (w3 k c)
  ·exact c
  obtain⟨w,w1,w2,w3⟩:=r4 k (by omega) l1
  rw[hk]at w2
  have:=Ye w2
  subst this
  exact absurd hk' (w3 k' c)
 exact⟨15,rfl,rfl,fun c=>absurd c (by decide)⟩
def CInv (p:List Int) (from_:Nat) (S:List Bool) (at_:Nat):Prop:= ∀y:Nat,(S[y]? =some true\/y=at_)->y≠from_-> ∃z:Nat,S[z]? =some true/\p[z]? =some ((y:Nat):Int)
def ql7 (p:List Int) (S:List Bool):Prop:= ∀y:Nat,S[y]? =some true-> ∃z:Nat,S[z]? =some true/\p[z]? =some ((y:Nat):Int)
def cntF (S:List Bool):Nat:=S.countP (fun b=>!b)
theorem qf1 {S:List Bool} {i:Nat} (h:S[i]? =some false):cntF (S.set i true)+1=cntF S:=by
 obtain⟨hi,e⟩:=Yb.1 h
 unfold cntF
 have hp:0<S.countP (fun b=>!b):=List.countP_pos_iff.2 ⟨S[i],List.getElem_mem hi,by rw[e];rfl⟩
 rw[List.countP_set hi,e]
 simp
 omega
end Go.Av
end
section
namespace Go.Av
theorem qfS {q:Rat} {n z:Int} (h:q*(n:Rat)=(z:Rat)):(q.den:Int)∣n:=by
 have h1:=qb2 q
 have e1:q.num*n=z*(q.den:Int):=by
  rw[<-Rat.intCast_inj,Rat.intCast_mul,Rat.intCast_mul,<-h1,<-h]
  grind
 refine qgz (a:=q.num) ⟨z,by rw[e1,Int.mul_comm]⟩ ?_
 have:=q.reduced
 rw[Int.gcd,Int.natAbs_natCast,Nat.gcd_comm]
 exact this
theorem qiK {q:Rat} {n:Nat} {z:Int} (hn:0<n) (h:q*(((n:Nat):Int):Rat)=(z:Rat)):q.den<=n:=Nat.le_of_dvd hn (Int.ofNat_dvd.1 (qfS h))
theorem qbB (r:Rat) (c:Int):(r+(c:Rat)).den=r.den:=by
 have h1:(r+(c:Rat))*((r.den:Int):Rat)=((r.num+c*(r.den:Int):Int):Rat):=by
  rw[Rat.intCast_add,Rat.intCast_mul,<-qb2 r]
  grind
 have h2:r*(((r+(c:Rat)).den:Int):Rat)=(((r+(c:Rat)).num-c*((r+(c:Rat)).den:Int):Int):Rat):=by
  rw[Rat.intCast_sub,Rat.intCast_mul,<-qb2 (r+(c:Rat))]
  grind
 exact Nat.dvd_antisymm (Int.ofNat_dvd.1 (qfS h1)) (Int.ofNat_dvd.1 (qfS h2))
theorem qiu.move {x r:Rat} {m:Nat} (h:qiu x m r) (c:Int):qiu (x+(c:Rat)) m (r+(c:Rat)):=by
 refine⟨by rw[qbB];exact h.1,fun y hy=>?_⟩
 have hy':(y+((-c:Int):Rat)).den<=m:=by rw[qbB];exact hy
 have k:=h.2 _ hy'
 unfold le3 at*
 rw[qbB]at k⊢
 have e1:x+(c:Rat)-(r+(c:Rat))=x-r:=by grind
 have e2:x+(c:Rat)-y=x-(y+((-c:Int):Rat)):=by
  rw[Rat.intCast_neg]
  grind
 rw[e1,e2]
 rcases k with k|⟨k1,k|⟨k2,k3⟩⟩
 ·exact .inl k
 ·exact .inr ⟨k1,.inl k⟩
 refine .inr ⟨k1,.inr ⟨k2,?_⟩⟩
 rw[Rat.intCast_neg]at k3
 grind
end Go.Av
end
section
namespace Go.Av
theorem qdE {a k:Nat} (hk:0<k) (h:a<10^k):Sml (((a:Nat):Int):Rat) k:=by
 unfold Sml
 rw[Rat.num_intCast,Rat.den_intCast,Int.natAbs_natCast]
 refine⟨(qav hk).2 h,(qav hk).2 ?_⟩
 have:10^1<=10^k:=Nat.pow_le_pow_right (by omega) hk
 omega
theorem qjo {a n:Nat} (ha:1<=a) (hn:1<=n): ∃b:Nat,((((a:Nat):Int):Rat)/(((n:Nat):Int):Rat)).num=(b:Int)/\1<=b/\b<=a/\((((a:Nat):Int):Rat)/(((n:Nat):Int):Rat)).den<=n:=by
 have n0:(((n:Nat):Int):Rat)≠0:=Rat.ne_of_gt (Rat.intCast_pos.2 (by omega))
 have np:(0:Rat)<(((n:Nat):Int):Rat):=Rat.intCast_pos.2 (by omega)
 have ap:(0:Rat)<(((a:Nat):Int):Rat):=Rat.intCast_pos.2 (by omega)
 have h:((((a:Nat):Int):Rat)/(((n:Nat):Int):Rat))*(((n:Nat):Int):Rat)=((a:Nat):Int):=Rat.div_mul_cancel n0
 have q0:0<(((a:Nat):Int):Rat)/(((n:Nat):Int):Rat):=by
  rw[Rat.div_def]
  exact Rat.mul_pos ap (Rat.inv_pos.2 np)
 have hd:=qiK (show 0<n by omega) h
 have hd0:=den_pos ((((a:Nat):Int):Rat)/(((n:Nat):Int):Rat))
 have hnum:=qkE.2 q0
 have e1:((((a:Nat):Int):Rat)/(((n:Nat):Int):Rat)).num*(n:Int)=(a:Int)*(((((a:Nat):Int):Rat)/(((n:Nat):Int):Rat)).den:Int):=by
  have h1:=qb2 ((((a:Nat):Int):Rat)/(((n:Nat):Int):Rat))
  rw[<-Rat.intCast_inj,Rat.intCast_mul,Rat.intCast_mul,<-h1,<-h]
  grind
 generalize (((a:Nat):Int):Rat)/(((n:Nat):Int):Rat)=q at*
 refine⟨q.num.toNat,by omega,by omega,?_,hd⟩
 obtain⟨b,hb⟩: ∃b:Nat,q.num=(b:Int):=⟨q.num.toNat,by omega⟩
 rw[hb]at e1⊢
 rw[Int.toNat_natCast]
 have e2:b*n=a*q.den:=by exact_mod_cast e1
 have e3:a*q.den<=a*n:=Nat.mul_le_mul_left _ hd
 exact Nat.le_of_mul_le_mul_right (show b*n<=a*n by omega) (by omega)
theorem qi9 {a b n i:Nat} (hb:b<=a) (hn:n<=256) (h:a<10^(3*(i+1))):b*n<10^(3*(i+1+1)):=by
 have e:10^(3*(i+1+1))=10^(3*(i+1))*1000:=by rw[show 3*(i+1+1)=3*(i+1)+3 by omega,Nat.pow_add]
 have h1:b*n<=a*256:=Nat.mul_le_mul hb hn
 omega
theorem qh7 {a:List Int} (hl:a.length<=100000): ∀(K i:Nat),i<=a.length->a.length<K+i->qO a a K (i:Int)=some (.inl ())
 |0,i,h,hK=>by omega
 |K+1,i,h,hK=>by
  unfold qO
  by_cases hi:i<a.length
  ·rw[if_pos (by omega),qj,Ya hi,ZB,ZB,if_neg (by simp),zD (by omega)]
   exact qh7 hl K (i+1) (by omega) (by omega)
  rw[if_neg (by omega)]
theorem qgb {N:Nat} {a:List Int} (hN:a.length<N) (hl:a.length<=100000):qW N a a=some true:=by
 unfold qW
 rw[if_neg (by simp),show(0:Int)=((0:Nat):Int)from rfl,qh7 hl N 0 (by omega) (by omega)]
 rfl
end Go.Av
end
section
namespace Go.Av
def nxP (p:List Int) (x:Nat):Nat:=((p[x]?).getD 0).toNat
def itP (p:List Int) (x:Nat):Nat->Nat
 |0=>x
 |k+1=>nxP p (itP p x k)
theorem qck {p:List Int} (hp:IsP p) {x:Nat} (hx:x<p.length):p[x]? =some ((nxP p x:Nat):Int)/\nxP p x<p.length:=by
 obtain⟨v,v1,v2⟩:=hp.at_ x hx
 have e:nxP p x=v:=by
  unfold nxP
  rw[v2]
  simp
 rw[e]
 exact⟨v2,v1⟩
theorem qbF {p:List Int} (hp:IsP p) {x:Nat} (hx:x<p.length): ∀k,itP p x k<p.length
 |0=>hx
 |k+1=>(qck hp (qbF hp hx k)).2
theorem xw (p:List Int) (x a:Nat): ∀b,itP p x (a+b)=itP p (itP p x a) b
 |0=>rfl
 |b+1=>by
  show nxP p (itP p x (a+b))=nxP p (itP p (itP p x a) b)
  rw[xw p x a b]
theorem qdC {p:List Int} {x L:Nat} (h:itP p x L=x): ∀a,itP p x (L*a)=x
 |0=>rfl
 |a+1=>by rw[Nat.mul_succ,xw,qdC h a,h]
theorem qfB {p:List Int} {x L:Nat} (h:itP p x L=x) (m:Nat):itP p x m=itP p x (m%L):=by
 have e:=Nat.div_add_mod m L
 have e2:itP p x (L*(m/L)+m%L)=itP p x (m%L):=by rw[xw,qdC h]
 rw[e]at e2
 exact e2
theorem qhM {p:List Int} (hp:IsP p) {x y:Nat} (hx:x<p.length) (hy:y<p.length) (h:nxP p x=nxP p y):x=y:=
 hp.inj x y _ (qck hp hx).1 (by rw[h];exact(qck hp hy).1)
theorem qib {p:List Int} (hp:IsP p) {x y:Nat} (hx:x<p.length) (hy:y<p.length): ∀k,itP p x k=itP p y k->x=y
 |0,h=>h
 |k+1,h=>qib hp hx hy k (qhM hp (qbF hp hx k) (qbF hp hy k) h)
def qiF (p c:List Int):Prop:= ∃s:Nat,0<c.length/\c.length<=p.length/\s<p.length/\(∀j,j<c.length->c[j]? =some ((itP p s j:Nat):Int))/\itP p s c.length=s/\ ∀j,0<j->j<c.length->itP p s j≠s
theorem ql2 {p:List Int} {S:List Bool} {full:List Int} {l at_ x fr:Nat} (K:Nat) (hf:full[l]? =some (at_:Int)) (h0:full[0]? =some (fr:Int)) (hge:fr<=at_) (hlt:at_<p.length) (hS:S[at_]? =some false) (hSl:S.length=p.length) (hx:p[at_]? =some (x:Int)) (hl:l<full.length) (hL:full.length<=256) (hn:full[(l+1)%full.length]? =some (x:Int)):
 qz p full (K+1) S (l:Int)=qz p full K (S.set at_ true) ((l+1:Nat):Int):=by
 have i1:idx full (l:Int)=some (at_:Int):=by rw[qj];exact hf
 have i0:idx full 0=some (fr:Int):=by
  rw[show(0:Int)=((0:Nat):Int)from rfl,qj];exact h0
 have i2:idx S (at_:Int)=some false:=by rw[qj];exact hS
 have i3:idx p (at_:Int)=some (x:Int):=by rw[qj];exact hx
 have r1:qaU .i64 (w64 ((l:Int)+1)) (full.length:Int)=some (((l+1)%full.length:Nat):Int):=by
  rw[zD (by omega)]
  unfold qaU
  rw[if_neg (by omega)]
  rfl
 have i4:idx full (((l+1)%full.length:Nat):Int)=some (x:Int):=by rw[qj];exact hn
 have c0:(l:Int)<(full.length:Int):=by omega
 have c1: ¬(at_:Int)<(fr:Int):=by omega
 have c2: ¬(at_:Int)>=(p.length:Int):=by omega
 conv=>lhs;unfold qz
 rw[if_pos c0,i1,ZB,i0,ZB,if_neg c1,if_neg c2,i2,ZB,if_neg (by decide),i3,ZB,r1,ZB,i4,ZB,ZB,if_neg (by simp),ZB,jR (by omega),ZB,zD (by omega)]
theorem ql5 {p:List Int} (hp:IsP p) (fr:Nat) (hfr0:fr<p.length): ∀(c:Nat) (S:List Bool) (l:List Int) (o:Option (List Int)) (at_ K1:Nat),((o=none/\l=[])\/o=some l)->cntF S=c->c<=K1->S.length=p.length->at_<p.length->S[at_]? =some false->CInv p fr S at_->(S[fr]? =some true\/at_=fr)->l.length+c<=p.length->at_=itP p fr l.length->(∀j,j<l.length->l[j]? =some ((itP p fr j:Nat):Int))->(∀j,0<j->j<=l.length->itP p fr j≠fr)->(∀y,y<fr->S[y]? =some true)->
 ∃(S':List Bool) (rest:List Int),ku (fr:Int) p K1 S o (at_:Int)=some (S',l++rest)/\rest[0]? =some (at_:Int)/\S'.length=p.length/\ql7 p S'/\qiF p (l++rest)/\(∀y:Nat,S[y]? =some true->S'[y]? =some true)/\(∀y:Nat,S'[y]? =some true->S[y]? =some true\/(y:Int)∈rest)/\S'[fr]? =some true/\ ∀K,(l++rest).length<K+l.length->qz p (l++rest) K S (l.length:Int)=some (.inl S')
 |0,S,l,o,at_,K1,ho,hc,h1,hl,ha,hf,hi,hfr,hb,hat,hel,hne,hlo=>by
  have:=qf1 hf
  omega
 |c+1,S,l,o,at_,K1,ho,hc,h1,hl,ha,hf,hi,hfr,hb,hat,hel,hne,hlo=>by
  obtain⟨K1,rfl⟩: ∃K,K1=K+1:=⟨K1-1,by omega⟩
  have hcs:=qf1 hf
  have hfew:=hp.few
  obtain⟨x,hx,ex⟩:=hp.at_ at_ ha
  have enx:nxP p at_=x:=by
   have:=(qck hp ha).1
   rw[ex]at this
   have:=Ye this
   omega
  have eit:itP p fr (l.length+1)=x:=by
   show nxP p (itP p fr l.length)=x
   rw[<-hat,enx]
  have hge:fr<=at_:=by
   apply Nat.le_of_not_lt
   intro h
   rw[hlo at_ h]at hf
   cases hf
  have r2:jS S o (at_:Int)=some (S.set at_ true,l++[(at_:Int)]):=by
   unfold jS
   rw[qj,hf,ZB,jR (by omega),ZB]
   rcases ho with⟨rfl,rfl⟩|rfl
   ·rfl
   simp only
   rw[qcj (by simp only[Yr,List.length_nil];omega) (by simp only[Yr,List.length_nil];omega)]
   rfl
  have hl':(S.set at_ true).length=p.length:=by simpa using hl
  have cov: ∀y,(S.set at_ true)[y]? =some true->S[y]? =some true\/y=at_:=fun y hy=>by
   by_cases e:y=at_
   ·exact .inr e
   rw[Yw (fun h=>e h.symm)]at hy
   exact .inl hy
  have upS: ∀y,S[y]? =some true->(S.set at_ true)[y]? =some true:=fun y hy=>by
   by_cases e:y=at_
   ·subst e
    rw[List.getElem?_set_self (by omega)]
   rw[Yw (fun h=>e h.symm)]
   exact hy
  have atT:(S.set at_ true)[at_]? =some true:=by rw[List.getElem?_set_self (by omega)]
  have frT:(S.set at_ true)[fr]? =some true:=by
   rcases hfr with h|h
   ·exact upS _ h
   subst h
   exact atT
  have first: ∀rest:List Int,rest[0]? =some (at_:Int)->(l++rest)[0]? =some (fr:Int):=fun rest h=>by
   by_cases z:l.length=0
   ·have:=YL.1 z
    subst this
    rw[List.nil_append,h,hat]
    rfl
   rw[Yf (by omega),hel 0 (by omega)]
   rfl
  have nth: ∀rest:List Int,rest[0]? =some (at_:Int)->(l++rest)[l.length]? =some (at_:Int):=fun rest h=>by
   rw[Yo (by omega),Nat.sub_self,h]
  unfold ku
  rw[r2,ZB]
  simp only
  rw[qj,ex,ZB]
  by_cases e:x=fr
  ·rw[if_pos (by omega)]
   have hlen:(l++[(at_:Int)]).length=l.length+1:=by simp
   refine⟨S.set at_ true,[(at_:Int)],rfl,rfl,hl',?_,⟨fr,by omega,by omega,hfr0,?_,by rw[hlen,eit,e],?_⟩,upS,?_,frT,?_⟩
   ·intro y hy
    by_cases c2:y=fr
    ·subst c2
     exact⟨at_,atT,by rw[ex,e]⟩
    obtain⟨z,z1,z2⟩:=hi y (cov y hy) c2
    exact⟨z,upS z z1,z2⟩
   ·intro j hj
    by_cases c2:j<l.length
    ·rw[Yf c2,hel j c2]
    have:j=l.length:=by omega
    subst this
    rw[nth _ rfl,<-hat]
   ·intro j j0 hj
    exact hne j j0 (by omega)
   ·intro y hy
    rcases cov y hy with h|h
    ·exact .inl h
    exact .inr (by rw[h];exact List.mem_singleton.2 rfl)
   intro K hK
   obtain⟨K,rfl⟩: ∃M,K=M+1:=⟨K-1,by omega⟩
   rw[ql2 (x:=x) K (nth _ rfl) (first _ rfl) hge ha hf hl ex (by omega) (by omega) (by rw[hlen,Nat.mod_self,first _ rfl,e])]
   obtain⟨K,rfl⟩: ∃M,K=M+1:=⟨K-1,by omega⟩
   unfold qz
   rw[if_neg (by rw[hlen];omega)]
  rw[if_neg (by omega)]
  have hxF:(S.set at_ true)[x]? =some false:=by
   have hxl:x<(S.set at_ true).length:=by omega
   have h0:(S.set at_ true)[x]? =some (S.set at_ true)[x]:=Ya hxl
   cases hb2:(S.set at_ true)[x]with
   |false=>rw[h0,hb2]
   |true=>
    exfalso
    rw[hb2]at h0
    obtain⟨z,z1,z2⟩:=hi x (cov x h0) e
    have:=hp.inj z at_ _ z2 ex
    subst this
    rw[hf]at z1
    cases z1
  have hlen:(l++[(at_:Int)]).length=l.length+1:=by simp
  obtain⟨S',rest,g1,g2,g3,g4,g5,g6,g7,g8,g9⟩:=ql5 hp fr hfr0 c (S.set at_ true) (l++[(at_:Int)]) (some (l++[(at_:Int)])) x K1 (.inr rfl) (by omega) (by omega) hl' hx hxF (fun y hy hne=>by
   rcases hy with hy|hy
   ·obtain⟨z,z1,z2⟩:=hi y (cov y hy) hne
    exact⟨z,upS z z1,z2⟩
   ·subst hy
    exact⟨at_,atT,ex⟩) (.inl frT) (by omega) (by rw[hlen,eit]) (fun j hj=>by
   by_cases c2:j<l.length
   ·rw[Yf c2,hel j c2]
   ·have:j=l.length:=by omega
    subst this
    rw[nth _ rfl,<-hat]) (fun j j0 hj=>by
   by_cases c2:j<=l.length
   ·exact hne j j0 c2
   have:j=l.length+1:=by omega
   subst this
   rw[eit]
   exact e) (fun y hy=>upS y (hlo y hy))
  have ass:(l++[(at_:Int)])++rest=l++((at_:Int)::rest):=by simp
  have hrl:0<rest.length:=(Yb.1 g2).1
  obtain⟨s,b1,b2,_⟩:=id g5
  rw[ass]at g1 g5 g9 b2
  have hlen2:(l++((at_:Int)::rest)).length=l.length+1+rest.length:=by simp;omega
  refine⟨S',(at_:Int)::rest,g1,rfl,g3,g4,g5,fun y hy=>g6 y (upS y hy),fun y hy=>?_,g8,fun K hK=>?_⟩
  ·rcases g7 y hy with h|h
   ·rcases cov y h with h|h
    ·exact .inl h
    exact .inr (by rw[h];exact List.mem_cons_self)
   exact .inr (List.mem_cons_of_mem _ h)
  obtain⟨K,rfl⟩: ∃M,K=M+1:=⟨K-1,by omega⟩
  rw[ql2 (x:=x) K (nth _ rfl) (first _ rfl) hge ha hf hl ex (by omega) (by omega) (by
   rw[Nat.mod_eq_of_lt (by omega),<-ass,Yo (by omega),hlen,Nat.sub_self,g2])]
  rw[<-hlen]
  exact g9 K (by omega)
theorem qjG {N:Nat} (hN:2000<N) {p:List Int} (hp:IsP p): ∀(K i:Nat) (S:List Bool) (out:List (List Int)),i<=p.length->p.length<K+i->S.length=p.length->ql7 p S->out.length<=i->(∀y,y<i->S[y]? =some true)->(∀c∈out,qiF p c)->(∀y:Nat,S[y]? =some true-> ∃c∈out,(y:Int)∈c)->
 ∃(rest:List (List Int)) (S':List Bool),zq N p K out S (i:Int)=some (out++rest)/\S'.length=p.length/\(∀y,y<p.length->S'[y]? =some true)/\(out++rest).length<=p.length/\(∀c∈out++rest,qiF p c)/\(∀y:Nat,y<p.length-> ∃c∈out++rest,(y:Int)∈c)/\ ∀(K':Nat) (e last:Int),last<(i:Int)->(out++rest).length<K'+out.length->qL N p (out++rest,e) K' S (out.length:Int) last=some (.inl S')
 |0,i,S,out,h,hK,hl,hc,ho,hlo,hm,hcov=>by omega
 |K+1,i,S,out,h,hK,hl,hc,ho,hlo,hm,hcov=>by
  have hfew:=hp.few
  unfold zq
  by_cases hi:i<p.length
  ·have hs:S[i]? =some S[i]:=Ya (by omega)
   rw[if_pos (by omega),qj,hs,ZB]
   cases hb:S[i]with
   |true=>
    rw[hb]at hs
    rw[if_pos rfl,ZB]
    simp only
    rw[zD (by omega)]
    obtain⟨rest,S',g1,g2,g3,g4,g5,g6,g7⟩:=qjG hN hp K (i+1) S out (by omega) (by omega) hl hc (by omega) (fun y hy=>by
     by_cases c:y=i
     ·subst c
      exact hs
     exact hlo y (by omega)) hm hcov
    exact⟨rest,S',g1,g2,g3,g4,g5,g6,fun K' e last hlast hK'=>g7 K' e last (by omega) hK'⟩
   |false=>
    rw[hb]at hs
    have hcl:cntF S<=S.length:=List.countP_le_length
    obtain⟨S1,cy,e1,e2,e3,e4,e5,e6,e7,e8,e9⟩:=ql5 hp i hi (cntF S) S [] none i N (.inl ⟨rfl,rfl⟩) rfl (by omega) hl hi hs (fun y hy hne=>by
     rcases hy with hy|hy
     ·exact hc y hy
     exact absurd hy hne) (.inr rfl) (by simp;omega) rfl (fun j hj=>by simp at hj) (fun j j0 hj=>by simp at hj;omega) hlo
    rw[List.nil_append]at e1 e5 e9
    have e0:yG p (i:Int)=some ():=rfl
    have e10:jI N S (i:Int) p=some (S1,cy):=by
     unfold jI
     rw[e1,ZB]
    rw[if_neg (by decide),e0,ZB,e10,ZB]
    simp only
    rw[qcj (by simp only[Yr,List.length_nil];omega) (by simp only[Yr,List.length_nil];omega)]
    simp only[ZB]
    rw[zD (by omega)]
    obtain⟨rest,S',g1,g2,g3,g4,g5,g6,g7⟩:=qjG hN hp K (i+1) S1 (out++[cy]) (by omega) (by omega) e3 e4 (by simp;omega) (fun y hy=>by
     by_cases c:y=i
     ·subst c
      exact e8
     ·exact e6 y (hlo y (by omega))) (fun c hc=>by
     rcases List.mem_append.1 hc with c|c
     ·exact hm _ c
     ·obtain rfl:=List.mem_singleton.1 c
      exact e5) (fun y hy=>by
     rcases e7 y hy with h|h
     ·obtain⟨c,c1,c2⟩:=hcov y h
      exact⟨c,List.mem_append_left _ c1,c2⟩
     exact⟨cy,by simp,h⟩)
    have ass:(out++[cy])++rest=out++(cy::rest):=by simp
    have hlen:(out++[cy]).length=out.length+1:=by simp
    rw[ass]at g1 g4 g5 g6
    refine⟨cy::rest,S',g1,g2,g3,g4,g5,g6,fun K' e last hlast hK'=>?_⟩
    have hlen2:(out++(cy::rest)).length=out.length+1+rest.length:=by simp;omega
    obtain⟨K',rfl⟩: ∃M,K'=M+1:=⟨K'-1,by omega⟩
    obtain⟨s,b1,b2,b3⟩:=id e5
    have i1:idx (out++(cy::rest)) (out.length:Int)=some cy:=by
     rw[qj,Yo (by omega),Nat.sub_self]
     rfl
    have i2:idx cy 0=some (i:Int):=by
     rw[show(0:Int)=((0:Nat):Int)from rfl,qj,e2]
    have l1:=e9 N (by simp;omega)
    rw[show(([]:List Int).length:Int)=0 from rfl]at l1
    have l2:=g7 K' e (i:Int) (by omega) (by rw[ass];omega)
    rw[ass,hlen]at l2
    unfold qL
    simp only
    rw[if_pos (by omega),i1,ZB,if_neg (by omega),i2,ZB,ZB,if_neg (by rw[decide_eq_true_iff];omega),ZB,l1]
    simp only[ZB]
    rw[zD (by omega)]
    exact l2
  rw[if_neg (by omega)]
  have:i=p.length:=by omega
  refine⟨[],S,by rw[YQ],hl,fun y hy=>hlo y (by omega),by rw[YQ];omega,by rw[YQ];exact hm,fun y hy=>by rw[YQ];exact hcov y (hlo y (by omega)),fun K' e last hlast hK'=>?_⟩
  rw[YQ]at hK'⊢
  obtain⟨K',rfl⟩: ∃M,K'=M+1:=⟨K'-1,by omega⟩
  unfold qL
  simp only
  rw[if_neg (by omega)]
end Go.Av
end
section
namespace Go.Av
theorem qlc {a n:Nat} (ha:1<=a) (hn:1<=n): ∃b d:Nat,((((a:Nat):Int):Rat)/(((n:Nat):Int):Rat)).num=(b:Int)/\1<=b/\b<=a/\((((a:Nat):Int):Rat)/(((n:Nat):Int):Rat)).den<=n/\b*n=a*d/\Nat.Coprime b d:=by
 obtain⟨b,b1,b2,b3,b4⟩:=qjo ha hn
 refine⟨b,((((a:Nat):Int):Rat)/(((n:Nat):Int):Rat)).den,b1,b2,b3,b4,?_,?_⟩
 ·have n0:(((n:Nat):Int):Rat)≠0:=Rat.ne_of_gt (Rat.intCast_pos.2 (by omega))
  have h:((((a:Nat):Int):Rat)/(((n:Nat):Int):Rat))*(((n:Nat):Int):Rat)=((a:Nat):Int):=Rat.div_mul_cancel n0
  have e1:((((a:Nat):Int):Rat)/(((n:Nat):Int):Rat)).num*(n:Int)=(a:Int)*(((((a:Nat):Int):Rat)/(((n:Nat):Int):Rat)).den:Int):=by
   have h1:=qb2 ((((a:Nat):Int):Rat)/(((n:Nat):Int):Rat))
   rw[<-Rat.intCast_inj,Rat.intCast_mul,Rat.intCast_mul,<-h1,<-h]
   grind
  rw[b1]at e1
  exact_mod_cast e1
 have:=((((a:Nat):Int):Rat)/(((n:Nat):Int):Rat)).reduced
 rw[b1,Int.natAbs_natCast]at this
 exact this
theorem qiR {a b d n m:Nat} (ha:1<=a) (hn:1<=n) (e:b*n=a*d) (hc:Nat.Coprime b d) (h1:a∣m) (h2:n∣m):b*n∣m:=by
 obtain⟨x,rfl⟩:=h1
 obtain⟨y,hy⟩:=h2
 have e1:a*(b*x)=a*(d*y):=by
  have h3:b*(a*x)=b*(n*y):=by rw[hy]
  have h4:b*(n*y)=a*(d*y):=by rw[<-Nat.mul_assoc,e,Nat.mul_assoc]
  have h5:b*(a*x)=a*(b*x):=by rw[<-Nat.mul_assoc,Nat.mul_comm b a,Nat.mul_assoc]
  rw[<-h5,h3,h4]
 have e2:b*x=d*y:=Nat.eq_of_mul_eq_mul_left (show 0<a by omega) e1
 have e3:b∣d*y:=⟨x,e2.symm⟩
 obtain⟨z,rfl⟩:=Nat.Coprime.dvd_of_dvd_mul_left hc e3
 exact⟨z,by rw[hy,<-Nat.mul_assoc,Nat.mul_comm n b]⟩
theorem qjD {N:Nat} (hN:600000<N) {ls:List (List Int)} (hls:ls.length<=256) (hm: ∀l∈ls,0<l.length/\l.length<=256): ∀(K i a:Nat) (f:qP),i<=ls.length->ls.length<K+i->1<=a->a<10^(3*(i+1))->IsF f (((a:Nat):Int):Rat)->
 ∃(b:Nat) (g:qP),ja N ls K f.Num.s f.Num.w f.Den.s f.Den.w (i:Int)=some (g.Num.s,g.Num.w,g.Den.s,g.Den.w)/\IsF g (((b:Nat):Int):Rat)/\1<=b/\(∃m:Nat,m<=ls.length/\b<10^(3*(m+1)))/\a∣b/\(∀(j:Nat) l,i<=j->ls[j]? =some l->l.length∣b)/\ ∀m,a∣m->(∀(j:Nat) l,i<=j->ls[j]? =some l->l.length∣m)->b∣m
 |0,i,a,f,h,hK,ha,hb,hf=>by omega
 |K+1,i,a,f,h,hK,ha,hb,hf=>by
  unfold ja
  by_cases hi:i<ls.length
  ·have hp:ls[i]? =some ls[i]:=Ya hi
   obtain⟨l1,l2⟩:=hm _ (List.getElem_mem hi)
   generalize ls[i]=l at*
   obtain⟨n,hn⟩: ∃n:Nat,l.length=n:=⟨_,rfl⟩
   have hk:3*(i+1)<=768:=by omega
   have sa:Sml (((a:Nat):Int):Rat) 771:=(qdE (k:=3*(i+1)) (by omega) hb).mono (by omega)
   have sn:Sml (((n:Nat):Int):Rat) 771:=(qdE (k:=3) (by omega) (by omega)).mono (by omega)
   have n0:(((n:Nat):Int):Rat)≠0:=Rat.ne_of_gt (Rat.intCast_pos.2 (by omega))
   obtain⟨b,d,b1,b2,b3,b4,b5,b6⟩:=qlc ha (show 1<=n by omega)
   have sb:Sml (((b:Nat):Int):Rat) 771:=(qdE (k:=3*(i+1)) (by omega) (by omega)).mono (by omega)
   obtain⟨fn,e1,i1⟩:=F_eq (n:=(n:Int)) (by omega) (by omega)
   obtain⟨fq,e2,i2⟩:=qlq hN hf i1 (n:=100) (by omega) (by omega) (qbq sa (by omega) (by omega)) (qbq sn (by omega) (by omega)) n0
   obtain⟨fw,e3,i3⟩:=qgJ i2.1
   rw[b1]at i3
   obtain⟨fm,e4,i4⟩:=qie hN i3 i1 (n:=100) (by omega) (qbq sb (by omega) (by omega)) (qbq sn (by omega) (by omega))
   have em:(((b:Nat):Int):Rat)*(((n:Nat):Int):Rat)=(((b*n:Nat):Int):Rat):=by
    rw[<-Rat.intCast_mul]
    congr 1
   rw[em]at i4
   obtain⟨c,g,r1,r3,r4,r5,r6,r7,r8⟩:=qjD hN hls hm K (i+1) (b*n) fm (by omega) (by omega) (Nat.le_trans b2 (Nat.le_mul_of_pos_right _ (by omega))) (qi9 b3 (by omega) hb) i4
   refine⟨c,g,?_,r3,r4,r5,Nat.dvd_trans ⟨d,b5⟩ r6,fun j l' hj hl'=>?_,fun m hm1 hm2=>?_⟩
   ·rw[if_pos (by omega),qj,hp,ZB,hn,e1,ZB,show(⟨⟨f.Num.s,f.Num.w⟩,⟨f.Den.s,f.Den.w⟩⟩:qP)=f from rfl,e2,ZB,e3,ZB,e4,ZB,zD (by omega)]
    exact r1
   ·by_cases c:j=i
    ·subst c
     rw[hp]at hl'
     obtain rfl:=Ye hl'
     rw[hn]
     exact Nat.dvd_trans ⟨b,Nat.mul_comm _ _⟩ r6
    exact r7 j l' (by omega) hl'
   have hd:=hm2 i l (Nat.le_refl _) hp
   rw[hn]at hd
   exact r8 m (qiR ha (by omega) b5 b6 hm1 hd) (fun j l' hj hl'=>hm2 j l' (by omega) hl')
  rw[if_neg (by omega)]
  refine⟨a,f,rfl,hf,ha,⟨i,by omega,hb⟩,Nat.dvd_refl _,fun j l hj hl=>?_,fun m h1 _=>h1⟩
  have:=(Yb.1 hl).1
  omega
theorem qk9 {k:Int} {L:Nat} (hL:0<L):(k.tmod (L:Int)+(L:Int)).tmod (L:Int)=k%(L:Int):=by
 have h1: -(L:Int)<k.tmod (L:Int):=Int.lt_tmod_of_pos k (by omega)
 have h2:=Int.mul_tdiv_add_tmod k (L:Int)
 rw[Int.tmod_eq_emod_of_nonneg (by omega)]
 have e:k.tmod (L:Int)+(L:Int)=k+(L:Int)*(1-k.tdiv (L:Int)):=by
  rw[Int.mul_sub,Int.mul_one]
  omega
 rw[e,Int.add_mul_emod_self_left]
theorem ql3 {p c:List Int} (hp:IsP p) {s:Nat} (hs:s<p.length) (hc: ∀j,j<c.length->c[j]? =some ((itP p s j:Nat):Int)) (hr:itP p s c.length=s) (h0:0<c.length) (h1:c.length<=256) (M:Nat): ∀(K j:Nat) (r:List Int),j<=c.length->c.length<K+j->r.length=p.length->
 ∃r',jr c ((M%c.length:Nat):Int) K r (j:Int)=some r'/\r'.length=p.length/\(∀t:Nat,r[t]? =some ((itP p t M:Nat):Int)->r'[t]? =some ((itP p t M:Nat):Int))/\ ∀(j' t:Nat),j<=j'->c[j']? =some (t:Int)->r'[t]? =some ((itP p t M:Nat):Int)
 |0,j,r,h,hK,hl=>by omega
 |K+1,j,r,h,hK,hl=>by
  unfold jr
  have hq:M%c.length<c.length:=Nat.mod_lt _ h0
  by_cases hj:j<c.length
  ·have hx:=hc j hj
   have tl:=qbF hp hs j
   have hw:w64 ((j:Int)+((M%c.length:Nat):Int))=((j+M%c.length:Nat):Int):=by
    rw[qD (by omega) (by omega)]
    omega
   have hrm:qaU .i64 ((j+M%c.length:Nat):Int) (c.length:Int)=some (((j+M%c.length)%c.length:Nat):Int):=by
    unfold qaU
    rw[if_neg (by omega)]
    rfl
   have hy:=hc ((j+M%c.length)%c.length) (Nat.mod_lt _ h0)
   have ht:itP p (itP p s j) c.length=itP p s j:=by
    rw[<-xw,Nat.add_comm,xw,hr]
   have ev:itP p s ((j+M%c.length)%c.length)=itP p (itP p s j) M:=by
    rw[<-qfB hr,xw,<-qfB ht]
   rw[ev]at hy
   have hz:r[itP p s j]? =some r[itP p s j]:=Ya (by omega)
   rw[if_pos (by omega),qj,hx,ZB,hw,hrm,ZB,qj,hy,ZB,qj,hz,ZB,jR (by omega),ZB,zD (by omega)]
   obtain⟨r',g1,g2,g3,g4⟩:=ql3 hp hs hc hr h0 h1 M K (j+1) (r.set (itP p s j) ((itP p (itP p s j) M:Nat):Int)) (by omega) (by omega) (by simpa using hl)
   have self:(r.set (itP p s j) ((itP p (itP p s j) M:Nat):Int))[itP p s j]? =some ((itP p (itP p s j) M:Nat):Int):=by rw[List.getElem?_set_self (by omega)]
   refine⟨r',g1,g2,fun t ht=>g3 t ?_,fun j' t hj' hjt=>?_⟩
   ·by_cases e:t=itP p s j
    ·subst e
     exact self
    rw[Yw (fun h=>e h.symm)]
    exact ht
   by_cases e:j'=j
   ·subst e
    rw[hx]at hjt
    have:itP p s j'=t:=by
     have:=Ye hjt
     omega
    subst this
    exact g3 _ self
   exact g4 j' t (by omega) hjt
  rw[if_neg (by omega)]
  refine⟨r,rfl,hl,fun t ht=>ht,fun j' t hj' ht=>?_⟩
  have:=(Yb.1 ht).1
  omega
theorem qlY {N:Nat} (hN:2000<N) {p:List Int} (hp:IsP p) {ls:List (List Int)} {k:Int} {M:Nat} (hls:ls.length<=256) (hc: ∀c∈ls,qiF p c) (hM: ∀c∈ls,k%(c.length:Int)=((M%c.length:Nat):Int)): ∀(K i:Nat) (r:List Int),i<=ls.length->ls.length<K+i->r.length=p.length->
 ∃r',jo N k ls K r (i:Int)=some r'/\r'.length=p.length/\(∀t:Nat,r[t]? =some ((itP p t M:Nat):Int)->r'[t]? =some ((itP p t M:Nat):Int))/\ ∀(j t:Nat) (c:List Int),i<=j->ls[j]? =some c->(t:Int)∈c->r'[t]? =some ((itP p t M:Nat):Int)
 |0,i,r,h,hK,hl=>by omega
 |K+1,i,r,h,hK,hl=>by
  have hfew:=hp.few
  unfold jo
  by_cases hi:i<ls.length
  ·have hpi:ls[i]? =some ls[i]:=Ya hi
   obtain⟨s,c0,c1,c2,c3,c4,c5⟩:=hc _ (List.getElem_mem hi)
   have hMi:=hM _ (List.getElem_mem hi)
   generalize ls[i]=l at*
   have h1:qaU .i64 k (l.length:Int)=some (k.tmod (l.length:Int)):=by
    unfold qaU
    rw[if_neg (by omega)]
   have a1:k.tmod (l.length:Int)<l.length:=Int.tmod_lt_of_pos _ (by omega)
   have a2: -(l.length:Int)<k.tmod (l.length:Int):=Int.lt_tmod_of_pos k (by omega)
   have hw:w64 (k.tmod (l.length:Int)+(l.length:Int))=k.tmod (l.length:Int)+(l.length:Int):=qD (by omega) (by omega)
   have h2:qaU .i64 (k.tmod (l.length:Int)+(l.length:Int)) (l.length:Int)=some ((M%l.length:Nat):Int):=by
    unfold qaU
    rw[if_neg (by omega),qk9 c0,hMi]
   obtain⟨r',g1,g2,g3,g4⟩:=ql3 hp c2 c3 c4 c0 (by omega) M N 0 r (by omega) (by omega) hl
   rw[show((0:Nat):Int)=0 from rfl]at g1
   obtain⟨r'',k1,k2,k3,k4⟩:=qlY hN hp hls hc hM K (i+1) r' (by omega) (by omega) g2
   refine⟨r'',?_,k2,fun t ht=>k3 t (g3 t ht),fun j t c hj hcj ht=>?_⟩
   ·rw[if_pos (by omega),qj,hpi]
    simp only[h1,hw,h2,ZB]
    rw[g1]
    simp only[ZB]
    rw[zD (by omega)]
    exact k1
   by_cases e:j=i
   ·subst e
    rw[hpi]at hcj
    obtain rfl:=Ye hcj
    obtain⟨j',hj'⟩:=List.mem_iff_getElem?.1 ht
    exact k3 t (g4 j' t (by omega) hj')
   exact k4 j t c (by omega) hcj ht
  rw[if_neg (by omega)]
  refine⟨r,rfl,hl,fun t ht=>ht,fun j t c hj hcj ht=>?_⟩
  have:=(Yb.1 hcj).1
  omega
def mkP (p:List Int) (M:Nat):List Int:=(List.range p.length).map fun t:Nat=>((itP p t M:Nat):Int)
theorem jv (p:List Int) (M:Nat):(mkP p M).length=p.length:=by simp[mkP]
theorem xX {p:List Int} {M t:Nat} (h:t<p.length):(mkP p M)[t]? =some ((itP p t M:Nat):Int):=by
 simp[mkP,List.getElem?_map,List.getElem?_range h]
theorem qgX {p r:List Int} {M:Nat} (hl:r.length=p.length) (h: ∀t:Nat,t<p.length->r[t]? =some ((itP p t M:Nat):Int)):r=mkP p M:=by
 apply List.ext_getElem?
 intro t
 by_cases c:t<p.length
 ·rw[h t c,xX c]
 rw[Yg (by omega),Yg (by rw[jv];omega)]
theorem qj9 {p:List Int} {M M':Nat}:mkP p M=mkP p M'↔ ∀t,t<p.length->itP p t M=itP p t M':=by
 constructor
 ·intro h t ht
  have h1:=xX (M:=M) ht
  rw[h,xX ht]at h1
  have:=Ye h1
  omega
 intro h
 exact qgX (jv p M) fun t ht=>by rw[xX ht,h t ht]
theorem qhP {p:List Int} (hp:IsP p) (M:Nat):IsP (mkP p M):=by
 have hfew:=hp.few
 refine⟨by rw[jv];exact hfew,fun k hk=>?_,fun k k' v hk hk'=>?_⟩
 ·rw[jv]at hk
  exact⟨itP p k M,by rw[jv];exact qbF hp hk M,xX hk⟩
 have l1:=(Yb.1 hk).1
 have l2:=(Yb.1 hk').1
 rw[jv]at l1 l2
 rw[xX l1]at hk
 rw[xX l2]at hk'
 have h1:=Ye hk
 have h2:=Ye hk'
 exact qib hp l1 l2 M (by omega)
theorem qik {a b:List Int} {g:Nat->Int} (ha:a.length<=256) (h: ∀t,t<a.length-> ∃v:Nat,a[t]? =some (v:Int)/\b[v]? =some (g t)): ∀(K i:Nat),i<=a.length->a.length<K+i->zY a b K ((List.range i).map g) (i:Int)=some ((List.range a.length).map g)
 |0,i,hi,hK=>by omega
 |K+1,i,hi,hK=>by
  unfold zY
  by_cases c:i<a.length
  ·obtain⟨v,h1,h2⟩:=h i c
   rw[if_pos (by omega),qj,h1,ZB,qj,h2,ZB,qcj (by simp;omega) (by simp;omega),ZB,zD (by omega),show(List.range i).map g++[g i]=(List.range (i+1)).map g by simp[List.range_succ]]
   exact qik ha h K (i+1) (by omega) (by omega)
  rw[if_neg (by omega),show i=a.length by omega]
theorem qh0 {a b:List Int} {g:Nat->Int} (ha:a.length<=256) (h: ∀t,t<a.length-> ∃v:Nat,a[t]? =some (v:Int)/\b[v]? =some (g t)): ∀(K i:Nat),i<=a.length->a.length<K+i->zM a b K ((List.range i).map g) (i:Int)=some ((List.range a.length).map g)
 |0,i,hi,hK=>by omega
 |K+1,i,hi,hK=>by
  unfold zM
  by_cases c:i<a.length
  ·obtain⟨v,h1,h2⟩:=h i c
   rw[if_pos (by omega),qj,h1,ZB,qj,h2,ZB,qcj (by simp;omega) (by simp;omega),ZB,zD (by omega),show(List.range i).map g++[g i]=(List.range (i+1)).map g by simp[List.range_succ]]
   exact qh0 ha h K (i+1) (by omega) (by omega)
  rw[if_neg (by omega),show i=a.length by omega]
theorem qf2 {n:Nat} (hn:n<=256): ∀(K i:Nat),i<=n->n<K+i->zI (n:Int) K ((List.range i).map fun t:Nat=>(t:Int)) (i:Int)=some ((List.range n).map fun t:Nat=>(t:Int))
 |0,i,hi,hK=>by omega
 |K+1,i,hi,hK=>by
  unfold zI
  by_cases c:i<n
  ·rw[if_pos (by omega),qcj (by simp;omega) (by simp;omega),ZB,zD (by omega),show((List.range i).map fun t:Nat=>(t:Int))++[(i:Int)]=(List.range (i+1)).map fun t:Nat=>(t:Int)by simp[List.range_succ]]
   exact qf2 hn K (i+1) (by omega) (by omega)
  rw[if_neg (by omega),show i=n by omega]
theorem qfk {N:Nat} (hN:2000<N) {p:List Int} (hl:p.length<=256):jH N (p.length:Int)=some (mkP p 0):=by
 unfold jH
 have:=qf2 hl N 0 (by omega) (by omega)
 rw[show(List.range 0).map (fun t:Nat=>(t:Int))=[]from rfl,show((0:Nat):Int)=0 from rfl]at this
 rw[this,ZB]
 rfl
theorem qgE {N:Nat} (hN:2000<N) {p:List Int} (hp:IsP p) (A B:Nat):jN N (mkP p A) (mkP p B)=some (mkP p (A+B)):=by
 have hfew:=hp.few
 unfold jN
 have:=qik (a:=mkP p A) (b:=mkP p B) (g:=fun t=>((itP p t (A+B):Nat):Int)) (by rw[jv];omega) (fun t ht=>by
  rw[jv]at ht
  exact⟨itP p t A,xX ht,by rw[xX (qbF hp ht A),xw]⟩) N 0 (by omega) (by rw[jv];omega)
 rw[show(List.range 0).map (fun t=>((itP p t (A+B):Nat):Int))=[]from rfl,show((0:Nat):Int)=0 from rfl,jv]at this
 rw[this,ZB]
 rfl
theorem qln {p:List Int} (hp:IsP p):mkP p 1=p:=(qgX (M:=1) rfl fun t ht=>(qck hp ht).1).symm
theorem qkp {a b:List Int} (hl:a.length=b.length) (hs:a.length<=100000): ∀(K i:Nat),i<=a.length->a.length<K+i->(qO a b K (i:Int)=some (.inl ())/\ ∀k,i<=k->a[k]? =b[k]?)\/(qO a b K (i:Int)=some (.inr false)/\a≠b)
 |0,i,h,hK=>by omega
 |K+1,i,h,hK=>by
  unfold qO
  by_cases hi:i<a.length
  ·have ha:a[i]? =some a[i]:=Ya hi
   have hb:b[i]? =some b[i]:=Ya (by omega)
   rw[if_pos (by omega),qj,ha,ZB,qj,hb,ZB]
   by_cases e:a[i]=b[i]
   ·rw[if_neg (by simp[e]),zD (by omega)]
    rcases qkp hl hs K (i+1) (by omega) (by omega)with⟨r1,r2⟩|r
    ·refine .inl ⟨r1,fun k hk=>?_⟩
     by_cases c:k=i
     ·subst c
      rw[ha,hb,e]
     exact r2 k (by omega)
    exact .inr r
   rw[if_pos (by simp[e])]
   exact .inr ⟨rfl,fun c=>e (by subst c;rfl)⟩
  rw[if_neg (by omega)]
  exact .inl ⟨rfl,fun k hk=>by rw[Yg (by omega),Yg (by omega)]⟩
theorem qkQ {N:Nat} {a b:List Int} (hN:a.length<N) (hl:a.length=b.length) (hs:a.length<=100000):qW N a b=some (decide (a=b)):=by
 unfold qW
 rw[if_neg (by simp[hl])]
 rcases qkp hl hs N 0 (by omega) (by omega)with⟨r1,r2⟩|⟨r1,r2⟩
 ·rw[show((0:Nat):Int)=0 from rfl]at r1
  rw[r1,ZB]
  simp only
  rw[decide_eq_true (List.ext_getElem? fun k=>r2 k (by omega))]
 rw[show((0:Nat):Int)=0 from rfl]at r1
 rw[r1,ZB]
 simp only
 rw[decide_eq_false r2]
theorem qhO {N:Nat} (hN:2000<N) {w:List Int} (hw:IsP w): ∀(K i:Nat),i<=w.length->w.length<K+i->qV N w K (i:Int)=some (.inl ())
 |0,i,h,hK=>by omega
 |K+1,i,h,hK=>by
  have hfew:=hw.few
  unfold qV
  by_cases hi:i<w.length
  ·obtain⟨v,v1,v2⟩:=hw.at_ i hi
   have pin:qQ w (i:Int) N 0=some (.inl ()):=by
    rcases qg7 hfew hi v2 N 0 (by omega) (by omega) (fun k hk=>by omega)with⟨r,_⟩|⟨_,k,k1,k2⟩
    ·exact r
    have:=hw.inj k i _ k2 v2
    omega
   rw[if_pos (by omega),qj,v2,ZB,if_neg (by omega),ZB,if_neg (by rw[decide_eq_true_iff];omega),pin]
   simp only[ZB]
   rw[zD (by omega)]
   exact qhO hN hw K (i+1) (by omega) (by omega)
  rw[if_neg (by omega)]
theorem qbc {N:Nat} (hN:2000<N) {w:List Int} (hw:IsP w):qM N w=some 0/\zh N w=some 0:=by
 have hfew:=hw.few
 have h:zh N w=some 0:=by
  unfold zh
  rw[if_neg (by omega),show(0:Int)=((0:Nat):Int)from rfl,qhO hN hw N 0 (by omega) (by omega)]
  rfl
 obtain⟨e,e1,e2,_⟩:=qfn hN (p:=w) (by omega)
 rw[h]at e2
 obtain rfl:=Ye e2
 exact⟨e1,h⟩
theorem qj2 {p:List Int} (hp:IsP p): ∀(K i:Nat) (r:List Int),i<=p.length->p.length<K+i->r.length=p.length->(∀k,k<i->r[nxP p k]? =some (k:Int))->
 ∃r',zN p K r (i:Int)=some r'/\r'.length=p.length/\ ∀k,k<p.length->r'[nxP p k]? =some (k:Int)
 |0,i,r,h,hK,hl,hk=>by omega
 |K+1,i,r,h,hK,hl,hk=>by
  have hfew:=hp.few
  unfold zN
  by_cases hi:i<p.length
  ·obtain⟨h1,h2⟩:=qck hp hi
   have hz:r[nxP p i]? =some r[nxP p i]:=Ya (by omega)
   rw[if_pos (by omega),qj,h1,ZB,qj,hz,ZB,jR (by omega),ZB,zD (by omega)]
   refine qj2 hp K (i+1) _ (by omega) (by omega) (by simpa using hl) (fun k hk'=>?_)
   by_cases e:k=i
   ·subst e
    rw[List.getElem?_set_self (by omega)]
   rw[Yw (fun c=>e (qhM hp (by omega) hi c.symm))]
   exact hk k (by omega)
  rw[if_neg (by omega)]
  exact⟨r,rfl,hl,fun k hk'=>hk k (by omega)⟩
theorem qhV {n:Nat} (hn:n<=256):mk 8 (n:Int) (0:Int)=some (List.replicate n 0):=by
 unfold mk
 rw[if_pos (by omega)]
 simp
theorem qmR {N:Nat} (hN:2000<N):xV N [0,0,0]=some 0:=by
 obtain⟨M,rfl⟩: ∃M,N=M+4:=⟨N-4,by omega⟩
 rfl
end Go.Av
end
section
namespace Go.Av
theorem qeZ {S:List Bool} (hl:S.length<=256) (h: ∀y,y<S.length->S[y]? =some true): ∀(K i:Nat),i<=S.length->S.length<K+i->kw S K (i:Int)=some (.inl ())
 |0,i,hi,hK=>by omega
 |K+1,i,hi,hK=>by
  unfold kw
  by_cases c:i<S.length
  ·rw[if_pos (by omega),qj,h i c,ZB,if_neg (by decide),zD (by omega)]
   exact qeZ hl h K (i+1) (by omega) (by omega)
  rw[if_neg (by omega)]
theorem qlu {p:List Int} {ls:List (List Int)} {P:Nat} (hc: ∀c∈ls,qiF p c) (hcov: ∀y:Nat,y<p.length-> ∃c∈ls,(y:Int)∈c) (hd: ∀c∈ls,c.length∣P) (hm: ∀m,(∀c∈ls,c.length∣m)->P∣m) (m:Nat):(∀t,t<p.length->itP p t m=t)↔P∣m:=by
 constructor
 ·intro h
  refine hm m (fun c hcm=>?_)
  obtain⟨s,c0,c1,c2,c3,c4,c5⟩:=hc c hcm
  have h1:=h s c2
  rw[qfB c4]at h1
  have h2:m%c.length<c.length:=Nat.mod_lt _ c0
  apply Nat.dvd_of_mod_eq_zero
  by_cases z:m%c.length=0
  ·exact z
  exact absurd h1 (c5 _ (by omega) h2)
 intro hP t ht
 obtain⟨c,k1,k2⟩:=hcov t ht
 obtain⟨s,c0,c1,c2,c3,c4,c5⟩:=hc c k1
 obtain⟨j,hj⟩:=List.mem_iff_getElem?.1 k2
 have hjl:=(Yb.1 hj).1
 have e:=c3 j hjl
 rw[hj]at e
 have et:t=itP p s j:=by
  have:=Ye e
  omega
 have hL:itP p t c.length=t:=by
  rw[et,<-xw,Nat.add_comm,xw,c4]
 obtain⟨z,hz⟩:=Nat.dvd_trans (hd c k1) hP
 rw[hz]
 exact qdC hL z
theorem qfh {N:Nat} (hN:600000<N) {p:List Int} (hp:IsP p) {P:Nat} (hP: ∀m,(∀t,t<p.length->itP p t m=t)↔P∣m) (e:Int): ∀(K m:Nat),1<=m->61<K+m->m<=P->m<=61->
 kr N p (T (((P:Nat):Int):Rat),e) K (mkP p (m-1)) (m:Int)=some (.inl ())
 |0,m,h1,hK,hmP,hm=>by omega
 |K+1,m,h1,hK,hmP,hm=>by
  have hfew:=hp.few
  unfold kr
  by_cases c:m<=60
  ·have hcmp:jN N (mkP p (m-1)) p=some (mkP p m):=by
    have:=qgE (N:=N) (by omega) hp (m-1) 1
    rw[qln hp,show m-1+1=m by omega]at this
    exact this
   have hsame:qW N (mkP p m) (mkP p 0)=some (decide (mkP p m=mkP p 0)):=qkQ (by rw[jv];omega) (by rw[jv,jv]) (by rw[jv];omega)
   have hid:mkP p m=mkP p 0↔P∣m:=by
    rw[qj9,<-hP m]
    rfl
   rw[if_pos (by omega),hcmp,ZB,qfk (by omega) hfew,ZB,hsame,ZB,qhi (by omega) (by omega) (by omega)]
   simp only[ZB]
   by_cases d:P∣m
   ·have:P=m:=Nat.le_antisymm (Nat.le_of_dvd (by omega) d) hmP
    subst this
    rw[if_pos (decide_eq_true (hid.2 d)),if_neg (by simp)]
   rw[if_neg (fun h=>d (hid.1 (of_decide_eq_true h)))]
   have hne:P≠m:=fun h=>d (h▸Nat.dvd_refl _)
   have hT:T (((P:Nat):Int):Rat)≠T (((m:Nat):Int):Rat):=fun h=>by
    have:=Rat.intCast_inj.1 (T_inj h)
    omega
   rw[if_neg (by simpa using hT),zD (by omega)]
   have:=qfh hN hp hP e K (m+1) (by omega) (by omega) (by omega) (by omega)
   rw[Nat.add_sub_cancel]at this
   exact this
  rw[if_neg (by omega)]
theorem qdW {N:Nat} (hN:2000<N) {p:List Int} (hp:IsP p) {ls:List (List Int)} (hls:zF N p=some ls) (hl:ls.length<=p.length) (hc: ∀c∈ls,qiF p c) (hcov: ∀y:Nat,y<p.length-> ∃c∈ls,(y:Int)∈c) {P:Nat} (hP:1<=P) (hd: ∀c∈ls,c.length∣P) {k:Int} (h1: -80<=k) (h2:k<=80):vE N p k=some (mkP p (k+80*(P:Int)).toNat,0):=by
 have hfew:=hp.few
 have hM: ∀c∈ls,k%(c.length:Int)=(((k+80*(P:Int)).toNat%c.length:Nat):Int):=fun c hcm=>by
  obtain⟨z,hz⟩:=hd c hcm
  have e:(((k+80*(P:Int)).toNat:Nat):Int)=k+(c.length:Int)*(80*(z:Int)):=by
   have h3:(P:Int)=(c.length:Int)*(z:Int):=by
    rw[hz]
    exact Int.natCast_mul _ _
   have h4:(c.length:Int)*(80*(z:Int))=80*(P:Int):=by
    rw[h3,<-Int.mul_assoc,Int.mul_comm (c.length:Int) 80,Int.mul_assoc]
   rw[h4]
   omega
  rw[Int.natCast_emod,e,Int.add_mul_emod_self_left]
 obtain⟨r,r1,r2,r3,r4⟩:=qlY hN hp (k:=k) (by omega) hc hM N 0 (List.replicate p.length 0) (by omega) (by omega) (by simp)
 rw[show((0:Nat):Int)=0 from rfl]at r1
 unfold vE
 rw[(qbc hN hp).1,ZB,if_neg (by decide),qhV hfew,ZB,hls,ZB,r1,ZB]
 rw[qgX (p:=p) r2 fun t ht=>by
  obtain⟨c,c1,c2⟩:=hcov t ht
  obtain⟨j,hj⟩:=List.mem_iff_getElem?.1 c1
  exact r4 j t c (by omega) hj c2]
theorem qcm {N:Nat} (hN:600000<N) (p:List Int) (k n:Int):vz N p k n=some true:=by
 unfold vz awk
 simp only[ZB,Bool.not_true,ZF,if_false]
 by_cases hl:(p.length:Int)>12
 ·rw[if_pos hl]
  rfl
 rw[if_neg hl]
 obtain⟨e,c1,c2,c3⟩:=qfn (N:=N) (by omega) (p:=p) (by omega)
 rw[c2]
 simp only[ZB]
 by_cases he:e=0
 ·subst he
  have hp:=c3 rfl
  have hfew:=hp.few
  rw[if_neg (by decide)]
  by_cases k1:k< -40
  ·rw[if_pos k1]
   rfl
  rw[if_neg k1]
  by_cases k2:k>40
  ·rw[if_pos k2]
   rfl
  rw[if_neg k2]
  by_cases n1:n< -40
  ·rw[if_pos n1]
   rfl
  rw[if_neg n1]
  by_cases n2:n>40
  ·rw[decide_eq_true n2]
   rfl
  rw[decide_eq_false n2]
  simp only[ZB,ZF,if_false]
  have hmk:mk 1 (p.length:Int) false=some (List.replicate p.length false):=by
   unfold mk
   rw[if_pos (by omega)]
   simp
  obtain⟨ls,S',g1,g2,g3,g4,g5,g6,g7⟩:=qjG (N:=N) (by omega) hp N 0 (List.replicate p.length false) [] (by omega) (by omega) (by simp) (fun y hy=>by
   rw[List.getElem?_replicate]at hy
   split at hy<;>cases hy) (by simp) (fun y hy=>by omega) (fun l h=>by cases h) (fun y hy=>by
   rw[List.getElem?_replicate]at hy
   split at hy<;>cases hy)
  rw[List.nil_append]at g1 g4 g5 g6 g7
  rw[show((0:Nat):Int)=0 from rfl]at g1
  have hcy:zF N p=some ls:=by
   unfold zF
   rw[hmk,ZB,g1,ZB]
  have hcl: ∀l∈ls,0<l.length/\l.length<=256:=fun l h=>by
   obtain⟨s,b0,b1,_⟩:=g5 l h
   omega
  obtain⟨f1,e1,i1⟩:=F_eq (n:=1) (by omega) (by omega)
  obtain⟨P,g,r1,r2,r3,⟨m0,r4,r5⟩,r6,r7,r8⟩:=qjD hN (ls:=ls) (by omega) hcl N 0 1 f1 (by omega) (by omega) (by omega) (by omega) i1
  rw[show((0:Nat):Int)=0 from rfl]at r1
  have sb:Sml (((P:Nat):Int):Rat) 600:=(qdE (k:=3*(m0+1)) (by omega) r5).mono (by omega)
  have hd: ∀c∈ls,c.length∣P:=fun c hc=>by
   obtain⟨j,hj⟩:=List.mem_iff_getElem?.1 hc
   exact r7 j c (by omega) hj
  have hPm: ∀m,(∀c∈ls,c.length∣m)->P∣m:=fun m h=>r8 m (Nat.one_dvd _) (fun j l _ hj=>h l (List.mem_iff_getElem?.2 ⟨j,hj⟩))
  have hid:=qlu g5 g6 hd hPm
  have hCyc:yC N p=some (ls,0):=by
   unfold yC
   rw[c1,ZB,if_neg (by decide),hcy,ZB]
  have hres:vM N g=some (T (((P:Nat):Int):Rat),0):=by
   rw[qiv hN r2 (qbq sb (by omega) (by omega)),qjm sb,if_neg (by simp)]
  have hPer:yA N p=some (T (((P:Nat):Int):Rat),0):=by
   unfold yA
   rw[c1,ZB,if_neg (by decide),e1,ZB,hcy,ZB,r1,ZB]
   simp only
   rw[show(⟨⟨g.Num.s,g.Num.w⟩,⟨g.Den.s,g.Den.w⟩⟩:qP)=g from rfl,hres,ZB]
  have hback: ∀t,t<p.length->itP p t P=t:=(hid P).2 (Nat.dvd_refl _)
  have hsur: ∀t,t<p.length-> ∃s,s<p.length/\nxP p s=t:=fun t ht=>by
   refine⟨itP p t (P-1),qbF hp ht _,?_⟩
   have:=hback t ht
   rw[show P=P-1+1 by omega]at this
   exact this
  obtain⟨w,w1,w2,w3⟩:=qj2 hp N 0 (List.replicate p.length 0) (by omega) (by omega) (by simp) (fun k hk=>by omega)
  rw[show((0:Nat):Int)=0 from rfl]at w1
  have hInv:vT N p=some (w,0):=by
   unfold vT
   rw[c1,ZB,if_neg (by decide),qhV hfew,ZB,w1,ZB]
  have hw:IsP w:=by
   refine⟨by omega,fun t ht=>?_,fun t t' v h h'=>?_⟩
   ·obtain⟨s,s1,s2⟩:=hsur t (by omega)
    exact⟨s,by omega,by rw[<-s2];exact w3 s s1⟩
   have l1:=(Yb.1 h).1
   have l2:=(Yb.1 h').1
   obtain⟨s,s1,s2⟩:=hsur t (by omega)
   obtain⟨s',s1',s2'⟩:=hsur t' (by omega)
   have x1:=w3 s s1
   have x2:=w3 s' s1'
   rw[s2,h]at x1
   rw[s2',h']at x2
   have y1:=Ye x1
   have y2:=Ye x2
   have:s=s':=by omega
   subst this
   rw[<-s2,s2']
  have hComp:vX N p w=some (mkP p 0,0):=by
   have h1:=qh0 (a:=p) (b:=w) (g:=fun t=>(t:Int)) hfew (fun t ht=>⟨nxP p t,(qck hp ht).1,w3 t ht⟩) N 0 (by omega) (by omega)
   rw[show(List.range 0).map (fun t:Nat=>(t:Int))=[]from rfl,show((0:Nat):Int)=0 from rfl]at h1
   have hwh:xE (!decide ((p.length:Int)=(w.length:Int))) 2=some 0:=by
    unfold xE
    rw[w2,if_neg (by simp)]
   unfold vX
   rw[c1,ZB,(qbc (by omega) hw).1,ZB,hwh,ZB,qmR (by omega),ZB,if_neg (by decide),h1,ZB]
   rfl
  have hself:qW N (mkP p 0) (mkP p 0)=some true:=qgb (by rw[jv];omega) (by rw[jv];omega)
  have hL0:=g7 N 0 (-1) (by omega) (by simp;omega)
  rw[show(([]:List (List Int)).length:Int)=0 from rfl]at hL0
  have hL2:=qeZ (S:=S') (by omega) (fun y hy=>g3 y (by omega)) N 0 (by omega) (by omega)
  rw[show((0:Nat):Int)=0 from rfl]at hL2
  have hL3:=qfh hN hp hid 0 N 1 (by omega) (by omega) r3 (by omega)
  rw[show 1-1=0 from rfl,show((1:Nat):Int)=1 from rfl]at hL3
  have hA:=qdW (N:=N) (by omega) hp hcy g4 g5 g6 r3 hd (k:=k) (by omega) (by omega)
  have hB:=qdW (N:=N) (by omega) hp hcy g4 g5 g6 r3 hd (k:=n) (by omega) (by omega)
  have hC:=qdW (N:=N) (by omega) hp hcy g4 g5 g6 r3 hd (k:=k+n) (by omega) (by omega)
  have hAB:mkP p ((k+80*(P:Int)).toNat+(n+80*(P:Int)).toNat)=mkP p (k+n+80*(P:Int)).toNat:=by
   rw[qj9]
   intro t ht
   rw[show(k+80*(P:Int)).toNat+(n+80*(P:Int)).toNat=(k+n+80*(P:Int)).toNat+P*80 by omega,xw,qdC (hback _ (qbF hp ht _))]
  have chkA:=(qbc (N:=N) (by omega) (qhP hp (k+80*(P:Int)).toNat)).2
  have chkB:=(qbc (N:=N) (by omega) (qhP hp (n+80*(P:Int)).toNat)).2
  have hcomp2:=qgE (N:=N) (by omega) hp (k+80*(P:Int)).toNat (n+80*(P:Int)).toNat
  rw[hAB]at hcomp2
  have hself2:qW N (mkP p (k+n+80*(P:Int)).toNat) (mkP p (k+n+80*(P:Int)).toNat)=some true:=qgb (by rw[jv];omega) (by rw[jv];omega)
  have hkn:w64 (k+n)=k+n:=qD (by omega) (by omega)
  have z4:(!decide (w64 (w64 (w64 ((0:Int)+0)+0)+0)=0))=false:=by decide
  have z3:(!decide (w64 (w64 ((0:Int)+0)+0)=0))=false:=by decide
  have z1:(!decide ((0:Int)=0))=false:=by decide
  rw[hCyc,ZB,hPer,ZB,hInv,ZB]
  simp only
  rw[hComp,ZB]
  simp only[z4,ZF,if_false]
  rw[qfk (by omega) hfew]
  simp only[ZB,hself,Bool.not_true,ZF,if_false,hmk,hL0,hL2,hL3,hA,hB,hkn,hC,z3,chkA,chkB,z1,jv,decide_true,hcomp2,hself2]
 rw[if_pos (by simp[he])]
 rfl
end Go.Av
end
