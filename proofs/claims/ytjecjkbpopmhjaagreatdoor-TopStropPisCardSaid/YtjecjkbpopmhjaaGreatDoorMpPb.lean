/-
  The reference's integers: division whole, sums, products, common divisors.
-/
import Derived.Test.YtjecjkbpopmhjaaGreatDoorMpPa
noncomputable section
set_option linter.unusedVariables false
set_option linter.unusedSimpArgs false
set_option maxRecDepth 100000
section
namespace Go.Av
theorem qdw {l:List Int} (h:Dg E9 l) {n:Nat} (hl:dv E9 l<E9^n):dv E9 (l.drop n)=0:=by
 by_cases hn:n<=l.length
 ·have e:=yS E9 l n hn
  have u:=qD E0 (h.take n)
  have j:=qD E0 (h.drop n)
  rcases Int.lt_or_le 0 (dv E9 (l.drop n))with c|c
  ·have:=Yc (show 1<=dv E9 (l.drop n)by omega) (Int.le_of_lt (pow_pos E0 n))
   omega
  omega
 rw[List.drop_of_length_le (by omega),zk]
theorem qjI {N:Nat} (hN:11000<N) {v:List Int} {k:Nat} (hv:Dg E9 v) (hvl:v.length=k+2) (hk:k<=9000) (hn:1000000<=v[k+1]'(by omega)) {A:Int} {m:Nat} (hm:m<=9000): ∀(K i:Nat) (l qs:List Int),i<=m+1->i<K->l.length=m+k+3->qs.length=m+1->Dg E9 l->Dg E9 qs->(∀(j:Nat) x,j<i->qs[j]? =some x->x=0)->dv E9 (l.drop i)<dv E9 v->dv E9 l+dv E9 v*dv E9 qs=A->
 ∃l' a0,zC N v K l qs ((i:Int)-1)=some (l',a0)/\l'.length=m+k+3/\a0.length=m+1/\Dg E9 l'/\Dg E9 a0/\dv E9 l'<dv E9 v/\dv E9 l'+dv E9 v*dv E9 a0=A
 |0,i,l,qs,h,hK,_,_,_,_,_,_,_=>by omega
 |K+1,0,l,qs,h,hK,hl,hql,hd,hqd,hz,hlt,e=>by
  rw[zC,if_neg (by omega)]
  exact⟨l,qs,rfl,hl,hql,hd,hqd,hlt,e⟩
 |K+1,i+1,l,qs,h,hK,hl,hql,hd,hqd,hz,hlt,e=>by
  have hil:i<l.length:=by omega
  have hiq:i<qs.length:=by omega
  have ei:((i+1:Nat):Int)-1=(i:Int):=by omega
  have V1:=yP E0 hv
  rw[hvl]at V1
  have V0:0<dv E9 v:=by
   have:=qD E0 (hd.drop (i+1))
   omega
  have lp:(l.take i).length=i:=by rw[Ym];omega
  have lu:((l.drop i).take (k+3)).length=k+3:=by rw[Ym,YJ];omega
  have el:l=l.take i++((l.drop i).take (k+3)++(l.drop i).drop (k+3)):=by rw[YS,YS]
  have hu:=(hd.drop i).take (k+3)
  have ht:dv E9 ((l.drop i).drop (k+3))=0:=by
   have:=qdw (hd.drop (i+1)) (n:=k+2) (by omega)
   rw[List.drop_drop]at this⊢
   rw[show i+(k+3)=i+1+(k+2)by omega]
   exact this
  have eu:dv E9 ((l.drop i).take (k+3))=dv E9 (l.drop i):=by
   have:=yU E9 ((l.drop i).take (k+3)) ((l.drop i).drop (k+3))
   rw[YS,ht,Int.mul_zero,Int.add_zero]at this
   exact this.symm
  have hUlt:dv E9 ((l.drop i).take (k+3))<1000000000*dv E9 v:=by
   rw[eu,qg5 l hil]
   have:=(hd.at hil).2
   have h1:E9*(dv E9 (l.drop (i+1))+1)<=E9*dv E9 v:=Yc (by omega) (by decide)
   rw[Int.mul_add,Int.mul_one]at h1
   have h2:E9*dv E9 v=1000000000*dv E9 v:=rfl
   omega
  obtain⟨u',s2,s3,s4,u⟩:=qnN hN (p:=l.take i) (t:=(l.drop i).drop (k+3)) hv hvl hk hu lu (by omega) hn hUlt
  rw[lp,<-el]at u
  rw[zC,ei,if_pos (by omega)]
  have hU0:=qD E0 hu
  have Q0:0<=dv E9 ((l.drop i).take (k+3))/dv E9 v:=Int.ediv_nonneg hU0 (by omega)
  have Q1:dv E9 ((l.drop i).take (k+3))/dv E9 v<E9:=by rw[Yu V0];exact hUlt
  have hR:=Int.emod_lt_of_pos (dv E9 ((l.drop i).take (k+3))) V0
  have hdm:=Int.mul_ediv_add_emod (dv E9 ((l.drop i).take (k+3))) (dv E9 v)
  have hdrop:(l.take i++(u'++(l.drop i).drop (k+3))).drop i=u'++(l.drop i).drop (k+3):=by
   rw[List.drop_append_of_le_length (by omega),List.drop_of_length_le (by omega),List.nil_append]
  have hdn:dv E9 (u'++(l.drop i).drop (k+3))=dv E9 u':=by rw[yU,ht,Int.mul_zero,Int.add_zero]
  have main:=qjI hN hv hvl hk hn (A:=A) hm K i (l.take i++(u'++(l.drop i).drop (k+3))) (qs.set i (dv E9 ((l.drop i).take (k+3))/dv E9 v)) (by omega) (by omega) (by rw[Yq,Yq,lp,s2,YJ,YJ];omega) (by rw[Yk];exact hql) ((hd.take i).append (s3.append ((hd.drop i).drop _))) (hqd.set ⟨Q0,Q1⟩) (fun j x hj hx=>by
   rw[Yw (by omega)]at hx
   exact hz j x (by omega) hx) (by rw[hdrop,hdn,s4];exact hR) (by
   rw[qki hiq (fun j x hj hx=>hz j x (by omega) hx),yU,lp,hdn,s4,Int.mul_add]
   have e1:=yS E9 l i (by omega)
   rw[<-eu]at e1
   have e2:E9^i*dv E9 ((l.drop i).take (k+3))=E9^i*(dv E9 v*(dv E9 ((l.drop i).take (k+3))/dv E9 v))+E9^i*(dv E9 ((l.drop i).take (k+3))%dv E9 v):=by rw[<-Int.mul_add,hdm]
   have e3:dv E9 v*(E9^i*(dv E9 ((l.drop i).take (k+3))/dv E9 v))=E9^i*(dv E9 v*(dv E9 ((l.drop i).take (k+3))/dv E9 v)):=Int.mul_left_comm _ _ _
   rw[e3]
   omega)
  obtain⟨l',a0,g1,g2⟩:=main
  refine⟨l',a0,?_,g2⟩
  rw[<-g1]
  generalize hw:qag N l v (i:Int)=og at u⊢
  cases og with
  |none=>cases u
  |some r25=>
   simp only[ZB]at u⊢
   generalize qQ v (i:Int) r25 N l 0 0=o2 at u⊢
   cases o2 with
   |none=>cases u
   |some p2=>
    obtain⟨l29,n30⟩:=p2
    simp only[ZB]at u⊢
    generalize idx l29 (w64 ((i:Int)+(v.length:Int)))=o3 at u⊢
    cases o3 with
    |none=>cases u
    |some x40=>
     simp only[ZB]at u⊢
     generalize put l29 (w64 ((i:Int)+(v.length:Int))) (w64 (x40-n30))=o4 at u⊢
     cases o4 with
     |none=>cases u
     |some l41=>
      simp only[ZB]at u⊢
      generalize idx l41 (w64 ((i:Int)+(v.length:Int)))=o5 at u⊢
      cases o5 with
      |none=>cases u
      |some x42=>
       simp only[ZB]at u⊢
       refine(congrArg (fun z=>Option.bind z _) u).trans ?_
       rw[ZB]
       simp only
       rw[qy,Ya hiq,ZB,vL hiq,ZB,qh (by omega) (by omega)]
theorem qnO {a:List Int} (j:a.length<=50000): ∀(K:Nat) (l:List Int),a.length+1<K+l.length->l.length<=a.length+1->jf a K l=some (l++List.replicate (a.length+1-l.length) 0)
 |0,l,h,h2=>by omega
 |K+1,l,h,h2=>by
  rw[jf,zq (by omega)]
  by_cases c:l.length<a.length+1
  ·rw[if_pos (by omega),qbq (by simp;omega) (by simp;omega),ZB,qnO j K (l++[0]) (by simp;omega) (by simp;omega),Yz,Yq,List.length_singleton]
   rw[show a.length+1-l.length=a.length+1-(l.length+1)+1 by omega,List.replicate_succ]
   rfl
  rw[if_neg (by omega),show a.length+1-l.length=0 by omega]
  simp
theorem qdh {N:Nat} (hN:60000<N) {a b:List Int} (ha:Can E9 a) (hb:Can E9 b) (hal:a.length<=8000) (a0:0<dv E9 b):jG N a b=some (dg E9 (dv E9 a/dv E9 b),dg E9 (dv E9 a%dv E9 b)):=by
 have A0:=qD E0 ha.1
 unfold jG
 rw[qcS ha hb (by omega) (by omega),ZB]
 by_cases h:dv E9 a<dv E9 b
 ·rw[if_pos h,if_pos (by omega),Int.ediv_eq_zero_of_lt A0 h,Int.emod_eq_of_lt A0 h,qdn,qm2 E1 ha]
 have hlen:b.length<=a.length:=by
  rcases Nat.lt_or_ge a.length b.length with c|c
  ·have:=qcl ha hb c;omega
  exact c
 have hb1:0<b.length:=by
  rcases Nat.eq_zero_or_pos b.length with c|c
  ·rw[YL.1 c,zk]at a0;omega
  exact c
 have hge: ¬((if dv E9 a<dv E9 b then-1 else if dv E9 a=dv E9 b then(0:Int)else 1)<0):=by
  rw[if_neg h]
  split<;>omega
 rw[if_neg hge]
 by_cases hone:b.length=1
 ·obtain⟨d,rfl⟩:=List.length_eq_one_iff.1 hone
  have ed:dv E9 [d]=d:=by rw[zy,zk];omega
  rw[ed]at a0⊢
  have hd:d<1000000000:=hb.1.head.2
  have m0:=Int.emod_nonneg (dv E9 a) (show d≠0 by omega)
  have m1:=Int.emod_lt_of_pos (dv E9 a) a0
  rw[if_pos (by simp),xC]
  simp only[Yj,ZB]
  rw[qf7 ha.1 (by omega) (by omega) a0 hd,ZB]
  simp only
  rw[qb8 (Dg.cons ⟨m0,Int.lt_trans m1 hd⟩ Dg.nil) (by simp) (by simp;omega),ZB,zy,zk,Int.mul_zero,Int.add_zero]
 obtain⟨k,hk⟩: ∃k,b.length=k+2:=⟨b.length-2,by omega⟩
 obtain⟨m,hm⟩: ∃m,a.length=m+k+2:=⟨a.length-(k+2),by omega⟩
 have a2:k+1<b.length:=by omega
 have at1:=hb.1.at a2
 have at2:b[k+1]<1000000000:=at1.2
 have at0:b[k+1]≠0:=hb.2 _ (by rw[List.getLast?_eq_getElem?,hk];exact Ya a2)
 have a1:=pow_pos E0 (k+1)
 rw[if_neg (by omega),show w64 ((b.length:Int)-1)=((k+1:Nat):Int)by rw[qh (by omega) (by omega)];omega,qy,Ya a2,ZB,qh (n:=b[k+1]+1) (by omega) (by omega)]
 have hq:qb2 .i64 1000000000 (b[k+1]+1)=some (1000000000/(b[k+1]+1)):=by
  unfold qb2
  have:(1000000000:Int)/(b[k+1]+1)<=1000000000:=Int.ediv_le_self _ (by omega)
  have:0<=(1000000000:Int)/(b[k+1]+1):=Int.ediv_nonneg (by omega) (by omega)
  rw[if_neg (by omega),YF (by omega)]
  show some (w64 _)=_
  rw[qh (by omega) (by omega)]
 rw[hq,ZB]
 have f1:=Int.mul_ediv_add_emod 1000000000 (b[k+1]+1)
 have f2:=Int.emod_lt_of_pos 1000000000 (show 0<b[k+1]+1 by omega)
 have f3:=Int.emod_nonneg 1000000000 (show b[k+1]+1≠0 by omega)
 have f0:1<=(1000000000:Int)/(b[k+1]+1):=by
  rw[Int.le_ediv_iff_mul_le (by omega)]
  omega
 have f5:(1000000000:Int)/(b[k+1]+1)<=500000000:=by
  have:(1000000000:Int)/(b[k+1]+1)<500000001:=by
   rw[Yu (by omega)]
   omega
  omega
 generalize hf:(1000000000:Int)/(b[k+1]+1)=f at*
 have f4:250000000<=b[k+1]*f:=by
  rw[Int.add_mul,Int.one_mul]at f1
  have:f<=b[k+1]*f:=by
   have:=Int.mul_le_mul_of_nonneg_right (show 1<=b[k+1]by omega) (show 0<=f by omega)
   omega
  have:b[k+1]<=b[k+1]*f:=by
   have:=Yc (show 1<=f by omega) (show 0<=b[k+1]by omega)
   omega
  omega
 have fd:Dg E9 [f]:=Dg.cons ⟨by omega,show f<1000000000 by omega⟩ Dg.nil
 have fv:dv E9 [f]=f:=by rw[zy,zk];omega
 have u:0<f:=by omega
 rw[qdm hb.1 fd (by omega) (by simp) (by simp;omega),ZB,qdm ha.1 fd (by omega) (by simp) (by simp;omega),ZB,fv]
 have V0:0<dv E9 b*f:=Int.mul_pos a0 u
 have ebs:dv E9 b=dv E9 (b.take (k+1))+E9^(k+1)*b[k+1]:=by
  have:=qm E9 b (k+1) a2
  rw[List.take_of_length_le (by omega)]at this
  exact this
 have blo0:=qD E0 (hb.1.take (k+1))
 have blo1:=yP E0 (hb.1.take (k+1))
 rw[Ym,Nat.min_eq_left (by omega)]at blo1
 have Vlow:E9^(k+1)*250000000<=dv E9 b*f:=by
  have h1:=Yc f4 (Int.le_of_lt a1)
  rw[ebs,Int.add_mul,Int.mul_assoc]
  have:=Yv blo0 (Int.le_of_lt u)
  omega
 have Vhigh:dv E9 b*f<E9^(k+2):=by
  have h1:(dv E9 b)*f<E9^(k+1)*((b[k+1]+1)*f):=by
   rw[<-Int.mul_assoc]
   refine YH ?_ u
   rw[ebs,Int.mul_add,Int.mul_one]
   omega
  have h3:E9^(k+1)*((b[k+1]+1)*f)<=E9^(k+1)*1000000000:=Yc (by omega) (Int.le_of_lt a1)
  rw[Int.pow_succ]
  exact Int.lt_of_lt_of_le h1 h3
 have U0:0<=dv E9 a*f:=Yv A0 (Int.le_of_lt u)
 have cu:=je E1 U0
 have euu:=vo E1 U0
 have hA:=yP E0 ha.1
 have lu:(dg E9 (dv E9 a*f)).length<=a.length+1:=by
  refine(qcz E1 U0).2 ?_
  rw[Int.pow_succ]
  have h1:dv E9 a*f<E9^a.length*f:=YH hA u
  have h2:E9^a.length*f<=E9^a.length*E9:=Yc (show f<=1000000000 by omega) (Int.le_of_lt (pow_pos E0 _))
  omega
 generalize hua:dg E9 (dv E9 a*f)=ua at*
 rw[qbq (by simp;omega) (by simp;omega),ZB,List.nil_append,qnO (by omega) N ua (by omega) lu,ZB]
 have lU:(ua++List.replicate (a.length+1-ua.length) 0).length=m+k+3:=by simp;omega
 have dU:Dg E9 (ua++List.replicate (a.length+1-ua.length) 0):=cu.1.append (Uk E0 _)
 have vU:dv E9 (ua++List.replicate (a.length+1-ua.length) 0)=dv E9 a*f:=by rw[yU,xE,Int.mul_zero,Int.add_zero,euu]
 generalize ua++List.replicate (a.length+1-ua.length) 0=U at*
 have cv:=je E1 (Int.le_of_lt V0)
 have evv:=vo E1 (Int.le_of_lt V0)
 have lv:(dg E9 (dv E9 b*f)).length=k+2:=by
  have h1:=(qcz E1 (Int.le_of_lt V0) (n:=k+2)).2 Vhigh
  have h2:=(not_congr (qcz E1 (Int.le_of_lt V0) (n:=k+1))).2 (by
   have:E9^(k+1)*1<=E9^(k+1)*250000000:=Yc (by omega) (Int.le_of_lt a1)
   omega)
  omega
 generalize hvv:dg E9 (dv E9 b*f)=v at*
 have hkv:k+1<v.length:=by omega
 have hn:1000000<=v[k+1]:=by
  have e:=qm E9 v (k+1) hkv
  rw[List.take_of_length_le (by omega),evv]at e
  have h1:=yP E0 (cv.1.take (k+1))
  rw[Ym,Nat.min_eq_left (by omega)]at h1
  have h2:E9^(k+1)*250000000<E9^(k+1)*(v[k+1]+1):=by rw[Int.mul_add,Int.mul_one];omega
  have:=Int.lt_of_mul_lt_mul_left h2 (Int.le_of_lt a1)
  omega
 have htop:dv E9 (U.drop (m+1))<dv E9 v:=by
  rw[evv]
  have e:=yS E9 U (m+1) (by omega)
  have h1:=qD E0 (dU.take (m+1))
  have h2:dv E9 U<E9^(m+1)*(E9^(k+1)*f):=by
   rw[vU,<-Int.mul_assoc,<-Int.pow_add,show m+1+(k+1)=a.length by omega]
   exact YH hA u
  have hPm:=pow_pos E0 (m+1)
  have h3:E9^(m+1)*dv E9 (U.drop (m+1))<E9^(m+1)*(E9^(k+1)*f):=by omega
  have h4:=Int.lt_of_mul_lt_mul_left h3 (Int.le_of_lt hPm)
  have h5:E9^(k+1)*f<=E9^(k+1)*(b[k+1]*f):=by
   refine Yc ?_ (Int.le_of_lt a1)
   have:=Int.mul_le_mul_of_nonneg_right (show 1<=b[k+1]by omega) (show 0<=f by omega)
   omega
  have h6:E9^(k+1)*(b[k+1]*f)<=dv E9 b*f:=by
   rw[<-Int.mul_assoc]
   exact Int.mul_le_mul_of_nonneg_right (by omega) (Int.le_of_lt u)
  omega
 rw[show w64 ((U.length:Int)-(v.length:Int))=((m+1:Nat):Int)by rw[qh (by omega) (by omega)];omega,qaZ (by omega),ZB,show w64 (((m+1:Nat):Int)-1)=((m+1:Nat):Int)-1 from qh (by omega) (by omega)]
 obtain⟨l,qs,g1,g2,g3,g4,g5,g6,g7⟩:=qjI (N:=N) (by omega) cv.1 lv (by omega) hn (A:=dv E9 U) (m:=m) (by omega) N (m+1) U (List.replicate (m+1) 0) (Nat.le_refl _) (by omega) lU (by simp) dU (Uk E0 _) (fun j x _ hx=>qgQ j x hx) htop (by rw[xE,Int.mul_zero,Int.add_zero])
 rw[g1,ZB]
 simp only
 rw[vU]at g7
 rw[evv]at g6 g7
 have hl0:=qD E0 g4
 have eq:dv E9 qs=dv E9 a/dv E9 b:=by
  rw[<-Int.mul_ediv_mul_of_pos_left (dv E9 a) (dv E9 b) u,<-g7,Int.add_mul_ediv_left _ _ (by omega),Int.ediv_eq_zero_of_lt hl0 g6,Int.zero_add]
 have er:dv E9 l=dv E9 a%dv E9 b*f:=by
  have:(dv E9 a*f)%(dv E9 b*f)=dv E9 l:=by rw[<-g7,Int.add_mul_emod_self_left,Int.emod_eq_of_lt hl0 g6]
  rw[<-this,Int.mul_comm (dv E9 a),Int.mul_comm (dv E9 b),Int.mul_emod_mul_of_pos _ _ u,Int.mul_comm]
 have hzl:dv E9 (l.drop (k+2))=0:=qdw g4 (by omega)
 have etk:dv E9 (l.take (k+2))=dv E9 l:=by
  have:=yS E9 l (k+2) (by omega)
  rw[hzl,Int.mul_zero,Int.add_zero]at this
  exact this.symm
 have m0:0<=dv E9 a%dv E9 b:=Int.emod_nonneg _ (by omega)
 have r0:0<=dv E9 a%dv E9 b*f:=Yv m0 (Int.le_of_lt u)
 rw[lv,yB (by omega),ZB,qb8 (g4.take _) (by rw[Ym];omega) (by rw[Ym];omega),ZB,etk,er,xC]
 simp only[Yj,ZB]
 have lr:(dg E9 (dv E9 a%dv E9 b*f)).length<=20000:=by
  have h1:(dg E9 (dv E9 a%dv E9 b*f)).length<=k+2:=(qcz E1 r0).2 (by omega)
  omega
 rw[qf7 (je E1 r0).1 lr (by omega) u (by omega),ZB,vo E1 r0,Int.mul_ediv_cancel _ (by omega),qb8 g5 (by omega) (by omega),ZB,eq]
abbrev jk (z:Int) (n:Nat):Prop:=(z.natAbs:Int)<E9^n
theorem jk.len {z:Int} {n:Nat} (h:jk z n):(dg E9 z.natAbs).length<=n:=(qcz E1 (by omega)).2 h
theorem jk.mono {z:Int} {m n:Nat} (h:jk z m) (j:m<=n):jk z n:=Int.lt_of_lt_of_le h (yI (by decide) j)
theorem qfL (z:Int):Can E9 (rI z).w/\dv E9 (rI z).w=(z.natAbs:Int):=⟨je E1 (by omega),vo E1 (by omega)⟩
theorem qjA {N:Nat} (j:60000<N) {z:Int} (h:jk z 50000):y9 N (rI z)=some (rI (-z)):=by
 have l:=h.len
 obtain⟨c,e⟩:=qfL z
 unfold y9
 rw[qar _ c.1 (by show(dg E9 z.natAbs).length<=_;omega) (by show(dg E9 z.natAbs).length<_;omega),ZB,e]
 have:(if(!(rI z).neg)=true then-(z.natAbs:Int)else(z.natAbs:Int))= -z:=by
  show(if(!decide (z<0))=true then-(z.natAbs:Int)else(z.natAbs:Int))= -z
  by_cases hz:z<0
  ·rw[decide_eq_true hz,if_neg (by simp)];omega
  rw[decide_eq_false hz,if_pos (by simp)];omega
 rw[this]
theorem qdL {N:Nat} (hN:60000<N) {a b:Int} (ha:jk a 8000) (hb:jk b 8000):yE N (rI a) (rI b)=some (rI (a*b)):=by
 have la:=ha.len
 have lb:=hb.len
 obtain⟨ca,ea⟩:=qfL a
 obtain⟨cb,eb⟩:=qfL b
 have l1:(rI a).w.length<=8000:=la
 have l2:(rI b).w.length<=8000:=lb
 have u:0<=(a.natAbs:Int)*(b.natAbs:Int):=Yv (by omega) (by omega)
 have lp:(dg E9 ((a.natAbs:Int)*(b.natAbs:Int))).length<=16000:=by
  refine(qcz E1 u).2 ?_
  rw[show 16000=8000+8000 from rfl,Int.pow_add]
  have j:(a.natAbs:Int)*(b.natAbs:Int)<=(a.natAbs:Int)*E9^8000:=Yc (Int.le_of_lt hb) (by omega)
  have h:(a.natAbs:Int)*E9^8000<E9^8000*E9^8000:=YH ha (pow_pos E0 _)
  omega
 unfold yE
 rw[qdm ca.1 cb.1 (by omega) (by omega) (by omega),ZB,ea,eb,qar _ (je E1 u).1 (by omega) (by omega),ZB,vo E1 u]
 congr 2
 have a0:(a.natAbs:Int)*(b.natAbs:Int)=((a*b).natAbs:Int):=by rw[Int.natAbs_mul,Int.natCast_mul]
 rw[a0]
 show(if(!(decide (a<0)==decide (b<0)))=true then _ else _)=_
 by_cases j:a<0
 ·by_cases h:b<0
  ·have:=Int.mul_pos_of_neg_of_neg j h
   rw[decide_eq_true j,decide_eq_true h,if_neg (by simp)]
   omega
  have:=Int.mul_nonpos_of_nonpos_of_nonneg (show a<=0 by omega) (show 0<=b by omega)
  rw[decide_eq_true j,decide_eq_false h,if_pos (by simp)]
  omega
 by_cases h:b<0
 ·have:=Int.mul_nonpos_of_nonneg_of_nonpos (show 0<=a by omega) (show b<=0 by omega)
  rw[decide_eq_false j,decide_eq_true h,if_pos (by simp)]
  omega
 have:=Yv (show 0<=a by omega) (show 0<=b by omega)
 rw[decide_eq_false j,decide_eq_false h,if_neg (by simp)]
 omega
theorem qo1 {N:Nat} (hN:60000<N) {a b:Int} (ha:jk a 9000) (hb:jk b 9000):qb4 N (rI a) (rI b)=some (rI (a+b)):=by
 have la:=ha.len
 have lb:=hb.len
 obtain⟨ca,ea⟩:=qfL a
 obtain⟨cb,eb⟩:=qfL b
 have l1:(rI a).w.length<=9000:=la
 have l2:(rI b).w.length<=9000:=lb
 have j: ∀x y:Int,0<=x-y->0<=y->x<E9^9000->(dg E9 (x-y)).length<=9000:=fun x y h u h1=>(qcz E1 h).2 (by omega)
 unfold qb4
 have a0:((rI a).neg==(rI b).neg)=(decide (a<0)==decide (b<0)):=rfl
 have na:(rI a).neg=decide (a<0):=rfl
 have nb:(rI b).neg=decide (b<0):=rfl
 rw[a0]
 by_cases hs:(a<0↔b<0)
 ·obtain⟨l,e,d1,d2,d3⟩:=qjc (N:=N) ca.1 cb.1 (by omega) (by omega) (by omega)
  rw[if_pos (by rw[beq_iff_eq];exact decide_eq_decide.2 hs),e,ZB,qar _ d1 (by omega) (by omega),ZB,d3,ea,eb,na]
  congr 2
  simp only[decide_eq_true_eq]
  split<;>omega
 rw[if_neg (by rw[beq_iff_eq];exact fun c=>hs (decide_eq_decide.1 c)),qcS ca cb (by omega) (by omega),ZB,ea,eb]
 by_cases hc:(a.natAbs:Int)<(b.natAbs:Int)
 ·rw[if_pos hc,if_neg (by omega),qfv cb ca (by omega) (by omega) (by omega),ZB,ea,eb]
  have u:0<=(b.natAbs:Int)-(a.natAbs:Int):=by omega
  have ll:=j _ _ u (by omega) hb
  rw[qar _ (je E1 u).1 (by omega) (by omega),ZB,vo E1 u,nb]
  congr 2
  simp only[decide_eq_true_eq]
  split<;>omega
 rw[if_neg hc,if_pos (by split<;>omega),qfv ca cb (by omega) (by omega) (by omega),ZB,ea,eb]
 have u:0<=(a.natAbs:Int)-(b.natAbs:Int):=by omega
 have ll:=j _ _ u (by omega) ha
 rw[qar _ (je E1 u).1 (by omega) (by omega),ZB,vo E1 u,na]
 congr 2
 simp only[decide_eq_true_eq]
 split<;>omega
theorem qcI {x y:Int} (u:0<=x) (h:x<=y): ∀n:Nat,0<=x^n/\x^n<=y^n
 |0=>by simp
 |n+1=>by
  have j:=qcI u h n
  rw[Int.pow_succ,Int.pow_succ]
  exact⟨Yv j.1 u,Int.mul_le_mul j.2 h u (Int.le_trans j.1 j.2)⟩
theorem qh0 {N:Nat} (u:60000<N) (B:Nat) (hB:B<=8000): ∀(k K:Nat) (a b:Int),0<=a->0<=b->b<2^k->2*k+2<=K->jk a B->jk b B->zh N K (dg E9 a) (dg E9 b)=some (dg E9 (Int.gcd a b:Int))
 |k,0,a,b,_,_,_,hK,_,_=>by omega
 |k,K+1,a,b,ha,hb,hk,hK,fa,fb=>by
  have na:(a.natAbs:Int)=a:=by omega
  have nb:(b.natAbs:Int)=b:=by omega
  have done:b=0->zh N (K+1) (dg E9 a) (dg E9 b)=some (dg E9 (Int.gcd a b:Int)):=by
   intro h0
   subst h0
   rw[zh,qdn,if_neg (by simp),Int.gcd_zero,na]
  rcases(show b=0\/0<b by omega)with h0|h0
  ·exact done h0
  match k,hk,hK with
  |0,hk,hK=>simp at hk;omega
  |k+1,hk,hK=>
   have j:=Int.emod_nonneg a (show b≠0 by omega)
   have m1:=Int.emod_lt_of_pos a h0
   have la:=fa.len
   have lb:=fb.len
   rw[na]at la
   rw[nb]at lb
   have a1:0<(dg E9 b).length:=by
    rw[List.length_pos_iff]
    intro c
    have:=(qg2 E1 hb).1 c
    omega
   have fr:jk (a%b) B:=by unfold jk at fb⊢;omega
   rw[zh,if_pos (by omega),qdh u (je E1 ha) (je E1 hb) (by omega) (by rw[vo E1 hb];exact h0),ZB,vo E1 ha,vo E1 hb]
   simp only
   rw[qcZ ha hb]
   match K,hK with
   |0,hK=>omega
   |K+1,hK=>
    rcases(show a%b=0\/0<a%b by omega)with g0|g0
    ·rw[g0,zh,qdn,if_neg (by simp),Int.gcd_zero,nb]
    have lr:=fr.len
    rw[show((a%b).natAbs:Int)=a%b by omega]at lr
    have a0:0<(dg E9 (a%b)).length:=by
     rw[List.length_pos_iff]
     intro c
     have:=(qg2 E1 j).1 c
     omega
    have n0:=Int.emod_nonneg b (show a%b≠0 by omega)
    have n1:=Int.emod_lt_of_pos b g0
    rw[zh,if_pos (by omega),qdh u (je E1 hb) (je E1 j) (by omega) (by rw[vo E1 j];exact g0),ZB,vo E1 hb,vo E1 j]
    have h:b%(a%b)<2^k:=by
     have d1:=Int.mul_ediv_add_emod b (a%b)
     have d2:1<=b/(a%b):=by
      rw[Int.le_ediv_iff_mul_le g0]
      omega
     have d3:a%b*1<=a%b*(b/(a%b)):=Yc d2 (by omega)
     rw[Int.pow_succ]at hk
     omega
    simp only
    rw[qcZ hb j]
    exact qh0 u B hB k K (a%b) (b%(a%b)) j n0 h (by omega) fr (by unfold jk at fr⊢;omega)
theorem qip {N:Nat} (hN:600000<N) {a b:Int} (u:0<=a) (hb:0<=b) (fa:jk a 8000) (h:jk b 8000):qao N (dg E9 a) (dg E9 b)=some (dg E9 (Int.gcd a b:Int)):=by
 have j:b<2^(30*8000):=by
  have e:(2:Int)^(30*8000)=1073741824^8000:=by rw[Int.pow_mul,show(2:Int)^30=1073741824 from rfl]
  rw[e]
  have:E9^8000<=(1073741824:Int)^8000:=(qcI (by decide) (by decide) _).2
  unfold jk at h
  omega
 unfold qao
 rw[qh0 (by omega) 8000 (Nat.le_refl _) (30*8000) N a b u hb j (by omega) fa h,ZB]
end Go.Av
end
section
namespace Go.Av
def vz (c:UInt8):Bool:=decide (48<=c.toNat)&&decide (c.toNat<=57)
def qL (n:Nat) (s:List UInt8):Nat:=s.foldl (fun a c=>a*10+(c.toNat-48)) n
theorem qbW (n:Nat):qL n []=n:=List.foldl_nil
theorem qaM (n:Nat) (c:UInt8) (s:List UInt8):qL n (c::s)=qL (n*10+(c.toNat-48)) s:=by
 unfold qL
 rw[List.foldl_cons]
theorem qdl (s:List UInt8): ∀n:Nat,s.all vz=true->qL n s<(n+1)*10^s.length:=by
 induction s with
 |nil=>
  intro n _
  rw[List.length_nil,Nat.pow_zero,Nat.mul_one,qbW]
  exact Nat.lt_succ_self n
 |cons c s ih=>
  intro n h
  rw[List.all_cons,Bool.and_eq_true]at h
  have u:=ih (n*10+(c.toNat-48)) h.2
  have hd:c.toNat-48<=9:=by
   have:=h.1
   simp[vz]at this
   omega
  have j:n*10+(c.toNat-48)+1<=(n+1)*10:=by omega
  rw[qaM,Yr,Nat.pow_succ,Nat.mul_comm (10^s.length) 10,<-Nat.mul_assoc]
  exact Nat.lt_of_lt_of_le u (Nat.mul_le_mul_right _ j)
theorem ne48 {c:UInt8} (h: ¬c=48): ¬((c.toNat:Int)=48):=fun e=>h (UInt8.toNat_inj.1 (show c.toNat=48 from by omega))
theorem qoc (c:UInt8):([48,49,50,51,52,53,54,55,56,57]:Str).contains c=vz c:=by
 rw[Bool.eq_iff_iff]
 simp only[List.contains_cons,List.contains_nil,Bool.or_eq_true,beq_iff_eq,vz,Bool.and_eq_true,decide_eq_true_eq,<-UInt8.toNat_inj,Bool.or_false]
 simp only[show(48:UInt8).toNat=48 from rfl,show(49:UInt8).toNat=49 from rfl,show(50:UInt8).toNat=50 from rfl,show(51:UInt8).toNat=51 from rfl,show(52:UInt8).toNat=52 from rfl,show(53:UInt8).toNat=53 from rfl,show(54:UInt8).toNat=54 from rfl,show(55:UInt8).toNat=55 from rfl,show(56:UInt8).toNat=56 from rfl,show(57:UInt8).toNat=57 from rfl]
 omega
theorem qcx {α:Type} {p:α->Bool}: ∀{l:List α},l.dropWhile p=[]↔l.all p=true
 |[]=>by simp
 |x::l=>by
  rw[List.dropWhile_cons,List.all_cons]
  by_cases h:p x=true
  ·rw[if_pos h,h,Bool.true_and];exact qcx
  rw[if_neg h];simp[h]
theorem qmA {s:Str}:(Lib.trimS s [48,49,50,51,52,53,54,55,56,57]==[])=s.all vz:=by
 have e:(fun c=>([48,49,50,51,52,53,54,55,56,57]:Str).contains c)=vz:=funext qoc
 unfold Lib.trimS Lib.trimLeftS Lib.trimRightS
 rw[e]
 rw[Bool.eq_iff_iff,beq_iff_eq,qcx,List.all_reverse]
 constructor
 ·intro h
  have u: ∀x∈s.reverse.takeWhile vz++s.reverse.dropWhile vz,vz x=true:=by
   intro x j
   rcases List.mem_append.1 j with j|j
   ·exact Yp.1 List.all_takeWhile x j
   exact Yp.1 h x j
  rw[List.takeWhile_append_dropWhile]at u
  exact Yp.2 fun x j=>u x (by simpa using j)
 intro h
 have:s.reverse.dropWhile vz=[]:=qcx.2 (by rw[List.all_reverse];exact h)
 rw[this]
 rfl
theorem qgT: ∀(s:Str) (n:Nat),s.all vz=true->Lib.decFrom n s=some (qL n s)
 |[],n,_=>rfl
 |c::s,n,h=>by
  rw[List.all_cons,Bool.and_eq_true]at h
  unfold Lib.decFrom
  rw[qaM]
  have j:48<=c.toNat/\c.toNat<=57:=by simpa[vz]using h.1
  have e:Lib.digitVal c=some (c.toNat-48):=by unfold Lib.digitVal;rw[if_pos j]
  rw[e]
  exact qgT s _ h.2
theorem qj3 {s:Str} (u:1<=s.length) (h:s.all vz=true):Lib.atoi s=some ((qL 0 s:Nat):Int):=by
 cases s with
 |nil=>simp at u
 |cons c s=>
  have hc:vz c=true:=by rw[List.all_cons,Bool.and_eq_true]at h;exact h.1
  have j:48<=c.toNat/\c.toNat<=57:=by simpa[vz]using hc
  unfold Lib.atoi Lib.decNat
  have n1: ¬(c==45)=true:=fun e=>by rw[beq_iff_eq.1 e]at j;simp at j
  have n2: ¬(c==43)=true:=fun e=>by rw[beq_iff_eq.1 e]at j;simp at j
  simp only
  rw[if_neg n1,if_neg n2,if_neg (by simp),qgT _ _ h]
  rfl
theorem qnv (s:List UInt8): ∀n:Nat,qL n s=n*10^s.length+qL 0 s:=by
 induction s with
 |nil=>intro n;rw[qbW,qbW];simp
 |cons c s ih=>
  intro n
  rw[qaM,qaM,ih,ih (0*10+_),Yr,Nat.pow_succ,Nat.zero_mul,Nat.zero_add,Nat.add_mul]
  rw[Nat.mul_assoc,Nat.mul_comm 10,<-Nat.add_assoc]
theorem qcu (s t:List UInt8):qL 0 (s++t)=qL 0 s*10^t.length+qL 0 t:=by
 have:qL 0 (s++t)=qL (qL 0 s) t:=by unfold qL;rw[List.foldl_append]
 rw[this,qnv]
theorem qef (s:List UInt8) (c:UInt8):qL 0 (s++[c])=qL 0 s*10+(c.toNat-48):=by
 rw[qcu]
 simp[qaM,qbW]
def dch (n:Nat):UInt8:=UInt8.ofNat (48+n)
theorem qgo {n:Nat} (h:n<10):(dch n).toNat=48+n:=by
 unfold dch
 rw[UInt8.toNat_ofNat']
 omega
theorem qlS {n:Nat} (h:n<10):vz (dch n)=true:=by
 unfold vz
 rw[qgo h,Bool.and_eq_true,decide_eq_true_eq,decide_eq_true_eq]
 omega
theorem qlX {c:UInt8} (h:vz c=true):c=dch (c.toNat-48)/\c.toNat-48<10:=by
 unfold vz at h
 rw[Bool.and_eq_true,decide_eq_true_eq,decide_eq_true_eq]at h
 refine⟨?_,by omega⟩
 rw[<-UInt8.toNat_inj,qgo (by omega)]
 omega
def qdD:Nat->Nat->Str
 |0,_=>[]
 |k+1,n=>qdD k (n/10)++[dch (n%10)]
theorem qgO: ∀k n,(qdD k n).length=k
 |0,n=>rfl
 |k+1,n=>by rw[qdD,Yq,qgO];rfl
theorem zX {n:Nat} (h:n<10):Lib.decDigits n=[dch n]:=by rw[Lib.decDigits,dif_pos h];rfl
theorem qe5 {n:Nat} (h: ¬n<10):Lib.decDigits n=Lib.decDigits (n/10)++[dch (n%10)]:=by rw[Lib.decDigits,dif_neg h];rfl
theorem qg0: ∀(k n:Nat),0<n/10^k->Lib.decDigits n=Lib.decDigits (n/10^k)++qdD k (n%10^k)
 |0,n,_=>by simp[qdD]
 |k+1,n,h=>by
  have u:n/10^(k+1)=n/10/10^k:=by rw[Nat.pow_succ,Nat.mul_comm,Nat.div_div_eq_div_mul]
  have hp:0<10^k:=Nat.pow_pos (by decide)
  have j: ¬n<10:=fun c=>by
   rw[u,Nat.div_eq_of_lt c,Nat.zero_div]at h
   omega
  have e2:n%10^(k+1)/10=n/10%10^k:=by rw[Nat.pow_succ,Nat.mul_comm,Nat.mod_mul_right_div_self]
  have e3:n%10^(k+1)%10=n%10:=Nat.mod_mod_of_dvd _ ⟨10^k,by rw[Nat.pow_succ,Nat.mul_comm]⟩
  rw[qe5 j,qg0 k (n/10) (by rw[<-u];exact h),qdD,e2,e3,u,Yz]
theorem qa1 (n:Nat):(Lib.decDigits n).all vz=true:=by
 induction n using Nat.strongRecOn with
 |_ n ih=>
  by_cases h:n<10
  ·rw[zX h,List.all_cons,qlS h];rfl
  rw[qe5 h,List.all_append,ih _ (by omega),List.all_cons,qlS (by omega)];rfl
theorem qbU (n:Nat):qL 0 (Lib.decDigits n)=n:=by
 induction n using Nat.strongRecOn with
 |_ n ih=>
  by_cases h:n<10
  ·rw[zX h,qaM,qbW,qgo h];omega
  rw[qe5 h,qef,ih _ (by omega),qgo (by omega)];omega
theorem qhv (n:Nat):0<(Lib.decDigits n).length:=by rw[Lib.decDigits_length];exact Lib.nDigits_pos n
theorem qle {m n:Nat} (h:Lib.decDigits m=Lib.decDigits n):m=n:=by rw[<-qbU m,h,qbU]
theorem qam {n k:Nat} (hk:0<k):(Lib.decDigits n).length<=k↔n<10^k:=by
 constructor
 ·intro h
  have:=qdl (Lib.decDigits n) 0 (qa1 n)
  rw[qbU]at this
  have u:(10:Nat)^(Lib.decDigits n).length<=10^k:=Nat.pow_le_pow_right (by omega) h
  omega
 intro h
 rcases Nat.lt_or_ge k (Lib.decDigits n).length with c|c
 ·exfalso
  rw[Lib.decDigits_length]at c
  obtain⟨m,hm⟩: ∃m,Lib.nDigits n=m+2:=⟨Lib.nDigits n-2,by omega⟩
  have j: ∀(n m:Nat),Lib.nDigits n=m+2->10^(m+1)<=n:=by
   intro n
   induction n using Nat.strongRecOn with
   |_ n ih=>
    intro m hm
    by_cases h:n<10
    ·rw[Lib.nDigits_small h]at hm;omega
    rw[Lib.nDigits_big h]at hm
    cases m with
    |zero=>simp;omega
    |succ m=>
     have:=ih (n/10) (by omega) m (by omega)
     rw[Nat.pow_succ]
     omega
  have:=j n m hm
  have u:(10:Nat)^k<=10^(m+1):=Nat.pow_le_pow_right (by omega) (by omega)
  omega
 exact c
def Dec (s:Str):Prop:=0<s.length/\s.all vz=true/\(s[0]? =some 48->s=[48])
instance (s:Str):Decidable (Dec s):=by unfold Dec;infer_instance
theorem qlD {c:UInt8} (h:vz c=true):Dec [c]:=⟨by simp,by simp[h],fun e=>by simp at e;rw[e]⟩
theorem qoJ: ∀(k:Nat) (s:Str),s.length<=k->Dec s->s=Lib.decDigits (qL 0 s)
 |0,s,h,hd=>by have:=hd.1;omega
 |k+1,s,h,hd=>by
  rcases List.eq_nil_or_concat s with e|⟨t,c,e⟩
  ·rw[e]at hd;exact absurd hd.1 (by simp)
  rw[List.concat_eq_append]at e
  subst e
  have u:=hd.2.1
  rw[List.all_append,Bool.and_eq_true,List.all_cons,List.all_nil,Bool.and_true]at u
  obtain⟨ec,hc⟩:=qlX u.2
  by_cases ht:t=[]
  ·subst ht
   rw[List.nil_append,qaM,qbW,Nat.zero_mul,Nat.zero_add,zX hc,<-ec]
  have j:0<t.length:=List.length_pos_iff.2 ht
  have h0:t[0]? ≠some 48:=fun e=>by
   have:=hd.2.2 (by rw[Yf j];exact e)
   have:=congrArg List.length this
   rw[Yq,List.length_singleton,List.length_singleton]at this
   omega
  have hD:Dec t:=⟨j,u.1,fun e=>absurd e h0⟩
  have ih:=qoJ k t (by simp at h;omega) hD
  have hv:qL 0 t≠0:=fun e=>by
   rw[e]at ih
   exact h0 (by rw[ih,zX (by decide)];rfl)
  rw[qef,qe5 (by omega),show(qL 0 t*10+(c.toNat-48))/10=qL 0 t by omega,show(qL 0 t*10+(c.toNat-48))%10=c.toNat-48 by omega,<-ih,<-ec]
theorem Dec.eq {s:Str} (h:Dec s):s=Lib.decDigits (qL 0 s):=qoJ s.length s (Nat.le_refl _) h
theorem qmQ (n:Nat):Dec (Lib.decDigits n):=by
 refine⟨qhv n,qa1 n,?_⟩
 induction n using Nat.strongRecOn with
 |_ n ih=>
  intro e
  by_cases h:n<10
  ·rw[zX h]at e⊢
   simp only[Yj]at e
   rw[Ye e]
  exfalso
  rw[qe5 h,Yf (qhv _)]at e
  have:=ih (n/10) (by omega) e
  have j:=qbU (n/10)
  rw[this]at j
  have:qL 0 [48]=0:=rfl
  omega
end Go.Av
end
section
namespace Go.Av
theorem qaY {a b:Str} (h:a.length+b.length<=1000000000):cat a b=some (a++b):=by
 unfold cat
 rw[if_pos (by omega)]
theorem dcut {d:Nat} (h:d<10):cut ([48,49,50,51,52,53,54,55,56,57]:Str) (d:Int) (w64 ((d:Int)+1))=some [dch d]:=by
 rw[zq (by omega)]
 rcases(show d=0\/d=1\/d=2\/d=3\/d=4\/d=5\/d=6\/d=7\/d=8\/d=9 by omega)with e|e|e|e|e|e|e|e|e|e<;>subst e<;>decide
theorem tm10 (n:Nat):(n:Int).tmod 10=((n%10:Nat):Int):=by rw[Int.tmod_eq_emod_of_nonneg (by omega)];omega
theorem td10 (n:Nat):(n:Int).tdiv 10=((n/10:Nat):Int):=by rw[YF (by omega)];omega
theorem qfU {least:Int} {K n:Nat} {s:Str} (u:n<9223372036854775808) (hs:s.length<=1000) (h:0<n\/(s.length:Int)<least):qN least (K+1) (n:Int) s=qN least K ((n/10:Nat):Int) (dch (n%10)::s):=by
 have j:(if(n:Int)>0 then some true else some (decide ((s.length:Int)<least)):Option Bool)=some true:=by
  by_cases c:(n:Int)>0
  ·rw[if_pos c]
  rw[if_neg c,decide_eq_true (by omega)]
 rw[qN,j,ZB,if_pos rfl,tm10,td10,dcut (by omega),ZB,qaY (by simp;omega),ZB,qh (by omega) (by omega)]
 rfl
theorem qfO {least:Int} {K:Nat} {s:Str} (h: ¬(s.length:Int)<least):qN least (K+1) 0 s=some s:=by
 rw[qN,if_neg (by omega),decide_eq_false h,ZB,if_neg (by simp)]
theorem qku: ∀(k K n:Nat) (s:Str),n<10^k->s.length+k=9->k<K->qN 9 K (n:Int) s=some (qdD k n++s)
 |k,0,n,s,_,_,h=>by omega
 |0,K+1,n,s,hn,hs,h=>by
  simp at hn
  subst hn
  exact qfO (by omega)
 |k+1,K+1,n,s,hn,hs,h=>by
  have j:(10:Nat)^(k+1)<=10^9:=Nat.pow_le_pow_right (by omega) (by omega)
  rw[Nat.pow_succ]at hn
  rw[qfU (by rw[Nat.pow_succ]at j;omega) (by omega) (.inr (by omega)),qku k K (n/10) _ (by omega) (by simp;omega) (by omega),qdD,Yz]
  rfl
theorem qke: ∀(k K n:Nat) (s:Str),0<n->n<10^k->n<9223372036854775808->s.length+k<=900->k<K->qN 1 K (n:Int) s=some (Lib.decDigits n++s)
 |k,0,n,s,_,_,_,_,h=>by omega
 |0,K+1,n,s,h0,hn,_,hs,h=>by simp at hn;omega
 |k+1,K+1,n,s,h0,hn,h63,hs,h=>by
  rw[Nat.pow_succ]at hn
  rw[qfU h63 (by omega) (.inl h0)]
  by_cases c:n<10
  ·obtain⟨K2,rfl⟩: ∃K2,K=K2+1:=⟨K-1,by omega⟩
   rw[show n/10=0 by omega,zX c,show n%10=n by omega]
   exact qfO (by simp;omega)
  rw[qke k K (n/10) _ (by omega) (by omega) (by omega) (by simp;omega) (by omega),qe5 c,Yz]
  rfl
theorem qnb {N n:Nat} (j:100<N) (h:n<1000000000):zI N (n:Int) 9=some (qdD 9 n):=by
 unfold zI
 rw[qku 9 N n [] h rfl (by omega),ZB,YQ]
theorem qhr {N n:Nat} (hN:100<N) (h:n<9223372036854775808):zI N (n:Int) 1=some (Lib.decDigits n):=by
 unfold zI
 rcases Nat.eq_zero_or_pos n with e|e
 ·subst e
  obtain⟨K,rfl⟩: ∃K,N=K+1+1:=⟨N-2,by omega⟩
  have u:=qfU (least:=1) (K:=K+1) (n:=0) (s:=[]) (by omega) (by simp) (.inr (by simp))
  rw[u,Nat.zero_div]
  have j:=qfO (least:=1) (K:=K) (s:=[dch (0%10)]) (by simp)
  have j:qN 1 (K+1) ((0:Nat):Int) [dch (0%10)]=_:=j
  rw[j,ZB,zX (by decide)]
 rw[qke 19 N n [] e (by omega) h (by simp) (by omega),ZB,YQ]
theorem qhQ: ∀k:Nat,E9^k=((10^(9*k):Nat):Int)
 |0=>rfl
 |k+1=>by
  rw[Int.pow_succ,qhQ k,Nat.mul_succ,Nat.pow_add,Int.natCast_mul]
  rfl
def nv (w:List Int):Nat:=(dv E9 w).toNat
theorem qjm {w:List Int} (h:Dg E9 w):(nv w:Int)=dv E9 w:=by
 have:=qD E0 h
 unfold nv
 omega
theorem nv_lt {w:List Int} (h:Dg E9 w):nv w<10^(9*w.length):=by
 have j:=yP E0 h
 rw[qhQ,<-qjm h]at j
 omega
theorem qih {w:List Int} (h:Dg E9 w):(Lib.decDigits (nv w)).length<=9*w.length+1:=by
 refine(qam (by omega)).2 ?_
 have:=nv_lt h
 rw[Nat.pow_succ]
 omega
theorem qlw {w:List Int} (h:Dg E9 w) {i:Nat} (hi:i<w.length):nv (w.drop i)=w[i].toNat+1000000000*nv (w.drop (i+1)):=by
 have j:=qjm (h.drop i)
 have u:=qjm (h.drop (i+1))
 have h3:=(h.at hi).1
 rw[qg5 w hi]at j
 have h4:E9*dv E9 (w.drop (i+1))=1000000000*dv E9 (w.drop (i+1)):=rfl
 omega
theorem qjM {N:Nat} (hN:100<N) {a:qI} (u:Dg E9 a.w) (a0:a.w.length<=100000): ∀(K i:Nat),i<=a.w.length->i<K->0<nv (a.w.drop i)->vQ N a K (Lib.decDigits (nv (a.w.drop i))) ((i:Int)-1)=some (Lib.decDigits (nv a.w))
 |0,i,_,h,_=>by omega
 |K+1,0,_,_,_=>by
  rw[vQ,if_neg (by omega),YR]
 |K+1,i+1,hi,h,hp=>by
  have j:i<a.w.length:=by omega
  have ax:=u.at j
  have ax2:a.w[i]<1000000000:=ax.2
  have ei:((i+1:Nat):Int)-1=(i:Int):=by omega
  have ed:a.w[i]=(a.w[i].toNat:Int):=by omega
  have el:=qlw u j
  have ll:=qih (u.drop (i+1))
  rw[YJ]at ll
  rw[vQ,ei,if_pos (by omega),qy,Ya j,ZB]
  have e9:zI N a.w[i] 9=some (qdD 9 a.w[i].toNat):=by
   conv=>lhs;rw[ed]
   exact qnb hN (by omega)
  rw[e9,ZB,qaY (by rw[qgO];omega),ZB,qh (by omega) (by omega)]
  have a1:Lib.decDigits (nv (a.w.drop (i+1)))++qdD 9 a.w[i].toNat=Lib.decDigits (nv (a.w.drop i)):=by
   have h9:(10:Nat)^9=1000000000:=rfl
   have q:nv (a.w.drop i)/10^9=nv (a.w.drop (i+1)):=by rw[h9];omega
   have r:nv (a.w.drop i)%10^9=a.w[i].toNat:=by rw[h9];omega
   rw[qg0 9 (nv (a.w.drop i)) (by rw[q];exact hp),q,r]
  rw[a1]
  exact qjM hN u a0 K i (by omega) (by omega) (by omega)
theorem yu {z:Int} (h:z<0):Lib.itoa z=45::Lib.decDigits z.natAbs:=by unfold Lib.itoa;rw[if_pos h]
theorem zS {z:Int} (h: ¬z<0):Lib.itoa z=Lib.decDigits z.natAbs:=by
 unfold Lib.itoa
 rw[if_neg h,show z.toNat=z.natAbs by omega]
theorem ql7 {N:Nat} (hN:60000<N) {z:Int} (h:jk z 50000):qbh N (rI z)=some (Lib.itoa z):=by
 obtain⟨c,e⟩:=qfL z
 have l:(rI z).w.length<=50000:=h.len
 have en:nv (rI z).w=z.natAbs:=by unfold nv;rw[e];omega
 have ng:(rI z).neg=decide (z<0):=rfl
 unfold qbh
 by_cases h0:(rI z).w.length=0
 ·have j:z=0:=by
   rw[YL.1 h0,zk]at e
   omega
  rw[if_pos (by omega),j]
  have:Lib.itoa 0=[48]:=by rw[zS (by decide)];exact zX (by decide)
  rw[this]
 have u:(rI z).w.length-1<(rI z).w.length:=by omega
 have ax:=c.1.at u
 have ax2:(rI z).w[(rI z).w.length-1]<1000000000:=ax.2
 have an:(rI z).w[(rI z).w.length-1]≠0:=c.2 _ (by rw[List.getLast?_eq_getElem?];exact Ya u)
 have ed:(rI z).w[(rI z).w.length-1]=((rI z).w[(rI z).w.length-1].toNat:Int):=by omega
 have e1:nv ((rI z).w.drop ((rI z).w.length-1))=(rI z).w[(rI z).w.length-1].toNat:=by
  rw[qlw c.1 u,List.drop_of_length_le (by omega)]
  rfl
 have e2:zI N (rI z).w[(rI z).w.length-1] 1=some (Lib.decDigits (nv ((rI z).w.drop ((rI z).w.length-1)))):=by
  conv=>lhs;rw[ed]
  rw[e1]
  exact qhr (by omega) (by omega)
 have e3:=qjM (N:=N) (by omega) c.1 (by omega) N ((rI z).w.length-1) (by omega) (by omega) (by rw[e1];omega)
 have ll:=qih c.1
 rw[if_neg (by omega),qiJ (by omega) (by omega),qy,Ya u,ZB,e2,ZB,show w64 (((rI z).w.length:Int)-2)=(((rI z).w.length-1:Nat):Int)-1 by rw[qh (by omega) (by omega)];omega,e3,ZB,ng]
 by_cases j:z<0
 ·rw[decide_eq_true j,if_pos rfl,qaY (by simp;omega),ZB,yu j,en]
  rfl
 rw[decide_eq_false j,if_neg (by simp),zS j,en]
theorem qkh {s:Str} (u:s.all vz=true) (hl:s.length<=18): ∀(K i:Nat),i<=s.length->s.length<K+i->vE s K ((qL 0 (s.take i):Nat):Int) (i:Int)=some ((qL 0 s:Nat):Int)
 |0,i,h,hK=>by omega
 |K+1,i,h,hK=>by
  rw[vE]
  by_cases hi:i<s.length
  ·have ht:s.take (i+1)=s.take i++[s[i]]:=List.take_succ_eq_append_getElem hi
   have j:vz s[i]=true:=Yp.1 u _ (List.getElem_mem hi)
   obtain⟨_,hc2⟩:=qlX j
   have a1:48<=s[i].toNat:=by
    unfold vz at j
    rw[Bool.and_eq_true,decide_eq_true_eq]at j
    exact j.1
   have hv:=qdl (s.take i) 0 (Yp.2 fun x hx=>Yp.1 u x (List.mem_of_mem_take hx))
   have hp:(10:Nat)^(s.take i).length<=10^17:=Nat.pow_le_pow_right (by omega) (by rw[Ym];omega)
   have a0:(10:Nat)^17=100000000000000000:=rfl
   rw[if_pos (by omega),qy,Ya hi,ZB,qh (n:=10*((qL 0 (s.take i):Nat):Int)) (by omega) (by omega),qh (n:=(s[i].toNat:Int)) (by omega) (by omega),qh (n:=10*((qL 0 (s.take i):Nat):Int)+(s[i].toNat:Int)) (by omega) (by omega),qh (by omega) (by omega),zq (by omega)]
   have e:10*((qL 0 (s.take i):Nat):Int)+(s[i].toNat:Int)-48=((qL 0 (s.take (i+1)):Nat):Int):=by rw[ht,qef];omega
   rw[e]
   exact qkh u hl K (i+1) (by omega) (by omega)
  rw[if_neg (by omega),List.take_of_length_le (by omega)]
theorem qfs {N:Nat} (u:100<N) {s:Str} (j:s.all vz=true) (h:s.length<=18):xg N s=some ((qL 0 s:Nat):Int):=by
 have e:=qkh j h N 0 (by omega) (by omega)
 have e:vE s N 0 0=_:=e
 unfold xg
 rw[e,ZB]
theorem qfc {s:Str} (h:s.all vz=true) (k:Nat):(s.take k).all vz=true:=Yp.2 fun x hx=>Yp.1 h x (List.mem_of_mem_take hx)
theorem qg3 {s:Str} (h:s.all vz=true) (k:Nat):(s.drop k).all vz=true:=Yp.2 fun x hx=>Yp.1 h x (List.mem_of_mem_drop hx)
theorem qkb {N:Nat} (hN:100<N): ∀(K:Nat) (l:List Int) (s:Str),s.all vz=true->l.length+s.length<=90000->s.length<K->Dg E9 l->
 ∃j s',vX N K l s=some (j,s')/\s'.length<=9/\s'.all vz=true/\Dg E9 j/\j.length<=90000/\dv E9 j+E9^j.length*(qL 0 s':Nat)=dv E9 l+E9^l.length*(qL 0 s:Nat)
 |0,l,s,_,_,h,_=>by omega
 |K+1,l,s,hd,hl,h,hg=>by
  rw[vX]
  by_cases c:s.length>9
  ·have lu:(s.drop (s.length-9)).length=9:=by rw[YJ];omega
   have hv:=qfs (N:=N) hN (qg3 hd (s.length-9)) (by omega)
   have u:=qdl _ 0 (qg3 hd (s.length-9))
   rw[lu]at u
   rw[if_pos (by omega),show w64 ((s.length:Int)-9)=((s.length-9:Nat):Int)by rw[qh (by omega) (by omega)];omega,xS (by omega),ZB,hv,ZB,qbq (by simp;omega) (by simp;omega),ZB,yB (by omega),ZB]
   obtain⟨j,s',f1,f2,f3,f4,f5,f6⟩:=qkb hN K (l++[((qL 0 (s.drop (s.length-9)):Nat):Int)]) (s.take (s.length-9)) (qfc hd _) (by simp;omega) (by rw[Ym];omega) (hg.append (Dg.cons ⟨by omega,show((qL 0 (s.drop (s.length-9)):Nat):Int)<1000000000 by omega⟩ Dg.nil))
   refine⟨j,s',f1,f2,f3,f4,f5,?_⟩
   rw[f6,qeg,Yq,List.length_singleton,Int.pow_succ,Int.mul_assoc]
   have e:qL 0 s=qL 0 (s.take (s.length-9))*1000000000+qL 0 (s.drop (s.length-9)):=by
    have:=qcu (s.take (s.length-9)) (s.drop (s.length-9))
    rw[YS,lu]at this
    exact this
   have e2:((qL 0 s:Nat):Int)=((qL 0 (s.drop (s.length-9)):Nat):Int)+E9*((qL 0 (s.take (s.length-9)):Nat):Int):=by
    have h4:E9*((qL 0 (s.take (s.length-9)):Nat):Int)=1000000000*((qL 0 (s.take (s.length-9)):Nat):Int):=rfl
    omega
   rw[e2,Int.mul_add]
   omega
  rw[if_neg (by omega)]
  exact⟨l,s,rfl,by omega,hd,hg,by omega,rfl⟩
def sgn (s:Str):Bool:=decide (s[0]? =some 45)
def bdy (s:Str):Str:=if sgn s=true then s.drop 1 else s
theorem qfe (s:Str):(if(s.length:Int)>0 then(idx s 0).bind fun c=>some (decide ((c.toNat:Int)=45))else some false:Option Bool)=some (sgn s):=by
 unfold sgn
 cases s with
 |nil=>rfl
 |cons c t=>
  rw[if_pos (by simp),xC]
  have e:((c.toNat:Int)=45)↔(some c=some (45:UInt8)):=⟨fun h=>congrArg some (UInt8.toNat_inj.1 (show c.toNat=45 by omega)),fun h=>by rw[Ye h];rfl⟩
  simp only[Yj,ZB]
  congr 1
  exact decide_eq_decide.2 e
theorem qla (s:Str):(if sgn s=true then(cut s 1 (s.length:Int)).bind fun x=>some x else some s:Option Str)=some (bdy s):=by
 unfold bdy
 cases h:sgn s with
 |false=>rw[if_neg (by simp),if_neg (by simp)]
 |true=>
  have j:1<=s.length:=by
   cases s with
   |nil=>simp[sgn]at h
   |cons=>simp
  have:=xS j
  have e:cut s 1 (s.length:Int)=some (s.drop 1):=this
  rw[if_pos rfl,if_pos rfl,e,ZB]
def qi1 (s:Str):Int:=if sgn s=true then-((qL 0 (bdy s):Nat):Int)else((qL 0 (bdy s):Nat):Int)
theorem qhs {N:Nat} (hN:100000<N) {s:Str} (hd:(bdy s).all vz=true) (hl:(bdy s).length<=80000):qai N s=some (rI (qi1 s)):=by
 unfold qai
 rw[qfe,ZB,qla,ZB]
 obtain⟨l,t,f1,j,h,f4,f5,f6⟩:=qkb (N:=N) (by omega) N [] (bdy s) hd (by simp;omega) (by omega) Dg.nil
 have hv:=qfs (N:=N) (by omega) h (by omega)
 have a0:=qdl _ 0 h
 have hp:(10:Nat)^t.length<=10^9:=Nat.pow_le_pow_right (by omega) j
 rw[f1,ZB]
 simp only
 have u:=f4.append (r:=[((qL 0 t:Nat):Int)]) (Dg.cons ⟨by omega,show((qL 0 t:Nat):Int)<1000000000 by omega⟩ Dg.nil)
 rw[hv,ZB,qbq (by simp;omega) (by simp;omega),ZB,qar _ u (by simp;omega) (by simp;omega),ZB,qeg,f6]
 simp only[zk,List.length_nil,Int.pow_zero,Int.one_mul,Int.zero_add]
 rfl
theorem qg7 (z:Int):sgn (Lib.itoa z)=decide (z<0):=by
 unfold sgn
 by_cases h:z<0
 ·rw[yu h,decide_eq_true h];rfl
 rw[zS h,decide_eq_false h]
 refine decide_eq_false fun e=>?_
 have j:(45:UInt8)∈Lib.decDigits z.natAbs:=Yn e
 have:=Yp.1 (qa1 z.natAbs) _ j
 exact absurd this (by decide)
theorem qb3 (z:Int):bdy (Lib.itoa z)=Lib.decDigits z.natAbs:=by
 unfold bdy
 rw[qg7]
 by_cases h:z<0
 ·rw[decide_eq_true h,if_pos rfl,yu h];rfl
 rw[decide_eq_false h,if_neg (by simp),zS h]
theorem qcG (z:Int):qi1 (Lib.itoa z)=z:=by
 unfold qi1
 rw[qg7,qb3,qbU]
 by_cases h:z<0
 ·rw[decide_eq_true h,if_pos rfl];omega
 rw[decide_eq_false h,if_neg (by simp)];omega
def slA:Str->Nat
 |[]=>0
 |c::s=>if c=47 then 0 else slA s+1
theorem qfM: ∀s:Str,slA s<=s.length
 |[]=>Nat.le_refl _
 |c::s=>by
  rw[slA,Yr]
  have:=qfM s
  split<;>omega
theorem qj5 {s:Str} (u:s.length<=1000000): ∀(K i:Nat),i<=s.length->s.length<K+i->jV s K (i:Int)=some (if i+slA (s.drop i)<s.length then .inr ((i+slA (s.drop i):Nat):Int)else .inl ())
 |0,i,h,hK=>by omega
 |K+1,i,h,hK=>by
  rw[jV]
  by_cases hi:i<s.length
  ·have j:s.drop i=s[i]::s.drop (i+1):=YG hi
   rw[if_pos (by omega),qy,Ya hi,ZB,j,slA]
   by_cases c:s[i]=47
   ·rw[if_pos c,if_pos (by rw[c];rfl),Nat.add_zero,if_pos hi]
   rw[if_neg c,if_neg (fun e=>c (UInt8.toNat_inj.1 (show s[i].toNat=47 by omega))),zq (by omega),qj5 u K (i+1) (by omega) (by omega),show i+1+slA (s.drop (i+1))=i+(slA (s.drop (i+1))+1)by omega]
  rw[if_neg (by omega),List.drop_of_length_le (by omega),if_neg (by omega)]
theorem qc0 {N:Nat} {s:Str} (j:s.length<=1000000) (u:s.length<N):yF N s=some (slA s:Int):=by
 have e:=qj5 j N 0 (by omega) (by omega)
 have e:jV s N 0=_:=e
 have h:=qfM s
 unfold yF
 rw[e,YR,Nat.zero_add]
 by_cases c:slA s<s.length
 ·rw[if_pos c];rfl
 rw[if_neg c]
 have:slA s=s.length:=by omega
 rw[this]
 rfl
theorem qjn: ∀(s t:Str),(∀c∈s,c≠47)->slA (s++47::t)=s.length/\slA s=s.length
 |[],t,_=>⟨by simp[slA],rfl⟩
 |c::s,t,h=>by
  have j:=qjn s t fun x hx=>h x (List.mem_cons_of_mem _ hx)
  rw[List.cons_append,slA,slA,if_neg (h c (List.mem_cons_self ..)),if_neg (h c (List.mem_cons_self ..)),j.1,j.2]
  exact⟨rfl,rfl⟩
end Go.Av
end
section
namespace Go.Av
theorem and1 {n:Nat} (h:n<4611686018427387904):qB .i64 (n:Int) 1=((n%2:Nat):Int):=by
 show IntKind.wrap .i64 _=_
 have e:(BitVec.ofInt IntKind.i64.bits (n:Int)&&&BitVec.ofInt IntKind.i64.bits 1).toNat=n%2:=by
  rw[BitVec.toNat_and]
  show(BitVec.ofInt 64 (n:Int)).toNat&&&(BitVec.ofInt 64 1).toNat=_
  rw[qbN (by omega) (by omega),qbN (by omega) (by omega)]
  exact Nat.and_one_is_mod n
 rw[e]
 show w64 _=_
 exact qh (by omega) (by omega)
theorem shr1 (n:Nat):qw .i64 (n:Int) 1=((n/2:Nat):Int):=by
 show(n:Int).fdiv 2=_
 rw[Int.fdiv_eq_ediv_of_nonneg _ (by decide)]
 omega
theorem qnk {N:Nat} (hN:11000<N): ∀(K n:Nat) (b j:qj) (x y:Int) (mb ma:Nat),n<100000->n<K->IsZ b x->IsZ j y->Fit x mb->Fit y ma->ma+mb*n<=3900->
 ∃r,jY N K b.s b.w j.s j.w (n:Int)=some (r.s,r.w)/\IsZ r (y*x^n)
 |0,n,_,_,_,_,_,_,_,h,_,_,_,_,_=>by omega
 |K+1,n,b,j,x,y,mb,ma,hn,hK,hb,hacc,fx,fy,hm=>by
  rw[jY]
  by_cases h0:n=0
  ·subst h0
   rw[if_neg (by omega)]
   exact⟨j,rfl,by simpa using hacc⟩
  have hmb:mb<=mb*n:=Nat.le_mul_of_pos_right _ (by omega)
  obtain⟨m,r,hr,hmr⟩: ∃m r,r<2/\n=2*m+r:=⟨n/2,n%2,by omega,by omega⟩
  have emb:mb*n=mb*m+mb*m+mb*r:=by rw[hmr,Nat.mul_add,<-Nat.mul_assoc,Nat.mul_comm mb 2,Nat.two_mul,Nat.add_mul]
  have S1: ∃(u:qj) (m2:Nat),(if(qB .i64 (n:Int) 1)=1 then(kr N (⟨j.s,j.w⟩:qj) (⟨b.s,b.w⟩:qj)).bind fun r20=>some (r20.s,r20.w)else some (j.s,j.w):Option (Int×(List Int)))=some (u.s,u.w)/\IsZ u (y*x^r)/\Fit (y*x^r) m2/\m2=ma+mb*r:=by
   rw[and1 (by omega),show n%2=r by omega]
   rcases(show r=0\/r=1 by omega)with e|e<;>subst e
   ·rw[if_neg (by simp)]
    exact⟨j,ma,rfl,by simpa using hacc,by simpa using fy,by simp⟩
   obtain⟨p,e1,h1⟩:=qeU hN hacc hb (fy.mono (by omega)) (fx.mono (by omega))
   have e1:kr N (⟨j.s,j.w⟩:qj) (⟨b.s,b.w⟩:qj)=some p:=e1
   rw[if_pos (by simp),e1,ZB]
   exact⟨p,ma+mb,rfl,by rw[Int.pow_one];exact h1,by rw[Int.pow_one];exact qer fy fx,by simp⟩
  obtain⟨u,m2,e1,h1,f1,em2⟩:=S1
  have S2: ∃(b2:qj) (x2:Int) (m3:Nat),(if(n:Int)>1 then(kr N (⟨b.s,b.w⟩:qj) (⟨b.s,b.w⟩:qj)).bind fun r22=>some (r22.s,r22.w,u.s,u.w)else some (b.s,b.w,u.s,u.w):Option (Int×(List Int)×Int×(List Int)))=some (b2.s,b2.w,u.s,u.w)/\IsZ b2 x2/\Fit x2 m3/\m3*m=mb*m+mb*m/\x2^m=(x*x)^m:=by
   by_cases c:(n:Int)>1
   ·have hm1:1<=m:=by omega
    have h3:mb<=mb*m:=Nat.le_mul_of_pos_right _ hm1
    obtain⟨p,e2,h2⟩:=qeU hN hb hb (fx.mono (by omega)) (fx.mono (by omega))
    have e2:kr N (⟨b.s,b.w⟩:qj) (⟨b.s,b.w⟩:qj)=some p:=e2
    rw[if_pos c,e2,ZB]
    exact⟨p,x*x,mb+mb,rfl,h2,qer fx fx,Nat.add_mul _ _ _,rfl⟩
   have hm0:m=0:=by omega
   subst hm0
   rw[if_neg c]
   exact⟨b,x,mb,rfl,hb,fx,by simp,by simp⟩
  obtain⟨b2,x2,m3,e2,h2,f2,em3,ex⟩:=S2
  have S:((if(qB .i64 (n:Int) 1)=1 then(kr N (⟨j.s,j.w⟩:qj) (⟨b.s,b.w⟩:qj)).bind fun r20=>some (r20.s,r20.w)else some (j.s,j.w):Option (Int×(List Int)))).bind (fun(n16,l17)=>
   if(n:Int)>1 then(kr N (⟨b.s,b.w⟩:qj) (⟨b.s,b.w⟩:qj)).bind fun r22=>some (r22.s,r22.w,n16,l17)else some (b.s,b.w,n16,l17))=some (b2.s,b2.w,u.s,u.w):=by
   rw[e1,ZB]
   exact e2
  obtain⟨r',e3,h3⟩:=qnk hN K m b2 u x2 (y*x^r) m3 m2 (by omega) (by omega) h2 h1 f2 f1 (by omega)
  rw[if_pos (by omega),S,ZB]
  simp only
  rw[shr1,show n/2=m by omega]
  refine⟨r',e3,?_⟩
  have hx2:x*x=x^2:=by rw[Int.pow_succ,Int.pow_succ,Int.pow_zero,Int.one_mul]
  rw[ex,Int.mul_assoc,hx2,<-Int.pow_mul,<-Int.pow_add,show r+2*m=n by omega]at h3
  exact h3
theorem qqz {N:Nat} (hN:110000<N) {b:qj} {x:Int} {n mb:Nat} (hn:n<100000) (j:IsZ b x) (fx:Fit x mb) (u:1+mb*n<=3900): ∃r,qby N b (n:Int)=some r/\IsZ r (x^n):=by
 obtain⟨r,e,h⟩:=qnk (N:=N) (by omega) N n b ⟨1,[]⟩ x 1 mb 1 hn (by omega) j (Ud (by decide) (by decide)) fx (F1 (by omega)) u
 have e:jY N N b.s b.w 1 [] (n:Int)=some (r.s,r.w):=e
 unfold qby
 rw[qgZ,ZB]
 simp only
 rw[e,ZB]
 exact⟨r,rfl,by rw[Int.one_mul]at h;exact h⟩
theorem qdO {z:Int} {p n:Nat} (h:(z.natAbs:Int)<((10^p:Nat):Int)) (j:p<=19*n):Fit z n:=by
 have h1:(10:Nat)^p<=10^(19*n):=Nat.pow_le_pow_right (by omega) j
 have u:((10^(19*n):Nat):Int)<=W^n:=by
  rw[Nat.pow_mul]
  have:=(qcI (x:=10000000000000000000) (y:=W) (by decide) (by decide) n).2
  rw[Int.natCast_pow]
  exact this
 unfold Fit
 omega
theorem qbY (s:Str):strings_HasPrefix s [45]=some (sgn s):=by
 unfold strings_HasPrefix stringslite_HasPrefix sgn
 cases s with
 |nil=>rfl
 |cons c t=>
  rw[if_pos (by simp;omega)]
  have e:cut (c::t) 0 (([45]:Str).length:Int)=some [c]:=yB (l:=c::t) (k:=1) (by simp)
  rw[e]
  simp only[ZB,Yj]
  congr 1
  rw[Bool.eq_iff_iff,beq_iff_eq,decide_eq_true_eq]
  constructor
  ·intro h;injection h with h;rw[h]
  intro h;rw[Ye h]
theorem qjt {s:Str} (h:sgn s=true):1<=s.length:=by
 cases s with
 |nil=>simp[sgn]at h
 |cons=>simp
theorem qeJ (s:Str):strings_TrimPrefix s [45]=some (bdy s):=by
 unfold strings_TrimPrefix stringslite_TrimPrefix
 have e:stringslite_HasPrefix s [45]=some (sgn s):=by
  have:=qbY s
  unfold strings_HasPrefix at this
  cases h:stringslite_HasPrefix s [45]with
  |none=>rw[h]at this;cases this
  |some b=>rw[h]at this;exact this
 rw[e,ZB]
 unfold bdy
 cases h:sgn s with
 |false=>rw[if_neg (by simp),if_neg (by simp),ZB]
 |true=>
  have j:cut s (([45]:Str).length:Int) (s.length:Int)=some (s.drop 1):=xS (qjt h)
  rw[if_pos rfl,if_pos rfl,j,ZB,ZB]
theorem qiH (s:Str):strings_CutPrefix s [45]=some (bdy s,sgn s):=by
 unfold strings_CutPrefix stringslite_CutPrefix
 have e:stringslite_HasPrefix s [45]=some (sgn s):=by
  have:=qbY s
  unfold strings_HasPrefix at this
  cases h:stringslite_HasPrefix s [45]with
  |none=>rw[h]at this;cases this
  |some b=>rw[h]at this;exact this
 rw[e,ZB]
 unfold bdy
 cases h:sgn s with
 |false=>rw[if_pos (by simp),if_neg (by simp),ZB]
 |true=>
  have j:cut s (([45]:Str).length:Int) (s.length:Int)=some (s.drop 1):=xS (qjt h)
  rw[if_neg (by simp),if_pos rfl,j,ZB,ZB]
theorem qlM {N:Nat} (hN:600000<N): ∀(K:Nat) (x:qj) (y:Int) (s:Str) (p:Nat),IsZ x y->0<=y->y<((10^p:Nat):Int)->p+s.length<=19000->s.all vz=true->s.length<K->
 ∃r,xc N K x.s x.w s=some (r.s,r.w)/\IsZ r (y*((10^s.length:Nat):Int)+(qL 0 s:Nat))
 |0,_,_,_,_,_,_,_,_,_,h=>by omega
 |K+1,x,y,s,p,hx,y0,y1,hp,hd,hK=>by
  rw[xc]
  by_cases h0:s.length=0
  ·rw[if_neg (by omega)]
   have:s=[]:=YL.1 h0
   subst this
   exact⟨x,rfl,by simpa[qbW]using hx⟩
  rw[if_pos (by omega)]
  obtain⟨g,hg,hg0,hgl,hg18⟩: ∃g:Nat,(if(s.length:Int)<18 then(s.length:Int)else 18)=(g:Int)/\0<g/\g<=s.length/\g<=18:=by
   by_cases c:(s.length:Int)<18
   ·exact⟨s.length,by rw[if_pos c],by omega,by omega,by omega⟩
   exact⟨18,by rw[if_neg c];rfl,by omega,by omega,by omega⟩
  have lt:(s.take g).length=g:=by rw[Ym];omega
  have ea:=qj3 (s:=s.take g) (by omega) (qfc hd g)
  have et:qkj (s.take g)=some (((qL 0 (s.take g):Nat):Int),()):=by
   unfold qkj
   rw[if_pos (by omega),ea]
   rfl
  have hv:=qdl (s.take g) 0 (qfc hd g)
  rw[lt]at hv
  have hp18:(10:Nat)^g<=10^18:=Nat.pow_le_pow_right (by omega) hg18
  have h18:(10:Nat)^18=1000000000000000000:=rfl
  rw[hg,yB hgl,ZB,et,ZB,qgZ,ZB]
  obtain⟨r1,e1,h1⟩:=qqz (N:=N) (by omega) (b:=⟨10,[]⟩) (x:=10) (n:=g) (mb:=1) (by omega) (Ud (by decide) (by decide)) (qdO (p:=2) (by decide) (by omega)) (by omega)
  have ep:(10:Int)^g=((10^g:Nat):Int):=by rw[Int.natCast_pow];rfl
  rw[ep]at h1
  have fg:Fit ((10^g:Nat):Int) 1000:=qdO (p:=19) (by
   rw[Int.natAbs_natCast]
   have h19:(10:Nat)^19=10000000000000000000:=rfl
   omega) (by omega)
  have fy:Fit y 1000:=qdO (p:=p) (by omega) (by omega)
  have hpos:0<10^g:=Nat.pow_pos (by decide)
  have yg0:0<=y*((10^g:Nat):Int):=Yv y0 (by omega)
  have u:(y+1)*((10^g:Nat):Int)<=((10^(p+g):Nat):Int):=by
   rw[Nat.pow_add,Int.natCast_mul]
   exact Int.mul_le_mul_of_nonneg_right (by omega) (by omega)
  rw[Int.add_mul,Int.one_mul]at u
  obtain⟨r2,e2,h2⟩:=qeU (N:=N) (by omega) hx h1 (fy.mono (by omega)) (fg.mono (by omega))
  have e2:kr N (⟨x.s,x.w⟩:qj) r1=some r2:=e2
  have j:IsZ ⟨((qL 0 (s.take g):Nat):Int),[]⟩ ((qL 0 (s.take g):Nat):Int):=Ud (by omega) (by omega)
  obtain⟨r3,e3,h3⟩:=qjg (N:=N) (by omega) h2 j (qdO (p:=p+g) (by omega) (by omega)) (qdO (p:=19) (by
   rw[Int.natAbs_natCast]
   have h19:(10:Nat)^19=10000000000000000000:=rfl
   omega) (by omega))
  rw[e1,ZB,e2,ZB,qgZ,ZB,e3,ZB,xS hgl,ZB]
  have ld:(s.drop g).length=s.length-g:=by rw[YJ]
  obtain⟨r,e4,h4⟩:=qlM hN K r3 _ (s.drop g) (p+g) h3 (by omega) (by omega) (by omega) (qg3 hd g) (by omega)
  refine⟨r,e4,?_⟩
  have e5:=qcu (s.take g) (s.drop g)
  rw[YS]at e5
  have e6:(10:Nat)^s.length=10^g*10^(s.drop g).length:=by rw[<-Nat.pow_add,ld];congr 1;omega
  rw[e5,e6]
  rw[Int.add_mul]at h4
  rw[Int.natCast_mul,Int.natCast_add,Int.natCast_mul,<-Int.mul_assoc,<-Int.add_assoc]
  exact h4
theorem qej {N:Nat} (hN:600000<N) {s:Str} (hd:(bdy s).all vz=true) (hl:(bdy s).length<=19000): ∃r,qac N s=some r/\IsZ r (qi1 s):=by
 obtain⟨r,e,h⟩:=qlM hN N ⟨0,[]⟩ 0 (bdy s) 0 (Ud (by decide) (by decide)) (by omega) (by decide) (by omega) hd (by omega)
 have e:xc N N 0 [] (bdy s)=some (r.s,r.w):=e
 rw[Int.zero_mul,Int.zero_add]at h
 unfold qac
 rw[qbY,ZB,qeJ,ZB,e,ZB]
 unfold qi1
 cases hs:sgn s with
 |false=>
  rw[if_neg (by simp)]
  exact⟨r,rfl,by simpa using h⟩
 |true=>
  obtain⟨u,j,h2⟩:=qhH h
  have j:zQ (⟨r.s,r.w⟩:qj)=some u:=j
  simp only[if_true]
  rw[j]
  exact⟨u,rfl,h2⟩
end Go.Av
end
section
namespace Go.Av
theorem qiO: ∀n:Nat,Lib.repeatL [48] n=List.replicate n 48
 |0=>rfl
 |n+1=>by rw[Lib.repeatL,qiO,List.replicate_succ];rfl
theorem qim: ∀k:Nat,qdD k 0=List.replicate k 48
 |0=>rfl
 |k+1=>by
  rw[qdD,Nat.zero_div,qim k,List.replicate_succ']
  rfl
theorem qjZ: ∀(k n:Nat),n<10^(k+1)->qdD (k+1) n=List.replicate (k+1-(Lib.decDigits n).length) 48++Lib.decDigits n
 |0,n,h=>by
  have h:n<10:=by simpa using h
  rw[zX h,qdD,qdD,Nat.mod_eq_of_lt h]
  rfl
 |k+1,n,h=>by
  rw[qdD]
  by_cases c:n<10
  ·rw[zX c,Nat.div_eq_of_lt c,qim,Nat.mod_eq_of_lt c]
   rfl
  rw[Nat.pow_succ]at h
  rw[qjZ k (n/10) (by omega),qe5 c,Yz,Yq,List.length_singleton,show k+1+1-((Lib.decDigits (n/10)).length+1)=k+1-(Lib.decDigits (n/10)).length by omega]
theorem qel (n:Nat):Lib.itoa (n:Int)=Lib.decDigits n:=by rw[zS (by omega),Int.natAbs_natCast]
theorem qof {r:Nat} (h:r<1000000000000000000) (c: ¬r=0):dg W (r:Int)=[(r:Int)]:=by
 rw[qjq (by omega) (by unfold W;omega)]
theorem qmP {r:Nat} (h:r<1000000000000000000):qh2 (r:Int) 10=some (Lib.decDigits r):=by
 unfold qh2
 rw[if_pos ⟨by omega,by omega,rfl⟩,qel]
theorem qnP:(if((dg W ((0:Nat):Int)).length:Int)>0 then(idx (dg W ((0:Nat):Int)) 0).bind fun x13=>(qh2 x13 10).bind fun r14=>some r14 else some [48]:Option Str)=some (Lib.decDigits 0):=by
 rw[show((0:Nat):Int)=0 from rfl,qdn,if_neg (by simp),zX (by decide)]
 rfl
theorem qpq {r:Nat} (h:r<1000000000000000000):(if((dg W (r:Int)).length:Int)>0 then(idx (dg W (r:Int)) 0).bind fun x13=>(qh2 x13 10).bind fun r14=>some r14 else some [48]:Option Str)=some (Lib.decDigits r):=by
 by_cases c:r=0
 ·rw[c]
  exact qnP
 rw[qof h c,if_pos (show((([(r:Int)]:List Int).length:Nat):Int)>0 from by rw[List.length_singleton];decide),xC,Yj,ZB,qmP h]
 rfl
theorem p18:(10:Nat)^18=1000000000000000000:=rfl
theorem qpr {q r:Nat} (h:r<1000000000000000000): ∃t:Str,(if((dg W (q:Int)).length:Int)>0 then(qbL [48] (w64 (18-((Lib.decDigits r).length:Int)))).bind fun r18=>(cat r18 (Lib.decDigits r)).bind fun s19=>some s19 else some (Lib.decDigits r):Option Str)=some t/\0<t.length/\Lib.decDigits (1000000000000000000*q+r)=(if q=0 then[]else Lib.decDigits q)++t:=by
 have hr:r<10^18:=by rw[p18];exact h
 have lD:(Lib.decDigits r).length<=18:=(qam (by decide)).2 hr
 have j:=qhv r
 by_cases c:q=0
 ·subst c
  rw[show((0:Nat):Int)=0 from rfl,qdn,if_neg (by simp),if_pos rfl,Nat.mul_zero,Nat.zero_add]
  exact⟨_,rfl,j,rfl⟩
 have u:dg W (q:Int)≠[]:=fun e=>by have:=(qg2 W1 (by omega)).1 e;omega
 have hlen:0<(dg W (q:Int)).length:=List.length_pos_iff.2 u
 have et:qbL [48] (w64 (18-((Lib.decDigits r).length:Int)))=some (List.replicate (18-(Lib.decDigits r).length) 48):=by
  rw[qh (by omega) (by omega)]
  unfold qbL
  rw[if_pos ⟨by omega,by omega,by simp;omega⟩,qiO]
  congr 2
  omega
 have hp:=qjZ 17 r hr
 have hl:(qdD (17+1) r).length=18:=qgO _ _
 have hs:=qg0 18 (1000000000000000000*q+r)
 rw[p18,Nat.mul_add_div (by omega),Nat.div_eq_of_lt h,Nat.add_zero,Nat.mul_add_mod,Nat.mod_eq_of_lt h]at hs
 rw[if_pos (by omega),et,ZB,qaY (by simp;omega),ZB,<-hp,if_neg c]
 exact⟨_,rfl,by omega,hs (by omega)⟩
theorem qqF {N:Nat} (hN:600000<N) (B:Nat) (hB:B<=3900) (K:Nat): ∀(k m:Nat) (l:List Str),m<10^(18*k)->k<K->k+l.length<=100000->Fit (m:Int) B->(∀t∈l,0<t.length)->
 ∃l',jl N K l (dg W (m:Int))=some l'/\(∀t∈l',0<t.length)/\l'.length<=k+l.length/\l'.reverse.flatten=(if m=0 then[]else Lib.decDigits m)++l.reverse.flatten:=by
 induction K with
 |zero=>intro k m l _ h;omega
 |succ K ih=>
  intro k m l hm hK hl fm hp
  rw[jl]
  by_cases h0:m=0
  ·subst h0
   rw[show((0:Nat):Int)=0 from rfl,qdn,if_neg (by simp),if_pos rfl]
   exact⟨l,rfl,hp,by omega,rfl⟩
  obtain⟨j,hj⟩: ∃j,k=j+1:=⟨k-1,by
   rcases Nat.eq_zero_or_pos k with e|e
   ·subst e;simp at hm;omega
   omega⟩
  rw[hj]at hm hK hl
  have a0:(0:Int)<=(m:Int):=by omega
  have hne:dg W (m:Int)≠[]:=fun e=>by have:=(qg2 W1 a0).1 e;omega
  have hlen:0<(dg W (m:Int)).length:=List.length_pos_iff.2 hne
  have ln:(dg W (m:Int)).length<=3900:=Nat.le_trans fm.len hB
  have cB:Can W [1000000000000000000]:=by
   have:=je W1 (show(0:Int)<=1000000000000000000 by decide)
   rw[qjq (by decide) (by decide)]at this
   exact this
  have vB:dv W [1000000000000000000]=1000000000000000000:=by rw[zy,zk,Int.mul_zero,Int.add_zero]
  have ed:=qiz (N:=N) (by omega) (je W1 a0) cB (by omega) (by rw[vB];decide)
  rw[vB,vo W1 a0]at ed
  obtain⟨q,r,hq,hr⟩: ∃q r,m=1000000000000000000*q+r/\r<1000000000000000000:=⟨m/1000000000000000000,m%1000000000000000000,by omega,by omega⟩
  have eq:(m:Int)/1000000000000000000=(q:Int):=by omega
  have er:(m:Int)%1000000000000000000=(r:Int):=by omega
  rw[eq,er]at ed
  obtain⟨t,et,t0,eD⟩:=qpr (q:=q) hr
  rw[<-hq]at eD
  rw[if_pos (by omega),ed,ZB]
  simp only
  rw[qpq hr,ZB,et,ZB,qbq (by simp;omega) (by simp;omega),ZB]
  have hk:q<10^(18*j):=by
   rw[Nat.mul_succ,Nat.pow_add,p18,Nat.mul_comm]at hm
   refine Nat.lt_of_mul_lt_mul_left (a:=1000000000000000000) ?_
   omega
  obtain⟨l',f1,f2,f3,f4⟩:=ih j q (l++[t]) hk (by omega) (by simp;omega) (qbi (by omega) fm) (fun u hu=>by
   rcases List.mem_append.1 hu with hu|hu
   ·exact hp u hu
   rw[List.mem_singleton.1 hu];exact t0)
  refine⟨l',f1,f2,by simp at f3;omega,?_⟩
  rw[f4,if_neg h0,eD,List.reverse_append,List.flatten_append,Yz]
  simp
def byN (s:Str):List Int:=s.map fun x=>(x.toNat:Int)
theorem qgk (s:Str):(byN s).length=s.length:=by unfold byN;rw[List.length_map]
theorem qnL {l:List Str} (hp: ∀t∈l,0<t.length) (hl:l.length<=100000): ∀(K i:Nat) (o:Option (List Int)),i<=l.length->i<K->(hof o).length+(l.take i).flatten.length<=1000000000->
 ∃u,zt l K o.isSome o ((i:Int)-1)=some (u.isSome,u)/\hof u=hof o++byN (l.take i).reverse.flatten
 |0,i,o,_,h,_=>by omega
 |K+1,0,o,hi,h,hb=>by
  rw[zt,if_neg (by omega)]
  exact⟨o,rfl,by simp[byN]⟩
 |K+1,i+1,o,hi,h,hb=>by
  have j:i<l.length:=by omega
  have ei:((i+1:Nat):Int)-1=(i:Int):=by omega
  have ht:l.take (i+1)=l.take i++[l[i]]:=List.take_succ_eq_append_getElem j
  have h1:=hp l[i] (List.getElem_mem j)
  rw[ht,List.flatten_append,Yq]at hb
  simp only[List.flatten_cons,List.flatten_nil,YQ]at hb
  have ew:bWr o.isSome o l[i]=some (hof o++byN l[i]):=by
   unfold bWr
   rw[if_pos ⟨rfl,by omega,h1⟩]
   rfl
  rw[zt,ei,if_pos (by omega),qy,Ya j,ZB,ew,ZB,qh (by omega) (by omega)]
  obtain⟨u,f1,f2⟩:=qnL hp hl K i (some (hof o++byN l[i])) (by omega) (by omega) (by
   show(hof o++byN l[i]).length+_<=_
   rw[Yq,qgk];omega)
  refine⟨u,f1,?_⟩
  rw[f2,ht,List.reverse_append,List.flatten_append]
  show hof o++byN l[i]++_=_
  rw[Yz]
  unfold byN
  simp
theorem qnc (s:Str):(byN s).map (fun n=>UInt8.ofNat n.toNat)=s:=by
 unfold byN
 rw[List.map_map]
 conv=>rhs;rw[<-List.map_id s]
 refine List.map_congr_left fun x _=>?_
 show UInt8.ofNat ((x.toNat:Int)).toNat=x
 rw[Int.toNat_natCast,UInt8.ofNat_toNat]
theorem qo9 (s:Str):(byN s).all (fun n=>decide (0<=n)&&decide (n<256))=true:=by
 unfold byN
 rw[List.all_map,Yp]
 intro x _
 have:x.toNat<256:=x.toNat_lt
 simp
 omega
theorem qiT: ∀l:List Str,l.reverse.flatten.length=l.flatten.length:=fun l=>by
 rw[List.length_flatten,List.length_flatten,List.map_reverse,List.sum_reverse]
theorem qeu {N:Nat} (hN:600000<N) {x:qj} {z:Int} (h:IsZ x z) (fz:Fit z 3900):vw N x=some (Lib.itoa z):=by
 unfold vw
 cases e:x.w.isEmpty with
 |true=>
  obtain⟨h1,h2,h3⟩:=h.emp e
  rw[if_pos rfl,h1]
  unfold qlr
  rw[if_pos ⟨h2,h3⟩,ZB]
 |false=>
  have hz:z.natAbs≠0:=by
   rcases h with⟨hw,_⟩|⟨_,_,h1,_⟩
   ·rw[hw]at e;cases e
   omega
  obtain⟨B8,hB8⟩: ∃B8:Nat,B8=8000:=⟨_,rfl⟩
  have pw:((10^(18*B8):Nat):Int)=(1000000000000000000:Int)^B8:=by
   rw[Nat.pow_mul,Int.natCast_pow]
   rfl
  have hm:z.natAbs<10^(18*B8):=by
   have h1:W^3900<=(1000000000000000000:Int)^B8:=by
    have a1:(1000000000000000000:Int)^B8=((1000000000000000000:Int)^2)^4000:=by rw[<-Int.pow_mul,hB8]
    have a2:W^4000<=((1000000000000000000:Int)^2)^4000:=(qcI (by decide) (by decide) 4000).2
    have a3:W^3900<=W^4000:=yI (by decide) (by decide)
    rw[a1]
    exact Int.le_trans a3 a2
   rw[<-pw]at h1
   unfold Fit at fz
   omega
  obtain⟨l,f1,f2,f3,u⟩:=qqF hN 3900 (Nat.le_refl _) N B8 z.natAbs [] hm (by omega) (by simp;omega) (by unfold Fit;rw[Int.natAbs_natCast];exact fz) (fun t ht=>by cases ht)
  rw[if_neg hz]at u
  simp only[List.reverse_nil,List.flatten_nil,YQ,List.length_nil,Nat.add_zero]at f3 u
  have lD:(Lib.decDigits z.natAbs).length<=18*B8:=(qam (by omega)).2 hm
  have lf:l.flatten.length<=18*B8:=by rw[<-qiT,u];exact lD
  have lpos:=qhv z.natAbs
  rw[if_neg (by simp),parts_eq h,ZB]
  simp only
  rw[f1,ZB]
  have el:w64 ((l.length:Int)-1)=(l.length:Int)-1:=qh (by omega) (by omega)
  have j: ∀(o:Option (List Int)) (pre:Str),hof o=byN pre->pre.length<=10->((zt l N o.isSome o (w64 ((l.length:Int)-1))).bind fun(ok30,o31)=>(qmq ok30 o31).bind fun t38=>some t38)=some (pre++Lib.decDigits z.natAbs):=by
   intro o pre ho hpre
   obtain⟨o',g1,g2⟩:=qnL f2 (by omega) N l.length o (Nat.le_refl _) (by omega) (by rw[ho,qgk,List.take_of_length_le (Nat.le_refl _)];omega)
   rw[List.take_of_length_le (Nat.le_refl _),u,ho]at g2
   have g3:hof o'=byN (pre++Lib.decDigits z.natAbs):=by
    rw[g2]
    unfold byN
    rw[List.map_append]
   have hs:o'.isSome=true:=by
    cases o' with
    |none=>
     have:=congrArg List.length g3
     rw[qgk,Yq]at this
     simp at this
     omega
    |some q=>rfl
   rw[el,g1,ZB]
   simp only
   unfold qmq
   rw[if_pos ⟨hs,by rw[g3,qgk,Yq];omega,by rw[g3];exact qo9 _⟩,g3,qnc,ZB]
  by_cases c:z<0
  ·have eb:bWr false (none:Option (List Int)) [45]=some [45]:=rfl
   rw[decide_eq_true c,if_pos rfl,eb,ZB,ZB]
   simp only
   have:=j (some [45]) [45] rfl (by simp)
   rw[yu c]
   exact this
  rw[decide_eq_false c,if_neg (by simp),ZB]
  simp only
  have:=j none [] rfl (by simp)
  rw[zS c]
  exact this
end Go.Av
end
section
namespace Go.Av
theorem qpt {x:qj} {z:Int} (h:IsZ x z) (fz:Fit z 3900): ∃b:Nat,qa9 x=some (b:Int)/\(z.natAbs:Int)<2^b:=by
 unfold qa9
 rw[parts_eq h,ZB]
 simp only
 have hz:(0:Int)<=(z.natAbs:Int):=by omega
 have cc:=je W1 hz
 have vv:=vo W1 hz
 have ll:=fz.len
 generalize dg W (z.natAbs:Int)=w at*
 by_cases h0:w.length=0
 ·rw[if_pos (by omega)]
  rw[YL.1 h0,zk]at vv
  exact⟨0,rfl,by rw[<-vv];decide⟩
 have hk:w.length-1<w.length:=by omega
 have ax:=cc.1.at hk
 obtain⟨l,e,hl⟩:=qjv ax.1 ax.2
 have hl0:0<=l/\l<=64:=by
  rcases hl with⟨_,h⟩|⟨u,j,_⟩<;>omega
 have hl2:w[w.length-1]<2^l.toNat:=by
  rcases hl with⟨u,j⟩|⟨_,_,_,h⟩
  ·rw[u,j];decide
  exact h
 rw[if_neg (by omega),qiJ (by omega) (by omega),qy,Ya hk,ZB,e,ZB,qh (n:=64*((w.length-1:Nat):Int)) (by omega) (by omega),qh (by omega) (by omega)]
 refine⟨64*(w.length-1)+l.toNat,by congr 1;omega,?_⟩
 have e1:=qm W w (w.length-1) hk
 rw[List.take_of_length_le (by omega),vv]at e1
 have u:=yP W0 (cc.1.take (w.length-1))
 rw[Ym,Nat.min_eq_left (by omega)]at u
 have e2:(2:Int)^(64*(w.length-1)+l.toNat)=W^(w.length-1)*2^l.toNat:=by
  rw[Int.pow_add,Int.pow_mul]
  rfl
 have j:W^(w.length-1)*(w[w.length-1]+1)<=W^(w.length-1)*2^l.toNat:=Yc (by omega) (Int.le_of_lt (pow_pos W0 _))
 rw[Int.mul_add,Int.mul_one]at j
 rw[e2]
 omega
theorem pow8: ∀n:Nat,(8:Int)^(n+1)<((10^(n+1):Nat):Int)
 |0=>by decide
 |n+1=>by
  have h:=pow8 n
  have j:=pow_pos (show(0:Int)<8 by decide) (n+1)
  rw[Int.pow_succ,Nat.pow_succ,Int.natCast_mul]
  omega
theorem qqa (n:Nat):(2:Int)^(3*n)=(8:Int)^n:=by
 rw[Int.pow_mul]
 rfl
theorem qpu {n m:Nat} (h:m=3*(n+1)):(2:Int)^m<((10^(n+1):Nat):Int):=by
 rw[h,qqa]
 exact pow8 n
def lng (z:Int):Bool:=decide (600<(Lib.decDigits z.natAbs).length)
theorem qlI {N:Nat} (j:600000<N) {x:qj} {z:Int} (h:IsZ x z) (fz:Fit z 3900):qcF N x=some (lng z):=by
 obtain⟨b,e,hb⟩:=qpt h fz
 unfold qcF
 rw[e,ZB]
 by_cases c:(b:Int)>1800
 ·rw[if_pos c,qeu j h fz,ZB,qeJ,qb3,ZB,ZB]
  congr 1
  exact decide_eq_decide.2 (by omega)
 rw[if_neg c,ZB]
 congr 1
 obtain⟨m,hm⟩: ∃m:Nat,m=3*(599+1):=⟨_,rfl⟩
 have h1:(2:Int)^b<=2^m:=yI (by decide) (by omega)
 have h2:=qpu hm
 have u:z.natAbs<10^(599+1):=by omega
 have:=(qam (n:=z.natAbs) (k:=599+1) (by decide)).2 u
 unfold lng
 rw[decide_eq_false (by omega)]
def qjk (q:Rat):Bool:=lng q.num||lng q.den
theorem qjJ {N:Nat} (u:600000<N) {f:ql} {q:Rat} (h:IsF f q) (j:xW q 3900):yX N f=some (qjk q):=by
 unfold yX qjk
 rw[qlI u h.1 j.1,ZB]
 cases lng q.num with
 |true=>rw[if_pos rfl,ZB,Bool.true_or]
 |false=>rw[if_neg (by simp),qlI u h.2 j.2,ZB,ZB,Bool.false_or]
def T (q:Rat):Str:=Lib.itoa q.num++(if q.den=1 then[]else 47::Lib.decDigits q.den)
theorem Fit.itoaLen {z:Int} (h:Fit z 3900):(Lib.itoa z).length<=200001:=by
 have h1:(Lib.decDigits z.natAbs).length<=20*10000:=by
  refine(qam (by decide)).2 ?_
  obtain⟨B,hB⟩: ∃B:Nat,B=10000:=⟨_,rfl⟩
  rw[<-hB]
  have j:W^3900<=W^B:=yI (by decide) (by omega)
  have u:W^B<=(100000000000000000000:Int)^B:=(qcI (by decide) (by decide) B).2
  have h4:((10^(20*B):Nat):Int)=(100000000000000000000:Int)^B:=by
   rw[Nat.pow_mul,Int.natCast_pow]
   rfl
  unfold Fit at h
  generalize W^3900=p at*
  omega
 by_cases c:z<0
 ·rw[yu c,Yr];omega
 rw[zS c];omega
theorem ql2 {N:Nat} (u:600000<N) {f:ql} {q:Rat} (h:IsF f q) (j:xW q 3900):xK N f=some (T q):=by
 unfold xK T
 rw[qkY h,ZB]
 by_cases c:q.den=1
 ·rw[decide_eq_true c,if_pos rfl,qeu u h.1 j.1,ZB,if_pos c,YQ]
 have l1:=Fit.itoaLen j.1
 have l2:=Fit.itoaLen j.2
 rw[decide_eq_false c,if_neg (by simp),qeu u h.1 j.1,ZB,qaY (by simp;omega),ZB,qeu u h.2 j.2,ZB,qaY (by simp;omega),ZB,if_neg c,qel,Yz]
 rfl
theorem qpg {α:Type} {b:Bool} {x y:α}:zO b x y=if b=true then x else y:=by cases b<;>rfl
theorem qkd: ∀(s:Str) (j:Nat),qh5 47 s j=if slA s<s.length then((j+slA s:Nat):Int)else-1
 |[],j=>rfl
 |c::s,j=>by
  show zO (Nat.beq c.toNat 47) (Int.ofNat j) (qh5 47 s (j+1))=_
  rw[qpg,qkd s (j+1),slA,Yr]
  by_cases h:c=47
  ·subst h
   rw[if_pos (by decide),if_pos rfl,if_pos (by omega)]
   rfl
  have u:c.toNat≠47:=fun e=>h (UInt8.toNat_inj.1 (by rw[e];rfl))
  rw[if_neg (by rw[qcm u];simp),if_neg h]
  by_cases c2:slA s<s.length
  ·rw[if_pos c2,if_pos (by omega)]
   congr 1
   omega
  rw[if_neg c2,if_neg (by omega)]
theorem qoW {s:Str}:stringslite_Index s [47]=some (qh5 47 s 0):=by
 unfold stringslite_Index stringslite_IndexByte qja
 have h: ¬(([47]:Str).length:Int)=0:=by simp
 have j:(([47]:Str).length:Int)=1:=by simp
 rw[if_neg h]
 simp only[ZB]
 by_cases hs:(([47]:Str)==s)=true
 ·have:s=[47]:=(beq_iff_eq.1 hs).symm
  subst this
  rfl
 rw[if_neg hs,if_pos j,xC,show([47]:Str)[0]? =some 47 from rfl,ZB,if_pos (by decide)]
 rfl
theorem qmW {s:Str} (j:s.length<=1000000):strings_Cut s [47]=some (if slA s<s.length then(s.take (slA s),s.drop (slA s+1),true)else(s,[],false)):=by
 have h:=qfM s
 unfold strings_Cut stringslite_Cut
 rw[qoW,qkd,ZB]
 by_cases c:slA s<s.length
 ·rw[if_pos c,if_pos (by omega),if_pos c,Nat.zero_add,yB h,ZB,show w64 ((slA s:Int)+(([47]:Str).length:Int))=((slA s+1:Nat):Int)from zq (by omega),xS (by omega),ZB,ZB]
 rw[if_neg c,if_neg (by omega),if_neg c,ZB]
theorem qfa {s:Str} (j:s.length<=1000000):jO s=some (decide (Dec s)):=by
 have u:qjB s [48,49,50,51,52,53,54,55,56,57]=some (Lib.trimS s [48,49,50,51,52,53,54,55,56,57]):=by
  unfold qjB
  rw[if_pos ⟨j,by decide,by decide⟩]
 unfold jO
 rw[u]
 simp only[ZB,qmA]
 cases s with
 |nil=>rfl
 |cons c t=>
  rw[if_pos (by rfl),xC]
  simp only[Yj,ZB]
  cases hd:(c::t).all vz with
  |false=>
   rw[if_neg (by simp),ZB,decide_eq_false fun h=>by rw[h.2.1]at hd;cases hd]
  |true=>
   rw[if_pos rfl]
   by_cases h:c=48
   ·subst h
    rw[if_neg (by decide),ZB]
    congr 1
    rw[Bool.eq_iff_iff,beq_iff_eq,decide_eq_true_eq]
    exact⟨fun e=>by rw[e];exact qlD (by decide),fun h=>h.2.2 rfl⟩
   rw[if_pos (by simp[ne48 h]),ZB,decide_eq_true (show Dec (c::t)from⟨by simp,hd,fun e=>absurd (Ye e) h⟩)]
theorem qhI {s:Str} (u:s.length<=1000000): ∀(K i:Nat),i<=s.length->s.length<K+i->jD s K (i:Int)=some (if(s.drop i).all vz=true then .inl ()else .inr false)
 |0,i,h,hK=>by omega
 |K+1,i,h,hK=>by
  rw[jD]
  by_cases hi:i<s.length
  ·have j:s.drop i=s[i]::s.drop (i+1):=YG hi
   rw[if_pos (by omega),qy,Ya hi,ZB,j,List.all_cons]
   generalize s[i]=c
   have e:(if(c.toNat:Int)<48 then some true else some (decide ((c.toNat:Int)>57)):Option Bool)=some (!vz c):=by
    by_cases h1:(c.toNat:Int)<48
    ·rw[if_pos h1]
     congr 1
     unfold vz
     rw[decide_eq_false (by omega)]
     rfl
    rw[if_neg h1]
    congr 1
    unfold vz
    rw[decide_eq_true (p:=48<=c.toNat) (by omega),Bool.true_and,<-decide_not]
    exact decide_eq_decide.2 (by omega)
   rw[e,ZB]
   cases hc:vz c with
   |true=>rw[if_neg (by simp),zq (by omega),qhI u K (i+1) (by omega) (by omega),Bool.true_and]
   |false=>rw[if_pos (by simp),Bool.false_and,if_neg (by simp)]
  rw[if_neg (by omega),List.drop_of_length_le (by omega)]
  rfl
theorem qhY {N:Nat} {s:Str} (u:s.length<=1000000) (hN:s.length<N):jo N s=some (decide (Dec s)):=by
 have e:=qhI u N 0 (by omega) (by omega)
 have e:jD s N 0=_:=e
 have j:qaR N s=some (s.all vz):=by
  unfold qaR
  rw[e,YR]
  cases s.all vz<;>rfl
 unfold jo
 cases s with
 |nil=>rfl
 |cons c t=>
  rw[if_neg (by simp;omega)]
  by_cases h1:((c::t).length:Int)>1
  ·rw[if_pos h1,xC]
   simp only[Yj,ZB]
   by_cases h:c=48
   ·subst h
    rw[if_pos (by decide),decide_eq_false fun hD=>?_]
    have:=congrArg List.length (hD.2.2 rfl)
    rw[List.length_singleton]at this
    omega
   rw[if_neg (by simp[ne48 h]),j,ZB]
   congr 1
   rw[Bool.eq_iff_iff,decide_eq_true_eq]
   exact⟨fun hd=>⟨by simp,hd,fun e=>absurd (Ye e) h⟩,fun hD=>hD.2.1⟩
  rw[if_neg h1,ZB,if_neg (by simp),j,ZB]
  have ht:t=[]:=YL.1 (by simp at h1;omega)
  subst ht
  congr 1
  rw[Bool.eq_iff_iff,decide_eq_true_eq]
  exact⟨fun hd=>qlD (by simpa using hd),fun hD=>hD.2.1⟩
end Go.Av
end
section
namespace Go.Av
theorem qi4 {z:Int} {p n:Nat} (h:(z.natAbs:Int)<((10^p:Nat):Int)) (j:p<=9*n):jk z n:=by
 have u:(10:Nat)^p<=10^(9*n):=Nat.pow_le_pow_right (by omega) j
 unfold jk
 rw[qhQ]
 omega
theorem qfh {N:Nat} (j:10<N) (a b:Int):jm N [a,b]=some (if a=0 then b else a):=by
 obtain⟨K,rfl⟩: ∃K,N=K+1+1+1:=⟨N-3,by omega⟩
 unfold jm
 by_cases ha:a=0
 ·by_cases hb:b=0
  ·subst ha;subst hb
   rfl
  have h:zH [a,b] (K+1+1+1) 0=some (.inr b):=by
   rw[zH,if_pos (by simp),xC]
   simp only[Yj,ZB]
   rw[if_neg (by simp[ha]),zH,show w64 ((0:Int)+1)=1 from rfl,if_pos (by simp),idx_1]
   simp only[YK,Yj,ZB]
   rw[if_pos (by simp[hb])]
  rw[h,if_pos ha]
  rfl
 have h:zH [a,b] (K+1+1+1) 0=some (.inr a):=by
  rw[zH,if_pos (by simp),xC]
  simp only[Yj,ZB]
  rw[if_pos (by simp[ha])]
 rw[h,if_neg ha]
 rfl
def okF (s:Str):Bool:=decide (Dec ((bdy s).take (slA (bdy s)))/\ ¬(sgn s=true/\(bdy s).take (slA (bdy s))=[48]))
def qhG (s:Str):Bool:=decide (slA (bdy s)<(bdy s).length/\ ¬(Dec ((bdy s).drop (slA (bdy s)+1))/\(bdy s).drop (slA (bdy s)+1)≠[48]/\(bdy s).drop (slA (bdy s)+1)≠[49]))
def chk (s:Str):Int:=
 if okF s=false\/qhG s=true then 1
 else if 600<((bdy s).take (slA (bdy s))).length\/600<((bdy s).drop (slA (bdy s)+1)).length then 4
 else if slA (bdy s)<(bdy s).length/\Nat.gcd (qL 0 ((bdy s).take (slA (bdy s)))) (qL 0 ((bdy s).drop (slA (bdy s)+1)))≠1 then 1
 else 0
theorem qaC {s:Str} (h:s.all vz=true):sgn s=false/\bdy s=s:=by
 have e:sgn s=false:=decide_eq_false fun e=>by
  have j:(45:UInt8)∈s:=Yn e
  exact absurd (Yp.1 h _ j) (by decide)
 exact⟨e,by unfold bdy;rw[e];rfl⟩
theorem qbu {s:Str} (h:s.all vz=true):qi1 s=(qL 0 s:Nat):=by
 obtain⟨u,j⟩:=qaC h
 unfold qi1
 rw[u,j]
 rfl
theorem qfB (s:Str):(bdy s).length<=s.length:=by
 unfold bdy
 split
 ·rw[YJ];omega
 exact Nat.le_refl _
theorem qeq {s:Str} {k:Nat} (h:Dec s) (j:s.length<=k):((qL 0 s:Nat):Int).natAbs<10^k:=by
 have h1:=qdl s 0 h.2.1
 have u:(10:Nat)^s.length<=10^k:=Nat.pow_le_pow_right (by omega) j
 omega
theorem qeo {s:Str} (h:Dec s) (j:s≠[48]):0<qL 0 s:=by
 rcases Nat.eq_zero_or_pos (qL 0 s)with e|e
 ·have:=h.eq
  rw[e,zX (by decide)]at this
  exact absurd this j
 exact e
theorem qii {N:Nat} (hN:600000<N) {s:Str} (hl:s.length<=10000):qaS N s=some (chk s):=by
 have hb:=qfB s
 have hk:=qfM (bdy s)
 have lt:((bdy s).take (slA (bdy s))).length=slA (bdy s):=by rw[Ym];omega
 have ld:((bdy s).drop (slA (bdy s)+1)).length=(bdy s).length-(slA (bdy s)+1):=by rw[YJ]
 unfold qaS
 rw[qiH,ZB]
 simp only
 have C:strings_Cut (bdy s) [47]=some ((bdy s).take (slA (bdy s)),(bdy s).drop (slA (bdy s)+1),decide (slA (bdy s)<(bdy s).length)):=by
  rw[qmW (by omega)]
  by_cases c:slA (bdy s)<(bdy s).length
  ·rw[if_pos c,decide_eq_true c]
  rw[if_neg c,decide_eq_false c,List.take_of_length_le (by omega),List.drop_of_length_le (by omega)]
 rw[C,ZB]
 unfold chk okF qhG
 generalize hn:(bdy s).take (slA (bdy s))=n at*
 generalize hd:(bdy s).drop (slA (bdy s)+1)=d at*
 generalize slA (bdy s)=k at*
 generalize (bdy s).length=m at*
 simp only
 rw[qfa (by omega),ZB]
 have B6:(if decide (Dec n)=true then if(!sgn s)=true then some true else some (!(n==[48]))else some false:Option Bool)=some (decide (Dec n/\ ¬(sgn s=true/\n=[48]))):=by
  by_cases u:Dec n
  ·cases h2:sgn s with
   |false=>simp[u]
   |true=>
    by_cases h3:n=[48]<;>simp[u,h3]
  simp[u]
 rw[B6,ZB]
 generalize hf:decide (Dec n/\ ¬(sgn s=true/\n=[48]))=ok at*
 have B8:(if decide (k<m)=true then(if ok=true then(jO d).bind fun r12=>if r12=true then if(!(d==[48]))=true then some (!(d==[49]))else some false else some false else some false:Option Bool).bind fun b15=>some b15 else some ok:Option Bool)=some (ok&&!decide (k<m/\ ¬(Dec d/\d≠[48]/\d≠[49]))):=by
  by_cases u:k<m
  ·cases ok with
   |false=>simp[u]
   |true=>
    rw[qfa (by omega)]
    by_cases h2:Dec d
    ·by_cases h3:d=[48]
     ·simp[u,h2,h3]
     by_cases h4:d=[49]<;>simp[u,h2,h3,h4]
    simp[u,h2]
  simp[u]
 rw[B8,ZB]
 generalize hg:decide (k<m/\ ¬(Dec d/\d≠[48]/\d≠[49]))=bd at*
 have B:((kL (!(ok&&!bd)) 1).bind fun r17=>if(n.length:Int)>600 then(kL true 4).bind fun r19=>(jm N ([r17,r19]:List Int)).bind fun r20=>some (r17,r19,r20)else(kL (decide ((d.length:Int)>600)) 4).bind fun r21=>(jm N ([r17,r21]:List Int)).bind fun r22=>some (r17,r21,r22):Option (Int×Int×Int))=some (if ok=false\/bd=true then 1 else 0,if 600<n.length\/600<d.length then 4 else 0,if ok=false\/bd=true then 1 else if 600<n.length\/600<d.length then 4 else 0):=by
  have w1:kL (!(ok&&!bd)) 1=some (if ok=false\/bd=true then 1 else 0):=by
   unfold kL
   cases ok<;>cases bd<;>rfl
  rw[w1,ZB]
  by_cases c:(n.length:Int)>600
  ·rw[if_pos c,show kL true 4=some 4 from rfl,ZB,qfh (by omega),ZB,if_pos (show 600<n.length\/600<d.length from .inl (by omega))]
   by_cases c2:ok=false\/bd=true
   ·simp only[if_pos c2];rfl
   simp only[if_neg c2];rfl
  have w2:kL (decide ((d.length:Int)>600)) 4=some (if 600<n.length\/600<d.length then 4 else 0):=by
   unfold kL
   by_cases c2:(d.length:Int)>600
   ·rw[decide_eq_true c2,if_pos rfl,if_pos (.inr (by omega))]
   rw[decide_eq_false c2,if_neg (by simp),if_neg (by omega)]
  rw[if_neg c,w2,ZB,qfh (by omega),ZB]
  by_cases c2:ok=false\/bd=true
  ·simp only[if_pos c2];rfl
  simp only[if_neg c2];rfl
 rw[B,ZB]
 simp only
 by_cases c1:ok=false\/bd=true
 ·simp only[if_pos c1];rfl
 simp only[if_neg c1]
 by_cases c2:600<n.length\/600<d.length
 ·simp only[if_pos c2];rfl
 simp only[if_neg c2]
 rw[if_neg (show¬((!decide True)=true)by decide)]
 have ho:ok=true:=by cases ok<;>simp at c1⊢
 have hbd:bd=false:=by cases bd<;>simp at c1⊢
 have a0:=(of_decide_eq_true (hf.trans ho)).1
 by_cases c3:k<m
 ·have j:Dec d/\d≠[48]/\d≠[49]:=Classical.byContradiction fun hc=>of_decide_eq_false (hg.trans hbd) ⟨c3,hc⟩
  obtain⟨r1,e1,u⟩:=qej hN (s:=n) (by rw[(qaC a0.2.1).2];exact a0.2.1) (by rw[(qaC a0.2.1).2];omega)
  obtain⟨r2,e2,h2⟩:=qej hN (s:=d) (by rw[(qaC j.1.2.1).2];exact j.1.2.1) (by rw[(qaC j.1.2.1).2];omega)
  rw[qbu a0.2.1]at u
  rw[qbu j.1.2.1]at h2
  have f1:Fit ((qL 0 n:Nat):Int) 40:=qdO (p:=600) (by have:=qeq a0 (k:=600) (by omega);omega) (by omega)
  have f2:Fit ((qL 0 d:Nat):Int) 40:=qdO (p:=600) (by have:=qeq j.1 (k:=600) (by omega);omega) (by omega)
  obtain⟨g,e3,h3⟩:=qnm hN u h2 (f1.mono (by omega)) (f2.mono (by omega))
  have eg:Int.gcd ((qL 0 n:Nat):Int) ((qL 0 d:Nat):Int)=Nat.gcd (qL 0 n) (qL 0 d):=rfl
  rw[eg]at h3
  have hgp:0<Nat.gcd (qL 0 n) (qL 0 d):=Nat.gcd_pos_of_pos_right _ (qeo j.1 j.2.1)
  have fg:Fit ((Nat.gcd (qL 0 n) (qL 0 d):Nat):Int) 40:=qbi (by
   have:=Nat.le_of_dvd (qeo j.1 j.2.1) (Nat.gcd_dvd_right (qL 0 n) (qL 0 d))
   omega) f2
  have e4:=qnd (N:=N) (by omega) h3 (Ud (z:=1) (by decide) (by decide)) (fg.mono (by omega)) (F1 (by omega))
  rw[decide_eq_true c3,if_pos rfl,e1,ZB,e2,ZB,e3,ZB,qgZ,ZB,e4,ZB,ZB]
  unfold kL
  by_cases c4:Nat.gcd (qL 0 n) (qL 0 d)=1
  ·rw[if_neg (show¬((Nat.gcd (qL 0 n) (qL 0 d):Nat):Int)<1 by omega),if_pos (show((Nat.gcd (qL 0 n) (qL 0 d):Nat):Int)=1 by omega),if_neg (show¬(k<m/\Nat.gcd (qL 0 n) (qL 0 d)≠1)from fun h=>h.2 c4)]
   rfl
  have: ¬((Nat.gcd (qL 0 n) (qL 0 d):Nat):Int)<1:=by omega
  rw[if_neg this,if_neg (show¬(((Nat.gcd (qL 0 n) (qL 0 d):Nat):Int)=1)by omega),if_pos (show k<m/\Nat.gcd (qL 0 n) (qL 0 d)≠1 from⟨c3,c4⟩)]
  rfl
 rw[decide_eq_false c3,if_neg (by simp),ZB,if_neg (by omega)]
 rfl
end Go.Av
end
section
namespace Go.Av
theorem qn2:dg E9 1=[1]:=qjq (by decide) (by decide)
theorem qqj {N:Nat} (j:100<N):xU N 1=some (rI 1):=by
 obtain⟨K,rfl⟩: ∃K,N=K+1+1:=⟨N-2,by omega⟩
 have h:jX (K+1+1) [] 1=some [1]:=by
  rw[jX,if_pos (by decide),if_neg (by decide),ZB,qbq (by simp) (by simp),ZB,show w64 ((1:Int).tdiv 1000000000)=0 from rfl,jX,if_neg (by decide)]
  rfl
 unfold xU
 rw[h,ZB,decide_eq_false (by decide),qar false (w:=[1]) (Dg.cons ⟨by decide,by decide⟩ Dg.nil) (by simp) (by simp),ZB]
 rfl
theorem qiC {N:Nat} (hN:600000<N) {s:Str} (hl:s.length<=10000) (hk:slA s<s.length) (j:(bdy (s.take (slA s))).all vz=true) (h:(bdy (s.drop (slA s+1))).all vz=true):vD N s=some (rI (qi1 (s.take (slA s))),rI (qi1 (s.drop (slA s+1)))):=by
 have u:=qfB (s.take (slA s))
 have b2:=qfB (s.drop (slA s+1))
 rw[Ym]at u
 rw[YJ]at b2
 unfold vD
 rw[qc0 (by omega) (by omega),ZB,if_neg (by omega),yB (by omega),ZB,qhs (by omega) j (by omega),ZB,zq (by omega),xS (by omega),ZB,qhs (by omega) h (by omega),ZB]
theorem qfI {N:Nat} (hN:600000<N) {s:Str} (hl:s.length<=10000):qaO N s=some (chk s):=by
 have hb:=qfB s
 have hk:=qfM (bdy s)
 have lt:((bdy s).take (slA (bdy s))).length=slA (bdy s):=by rw[Ym];omega
 have ld:((bdy s).drop (slA (bdy s)+1)).length=(bdy s).length-(slA (bdy s)+1):=by rw[YJ]
 unfold qaO
 rw[qfe,ZB,qla,ZB,qc0 (by omega) (by omega),ZB,yB hk,ZB,qhY (by omega) (by omega),ZB]
 have I:Dec ((bdy s).take (slA (bdy s)))->((idx s 0).bind fun c13=>if(c13.toNat:Int)=45 then(some ((bdy s).take (slA (bdy s)))).bind fun s15=>some (s15==[48])else some false:Option Bool)=some (sgn s&&((bdy s).take (slA (bdy s))==[48])):=by
  intro hD
  have h1:=hD.1
  have hs:=qfe s
  rw[if_pos (by omega)]at hs
  rw[xC]at hs⊢
  cases e:s[0]? with
  |none=>rw[e]at hs;cases hs
  |some c=>
   rw[e,ZB]at hs
   rw[ZB,<-Ye hs]
   by_cases c2:(c.toNat:Int)=45
   ·rw[if_pos c2,decide_eq_true c2,ZB,Bool.true_and]
   rw[if_neg c2,decide_eq_false c2,Bool.false_and]
 have S16:(if(!decide (Dec ((bdy s).take (slA (bdy s)))))=true then some true else(idx s 0).bind fun c13=>if(c13.toNat:Int)=45 then(some ((bdy s).take (slA (bdy s)))).bind fun s15=>some (s15==[48])else some false:Option Bool)=some (!okF s):=by
  unfold okF
  by_cases hD:Dec ((bdy s).take (slA (bdy s)))
  ·rw[if_neg (by simp[hD]),I hD]
   congr 1
   rw[Bool.eq_iff_iff]
   simp[hD]
  rw[if_pos (by simp[hD])]
  simp[hD]
 rw[S16,ZB]
 have S26:(if(slA (bdy s):Int)<((bdy s).length:Int)then(cut (bdy s) (w64 ((slA (bdy s):Int)+1)) ((bdy s).length:Int)).bind fun s20=>(jo N s20).bind fun r21=>if(!r21)=true then some true else(cut (bdy s) (w64 ((slA (bdy s):Int)+1)) ((bdy s).length:Int)).bind fun s23=>if(s23==[48])=true then some true else(cut (bdy s) (w64 ((slA (bdy s):Int)+1)) ((bdy s).length:Int)).bind fun s25=>some (s25==[49])else some false:Option Bool)=some (qhG s):=by
  unfold qhG
  by_cases c:slA (bdy s)<(bdy s).length
  ·rw[if_pos (by omega),zq (by omega),xS (by omega),ZB,qhY (by omega) (by omega),ZB]
   by_cases hD:Dec ((bdy s).drop (slA (bdy s)+1))
   ·rw[if_neg (by simp[hD]),ZB]
    by_cases h3:(bdy s).drop (slA (bdy s)+1)=[48]
    ·rw[if_pos (by simp[h3])]
     simp[c,h3]
    rw[if_neg (by simp[h3]),ZB]
    congr 1
    rw[Bool.eq_iff_iff]
    simp[c,h3,hD]
   rw[if_pos (by simp[hD])]
   simp[c,hD]
  rw[if_neg (by omega)]
  simp[c]
 have S30:(if(slA (bdy s):Int)>600 then some true else some (decide ((w64 ((w64 (((bdy s).length:Int)-(slA (bdy s):Int)))-1))>600)):Option Bool)=some (decide (600<((bdy s).take (slA (bdy s))).length\/600<((bdy s).drop (slA (bdy s)+1)).length)):=by
  rw[lt,ld]
  by_cases c:(slA (bdy s):Int)>600
  ·rw[if_pos c,decide_eq_true (.inl (by omega))]
  rw[if_neg c,qh (n:=((bdy s).length:Int)-(slA (bdy s):Int)) (by omega) (by omega),qh (by omega) (by omega)]
  congr 1
  exact decide_eq_decide.2 (by omega)
 unfold chk
 by_cases h1:okF s=true
 ·rw[h1,if_neg (by simp),S26,ZB]
  by_cases h2:qhG s=true
  ·rw[h2,if_pos rfl,if_pos (.inr rfl)]
  have a0:qhG s=false:=by simpa using h2
  rw[a0,if_neg (by simp),S30,ZB,if_neg (show¬(true=false\/false=true)by simp)]
  by_cases h3:600<((bdy s).take (slA (bdy s))).length\/600<((bdy s).drop (slA (bdy s)+1)).length
  ·rw[decide_eq_true h3,if_pos rfl,if_pos h3]
  rw[decide_eq_false h3,if_neg (by simp),if_neg h3]
  by_cases c:slA (bdy s)<(bdy s).length
  ·have u:=(of_decide_eq_true h1).1
   have j:Dec ((bdy s).drop (slA (bdy s)+1))/\(bdy s).drop (slA (bdy s)+1)≠[48]/\(bdy s).drop (slA (bdy s)+1)≠[49]:=Classical.byContradiction fun hc=>of_decide_eq_false a0 ⟨c,hc⟩
   have ep:=qiC hN (s:=bdy s) (by omega) c (by rw[(qaC u.2.1).2];exact u.2.1) (by rw[(qaC j.1.2.1).2];exact j.1.2.1)
   rw[qbu u.2.1,qbu j.1.2.1]at ep
   rw[if_pos (by omega),ep,ZB]
   simp only
   have v1:=qeq u (k:=600) (by omega)
   have v2:=qeq j.1 (k:=600) (by omega)
   have v3:=qeo j.1 j.2.1
   generalize qL 0 ((bdy s).take (slA (bdy s)))=n at*
   generalize qL 0 ((bdy s).drop (slA (bdy s)+1))=d at*
   have f1:jk ((n:Nat):Int) 8000:=(qi4 (p:=600) (n:=70) (by omega) (by omega)).mono (by omega)
   have f2:jk ((d:Nat):Int) 8000:=(qi4 (p:=600) (n:=70) (by omega) (by omega)).mono (by omega)
   have e1:(rI ((n:Nat):Int)).w=dg E9 ((n:Nat):Int):=by
    show dg E9 (((n:Nat):Int).natAbs:Int)=_
    rw[Int.natAbs_natCast]
   have e2:(rI ((d:Nat):Int)).w=dg E9 ((d:Nat):Int):=by
    show dg E9 (((d:Nat):Int).natAbs:Int)=_
    rw[Int.natAbs_natCast]
   have ec:=qip (N:=N) hN (a:=((n:Nat):Int)) (b:=((d:Nat):Int)) (by omega) (by omega) f1 f2
   have eg:Int.gcd ((n:Nat):Int) ((d:Nat):Int)=Nat.gcd n d:=rfl
   rw[eg]at ec
   rw[e1,e2,ec,ZB]
   have hg:0<Nat.gcd n d:=Nat.gcd_pos_of_pos_right _ v3
   have cc:=je E1 (show(0:Int)<=((Nat.gcd n d:Nat):Int)by omega)
   have vv:=vo E1 (show(0:Int)<=((Nat.gcd n d:Nat):Int)by omega)
   by_cases h4:Nat.gcd n d=1
   ·have:dg E9 ((Nat.gcd n d:Nat):Int)=[1]:=by rw[show((Nat.gcd n d:Nat):Int)=1 by omega];exact qn2
    rw[this,if_neg (by simp),xC,if_neg (fun h=>h.2 h4)]
    rfl
   rw[if_pos (show slA (bdy s)<(bdy s).length/\Nat.gcd n d≠1 from⟨c,h4⟩)]
   by_cases h5:(dg E9 ((Nat.gcd n d:Nat):Int)).length=1
   ·obtain⟨x,hx⟩:=List.length_eq_one_iff.1 h5
    rw[hx,zy,zk,Int.mul_zero,Int.add_zero]at vv
    have hx1:x≠1:=by omega
    rw[hx,if_neg (by simp),xC]
    simp only[Yj,ZB,decide_eq_false hx1]
    rfl
   rw[if_pos (by simp;omega)]
   rfl
  rw[if_neg (by omega),if_neg (by omega)]
  rfl
 have h1':okF s=false:=by simpa using h1
 rw[h1',if_pos (by simp),if_pos (.inl rfl)]
end Go.Av
end
section
namespace Go.Av
def tl (q:Rat):Str:=if q.den=1 then[]else 47::Lib.decDigits q.den
theorem qmD (q:Rat):T q=Lib.itoa q.num++tl q:=rfl
theorem no47 {s:Str} (h:s.all vz=true): ∀c∈s,c≠47:=fun c hc e=>by
 have:=Yp.1 h c hc
 rw[e]at this
 exact absurd this (by decide)
theorem qjx: ∀{s:Str},(∀c∈s,c≠47)->slA s=s.length:=fun {s} h=>(qjn s [] h).2
theorem qhM {s:Str} (h: ∀c∈s,c≠47) (q:Rat):slA (s++tl q)=s.length:=by
 unfold tl
 by_cases c:q.den=1
 ·rw[if_pos c,YQ]
  exact qjx h
 rw[if_neg c]
 exact(qjn s _ h).1
theorem qek (z:Int): ∀c∈Lib.itoa z,c≠47:=by
 by_cases h:z<0
 ·rw[yu h]
  intro c hc
  rcases List.mem_cons.1 hc with e|e
  ·rw[e];decide
  exact no47 (qa1 _) c e
 rw[zS h]
 exact no47 (qa1 _)
theorem qpC {s t:Str} (h:0<s.length):sgn (s++t)=sgn s:=by
 unfold sgn
 rw[Yf h]
theorem qoK (z:Int):0<(Lib.itoa z).length:=by
 by_cases h:z<0
 ·rw[yu h];simp
 rw[zS h];exact qhv _
theorem qjw (q:Rat):sgn (T q)=decide (q.num<0):=by rw[qmD,qpC (qoK _),qg7]
theorem qjD (q:Rat):bdy (T q)=Lib.decDigits q.num.natAbs++tl q:=by
 unfold bdy
 rw[qjw,qmD]
 by_cases h:q.num<0
 ·rw[decide_eq_true h,if_pos rfl,yu h]
  rfl
 rw[decide_eq_false h,if_neg (by simp),zS h]
theorem qiB {p q:Rat} (h:T p=T q):p=q:=by
 have u:=congrArg slA h
 have e1:slA (T p)=(Lib.itoa p.num).length:=qhM (qek _) p
 have e2:slA (T q)=(Lib.itoa q.num).length:=qhM (qek _) q
 rw[e1,e2]at u
 rw[qmD,qmD]at h
 obtain⟨h2,j⟩:=List.append_inj h u
 have n1:p.num=q.num:=by rw[<-qcG p.num,h2,qcG]
 have n2:p.den=q.den:=by
  unfold tl at j
  by_cases c:p.den=1
  ·by_cases d:q.den=1
   ·rw[c,d]
   rw[if_pos c,if_neg d]at j;cases j
  by_cases d:q.den=1
  ·rw[if_neg c,if_pos d]at j;cases j
  rw[if_neg c,if_neg d]at j
  injection j with _ j
  exact qle j
 exact Rat.ext n1 n2
theorem ql0: ∀{s:Str},slA s<s.length->s=s.take (slA s)++47::s.drop (slA s+1)
 |[],h=>by simp at h
 |c::s,h=>by
  rw[slA]at h⊢
  by_cases e:c=47
  ·rw[if_pos e,e]
   rfl
  rw[if_neg e,Yr]at h
  rw[if_neg e,List.take_succ_cons,List.drop_succ_cons,List.cons_append,<-ql0 (show slA s<s.length by omega)]
theorem qpv (s:Str):s=if sgn s=true then 45::bdy s else bdy s:=by
 unfold bdy
 cases h:sgn s with
 |false=>rw[if_neg (by simp),if_neg (by simp)]
 |true=>
  rw[if_pos rfl,if_pos rfl]
  cases s with
  |nil=>cases h
  |cons c t=>
   have e:=of_decide_eq_true h
   simp only[Yj]at e
   rw[Ye e]
   rfl
theorem qdF {s:Str} (h:chk s=0): ∃q:Rat,s=T q/\(Lib.decDigits q.num.natAbs).length<=600/\(Lib.decDigits q.den).length<=600:=by
 have hk:=qfM (bdy s)
 have lt:((bdy s).take (slA (bdy s))).length=slA (bdy s):=by rw[Ym];omega
 have hs:=qpv s
 have hsp:=@ql0 (bdy s)
 unfold chk at h
 by_cases h1:okF s=false\/qhG s=true
 ·rw[if_pos h1]at h;cases h
 rw[if_neg h1]at h
 by_cases h2:600<((bdy s).take (slA (bdy s))).length\/600<((bdy s).drop (slA (bdy s)+1)).length
 ·rw[if_pos h2]at h;cases h
 rw[if_neg h2]at h
 by_cases h3:slA (bdy s)<(bdy s).length/\Nat.gcd (qL 0 ((bdy s).take (slA (bdy s)))) (qL 0 ((bdy s).drop (slA (bdy s)+1)))≠1
 ·rw[if_pos h3]at h;cases h
 have ho:okF s=true:=by cases e:okF s with|true=>rfl|false=>exact absurd (.inl e) h1
 have hb:qhG s=false:=by cases e:qhG s with|false=>rfl|true=>exact absurd (.inr e) h1
 obtain⟨u,hng⟩:=of_decide_eq_true ho
 have en:=u.eq
 obtain⟨z,hz1,hz2⟩: ∃z:Int,z.natAbs=qL 0 ((bdy s).take (slA (bdy s)))/\(z<0↔sgn s=true):=by
  cases e:sgn s with
  |false=>exact⟨((qL 0 ((bdy s).take (slA (bdy s))):Nat):Int),by omega,by simp⟩
  |true=>
   have:=qeo u fun c=>hng ⟨e,c⟩
   exact⟨-((qL 0 ((bdy s).take (slA (bdy s))):Nat):Int),by omega,by simp;omega⟩
 have hT: ∀t:Str,bdy s=(bdy s).take (slA (bdy s))++t->s=Lib.itoa z++t:=by
  intro t ht
  rw[hs]
  by_cases c:z<0
  ·rw[if_pos (hz2.1 c),yu c,hz1,<-en,List.cons_append,<-ht]
  rw[if_neg fun e=>c (hz2.2 e),zS c,hz1,<-en,<-ht]
 by_cases c:slA (bdy s)<(bdy s).length
 ·have j:Dec ((bdy s).drop (slA (bdy s)+1))/\(bdy s).drop (slA (bdy s)+1)≠[48]/\(bdy s).drop (slA (bdy s)+1)≠[49]:=Classical.byContradiction fun hc=>of_decide_eq_false hb ⟨c,hc⟩
  have ed:=j.1.eq
  have hd0:=qeo j.1 j.2.1
  have hd1:qL 0 ((bdy s).drop (slA (bdy s)+1))≠1:=fun e=>by
   rw[e,zX (by decide)]at ed
   exact j.2.2 ed
  have hg:Nat.gcd z.natAbs (qL 0 ((bdy s).drop (slA (bdy s)+1)))=1:=by
   rw[hz1]
   exact Classical.byContradiction fun e=>h3 ⟨c,e⟩
  refine⟨⟨z,qL 0 ((bdy s).drop (slA (bdy s)+1)),by omega,hg⟩,?_,?_,?_⟩
  ·have:=hT _ (hsp c)
   unfold T
   rw[if_neg hd1]
   show s=Lib.itoa z++47::Lib.decDigits (qL 0 ((bdy s).drop (slA (bdy s)+1)))
   rw[<-ed]
   exact this
  ·show(Lib.decDigits z.natAbs).length<=600
   rw[hz1,<-en]
   omega
  show(Lib.decDigits (qL 0 ((bdy s).drop (slA (bdy s)+1)))).length<=600
  rw[<-ed]
  omega
 refine⟨(z:Rat),?_,?_,?_⟩
 ·have:=hT [] (by rw[YQ,List.take_of_length_le (by omega)])
  unfold T
  rw[Rat.den_intCast,if_pos rfl,Rat.num_intCast]
  exact this
 ·rw[Rat.num_intCast,hz1,<-en]
  omega
 rw[Rat.den_intCast,zX (by decide)]
 simp
end Go.Av
end
section
namespace Go.Av
def Sml (q:Rat) (k:Nat):Prop:=(Lib.decDigits q.num.natAbs).length<=k/\(Lib.decDigits q.den).length<=k
theorem qgl (z:Int):(Lib.itoa z).length<=(Lib.decDigits z.natAbs).length+1:=by
 by_cases h:z<0
 ·rw[yu h];simp
 rw[zS h];omega
theorem qgC (q:Rat) (h:q.den≠1):slA (T q)<(T q).length/\(T q).take (slA (T q))=Lib.itoa q.num/\(T q).drop (slA (T q)+1)=Lib.decDigits q.den:=by
 have e:slA (T q)=(Lib.itoa q.num).length:=qhM (qek _) q
 have j:T q=Lib.itoa q.num++47::Lib.decDigits q.den:=by unfold T;rw[if_neg h]
 rw[e,j]
 refine⟨by rw[Yq,Yr];omega,?_,?_⟩
 ·rw[List.take_append_of_le_length (Nat.le_refl _),List.take_of_length_le (Nat.le_refl _)]
 rw[List.drop_append,List.drop_of_length_le (by omega),show(Lib.itoa q.num).length+1-(Lib.itoa q.num).length=1 by omega]
 rfl
theorem qfo (q:Rat) (h:q.den=1):T q=Lib.itoa q.num/\slA (T q)=(T q).length:=by
 have j:T q=Lib.itoa q.num:=by unfold T;rw[if_pos h,YQ]
 refine⟨j,?_⟩
 rw[j]
 exact qjx (qek _)
theorem qbb {q:Rat} {k:Nat} (h:Sml q k):(T q).length<=2*k+2:=by
 have h1:=qgl q.num
 have j:=h.1
 have u:=h.2
 unfold T
 rw[Yq]
 split
 ·simp;omega
 rw[Yr];omega
theorem qes {N:Nat} (hN:600000<N) {q:Rat} (h:Sml q 9000): ∃f,yl N (T q)=some f/\IsF f q:=by
 have hl:=qbb h
 have h1:=h.1
 have h2:=h.2
 unfold yl
 rw[qmW (by omega),ZB]
 obtain⟨r1,e1,i1⟩:=qej hN (s:=Lib.itoa q.num) (by rw[qb3];exact qa1 _) (by rw[qb3];omega)
 rw[qcG]at i1
 by_cases c:q.den=1
 ·obtain⟨t1,t2⟩:=qfo q c
  rw[if_neg (show¬slA (T q)<(T q).length by omega)]
  obtain⟨f,e2,j⟩:=qmU i1
  rw[if_pos (by rfl),t1,e1,ZB,e2,ZB]
  refine⟨f,rfl,?_⟩
  have:(q.num:Rat)=q:=Rat.ext (by simp) (by simp[c])
  rw[this]at j
  exact j
 obtain⟨t1,t2,t3⟩:=qgC q c
 rw[if_pos t1]
 have u:=qa1 q.den
 obtain⟨r2,e2,j⟩:=qej hN (s:=Lib.decDigits q.den) (by rw[(qaC u).2];exact u) (by rw[(qaC u).2];omega)
 rw[qbu u,qbU]at j
 rw[if_neg (by simp),t2,t3,e1,ZB,e2,ZB]
 exact⟨⟨r1,r2⟩,rfl,i1,j⟩
theorem qen {N:Nat} (hN:600000<N) {q:Rat} (h:Sml q 4000):vD N (T q)=some (rI q.num,rI (q.den:Int)):=by
 have hl:=qbb h
 have h1:=h.1
 have h2:=h.2
 by_cases c:q.den=1
 ·obtain⟨u,j⟩:=qfo q c
  unfold vD
  rw[qc0 (by omega) (by omega),ZB,j,if_pos rfl,u,qhs (by omega) (by rw[qb3];exact qa1 _) (by rw[qb3];omega),ZB,qqj (by omega),ZB,qcG,c]
  rfl
 obtain⟨u,j,t3⟩:=qgC q c
 have hd:=qa1 q.den
 rw[qiC hN (by omega) u (by rw[j,qb3];exact qa1 _) (by rw[t3,(qaC hd).2];exact hd),j,t3,qcG,qbu hd,qbU]
end Go.Av
end
section
namespace Go.Av
theorem qmH {n:Nat} (h:0<n):(if((dg E9 (n:Int)).length:Int)=1 then(idx (dg E9 (n:Int)) 0).bind fun x15=>some (decide (x15=1))else some false:Option Bool)=some (decide (n=1)):=by
 have vv:=vo E1 (show(0:Int)<=(n:Int)by omega)
 by_cases h4:n=1
 ·rw[show(n:Int)=1 by omega,qn2,if_pos (by simp),xC,h4]
  rfl
 rw[decide_eq_false h4]
 by_cases h5:(dg E9 (n:Int)).length=1
 ·obtain⟨x,u⟩:=List.length_eq_one_iff.1 h5
  rw[u,zy,zk,Int.mul_zero,Int.add_zero]at vv
  have j:x≠1:=by omega
  rw[u,if_pos (by simp),xC]
  simp only[Yj,ZB,decide_eq_false j]
 rw[if_neg (by omega)]
theorem jk.abs {z:Int} {n:Nat} (h:jk z n):jk (z.natAbs:Int) n:=by
 unfold jk at h⊢
 rw[Int.natAbs_natCast]
 exact h
theorem jk.le {a b:Int} {n:Nat} (h:(a.natAbs:Int)<=(b.natAbs:Int)) (k:jk b n):jk a n:=Int.lt_of_le_of_lt h k
theorem jk.itoaLen {z:Int} {n:Nat} (h:jk z n) (hn:0<n):(Lib.itoa z).length<=9*n+1:=by
 have j:z.natAbs<10^(9*n):=by
  have h:(z.natAbs:Int)<E9^n:=h
  rw[qhQ]at h
  exact Int.ofNat_lt.1 h
 have u:=(qam (show 0<9*n by omega)).2 j
 have h4:=qgl z
 omega
theorem qlP {N:Nat} (j:60000<N) {x y:Int} (h:0<=x) (u:0<y) {B:Nat} (hB:B<=8000) (fx:jk x B):jG N (dg E9 x) (dg E9 y)=some (dg E9 (x/y),dg E9 (x%y)):=by
 have l:=fx.len
 rw[show(x.natAbs:Int)=x by omega]at l
 rw[qdh j (je E1 h) (je E1 (by omega)) (by omega) (by rw[vo E1 (by omega)];exact u),vo E1 h,vo E1 (by omega)]
theorem den_pos (q:Rat):0<q.den:=Nat.pos_of_ne_zero q.den_nz
theorem qhb {a b:Int} (h:b≠0):(b.sign*a).natAbs=a.natAbs:=by rw[Int.natAbs_mul,Int.natAbs_sign_of_ne_zero h,Nat.one_mul]
theorem qln (a b:Int):Int.gcd (a.natAbs:Int) (b.natAbs:Int)=Int.gcd b a:=by
 rw[Int.gcd_comm]
 rfl
theorem qft {N:Nat} (hN:600000<N) {B:Nat} (j:0<B) (hB:B<=8000) {a b:Int} (fa:jk a B) (u:jk b B) (hb:b≠0):vV N (rI a) (rI b)=some (T (Rat.divInt a b)):=by
 have hg:0<Int.gcd b a:=Int.gcd_pos_of_ne_zero_left _ hb
 have ea:=qhb (a:=a) hb
 have S:(if(rI b).neg=true then(y9 N (rI a)).bind fun r7=>(y9 N (rI b)).bind fun r8=>some (r7.neg,r7.w,r8.neg,r8.w)else some ((rI a).neg,(rI a).w,(rI b).neg,(rI b).w):Option (Bool×(List Int)×Bool×(List Int)))=some (decide (b.sign*a<0),dg E9 (a.natAbs:Int),false,dg E9 (b.natAbs:Int)):=by
  by_cases h:b<0
  ·rw[if_pos (show(rI b).neg=true from decide_eq_true h),qjA (by omega) (fa.mono (by omega)),ZB,qjA (by omega) (u.mono (by omega)),ZB,Int.sign_eq_neg_one_of_neg h,Int.neg_mul,Int.one_mul]
   show some (decide (-a<0),dg E9 (((-a).natAbs:Nat):Int),decide (-b<0),dg E9 (((-b).natAbs:Nat):Int))=_
   rw[decide_eq_false (show¬ -b<0 by omega),Int.natAbs_neg,Int.natAbs_neg]
  rw[if_neg (show¬(rI b).neg=true from fun c=>h (of_decide_eq_true c)),Int.sign_eq_one_of_pos (by omega),Int.one_mul]
  show some (decide (a<0),dg E9 ((a.natAbs:Nat):Int),decide (b<0),dg E9 ((b.natAbs:Nat):Int))=_
  rw[decide_eq_false h]
 have en:(Rat.divInt a b).num=b.sign*a/(Int.gcd b a:Int):=Rat.num_divInt ..
 have ed:(b.natAbs:Int)/(Int.gcd b a:Int)=((Rat.divInt a b).den:Int):=by rw[Rat.den_divInt,if_neg hb,Int.natCast_ediv]
 have hd:=den_pos (Rat.divInt a b)
 have dvd:(Int.gcd b a:Int)∣b.sign*a:=Int.dvd_mul_of_dvd_right (Int.gcd_dvd_right ..)
 have fn:jk (Rat.divInt a b).num B:=by
  rw[en]
  exact jk.le (Int.le_trans (xn _ (by omega)) (by rw[ea];exact Int.le_refl _)) fa
 have fd:jk ((Rat.divInt a b).den:Int) B:=by
  rw[<-ed]
  exact jk.le (Int.le_trans (xn _ (by omega)) (Int.le_refl _)) u.abs
 have vn:(if decide (b.sign*a<0)=true then-dv E9 (dg E9 ((a.natAbs:Int)/(Int.gcd b a:Int)))else dv E9 (dg E9 ((a.natAbs:Int)/(Int.gcd b a:Int))))=(Rat.divInt a b).num:=by
  have p0:0<=(a.natAbs:Int)/(Int.gcd b a:Int):=Int.ediv_nonneg (by omega) (by omega)
  rw[vo E1 p0,en]
  by_cases c:b.sign*a<0
  ·rw[if_pos (decide_eq_true c),show(a.natAbs:Int)= -(b.sign*a)by omega,Int.neg_ediv_of_dvd dvd,Int.neg_neg]
  rw[if_neg (fun h=>c (of_decide_eq_true h)),show(a.natAbs:Int)=b.sign*a by omega]
 unfold vV
 rw[S,ZB]
 simp only
 rw[qip hN (by omega) (by omega) (fa.abs.mono hB) (u.abs.mono hB),ZB,qln,qlP (by omega) (by omega) (by omega) hB fa.abs,ZB,qlP (by omega) (by omega) (by omega) hB u.abs,ZB]
 simp only
 have p0:0<=(a.natAbs:Int)/(Int.gcd b a:Int):=Int.ediv_nonneg (by omega) (by omega)
 have ln:(dg E9 ((a.natAbs:Int)/(Int.gcd b a:Int))).length<=B:=by
  have:=(jk.le (Int.le_trans (xn _ (by omega)) (Int.le_refl _)) fa.abs:jk ((a.natAbs:Int)/(Int.gcd b a:Int)) B).len
  rw[show(((a.natAbs:Int)/(Int.gcd b a:Int)).natAbs:Int)=(a.natAbs:Int)/(Int.gcd b a:Int)by omega]at this
  exact this
 have ld:(dg E9 ((Rat.divInt a b).den:Int)).length<=B:=by
  have:=fd.len
  rw[Int.natAbs_natCast]at this
  exact this
 rw[qar _ (je E1 p0).1 (by omega) (by omega),ZB,vn,ql7 (by omega) (fn.mono (by omega)),ZB,ed,qmH hd,ZB]
 have l1:=fn.itoaLen j
 have l2:=fd.itoaLen j
 unfold T
 by_cases c:(Rat.divInt a b).den=1
 ·rw[if_pos (decide_eq_true c),if_pos c,YQ]
 rw[if_neg (fun h=>c (of_decide_eq_true h)),if_neg c,qaY (by simp;omega),ZB,qar _ (je E1 (by omega)).1 (by omega) (by omega),ZB,if_neg (by simp),vo E1 (by omega),ql7 (by omega) (fd.mono (by omega)),ZB,qaY (by simp;omega),ZB,qel,Yz]
 rfl
theorem qpQ {a b:Int} (h:0<=a) (j:0<b):qd2 .i64 a b=some (a%b):=by
 unfold qd2
 rw[if_neg (by omega),Int.tmod_eq_emod_of_nonneg h]
theorem qpV {a b:Int} (h:0<b) (h1: -4000000000000000000<=a) (u:a<=4000000000000000000) (j:b∣a):qb2 .i64 a b=some (a/b):=by
 have:=xn a h
 unfold qb2
 rw[if_neg (by omega),Int.tdiv_eq_ediv_of_dvd j]
 show some (w64 _)=_
 rw[qh (by omega) (by omega)]
theorem qmd: ∀(k K:Nat) (a b:Int),0<=a->0<=b->b<2^k->2*k+2<=K->jQ K a b=some (Int.gcd a b:Int)
 |k,0,a,b,_,_,_,hK=>by omega
 |k,K+1,a,b,ha,hb,hk,hK=>by
  have na:(a.natAbs:Int)=a:=by omega
  have nb:(b.natAbs:Int)=b:=by omega
  rcases(show b=0\/0<b by omega)with h0|h0
  ·rw[h0,jQ,if_neg (by omega),Int.gcd_zero,na]
  match k,hk,hK with
  |0,hk,hK=>simp at hk;omega
  |k+1,hk,hK=>
   have j:=Int.emod_nonneg a (show b≠0 by omega)
   have m1:=Int.emod_lt_of_pos a h0
   rw[jQ,if_pos (by omega),qpQ ha h0,ZB,qcZ ha hb]
   match K,hK with
   |0,hK=>omega
   |K+1,hK=>
    rcases(show a%b=0\/0<a%b by omega)with g0|g0
    ·rw[g0,jQ,if_neg (by omega),Int.gcd_zero,nb]
    have n0:=Int.emod_nonneg b (show a%b≠0 by omega)
    have n1:=Int.emod_lt_of_pos b g0
    have h:b%(a%b)<2^k:=by
     have d1:=Int.mul_ediv_add_emod b (a%b)
     have u:1<=b/(a%b):=by
      rw[Int.le_ediv_iff_mul_le g0]
      omega
     have d3:a%b*1<=a%b*(b/(a%b)):=Yc u (by omega)
     rw[Int.pow_succ]at hk
     omega
    rw[jQ,if_pos (by omega),qpQ hb g0,ZB,qcZ hb j]
    exact qmd k K (a%b) (b%(a%b)) j n0 h (by omega)
theorem qo7 {N:Nat} (hN:200<N) {a b:Int} (j:0<=a) (u:0<=b) (h:b<9223372036854775808):qcY N a b=some (Int.gcd a b:Int):=by
 unfold qcY
 rw[qmd 63 N a b j u h (by omega),ZB]
theorem rabs {z:Int} (j: -9223372036854775807<=z) (h:z<=9223372036854775807):(if w64 (0-z)>z then w64 (0-z)else z)=(z.natAbs:Int):=by
 rw[qh (by omega) (by omega)]
 split<;>omega
theorem qpT {n:Nat} (h:n<=4000000000000000000):(Lib.decDigits n).length<=19:=(qam (by decide)).2 (by omega)
theorem qny {N:Nat} (hN:1000<N) {a b:Int} (a1: -4000000000000000000<=a) (a2:a<=4000000000000000000) (b1: -4000000000000000000<=b) (b2:b<=4000000000000000000) (hb:b≠0):qcQ N a b=some (T (Rat.divInt a b)):=by
 have hg:0<Int.gcd b a:=Int.gcd_pos_of_ne_zero_left _ hb
 have ea:=qhb (a:=a) hb
 have S:(if b<0 then some (w64 (0-a),w64 (0-b))else some (a,b):Option (Int×Int))=some (b.sign*a,(b.natAbs:Int)):=by
  by_cases h:b<0
  ·rw[if_pos h,qh (by omega) (by omega),qh (by omega) (by omega),Int.sign_eq_neg_one_of_neg h,show(-1:Int)*a=0-a by omega,show(b.natAbs:Int)=0-b by omega]
  rw[if_neg h,Int.sign_eq_one_of_pos (by omega),Int.one_mul,show(b.natAbs:Int)=b by omega]
 have en:(Rat.divInt a b).num=b.sign*a/(Int.gcd b a:Int):=Rat.num_divInt ..
 have ed:(b.natAbs:Int)/(Int.gcd b a:Int)=((Rat.divInt a b).den:Int):=by rw[Rat.den_divInt,if_neg hb,Int.natCast_ediv]
 have hd:=den_pos (Rat.divInt a b)
 have j:(Int.gcd b a:Int)∣b.sign*a:=Int.dvd_mul_of_dvd_right (Int.gcd_dvd_right ..)
 have u:(Int.gcd b a:Int)∣(b.natAbs:Int):=by
  rw[Int.dvd_natAbs]
  exact Int.gcd_dvd_left ..
 have n1:=xn (b.sign*a) (show(0:Int)<(Int.gcd b a:Int)by omega)
 have n2:=xn (b.natAbs:Int) (show(0:Int)<(Int.gcd b a:Int)by omega)
 rw[<-en,ea]at n1
 rw[ed,Int.natAbs_natCast,Int.natAbs_natCast]at n2
 unfold qcQ
 rw[if_neg (show¬a< -4000000000000000000 by omega),if_neg (show¬a>4000000000000000000 by omega),if_neg (show¬b< -4000000000000000000 by omega),decide_eq_false (show¬b>4000000000000000000 by omega),ZB,if_neg (by simp),S,ZB]
 simp only
 rw[rabs (by omega) (by omega),ea,qo7 (by omega) (by omega) (by omega) (by omega),ZB,qln,qpV (by omega) (by omega) (by omega) j,ZB,qpV (by omega) (by omega) (by omega) u,ZB,<-en,ed,rabs (by omega) (by omega),qhr (by omega) (by omega),qhr (by omega) (by omega)]
 generalize Rat.divInt a b=q at*
 have l1:=qpT (n:=q.num.natAbs) (by omega)
 have l2:=qpT (n:=q.den) (by omega)
 have S2:((if q.num<0 then some [45]else some []:Option Str).bind fun s17=>(some (Lib.decDigits q.num.natAbs)).bind fun r20=>(cat s17 r20).bind fun s21=>(if(q.den:Int)>1 then(cat s21 [47]).bind fun s25=>(some (Lib.decDigits q.den)).bind fun r26=>(cat s25 r26).bind fun s27=>some s27 else some s21:Option Str).bind fun s22=>some s22)=some (T q):=by
  have li:(Lib.itoa q.num).length<=20:=by have:=qgl q.num;omega
  have I:((if q.num<0 then some [45]else some []:Option Str).bind fun s17=>(some (Lib.decDigits q.num.natAbs)).bind fun r20=>(cat s17 r20).bind fun s21=>(if(q.den:Int)>1 then(cat s21 [47]).bind fun s25=>(some (Lib.decDigits q.den)).bind fun r26=>(cat s25 r26).bind fun s27=>some s27 else some s21:Option Str).bind fun s22=>some s22)=((if(q.den:Int)>1 then(cat (Lib.itoa q.num) [47]).bind fun s25=>(some (Lib.decDigits q.den)).bind fun r26=>(cat s25 r26).bind fun s27=>some s27 else some (Lib.itoa q.num):Option Str).bind fun s22=>some s22):=by
   by_cases c:q.num<0
   ·rw[if_pos c,ZB,ZB,qaY (by simp;omega),ZB,yu c]
    rfl
   rw[if_neg c,ZB,ZB,qaY (by simp;omega),ZB,zS c]
   rfl
  rw[I]
  unfold T
  by_cases c:q.den=1
  ·rw[if_neg (by omega),if_pos c,ZB,YQ]
  rw[if_pos (by omega),if_neg c,qaY (by simp;omega),ZB,ZB,qaY (by simp;omega),ZB,ZB,Yz]
  rfl
 exact S2
end Go.Av
end
section
namespace Go.Av
theorem Sml.mono {q:Rat} {m n:Nat} (h:Sml q m) (j:m<=n):Sml q n:=⟨Nat.le_trans h.1 j,Nat.le_trans h.2 j⟩
theorem qew {q:Rat} {k n:Nat} (h:Sml q k) (j:0<k) (u:k<=9*n):jk q.num n:=qi4 (p:=k) (Int.ofNat_lt.2 ((qam j).1 h.1)) u
theorem qev {q:Rat} {k n:Nat} (h:Sml q k) (j:0<k) (u:k<=9*n):jk (q.den:Int) n:=qi4 (p:=k) (by rw[Int.natAbs_natCast];exact Int.ofNat_lt.2 ((qam j).1 h.2)) u
theorem xG {q:Rat} {k n:Nat} (h:Sml q k) (j:0<k) (u:k<=19*n):xW q n:=⟨qdO (p:=k) (Int.ofNat_lt.2 ((qam j).1 h.1)) u,qdO (p:=k) (by rw[Int.natAbs_natCast];exact Int.ofNat_lt.2 ((qam j).1 h.2)) u⟩
theorem qmb {z:Int} {n:Nat} (h:jk z n) (j:0<n):(Lib.decDigits z.natAbs).length<=9*n:=by
 refine(qam (by omega)).2 ?_
 have h:(z.natAbs:Int)<E9^n:=h
 rw[qhQ]at h
 exact Int.ofNat_lt.1 h
theorem qnU {q:Rat} {n:Nat} (h1:jk q.num n) (u:jk (q.den:Int) n) (j:0<n):Sml q (9*n):=by
 have h:=qmb u j
 rw[Int.natAbs_natCast]at h
 exact⟨qmb h1 j,h⟩
theorem qjz {a b:Int} {n:Nat} (h:b≠0) (fa:jk a n) (j:jk b n):jk (Rat.divInt a b).num n/\jk ((Rat.divInt a b).den:Int) n:=by
 have u:0<Int.gcd b a:=Int.gcd_pos_of_ne_zero_left _ h
 constructor
 ·rw[Rat.num_divInt]
  exact jk.le (Int.le_trans (xn _ (by omega)) (by rw[qhb h];exact Int.le_refl _)) fa
 rw[Rat.den_divInt,if_neg h,Int.natCast_ediv]
 exact jk.le (Int.le_trans (xn _ (by omega)) (Int.le_refl _)) j.abs
theorem qaV {a b:Int} {m n:Nat} (h:jk a m) (j:jk b n):jk (a*b) (m+n):=by
 unfold jk at*
 rw[Int.natAbs_mul,Int.natCast_mul,Int.pow_add]
 have h1:(a.natAbs:Int)*(b.natAbs:Int)<=(a.natAbs:Int)*E9^n:=Yc (Int.le_of_lt j) (by omega)
 have u:(a.natAbs:Int)*E9^n<E9^m*E9^n:=YH h (pow_pos E0 n)
 omega
theorem qnQ {a b:Int} {n:Nat} (h:jk a n) (j:jk b n):jk (a+b) (n+1):=by
 unfold jk at*
 rw[Int.pow_succ]
 have u:=pow_pos E0 n
 have:((a+b).natAbs:Int)<=(a.natAbs:Int)+(b.natAbs:Int):=by omega
 unfold E9 at*
 omega
theorem qcM {q:Rat} (h:Sml q 600):qjk q=false:=by
 have u:=h.1
 have j:=h.2
 unfold qjk lng
 rw[Int.natAbs_natCast,decide_eq_false (by omega),decide_eq_false (by omega)]
 rfl
theorem qn9 (s:Str):yg s=some (if s=[48]then 0 else if sgn s=true then-1 else 1):=by
 unfold yg
 by_cases c:s=[48]
 ·rw[if_pos (by simp[c]),if_pos c]
 rw[if_neg (by simp[c]),qfe,ZB,if_neg c]
 cases sgn s<;>rfl
theorem itoa0:Lib.itoa 0=[48]:=by
 rw[zS (by decide),show(0:Int).natAbs=0 from rfl,zX (by decide)]
 rfl
theorem T0:T 0=[48]:=by
 rw[(qfo 0 rfl).1]
 exact itoa0
theorem qoE {q:Rat}:T q=[48]↔q=0:=by
 constructor
 ·intro h
  exact qiB (h.trans T0.symm)
 intro h
 rw[h]
 exact T0
theorem qfQ (q:Rat):yg (T q)=some (if q.num<0 then-1 else if q.num=0 then 0 else 1):=by
 rw[qn9,qjw]
 by_cases c:q=0
 ·rw[if_pos (qoE.2 c),c]
  rfl
 rw[if_neg (fun h=>c (qoE.1 h)),if_neg (show¬q.num=0 from fun h=>c (Rat.num_eq_zero.1 h))]
 by_cases d:q.num<0
 ·rw[decide_eq_true d,if_pos rfl,if_pos d]
 rw[decide_eq_false d,if_neg (by simp),if_neg d]
theorem qqD (q:Rat):tl (-q)=tl q:=by
 unfold tl
 rw[Rat.neg_den]
theorem qpN {N:Nat} {q:Rat} (h:(T q).length<=100000):qbT (T q)=some (T (-q)):=by
 unfold qbT
 rw[qfQ,ZB]
 have e:T (-q)=Lib.itoa (-q.num)++tl q:=by rw[qmD,qqD,Rat.neg_num]
 by_cases c:q.num<0
 ·have hs:sgn (T q)=true:=by rw[qjw];exact decide_eq_true c
  have j:(T q).drop 1=bdy (T q):=by unfold bdy;rw[if_pos hs]
  have u:=qjt hs
  rw[if_pos c,if_pos (by decide),show(1:Int)=((1:Nat):Int)from rfl,xS u,ZB,j,qjD,e,zS (by omega),Int.natAbs_neg]
 rw[if_neg c,if_neg (by split<;>decide),ZB]
 by_cases d:q.num=0
 ·rw[if_pos d,if_pos rfl,Rat.num_eq_zero.1 d]
  rfl
 rw[if_neg d,if_neg (by decide),qaY (by simp;omega),ZB,e,yu (by omega),Int.natAbs_neg,qmD,zS c]
 rfl
theorem qg4 {N:Nat} (hN:100000<N) {q:Rat} {k:Nat} (h:Sml q k) (hk:k<=9000):jU N (T q)=some (0,0,false)\/(jU N (T q)=some (q.num,(q.den:Int),true)/\q.num.natAbs<1000000000/\q.den<1000000000):=by
 have hl:=qbb h
 have hb:=qfB (T q)
 have eb:=qjD q
 have es:slA (Lib.decDigits q.num.natAbs++tl q)=(Lib.decDigits q.num.natAbs).length:=qhM (no47 (qa1 _)) q
 have u:(Lib.decDigits q.num.natAbs++tl q).length=(Lib.decDigits q.num.natAbs).length+(tl q).length:=Yq
 rw[eb]at hb
 unfold jU
 by_cases c:((T q).length:Int)>20
 ·left
  rw[if_pos c]
 rw[if_neg c,qfe,ZB,qla,ZB,eb,qc0 (by omega) (by omega),ZB,es,qjw]
 by_cases c1:(Lib.decDigits q.num.natAbs).length>9
 ·left
  rw[if_pos (by omega),ZB,if_pos rfl]
 rw[if_neg (by omega),qh (by omega) (by omega)]
 by_cases c2:(tl q).length>10
 ·left
  rw[decide_eq_true (by omega),ZB,if_pos rfl]
 right
 rw[decide_eq_false (by omega),ZB,if_neg (by simp),yB (by omega),ZB,List.take_left',qfs (by omega) (qa1 _) (by omega),ZB,qbU]
 ·have hn:q.num.natAbs<1000000000:=(qam (show 0<9 by decide)).1 (by omega)
  have sg:(if decide (q.num<0)=true then some (w64 (0-(q.num.natAbs:Int)))else some (q.num.natAbs:Int):Option Int)=some q.num:=by
   by_cases d:q.num<0
   ·rw[if_pos (decide_eq_true d),qh (by omega) (by omega)]
    congr 1
    omega
   rw[if_neg (fun h=>d (of_decide_eq_true h))]
   congr 1
   omega
  by_cases d:q.den=1
  ·have j:tl q=[]:=by unfold tl;rw[if_pos d]
   rw[j]at u
   rw[List.length_nil]at u
   rw[j,if_neg (by omega),ZB,sg,ZB,d]
   exact⟨rfl,hn,by decide⟩
  have j:tl q=47::Lib.decDigits q.den:=by unfold tl;rw[if_neg d]
  rw[j,Yr]at u c2
  have hd:q.den<1000000000:=(qam (show 0<9 by decide)).1 (by omega)
  rw[j,if_pos (by omega),zq (by omega),xS (by omega),ZB,List.drop_append,List.drop_of_length_le (by omega),show(Lib.decDigits q.num.natAbs).length+1-(Lib.decDigits q.num.natAbs).length=1 by omega,List.nil_append,List.drop_succ_cons,YR,qfs (by omega) (qa1 _) (by omega),ZB,ZB,sg,ZB,qbU]
  exact⟨rfl,hn,hd⟩
 rfl
theorem qlU {N:Nat} (hN:100000<N) {p q:Rat} {k:Nat} (hk:k<=9000) (hp:Sml p k) (hq:Sml q k) {Fq:(Int×Int×Bool)->(Int×Int×Bool)->Option Str} {h:Option Str} {t:Str}
 (h1:p.num.natAbs<1000000000->p.den<1000000000->q.num.natAbs<1000000000->q.den<1000000000->Fq (p.num,(p.den:Int),true) (q.num,(q.den:Int),true)=some t) (h2:h=some t):
 ((jU N (T p)).bind fun r1=>(jU N (T q)).bind fun r2=>(if r1.2.2=true then some r2.2.2 else some false:Option Bool).bind fun b4=>if b4=true then(Fq r1 r2).bind fun r7=>some r7 else h)=some t:=by
 rcases qg4 hN hp hk with u|⟨u,a1,a2⟩
 ·rcases qg4 hN hq hk with j|⟨j,b1,b2⟩
  ·rw[u,ZB,j,ZB]
   exact h2
  rw[u,ZB,j,ZB]
  exact h2
 rcases qg4 hN hq hk with j|⟨j,b1,b2⟩
 ·rw[u,ZB,j,ZB]
  exact h2
 rw[u,ZB,j,ZB]
 show((Fq (p.num,(p.den:Int),true) (q.num,(q.den:Int),true)).bind fun r7=>some r7)=some t
 rw[h1 a1 a2 b1 b2,ZB]
theorem qn7 {a b:Int} (j:a.natAbs<1000000000) (u:b.natAbs<1000000000): -1000000000000000000<=a*b/\a*b<=1000000000000000000:=by
 have h:(a*b).natAbs<=1000000000*1000000000:=by
  rw[Int.natAbs_mul]
  exact Nat.mul_le_mul (by omega) (by omega)
 omega
theorem qo3 {N:Nat} (hN:600000<N) {p q:Rat} {k:Nat} (h:0<k) (hk:k<=4000) (hp:Sml p k) (hq:Sml q k):qcJ N (T p) (T q)=some (T (p+q)):=by
 unfold qcJ
 obtain⟨n,hn⟩: ∃n:Nat,n=500:=⟨_,rfl⟩
 have p1:=qew (n:=n) hp h (by omega)
 have u:=qev (n:=n) hp h (by omega)
 have q1:=qew (n:=n) hq h (by omega)
 have j:=qev (n:=n) hq h (by omega)
 refine qlU (N:=N) (by omega) (show k<=9000 by omega) hp hq (fun a1 a2 b1 b2=>?_) ?_
 ·have m1:=qn7 a1 (show((q.den:Int)).natAbs<1000000000 by omega)
  have m2:=qn7 b1 (show((p.den:Int)).natAbs<1000000000 by omega)
  have m3:=qn7 (show((p.den:Int)).natAbs<1000000000 by omega) (show((q.den:Int)).natAbs<1000000000 by omega)
  have:=qeW p q
  simp only
  rw[qh (n:=p.num*(q.den:Int)) (by omega) (by omega),qh (n:=q.num*(p.den:Int)) (by omega) (by omega),qh (n:=(p.den:Int)*(q.den:Int)) (by omega) (by omega),qh (by omega) (by omega),qny (by omega) (by omega) (by omega) (by omega) (by omega) (qeW p q),<-qg1]
 rw[qen hN (hp.mono (by omega)),ZB,qen hN (hq.mono (by omega)),ZB]
 simp only
 rw[qdL (by omega) (p1.mono (by omega)) (j.mono (by omega)),ZB,qdL (by omega) (q1.mono (by omega)) (u.mono (by omega)),ZB,qo1 (by omega) ((qaV p1 j).mono (by omega)) ((qaV q1 u).mono (by omega)),ZB,qdL (by omega) (u.mono (by omega)) (j.mono (by omega)),ZB,qft hN (B:=n+n+1) (by omega) (by omega) (qnQ (qaV p1 j) (qaV q1 u)) ((qaV u j).mono (by omega)) (qeW p q),ZB,<-qg1]
theorem qi3 {N:Nat} (hN:600000<N) {p q:Rat} {k:Nat} (h:0<k) (hk:k<=4000) (u:Sml p k) (j:Sml q k):qbg N (T p) (T q)=some (T (p*q)):=by
 unfold qbg
 obtain⟨n,hn⟩: ∃n:Nat,n=500:=⟨_,rfl⟩
 have p1:=qew (n:=n) u h (by omega)
 have p2:=qev (n:=n) u h (by omega)
 have q1:=qew (n:=n) j h (by omega)
 have q2:=qev (n:=n) j h (by omega)
 refine qlU (N:=N) (by omega) (show k<=9000 by omega) u j (fun a1 a2 b1 b2=>?_) ?_
 ·have m1:=qn7 a1 b1
  have m3:=qn7 (show((p.den:Int)).natAbs<1000000000 by omega) (show((q.den:Int)).natAbs<1000000000 by omega)
  simp only
  rw[qh (n:=p.num*q.num) (by omega) (by omega),qh (n:=(p.den:Int)*(q.den:Int)) (by omega) (by omega),qny (by omega) (by omega) (by omega) (by omega) (by omega) (qeW p q),<-qdi]
 rw[qen hN (u.mono (by omega)),ZB,qen hN (j.mono (by omega)),ZB]
 simp only
 rw[qdL (by omega) (p1.mono (by omega)) (q1.mono (by omega)),ZB,qdL (by omega) (p2.mono (by omega)) (q2.mono (by omega)),ZB,qft hN (B:=n+n) (by omega) (by omega) (qaV p1 q1) (qaV p2 q2) (qeW p q),ZB,<-qdi]
theorem qcr {p q:Rat} {n:Nat} (hn:0<n) (j:Sml p (9*n)) (h:Sml q (9*n)):Sml (p*q) (9*(n+n)):=by
 have p1:=qew (n:=n) j (by omega) (by omega)
 have p2:=qev (n:=n) j (by omega) (by omega)
 have q1:=qew (n:=n) h (by omega) (by omega)
 have q2:=qev (n:=n) h (by omega) (by omega)
 rw[qdi]
 obtain⟨f1,u⟩:=qjz (qeW p q) (qaV p1 q1) (qaV p2 q2)
 exact qnU f1 u (by omega)
theorem qpn {p:Rat} {k:Nat} (h:Sml p k):Sml (-p) k:=by
 unfold Sml
 rw[Rat.neg_num,Rat.neg_den,Int.natAbs_neg]
 exact h
theorem qiZ {p:Rat} {k:Nat} (h:Sml p k) (u:p≠0):Sml p⁻¹ k:=by
 have j:p.num≠0:=fun c=>u (Rat.num_eq_zero.1 c)
 unfold Sml
 rw[Rat.num_inv,Rat.den_inv,if_neg j,Int.natAbs_mul,Int.natAbs_sign_of_ne_zero j,Nat.one_mul,Int.natAbs_natCast]
 exact⟨h.2,h.1⟩
theorem qpF {N:Nat} (u:600000<N) {p q:Rat} {k:Nat} (h:0<k) (hk:k<=4000) (hp:Sml p k) (j:Sml q k):qcO N (T p) (T q)=some (T (p-q)):=by
 have hl:=qbb j
 unfold qcO
 rw[qpN (N:=N) (by omega),ZB,qo3 u h hk hp (qpn j),ZB,Rat.sub_eq_add_neg]
theorem qex {N:Nat} (hN:600000<N) {p q:Rat} {k:Nat} (j:0<k) (hk:k<=4000) (hp:Sml p k) (u:Sml q k):vT N (T p) (T q)=some (if p<q then-1 else if p=q then 0 else 1):=by
 unfold vT
 rw[qpF hN j hk hp u,ZB,qfQ,ZB]
 have a1:((p-q).num<0)=(p<q):=by
  apply propext
  rw[<-Rat.not_le,Rat.le_iff_sub_nonneg q p,<-Rat.num_nonneg]
  omega
 have a2:((p-q).num=0)=(p=q):=by
  apply propext
  rw[Rat.num_eq_zero]
  constructor
  ·intro h
   have:p-q+q=p:=Rat.sub_add_cancel
   rw[h,Rat.zero_add]at this
   exact this.symm
  intro h
  rw[h,Rat.sub_self]
 simp only[a1,a2]
end Go.Av
end
section
namespace Go.Av
theorem qmi {N:Nat} (h:600000<N) {a b:Str} (j:a.length<=10000) (u:b.length<=10000):xD N [a,b]=some (if chk a=0 then chk b else chk a):=by
 have e1:=qii h j
 have e2:=qii h u
 unfold xD
 obtain⟨K,hK⟩: ∃K,N=K+1+1+1:=⟨N-3,by omega⟩
 have L:qP N [a,b] (K+1+1+1) 0=some (if chk a=0 then(if chk b=0 then .inl ()else .inr (chk b))else .inr (chk a)):=by
  rw[qP,if_pos (by simp),xC]
  simp only[Yj,ZB]
  rw[e1,ZB]
  by_cases c:chk a=0
  ·rw[if_neg (by simp[c]),if_pos c,show w64 (0+1)=((1:Nat):Int)from rfl,qP,if_pos (by simp),qy]
   simp only[YK,Yj,ZB]
   rw[e2,ZB]
   by_cases d:chk b=0
   ·rw[if_neg (by simp[d]),if_pos d,show w64 (((1:Nat):Int)+1)=2 from rfl,qP,if_neg (by simp)]
   rw[if_pos (by simp[d]),if_neg d]
  rw[if_pos (by simp[c]),if_neg c]
 rw[show qP N [a,b] N 0=qP N [a,b] (K+1+1+1) 0 by rw[<-hK],L,ZB]
 by_cases c:chk a=0
 ·by_cases d:chk b=0
  ·rw[if_pos c,if_pos d,if_pos c,d]
  rw[if_pos c,if_neg d,if_pos c]
 rw[if_neg c,if_neg c]
def res (q:Rat):Str×Int:=if qjk q=true then([],4)else(T q,0)
section ops
variable {N:Nat} (hN:600000<N)
include hN
variable {p q:Rat} (hp:Sml p 600) (hq:Sml q 600) (cp:chk (T p)=0) (cq:chk (T q)=0)
include hp hq cp cq
end ops
end Go.Av
end
