/-
  The reference's digits to the base 10^9: zeros off the end, comparison, sums, differences, products, division by a digit.
-/
import Derived.Test.YtbjpmhdicbgjkaaGreatDoorNuPa
noncomputable section
set_option linter.unusedVariables false
set_option linter.unusedSimpArgs false
set_option maxRecDepth 100000
section
namespace Go.Av
abbrev E9:Int:=1000000000
theorem E1:(1:Int)<E9:=by decide
theorem E0:(0:Int)<E9:=by decide
theorem qlb {w:List Int} (u:w.length<=100000): ∀(K m:Nat),m<=w.length->m<K->(∀(i:Nat) x,m<=i->w[i]? =some x->x=0)->
 ∃m':Nat,yR K (w.take m)=some (w.take m')/\m'<=w.length/\(∀x,0<m'->w[m'-1]? =some x->x≠0)/\ ∀(i:Nat) x,m'<=i->w[i]? =some x->x=0
 |0,m,h,hK,_=>by omega
 |K+1,m,h,hK,hz=>by
  have el:(w.take m).length=m:=by rw[Ym];omega
  rw[yR,el]
  by_cases h0:0<m
  ·have d:m-1<w.length:=by omega
   have e1:(w.take m)[m-1]? =some w[m-1]:=by rw[Yt,if_pos (by omega),Ya d]
   rw[if_pos (by omega),qjS (by omega) h0,qA,e1,ZB,ZB]
   by_cases c:w[m-1]=0
   ·rw[decide_eq_true c,if_pos rfl,xq (by omega),ZB,List.take_take,Nat.min_eq_left (by omega)]
    refine qlb u K (m-1) (by omega) (by omega) fun i x hi hx=>?_
    rcases Nat.lt_or_ge i m with j|j
    ·have e:i=m-1:=by omega
     subst e
     rw[Ya d]at hx
     rw[<-Ye hx]
     exact c
    exact hz i x j hx
   rw[decide_eq_false c,if_neg (by simp)]
   refine⟨m,rfl,h,fun x _ hx=>?_,hz⟩
   rw[Ya d]at hx
   rw[<-Ye hx]
   exact c
  rw[if_neg (by omega),ZB,if_neg (by simp)]
  exact⟨m,rfl,h,fun x j=>by omega,hz⟩
theorem qcE {N:Nat} {w:List Int} (u:Dg E9 w) (d:w.length<=100000) (hN:w.length<N):yx N w=some (dg E9 (dv E9 w)):=by
 unfold yx
 obtain⟨m,e,h,j,h3⟩:=qlb d N w.length (Nat.le_refl _) hN (fun i x hi hx=>by rw[Yg hi]at hx;cases hx)
 rw[List.take_of_length_le (Nat.le_refl _)]at e
 rw[e,ZB,ql7 E1 u h j h3]
def rI (z:Int):qC:=⟨decide (z<0),dg E9 z.natAbs⟩
theorem yl {N:Nat} (d:Bool) {w:List Int} (h:Dg E9 w) (u:w.length<=100000) (hN:w.length<N):zy N d w=some (rI (if d=true then-dv E9 w else dv E9 w)):=by
 have h0:=qD E0 h
 have j:=qh4 E1 h0
 unfold zy
 rw[qcE h u hN,ZB]
 have hlen:0<(dg E9 (dv E9 w)).length↔0<dv E9 w:=by
  rw[List.length_pos_iff]
  constructor
  ·intro c
   have:dv E9 w≠0:=fun e=>c (j.2 e)
   omega
  intro c e
  have:=j.1 e
  omega
 cases d with
 |true=>
  rw[if_pos rfl,if_pos rfl,ZB]
  unfold rI
  rw[Int.natAbs_neg,show(dv E9 w).natAbs=dv E9 w by omega]
  congr 2
  exact decide_eq_decide.2 (by omega)
 |false=>
  rw[if_neg (by simp),if_neg (by simp),ZB]
  unfold rI
  rw[show((dv E9 w).natAbs:Int)=dv E9 w by omega,decide_eq_false (by omega)]
theorem qcN {a b:List Int} (j:Can E9 a) (d:Can E9 b) (h:a.length<b.length):dv E9 a<dv E9 b:=by
 obtain⟨n,hn⟩: ∃n,b.length=n+1:=⟨b.length-1,by omega⟩
 have u:=yY E0 j.1
 have h2:=d.low E1 hn
 have h3:=yL (show(1:Int)<=E9 by decide) (show a.length<=n by omega)
 omega
theorem qmQ {a b:List Int} (ha:Dg E9 a) (hl:a.length=b.length) (hb:Dg E9 b) {k:Nat} (hk:k<a.length) (j:a.drop (k+1)=b.drop (k+1)) (h:a[k]<b[k]'(by omega)):dv E9 a<dv E9 b:=by
 have d:=xh E9 a (k+1) (by omega)
 have u:=xh E9 b (k+1) (by omega)
 rw[qx E9 a k hk]at d
 rw[qx E9 b k (by omega)]at u
 have l1:=yY E0 (ha.take k)
 have l2:=qD E0 (hb.take k)
 rw[Ym,Nat.min_eq_left (by omega)]at l1
 have l3:E9^k*(a[k]+1)<=E9^k*b[k]:=Yc (by omega) (Int.le_of_lt (pow_pos E0 k))
 rw[Int.mul_add,Int.mul_one]at l3
 rw[j]at d
 omega
theorem qms {a b:List Int} (ha:Dg E9 a) (hb:Dg E9 b) (hl:a.length=b.length) (hal:a.length<=100000): ∀(K k:Nat),k<=a.length->k<K->a.drop k=b.drop k->
 kg a b K ((k:Int)-1)=some (if dv E9 a<dv E9 b then .inr (-1)else if dv E9 a=dv E9 b then .inl ()else .inr 1)
 |0,k,h,hK,_=>by omega
 |K+1,0,h,hK,he=>by
  rw[YR,YR]at he
  rw[kg,if_neg (by omega),he,if_neg (by omega),if_pos rfl]
 |K+1,k+1,h,hK,he=>by
  have u:k<a.length:=by omega
  have j:k<b.length:=by omega
  have ek:((k+1:Nat):Int)-1=(k:Int):=by omega
  rw[ek,kg,if_pos (by omega),qA,Ya u,ZB,qA,Ya j,ZB]
  by_cases d:a[k]<b[k]
  ·rw[if_pos d,if_pos (qmQ ha hl hb u he d)]
  rw[if_neg d]
  by_cases c:a[k]>b[k]
  ·have:=qmQ hb hl.symm ha j he.symm c
   rw[if_pos c,if_neg (by omega),if_neg (by omega)]
  rw[if_neg c,qh (by omega) (by omega)]
  refine qms ha hb hl hal K k (by omega) (by omega) ?_
  rw[YG u,YG j,show a[k]=b[k]by omega,he]
theorem qdn {N:Nat} {a b:List Int} (u:Can E9 a) (j:Can E9 b) (a0:a.length<=10000) (hN:a.length+1<N):jw N a b=some (if dv E9 a<dv E9 b then-1 else if dv E9 a=dv E9 b then 0 else 1):=by
 unfold jw
 by_cases h:a.length=b.length
 ·have e:=qms u.1 j.1 h (by omega) N a.length (Nat.le_refl _) (by omega) (by rw[List.drop_of_length_le (Nat.le_refl _),List.drop_of_length_le (by omega)])
  rw[if_neg (by simp[h]),qh (by omega) (by omega),e,ZB]
  by_cases c:dv E9 a<dv E9 b
  ·rw[if_pos c,if_pos c]
  rw[if_neg c,if_neg c]
  by_cases d:dv E9 a=dv E9 b
  ·rw[if_pos d,if_pos d]
  rw[if_neg d,if_neg d]
 rw[if_pos (by simp;omega)]
 by_cases c:a.length<b.length
 ·rw[if_pos (by omega),if_pos (qcN u j c)]
 have:=qcN j u (by omega)
 rw[if_neg (by omega),if_neg (by omega),if_neg (by omega)]
theorem qhk {l:List Int} {k:Nat}:dv E9 (l.take (k+1))=dv E9 (l.take k)+E9^k*((l[k]?).getD 0):=by
 by_cases h:k<l.length
 ·rw[qx E9 l k h,Ya h]
  rfl
 rw[List.take_of_length_le (by omega),List.take_of_length_le (by omega),Yg (by omega)]
 simp
theorem qjE {l:List Int} (h:Dg E9 l) (k:Nat):0<=(l[k]?).getD 0/\(l[k]?).getD 0<1000000000:=by
 by_cases hk:k<l.length
 ·rw[Ya hk]
  exact h.at hk
 rw[Yg (by omega)]
 exact⟨Int.le_refl _,by decide⟩
theorem digit_eq (l:List Int) (k:Nat):qal l (k:Int)=some ((l[k]?).getD 0):=by
 unfold qal
 by_cases h:k<l.length
 ·rw[if_pos (by omega),qA,Ya h]
  rfl
 rw[if_neg (by omega),Yg (by omega)]
 rfl
theorem qeR (l:List Int) (x:Int):dv E9 (l++[x])=dv E9 l+E9^l.length*x:=by rw[xm,zw,kV,Int.mul_zero,Int.add_zero]
theorem qmo {a b:List Int} (ha:Dg E9 a) (hb:Dg E9 b) (u:a.length<=10000) (a0:b.length<=10000): ∀(K k:Nat) (l:List Int) (c:Int),10002<K+k->k<=10001->l.length=k->Dg E9 l->0<=c->c<=1->(c=1->k<=a.length\/k<=b.length)->dv E9 l+E9^k*c=dv E9 (a.take k)+dv E9 (b.take k)->
 ∃l',zG a b K l c (k:Int)=some l'/\Dg E9 l'/\l'.length<=10002/\dv E9 l'=dv E9 a+dv E9 b
 |0,k,l,c,hK,hk,_,_,_,_,_,_=>by omega
 |K+1,k,l,c,hK,hk,hl,hd,c0,c1,hc,e=>by
  rw[zG]
  have d:(if(k:Int)<(a.length:Int)then some true else if(k:Int)<(b.length:Int)then some true else some (decide (c>0)):Option Bool)=some (decide (k<a.length\/k<b.length\/0<c)):=by
   by_cases h1:k<a.length
   ·rw[if_pos (by omega),decide_eq_true (.inl h1)]
   rw[if_neg (by omega)]
   by_cases h2:k<b.length
   ·rw[if_pos (by omega),decide_eq_true (.inr (.inl h2))]
   rw[if_neg (by omega)]
   congr 1
   exact decide_eq_decide.2 (by omega)
  rw[d,ZB]
  by_cases h:k<a.length\/k<b.length\/0<c
  ·have xa:=qjE ha k
   have xb:=qjE hb k
   rw[decide_eq_true h,if_pos rfl,digit_eq,ZB,digit_eq,ZB]
   generalize hx:(a[k]?).getD 0=x at*
   generalize hy:(b[k]?).getD 0=y at*
   rw[qh (n:=x+y) (by omega) (by omega),qh (n:=x+y+c) (by omega) (by omega),Int.tmod_eq_emod_of_nonneg (by omega),YF (by omega),qc7 (by simp;omega) (by simp;omega),ZB,qh (by omega) (by omega),zn (by omega)]
   have hs:=Int.mul_ediv_add_emod (x+y+c) 1000000000
   have m0:=Int.emod_nonneg (x+y+c) (show(1000000000:Int)≠0 by decide)
   have m1:=Int.emod_lt_of_pos (x+y+c) (show(0:Int)<1000000000 by decide)
   have hk2:k<=10000:=by
    rcases h with h|h|h
    ·omega
    ·omega
    rcases hc (by omega)with h|h<;>omega
   refine qmo ha hb u a0 K (k+1) _ _ (by omega) (by omega) (by simp[hl]) (hd.append (Dg.cons ⟨m0,m1⟩ Dg.nil)) (by omega) (by omega) (fun hq=>?_) ?_
   ·rcases Nat.lt_or_ge k a.length with g|g
    ·exact .inl g
    rcases Nat.lt_or_ge k b.length with g2|g2
    ·exact .inr g2
    rw[Yg g]at hx
    rw[Yg g2]at hy
    simp only[Option.getD_none]at hx hy
    omega
   rw[qeR,hl,qhk,qhk,hx,hy,Int.pow_succ,Int.mul_assoc]
   have e2:E9^k*(x+y+c)=E9^k*(E9*((x+y+c)/1000000000))+E9^k*((x+y+c)%1000000000):=by rw[<-Int.mul_add];exact congrArg (E9^k* ·) hs.symm
   rw[Int.mul_add,Int.mul_add]at e2
   omega
  have j:c=0:=by omega
  rw[decide_eq_false h,if_neg (by simp)]
  rw[List.take_of_length_le (by omega),List.take_of_length_le (by omega),j,Int.mul_zero,Int.add_zero]at e
  exact⟨l,rfl,hd,by omega,e⟩
theorem qfu {N:Nat} {a b:List Int} (ha:Dg E9 a) (u:Dg E9 b) (h:a.length<=10000) (d:b.length<=10000) (hN:11000<N): ∃l,yF N a b=some l/\Dg E9 l/\l.length<=10002/\dv E9 l=dv E9 a+dv E9 b:=by
 unfold yF
 obtain⟨l,e,j,h2,h3⟩:=qmo ha u h d N 0 [] 0 (by omega) (by omega) rfl Dg.nil (by omega) (by omega) (by omega) (by simp[dv])
 have e:zG a b N [] 0 0=some l:=e
 rw[e,ZB]
 exact⟨l,rfl,j,h2,h3⟩
theorem qmD {a b:List Int} (ha:Dg E9 a) (hb:Dg E9 b) (a0:a.length<=10000) (u:b.length<=a.length): ∀(K k:Nat) (l:List Int) (c:Int),k<=a.length->a.length<K+k->l.length=k->Dg E9 l->0<=c->c<=1->dv E9 l+dv E9 (b.take k)=dv E9 (a.take k)+E9^k*c->
 ∃l' c',kL a b K l c (k:Int)=some l'/\Dg E9 l'/\l'.length=a.length/\0<=c'/\c'<=1/\dv E9 l'+dv E9 b=dv E9 a+E9^a.length*c'
 |0,k,l,c,h,hK,_,_,_,_,_=>by omega
 |K+1,k,l,c,h,hK,hl,hd,c0,c1,e=>by
  rw[kL]
  by_cases hk:k<a.length
  ·have xa:=ha.at hk
   have xb:=qjE hb k
   have xa2:a[k]<1000000000:=xa.2
   rw[if_pos (by omega),qA,Ya hk,ZB,digit_eq,ZB]
   generalize hy:(b[k]?).getD 0=y at*
   rw[qh (n:=a[k]-y) (by omega) (by omega),qh (n:=a[k]-y-c) (by omega) (by omega)]
   have j: ∀(s d:Int),(0<=s/\s<1000000000)->(0<=d/\d<=1)->s=a[k]-y-c+1000000000*d-> ∃l' c',kL a b K (l++[s]) d ((k+1:Nat):Int)=some l'/\Dg E9 l'/\l'.length=a.length/\0<=c'/\c'<=1/\dv E9 l'+dv E9 b=dv E9 a+E9^a.length*c':=by
    intro s d hs hd2 es
    refine qmD ha hb a0 u K (k+1) _ _ (by omega) (by omega) (by simp[hl]) (hd.append (Dg.cons hs Dg.nil)) hd2.1 hd2.2 ?_
    rw[qeR,hl,qhk,qx E9 a k hk,hy,Int.pow_succ,Int.mul_assoc,es]
    have e2:E9^k*(a[k]-y-c+1000000000*d)=E9^k*a[k]-E9^k*y-E9^k*c+E9^k*(E9*d):=by rw[Int.mul_add,Int.mul_sub,Int.mul_sub]
    omega
   by_cases c2:a[k]-y-c<0
   ·rw[if_pos c2,qh (by omega) (by omega),ZB]
    simp only
    rw[qc7 (by simp;omega) (by simp;omega),ZB,zn (by omega)]
    exact j _ 1 (by omega) (by omega) (by omega)
   rw[if_neg c2,ZB]
   simp only
   rw[qc7 (by simp;omega) (by simp;omega),ZB,zn (by omega)]
   exact j _ 0 (by omega) (by omega) (by omega)
  rw[if_neg (by omega)]
  have ek:k=a.length:=by omega
  subst ek
  rw[List.take_of_length_le (Nat.le_refl _),List.take_of_length_le u]at e
  exact⟨l,c,rfl,hd,hl,c0,c1,e⟩
theorem qfI {N:Nat} {a b:List Int} (ha:Can E9 a) (u:Can E9 b) (d:a.length<=10000) (hN:a.length+2<N) (h:dv E9 b<=dv E9 a):yE N a b=some (dg E9 (dv E9 a-dv E9 b)):=by
 have j:b.length<=a.length:=by
  rcases Nat.lt_or_ge a.length b.length with c|c
  ·have:=qcN ha u c;omega
  exact c
 unfold yE
 obtain⟨l,c,e,h1,h2,h4,h5,h6⟩:=qmD ha.1 u.1 d j N 0 [] 0 (by omega) (by omega) rfl Dg.nil (by omega) (by omega) (by simp[dv])
 have e:kL a b N [] 0 0=some l:=e
 have l1:=yY E0 h1
 rw[h2]at l1
 have hp:=pow_pos E0 a.length
 have hc:c=0:=by
  rcases(show c=0\/c=1 by omega)with c|c
  ·exact c
  subst c;omega
 rw[e,ZB,qcE h1 (by omega) (by omega),ZB]
 subst hc
 rw[show dv E9 l=dv E9 a-dv E9 b by omega]
theorem qqb {l:List Int} {k:Nat} {v:Int} (d:k<l.length) (h: ∀(i:Nat) x,k<=i->l[i]? =some x->x=0):dv E9 (l.set k v)=dv E9 l+E9^k*v:=by
 rw[qaX E9 l k v d,h k l[k] (Nat.le_refl _) (Ya d),Int.sub_zero]
theorem qhJ {n:Nat}: ∀(m:Nat) z,(List.replicate n (0:Int))[m]? =some z->z=0:=fun m z hz=>by
 rw[List.getElem?_replicate]at hz
 split at hz
 ·exact(Ye hz).symm
 cases hz
theorem qmp {a b:List Int} (ha:Dg E9 a) (hb:Dg E9 b) (hbl:b.length<=10000) {i:Nat} (hi:i<a.length) (hal:a.length<=10000): ∀(K j:Nat) (l:List Int) (c:Int),j<=b.length->b.length<K+j->i+b.length<=l.length->Dg E9 l->0<=c->c<1000000000->
 ∃u c',zD a b (i:Int) K l c (j:Int)=some (u,c')/\u.length=l.length/\Dg E9 u/\(∀m,i+b.length<=m->u[m]? =l[m]?)/\0<=c'/\c'<1000000000/\dv E9 u+E9^(i+b.length)*c'+E9^i*(a[i]*dv E9 (b.take j))=dv E9 l+E9^(i+j)*c+E9^i*(a[i]*dv E9 b)
 |0,j,l,c,h,hK,_,_,_,_=>by omega
 |K+1,j,l,c,h,hK,hl,hd,c0,c1=>by
  rw[zD]
  by_cases hj:j<b.length
  ·have xa:=ha.at hi
   have xb:=hb.at hj
   have d:i+j<l.length:=by omega
   have xl:=hd.at d
   have a2:a[i]<1000000000:=xa.2
   have b2:b[j]<1000000000:=xb.2
   have l2:l[i+j]<1000000000:=xl.2
   rw[if_pos (by omega),show(i:Int)+(j:Int)=((i+j:Nat):Int)by omega,qh (n:=((i+j:Nat):Int)) (by omega) (by omega),qA,Ya d,ZB,qA,Ya hi,ZB,qA,Ya hj,ZB]
   have hp0:0<=a[i]*b[j]:=Yv xa.1 xb.1
   have hp1:a[i]*b[j]<=999999999*999999999:=Int.mul_le_mul (by omega) (by omega) xb.1 (by omega)
   generalize hp:a[i]*b[j]=p at*
   rw[qh (n:=p) (by omega) (by omega),qh (n:=l[i+j]+p) (by omega) (by omega),qh (n:=l[i+j]+p+c) (by omega) (by omega),Int.tmod_eq_emod_of_nonneg (by omega),YF (by omega),yN d,ZB,zn (by omega),qh (by omega) (by omega)]
   have hs:=Int.mul_ediv_add_emod (l[i+j]+p+c) 1000000000
   have m0:=Int.emod_nonneg (l[i+j]+p+c) (show(1000000000:Int)≠0 by decide)
   have m1:=Int.emod_lt_of_pos (l[i+j]+p+c) (show(0:Int)<1000000000 by decide)
   obtain⟨u,c',e1,e2,e3,e4,e5,e6,e7⟩:=qmp ha hb hbl hi hal K (j+1) (l.set (i+j) ((l[i+j]+p+c)%1000000000)) ((l[i+j]+p+c)/1000000000) (by omega) (by omega) (by rw[Yk];exact hl) (hd.set ⟨m0,m1⟩) (by omega) (by omega)
   refine⟨u,c',e1,by rw[e2,Yk],e3,fun m hm=>by rw[e4 m hm,Yw (by omega)],e5,e6,?_⟩
   rw[qaX E9 l (i+j) _ d,qx E9 b j hj,<-Nat.add_assoc,Int.pow_succ]at e7
   rw[Int.mul_add a[i],<-Int.mul_assoc a[i],Int.mul_comm a[i] (E9^j),Int.mul_assoc (E9^j),hp,Int.mul_add (E9^i),<-Int.mul_assoc (E9^i) (E9^j),<-Int.pow_add]at e7
   have e8:E9^(i+j)*(l[i+j]+p+c)=E9^(i+j)*(E9*((l[i+j]+p+c)/1000000000))+E9^(i+j)*((l[i+j]+p+c)%1000000000):=by rw[<-Int.mul_add];exact congrArg (E9^(i+j)* ·) hs.symm
   rw[Int.mul_assoc (E9^(i+j))]at e7
   rw[Int.mul_add,Int.mul_add]at e8
   rw[Int.mul_sub]at e7
   omega
  rw[if_neg (by omega)]
  have ej:j=b.length:=by omega
  subst ej
  rw[List.take_of_length_le (Nat.le_refl _)]
  exact⟨l,c,rfl,rfl,hd,fun _ _=>rfl,c0,c1,rfl⟩
theorem qmq {N:Nat} {a b:List Int} (ha:Dg E9 a) (hb:Dg E9 b) (a0:a.length<=10000) (u:b.length<=10000) (hN:b.length<N): ∀(K i:Nat) (l:List Int),i<=a.length->a.length<K+i->l.length=a.length+b.length->Dg E9 l->(∀(m:Nat) z,i+b.length<=m->l[m]? =some z->z=0)->dv E9 l=dv E9 (a.take i)*dv E9 b->
 ∃l',zF N a b K l (i:Int)=some l'/\l'.length=a.length+b.length/\Dg E9 l'/\dv E9 l'=dv E9 a*dv E9 b
 |0,i,l,h,hK,_,_,_,_=>by omega
 |K+1,i,l,h,hK,hl,hd,hz,e=>by
  rw[zF]
  by_cases hi:i<a.length
  ·obtain⟨l1,c,e1,e2,e3,e4,e5,e6,e7⟩:=qmp ha hb u hi a0 N 0 l 0 (by omega) (by omega) (by omega) hd (by omega) (by decide)
   have e1:zD a b (i:Int) N l 0 0=some (l1,c):=e1
   have d:i+b.length<l1.length:=by omega
   have j: ∀(m:Nat) z,i+b.length<=m->l1[m]? =some z->z=0:=fun m z hm hx=>hz m z hm (by rw[<-e4 m hm];exact hx)
   have h0:l1[i+b.length]=0:=j _ _ (Nat.le_refl _) (Ya d)
   rw[if_pos (by omega),e1,ZB]
   simp only
   rw[show(i:Int)+(b.length:Int)=((i+b.length:Nat):Int)by omega,qh (by omega) (by omega),qA,Ya d,ZB,yN d,ZB,h0,Int.zero_add,qh (n:=c) (by omega) (by omega),zn (by omega)]
   refine qmq ha hb a0 u hN K (i+1) _ (by omega) (by omega) (by rw[Yk,e2,hl]) (e3.set ⟨e5,e6⟩) (fun m z hm hx=>qgb j m z (by omega) hx) ?_
   rw[qqb d j,qx E9 a i hi,Int.add_mul,<-e,Int.mul_assoc]
   rw[List.take_zero,kV,Int.mul_zero,Int.mul_zero]at e7
   omega
  rw[if_neg (by omega)]
  have ei:i=a.length:=by omega
  subst ei
  rw[List.take_of_length_le (Nat.le_refl _)]at e
  exact⟨l,rfl,hl,hd,e⟩
theorem qdK {N:Nat} {a b:List Int} (ha:Dg E9 a) (u:Dg E9 b) (j:a.length<=10000) (d:b.length<=10000) (hN:a.length+b.length<N):vP N a b=some (dg E9 (dv E9 a*dv E9 b)):=by
 unfold vP
 rw[show(a.length:Int)+(b.length:Int)=((a.length+b.length:Nat):Int)by omega,qh (by omega) (by omega),qba (by omega),ZB]
 obtain⟨l,e,h1,h2,h3⟩:=qmq ha u j d (N:=N) (by omega) N 0 (List.replicate (a.length+b.length) 0) (by omega) (by omega) (by simp) (Uj E0 _) (fun m z _ h=>qhJ m z h) (by rw[xR];simp[dv])
 have e:zF N a b N (List.replicate (a.length+b.length) 0) 0=some l:=e
 rw[e,ZB,qcE h2 (by omega) (by omega),ZB,h3]
theorem qis (l:List Int) {i:Nat} (h:i<l.length):dv E9 (l.drop i)=l[i]+E9*dv E9 (l.drop (i+1)):=by
 rw[YG h,zw]
theorem qkk {l:List Int} {k:Nat} {v:Int} (d:k<l.length) (h: ∀(i:Nat) x,i<=k->l[i]? =some x->x=0):dv E9 (l.set k v)=dv E9 l+E9^k*v:=by
 rw[qaX E9 l k v d,h k l[k] (Nat.le_refl _) (Ya d),Int.sub_zero]
theorem qmC {a:List Int} (ha:Dg E9 a) (hal:a.length<=20000) {d:Int} (d0:0<d) (d1:d<1000000000): ∀(K i:Nat) (l:List Int) (r:Int),i<=a.length->i<K->l.length=a.length->Dg E9 l->(∀(m:Nat) x,m<i->l[m]? =some x->x=0)->dv E9 l=E9^i*(dv E9 (a.drop i)/d)->r=dv E9 (a.drop i)%d->
 ∃l',zP a d K l r ((i:Int)-1)=some (l',dv E9 a%d)/\l'.length=a.length/\Dg E9 l'/\dv E9 l'=dv E9 a/d
 |0,i,l,r,h,hK,_,_,_,_,_=>by omega
 |K+1,0,l,r,h,hK,hl,hd,hz,e,er=>by
  rw[YR]at e er
  rw[zP,if_neg (by omega),er]
  exact⟨l,rfl,hl,hd,by rw[e];simp⟩
 |K+1,i+1,l,r,h,hK,hl,hd,hz,e,er=>by
  have hi:i<a.length:=by omega
  have j:i<l.length:=by omega
  have ax:=ha.at hi
  have ax2:a[i]<1000000000:=ax.2
  have r0:0<=r:=by rw[er];exact Int.emod_nonneg _ (by omega)
  have r1:r<d:=by rw[er];exact Int.emod_lt_of_pos _ d0
  have ei:((i+1:Nat):Int)-1=(i:Int):=by omega
  have hr1:r*1000000000<=999999998*1000000000:=Int.mul_le_mul_of_nonneg_right (by omega) (by omega)
  have q0:0<=(r*1000000000+a[i])/d:=Int.ediv_nonneg (by omega) (by omega)
  have q1:(r*1000000000+a[i])/d<1000000000:=by
   rw[Yu d0]
   have:(r+1)*1000000000<=d*1000000000:=Int.mul_le_mul_of_nonneg_right (by omega) (by omega)
   rw[Int.mul_comm 1000000000]
   omega
  have hq:qcp .i64 (r*1000000000+a[i]) d=some ((r*1000000000+a[i])/d):=by
   unfold qcp
   rw[if_neg (by omega),YF (by omega)]
   show some (w64 _)=_
   rw[qh (by omega) (by omega)]
  have u:qek .i64 (r*1000000000+a[i]) d=some ((r*1000000000+a[i])%d):=by
   unfold qek
   rw[if_neg (by omega),Int.tmod_eq_emod_of_nonneg (by omega)]
  rw[zP,ei,if_pos (by omega),qA,Ya hi,ZB,qh (n:=r*1000000000) (by omega) (by omega),qh (n:=r*1000000000+a[i]) (by omega) (by omega),hq,ZB,qA,Ya j,ZB,yN j,ZB,u,ZB,qh (by omega) (by omega)]
  have ed:dv E9 (a.drop i)=r*1000000000+a[i]+d*(dv E9 (a.drop (i+1))/d*1000000000):=by
   have h1:=Int.mul_ediv_add_emod (dv E9 (a.drop (i+1))) d
   rw[<-er]at h1
   rw[qis a hi,<-Int.mul_assoc]
   have e9:E9*dv E9 (a.drop (i+1))=1000000000*dv E9 (a.drop (i+1)):=rfl
   rw[e9]
   generalize d*(dv E9 (a.drop (i+1))/d)=m at*
   omega
  refine qmC ha hal d0 d1 K i _ _ (by omega) (by omega) (by rw[Yk];exact hl) (hd.set ⟨q0,q1⟩) (fun m x u hx=>?_) ?_ ?_
  ·rw[Yw (by omega)]at hx
   exact hz m x (by omega) hx
  ·rw[qkk j (fun m x u hx=>hz m x (by omega) hx),e,ed,Int.add_mul_ediv_left _ _ (by omega),Int.pow_succ,Int.mul_assoc,<-Int.mul_add]
   congr 1
   have e9:E9*(dv E9 (a.drop (i+1))/d)=1000000000*(dv E9 (a.drop (i+1))/d):=rfl
   rw[e9]
   omega
  rw[ed,Int.add_mul_emod_self_left]
theorem qgC {N:Nat} {a:List Int} (ha:Dg E9 a) (h:a.length<=20000) (hN:a.length<N) {d:Int} (u:0<d) (d1:d<1000000000):xc N a d=some (dg E9 (dv E9 a/d),dv E9 a%d):=by
 unfold xc
 rw[qba (by omega),ZB,qh (by omega) (by omega)]
 obtain⟨l,e,h1,j,h3⟩:=qmC ha h u d1 N a.length (List.replicate a.length 0) 0 (Nat.le_refl _) (by omega) (by simp) (Uj E0 _) (fun m x _ hx=>qhJ m x hx) (by rw[xR,List.drop_of_length_le (Nat.le_refl _),kV];simp) (by rw[List.drop_of_length_le (Nat.le_refl _),kV];simp)
 rw[e,ZB]
 simp only
 rw[qcE j (by omega) (by omega),ZB,h3]
end Go.Av
end
section
namespace Go.Av
theorem e9m (x:Int):E9*x=1000000000*x:=rfl
theorem qbT {p u t:List Int} {i:Nat} (hi:i<u.length):idx (p++(u++t)) ((i+p.length:Nat):Int)=some u[i]:=by
 rw[qA,Yo (by omega),Nat.add_sub_cancel,Yf hi,Ya hi]
theorem qd1 {p u t:List Int} {i:Nat} (hi:i<u.length) (x:Int):put (p++(u++t)) ((i+p.length:Nat):Int) x=some (p++(u.set i x++t)):=by
 rw[yN (by simp;omega)]
 congr 1
 rw[List.set_append_right _ _ (by omega),Nat.add_sub_cancel,List.set_append_left _ _ hi]
theorem qhw {i j:Nat} (hi:i<=100000) (d:j<=100000):w64 ((i:Int)+(j:Int))=((i+j:Nat):Int):=by rw[qh (by omega) (by omega)];omega
theorem qiK {p u t v:List Int} {k:Nat} (hv:Dg E9 v) (hvl:v.length=k+2) (hk:k<=10000) (hu:Dg E9 u) (hul:u.length=k+3) (hpl:p.length<=50000) {T j v2 u2 Q:Int} (e1:v[k+1]'(by omega)=j) (e2:v[k]'(by omega)=v2) (e3:u[k]'(by omega)=u2) (hT:T<=j*1000000000+999999999) (hQ:Q*(j*1000000000+v2)<=T*1000000000+u2) (hQ0:0<=Q) (hQ1:Q<1000000000) (hn:1<=j): ∀(K:Nat) (q r:Int),Q<=q->q<=4000000000->0<=r->r<1000000000->r=T-q*j->1000000000<=r+K*j->
 ∃q',(jV (p++(u++t)) v (p.length:Int) K r q=some (.inl q')\/jV (p++(u++t)) v (p.length:Int) K r q=some (.inr q'))/\Q<=q'/\q'<1000000000/\q'*(j*1000000000+v2)<=T*1000000000+u2
 |0,q,r,h1,h2,h3,h4,h6,h7=>by simp at h7;omega
 |K+1,q,r,h1,h2,h3,h4,h6,h7=>by
  have a1:=hv.at (show k+1<v.length by omega)
  have a2:=hv.at (show k<v.length by omega)
  have a3:=hu.at (show k<u.length by omega)
  rw[e1]at a1
  rw[e2]at a2
  rw[e3]at a3
  have b1:j<1000000000:=a1.2
  have b2:v2<1000000000:=a2.2
  have b3:u2<1000000000:=a3.2
  have hq0:0<=q:=by omega
  have hp0:0<=q*v2:=Yv hq0 a2.1
  have ed: ∀q:Int,q*(j*1000000000+v2)=q*j*1000000000+q*v2:=fun q=>by rw[Int.mul_add,Int.mul_assoc]
  have ek:w64 ((v.length:Int)-2)=(k:Int):=by rw[qh (by omega) (by omega)];omega
  have ek1:w64 ((v.length:Int)-1)=((k+1:Nat):Int):=by rw[qh (by omega) (by omega)];omega
  have eku:w64 (w64 ((p.length:Int)+(v.length:Int))-2)=((k+p.length:Nat):Int):=by
   rw[qhw (by omega) (by omega),qh (by omega) (by omega)]
   omega
  have cond:(if q>=1000000000 then some true else(idx v (w64 ((v.length:Int)-2))).bind fun x12=>(idx (p++(u++t)) (w64 ((w64 ((p.length:Int)+(v.length:Int)))-2))).bind fun x13=>some (decide ((w64 (q*x12))>(w64 ((w64 (r*1000000000))+x13)))):Option Bool)=some (decide (q>=1000000000\/q*v2>r*1000000000+u2)):=by
   by_cases c:q>=1000000000
   ·rw[if_pos c,decide_eq_true (.inl c)]
   have hp1:q*v2<=999999999*999999999:=Int.mul_le_mul (by omega) (by omega) a2.1 (by omega)
   rw[if_neg c,ek,qA,Ya (show k<v.length by omega),e2,ZB,eku,qbT (show k<u.length by omega),e3,ZB,qh (n:=q*v2) (by omega) (by omega),qh (n:=r*1000000000) (by omega) (by omega),qh (by omega) (by omega)]
   congr 1
   exact decide_eq_decide.2 (by omega)
  rw[jV,cond,ZB]
  by_cases c:q>=1000000000\/q*v2>r*1000000000+u2
  ·have hm1:(q-1)*j=q*j-j:=by rw[Int.sub_mul,Int.one_mul]
   have hlt:Q<=q-1:=by
    rcases Int.lt_or_le Q q with h|h
    ·omega
    exfalso
    have e:q=Q:=by omega
    subst e
    rw[ed]at hQ
    rcases c with c|c<;>omega
   rw[decide_eq_true c,if_pos rfl,ek1,qA,Ya (show k+1<v.length by omega),e1,ZB,qh (n:=r+j) (by omega) (by omega),qh (n:=q-1) (by omega) (by omega)]
   by_cases d:r+j>=1000000000
   ·rw[if_pos d]
    have hq1:q-1<1000000000:=by
     rcases Int.lt_or_le (q-1) 1000000000 with h|h
     ·exact h
     have:j*1000000000<=(q-1)*j:=by rw[Int.mul_comm];exact Int.mul_le_mul_of_nonneg_right h (by omega)
     omega
    have hp1:(q-1)*v2<=999999999*999999999:=Int.mul_le_mul (by omega) (by omega) a2.1 (by omega)
    refine⟨q-1,.inr rfl,hlt,hq1,?_⟩
    rw[ed]
    omega
   rw[if_neg d]
   have eK:((K+1:Nat):Int)*j=K*j+j:=by rw[Int.natCast_add,Int.add_mul];simp
   exact qiK hv hvl hk hu hul hpl e1 e2 e3 hT hQ hQ0 hQ1 hn K (q-1) _ hlt (by omega) (by omega) (by omega) (by rw[hm1];omega) (by omega)
  rw[decide_eq_false c,if_neg (by simp)]
  refine⟨q,.inl rfl,h1,by omega,?_⟩
  rw[ed]
  omega
theorem qlf {v:List Int} (hv:Dg E9 v) (hvl:v.length<=10002) {q:Int} (hq:0<=q/\q<1000000000) {p t:List Int} (hpl:p.length<=50000): ∀(K i:Nat) (u:List Int) (b:Int),i<=v.length->v.length<K+i->u.length=v.length+1->Dg E9 u->0<=b->b<=1000000000->
 ∃j b',qU v (p.length:Int) q K (p++(u++t)) b (i:Int)=some (p++(j++t),b')/\j.length=v.length+1/\Dg E9 j/\j[v.length]? =u[v.length]? /\0<=b'/\b'<=1000000000/\dv E9 j+q*dv E9 v=dv E9 u+q*dv E9 (v.take i)-E9^i*b+E9^v.length*b'
 |0,i,u,b,h,hK,_,_,_,_=>by omega
 |K+1,i,u,b,h,hK,hul,hu,b0,b1=>by
  rw[qU]
  by_cases hi:i<v.length
  ·have av:=hv.at hi
   have a0:i<u.length:=by omega
   have au:=hu.at a0
   have av2:v[i]<1000000000:=av.2
   have au2:u[i]<1000000000:=au.2
   have hp0:0<=q*v[i]:=Yv hq.1 av.1
   have hp1:q*v[i]<=999999999*999999999:=Int.mul_le_mul (by omega) (by omega) av.1 (by omega)
   rw[if_pos (by omega),qA,Ya hi,ZB,qhw (by omega) (by omega),qbT a0,ZB]
   generalize hp:q*v[i]=x at*
   rw[qh (n:=x) (by omega) (by omega),qh (n:=x+b) (by omega) (by omega),Int.tmod_eq_emod_of_nonneg (by omega),YF (by omega),qh (n:=u[i]-(x+b)%1000000000) (by omega) (by omega)]
   have hxc:=Int.mul_ediv_add_emod (x+b) 1000000000
   have step: ∀(un b2 d:Int),(0<=un/\un<1000000000)->(0<=d/\d<=1)->b2=(x+b)/1000000000+d->un=u[i]-(x+b)%1000000000+1000000000*d->
    ∃j b',qU v (p.length:Int) q K (p++(u.set i un++t)) b2 ((i+1:Nat):Int)=some (p++(j++t),b')/\j.length=v.length+1/\Dg E9 j/\j[v.length]? =u[v.length]? /\0<=b'/\b'<=1000000000/\dv E9 j+q*dv E9 v=dv E9 u+q*dv E9 (v.take i)-E9^i*b+E9^v.length*b':=by
    intro un b2 d hun hd eb eun
    obtain⟨j,b',f1,f2,f3,f4,f5,f6,f9⟩:=qlf hv hvl hq hpl K (i+1) (u.set i un) b2 (by omega) (by omega) (by rw[Yk];exact hul) (hu.set hun) (by omega) (by omega)
    refine⟨j,b',f1,f2,f3,by rw[f4,Yw (by omega)],f5,f6,?_⟩
    rw[f9,qaX E9 u i un a0,qx E9 v i hi,Int.mul_add q,<-Int.mul_assoc q,Int.mul_comm q (E9^i),Int.mul_assoc (E9^i) q,hp,Int.pow_succ,Int.mul_assoc (E9^i) E9]
    have e5:E9^i*(un-u[i])+E9^i*x-E9^i*(E9*b2)= -(E9^i*b):=by
     rw[<-Int.mul_add,<-Int.mul_sub,<-Int.mul_neg]
     congr 1
     rw[e9m]
     omega
    omega
   by_cases c:u[i]-(x+b)%1000000000<0
   ·rw[if_pos c,qh (n:=(x+b)/1000000000) (by omega) (by omega),qh (n:=(x+b)/1000000000+1) (by omega) (by omega),qh (n:=u[i]-(x+b)%1000000000+1000000000) (by omega) (by omega),ZB]
    simp only
    rw[qd1 a0,ZB,zn (by omega)]
    exact step _ _ 1 (by omega) (by omega) rfl (by omega)
   rw[if_neg c,qh (n:=(x+b)/1000000000) (by omega) (by omega),ZB]
   simp only
   rw[qd1 a0,ZB,zn (by omega)]
   exact step _ _ 0 (by omega) (by omega) (by omega) (by omega)
  rw[if_neg (by omega)]
  have ei:i=v.length:=by omega
  subst ei
  rw[List.take_of_length_le (Nat.le_refl _)]
  exact⟨u,b,rfl,hul,hu,rfl,b0,b1,by omega⟩
theorem qkC {v:List Int} (hv:Dg E9 v) (hvl:v.length<=10002) {q:Int} (hq:0<q/\q<1000000000) {p t:List Int} (hpl:p.length<=50000): ∀(K i:Nat) (u:List Int) (y c:Int),i<=v.length->v.length<K+i->u.length=v.length->Dg E9 u->0<=c->c<=1->
 ∃u' c',kS v (p.length:Int) q K (p++(u++[y]++t)) c (i:Int)=some (p++(u'++[y]++t),q-1,c')/\u'.length=v.length/\Dg E9 u'/\0<=c'/\c'<=1/\dv E9 u'+E9^v.length*c'=dv E9 u+dv E9 v-dv E9 (v.take i)+E9^i*c
 |0,i,u,y,c,h,hK,_,_,_,_=>by omega
 |K+1,i,u,y,c,h,hK,hul,hu,c0,c1=>by
  rw[kS]
  by_cases hi:i<v.length
  ·have av:=hv.at hi
   have d:i<u.length:=by omega
   have j:i<(u++[y]).length:=by simp;omega
   have au:=hu.at d
   have av2:v[i]<1000000000:=av.2
   have au2:u[i]<1000000000:=au.2
   have eg:(u++[y])[i]=u[i]:=List.getElem_append_left d
   rw[if_pos (by omega),qhw (by omega) (by omega),qbT j,eg,ZB,qA,Ya hi,ZB,qh (n:=u[i]+v[i]) (by omega) (by omega),qh (n:=u[i]+v[i]+c) (by omega) (by omega),Int.tmod_eq_emod_of_nonneg (by omega),YF (by omega),qd1 j,ZB,List.set_append_left _ _ d,qh (n:=(u[i]+v[i]+c)/1000000000) (by omega) (by omega),zn (by omega)]
   have hs:=Int.mul_ediv_add_emod (u[i]+v[i]+c) 1000000000
   have m0:=Int.emod_nonneg (u[i]+v[i]+c) (show(1000000000:Int)≠0 by decide)
   have m1:=Int.emod_lt_of_pos (u[i]+v[i]+c) (show(0:Int)<1000000000 by decide)
   have k0:0<=(u[i]+v[i]+c)/1000000000/\(u[i]+v[i]+c)/1000000000<=1:=by omega
   generalize (u[i]+v[i]+c)/1000000000=c2 at*
   generalize (u[i]+v[i]+c)%1000000000=un at*
   obtain⟨u',c',f1,f2,f3,f5,f6,f7⟩:=qkC hv hvl hq hpl K (i+1) (u.set i un) y c2 (by omega) (by omega) (by rw[Yk];exact hul) (hu.set ⟨m0,m1⟩) k0.1 k0.2
   refine⟨u',c',f1,f2,f3,f5,f6,?_⟩
   rw[f7,qaX E9 u i un d,qx E9 v i hi,Int.pow_succ,Int.mul_assoc (E9^i) E9]
   have e5:E9^i*(un-u[i])-E9^i*v[i]+E9^i*(E9*c2)=E9^i*c:=by
    rw[<-Int.mul_sub,<-Int.mul_add]
    congr 1
    rw[e9m]
    omega
   omega
  rw[if_neg (by omega),qh (by omega) (by omega)]
  have ei:i=v.length:=by omega
  subst ei
  rw[List.take_of_length_le (Nat.le_refl _)]
  exact⟨u,c,rfl,hul,hu,c0,c1,by omega⟩
theorem qjl {P j d T3 V2 U V Q q v1 v2:Int} (hP:0<P) (eU:U=j+P*T3) (eV:V=d+P*V2) (hu:0<=j/\j<P) (hv:0<=d/\d<P) (e2:V2=v1*1000000000+v2) (h1:1<=v1) (h2:0<=v2) (hU:0<=U) (u:Q=U/V):0<V/\Q*V2<=T3/\(0<=q->q<1000000000->q*V2<=T3->q<=Q+1):=by
 have hPW:P*1000000000<=P*V2:=Yc (by omega) (by omega)
 have hV:0<V:=by omega
 have q0:0<=Q:=by rw[u];exact Int.ediv_nonneg hU (by omega)
 have q1:Q*V<=U:=by rw[u];exact Int.ediv_mul_le U (by omega)
 have q2:U<(Q+1)*V:=by
  rw[u]
  exact Int.lt_ediv_add_one_mul_self U hV
 refine⟨hV,?_,fun a b c=>?_⟩
 ·rcases Int.lt_or_le T3 (Q*V2)with h|h
  ·exfalso
   have a1:P*(T3+1)<=P*(Q*V2):=Yc (by omega) (by omega)
   have a2:P*(Q*V2)<=Q*V:=by
    rw[eV,Int.mul_add]
    have:P*(Q*V2)=Q*(P*V2):=by rw[<-Int.mul_assoc,Int.mul_comm P Q,Int.mul_assoc]
    have:=Yv q0 hv.1
    omega
   rw[Int.mul_add,Int.mul_one]at a1
   omega
  exact h
 have a1:q*V=q*d+P*(q*V2):=by
  rw[eV,Int.mul_add]
  congr 1
  rw[<-Int.mul_assoc,Int.mul_comm q P,Int.mul_assoc]
 have a2:P*(q*V2)<=P*T3:=Yc c (by omega)
 have a3:q*d<=999999999*P:=Int.mul_le_mul (by omega) (by omega) hv.1 (by omega)
 have a4:q*V<(Q+2)*V:=by
  rw[Int.add_mul]
  rw[Int.add_mul]at q2
  omega
 have:=Int.lt_of_mul_lt_mul_right a4 (by omega)
 omega
set_option maxHeartbeats 1000000 in
theorem qnZ {N:Nat} (hN:11000<N) {p u t v:List Int} {k:Nat} (hv:Dg E9 v) (a3:v.length=k+2) (hk:k<=9000) (hu:Dg E9 u) (hul:u.length=k+3) (hpl:p.length<=50000) (hn:1000000<=v[k+1]'(by omega)) (hlt:dv E9 u<1000000000*dv E9 v):
 ∃u',u'.length=k+3/\Dg E9 u'/\dv E9 u'=dv E9 u%dv E9 v/\((qat N (p++(u++t)) v (p.length:Int)).bind fun r25=>
 (qU v (p.length:Int) r25 N (p++(u++t)) 0 0).bind fun(l29,n30)=>
 (idx l29 (w64 ((p.length:Int)+(v.length:Int)))).bind fun x40=>
 (put l29 (w64 ((p.length:Int)+(v.length:Int))) (w64 (x40-n30))).bind fun l41=>
 (idx l41 (w64 ((p.length:Int)+(v.length:Int)))).bind fun x42=>
 ((if x42<0 then
 (kS v (p.length:Int) r25 N l41 0 0).bind fun(l50,n51,n52)=>
 (idx l50 (w64 ((p.length:Int)+(v.length:Int)))).bind fun x58=>
 (put l50 (w64 ((p.length:Int)+(v.length:Int))) (w64 (x58+n52))).bind fun l59=>
 some (l59,n51)
 else
 some (l41,r25):Option ((List Int)×Int))))=some (p++(u'++t),dv E9 u/dv E9 v):=by
 have a1:=hv.at (show k+1<v.length by omega)
 have a2:=hv.at (show k<v.length by omega)
 have b0:=hu.at (show k+2<u.length by omega)
 have b1:=hu.at (show k+1<u.length by omega)
 have b2:=hu.at (show k<u.length by omega)
 have eV:dv E9 v=dv E9 (v.take k)+E9^k*(v[k+1]*1000000000+v[k]):=by
  have e1:=qx E9 v (k+1) (by omega)
  have e2:=qx E9 v k (by omega)
  have p1:E9^(k+1)=E9^k*E9:=Int.pow_succ _ _
  rw[List.take_of_length_le (by omega),e2,p1]at e1
  rw[e1,show v[k+1]*1000000000+v[k]=v[k]+E9*v[k+1]by rw[e9m];omega,Int.mul_add]
  simp only[Int.mul_assoc]
  omega
 have eU:dv E9 u=dv E9 (u.take k)+E9^k*((u[k+2]*1000000000+u[k+1])*1000000000+u[k]):=by
  have e0:=qx E9 u (k+2) (by omega)
  have e1:=qx E9 u (k+1) (by omega)
  have e2:=qx E9 u k (by omega)
  have p1:E9^(k+1)=E9^k*E9:=Int.pow_succ _ _
  have p2:E9^(k+2)=E9^k*E9*E9:=by rw[<-p1];exact Int.pow_succ _ _
  rw[List.take_of_length_le (by omega),e1,e2,p2,p1]at e0
  have e3:(u[k+2]*1000000000+u[k+1])*1000000000+u[k]=u[k]+E9*u[k+1]+E9*(E9*u[k+2]):=by
   have h1:E9*u[k+1]=1000000000*u[k+1]:=rfl
   have h2:E9*(E9*u[k+2])=1000000000*(1000000000*u[k+2]):=rfl
   omega
  rw[e0,e3,Int.mul_add,Int.mul_add]
  simp only[Int.mul_assoc]
  omega
 have vlo0:=qD E0 (hv.take k)
 have vlo1:=yY E0 (hv.take k)
 have ulo0:=qD E0 (hu.take k)
 have ulo1:=yY E0 (hu.take k)
 rw[Ym,Nat.min_eq_left (by omega)]at vlo1 ulo1
 have U0:=qD E0 hu
 have hP:=pow_pos E0 k
 have DF:=fun q=>qjl (q:=q) hP eU eV ⟨ulo0,ulo1⟩ ⟨vlo0,vlo1⟩ rfl (by omega) a2.1 U0 rfl
 have V0:=(DF 0).1
 have hQ0:0<=dv E9 u/dv E9 v:=Int.ediv_nonneg U0 (by omega)
 have hQ1:dv E9 u/dv E9 v<1000000000:=by rw[Yu V0];exact hlt
 have hQ2:=(DF 0).2.1
 have hmod:dv E9 u%dv E9 v=dv E9 u-dv E9 u/dv E9 v*dv E9 v:=by rw[Int.emod_def,Int.mul_comm]
 have hm0:=Int.emod_nonneg (dv E9 u) (show dv E9 v≠0 by omega)
 have hm1:=Int.emod_lt_of_pos (dv E9 u) V0
 generalize hQ:dv E9 u/dv E9 v=Q at*
 have c1:v[k+1]<1000000000:=a1.2
 have c2:v[k]<1000000000:=a2.2
 have d0:u[k+2]<1000000000:=b0.2
 have d1:u[k+1]<1000000000:=b1.2
 have d2:u[k]<1000000000:=b2.2
 have hle:u[k+2]<=v[k+1]:=by
  rcases Int.lt_or_le v[k+1] u[k+2]with g|g
  ·exfalso
   have g1:E9^k*((v[k+1]*1000000000+v[k]+1)*1000000000)<=E9^k*((u[k+2]*1000000000+u[k+1])*1000000000+u[k]):=Yc (by omega) (by omega)
   rw[<-Int.mul_assoc,Int.mul_add (E9^k) _ 1]at g1
   omega
  exact g
 have G: ∃j,qat N (p++(u++t)) v (p.length:Int)=some j/\Q<=j/\j<1000000000/\j*(v[k+1]*1000000000+v[k])<=(u[k+2]*1000000000+u[k+1])*1000000000+u[k]:=by
  have ek:w64 ((v.length:Int)-1)=((k+1:Nat):Int):=by rw[qh (by omega) (by omega)];omega
  have ek2:w64 ((p.length:Int)+(v.length:Int))=((k+2+p.length:Nat):Int):=by rw[qhw (by omega) (by omega)];congr 1;omega
  have ek1:w64 (((k+2+p.length:Nat):Int)-1)=((k+1+p.length:Nat):Int):=by rw[qh (by omega) (by omega)];omega
  have e1:=Int.mul_ediv_add_emod (u[k+2]*1000000000+u[k+1]) v[k+1]
  have e2:=Int.emod_nonneg (u[k+2]*1000000000+u[k+1]) (show v[k+1]≠0 by omega)
  have e3:=Int.emod_lt_of_pos (u[k+2]*1000000000+u[k+1]) (show 0<v[k+1]by omega)
  have e4:(u[k+2]*1000000000+u[k+1])/v[k+1]<=1000001000:=by
   have:(u[k+2]*1000000000+u[k+1])/v[k+1]<1000001001:=by
    rw[Yu (by omega)]
    omega
   omega
  have e5:Q<=(u[k+2]*1000000000+u[k+1])/v[k+1]:=by
   rw[Int.le_ediv_iff_mul_le (by omega)]
   have e:Q*(v[k+1]*1000000000+v[k])=Q*v[k+1]*1000000000+Q*v[k]:=by rw[Int.mul_add,Int.mul_assoc]
   have:=Yv hQ0 a2.1
   omega
  have hq:qcp .i64 (u[k+2]*1000000000+u[k+1]) v[k+1]=some ((u[k+2]*1000000000+u[k+1])/v[k+1]):=by
   unfold qcp
   rw[if_neg (by omega),YF (by omega)]
   show some (w64 _)=_
   rw[qh (by omega) (by omega)]
  have hm:qek .i64 (u[k+2]*1000000000+u[k+1]) v[k+1]=some ((u[k+2]*1000000000+u[k+1])%v[k+1]):=by
   unfold qek
   rw[if_neg (by omega),Int.tmod_eq_emod_of_nonneg (by omega)]
  have hKv:(1000000000:Int)<=(u[k+2]*1000000000+u[k+1])%v[k+1]+N*v[k+1]:=by
   have:(1000:Int)*v[k+1]<=N*v[k+1]:=Int.mul_le_mul_of_nonneg_right (by omega) (by omega)
   omega
  obtain⟨j,g1,g2,g3,g4⟩:=qiK (p:=p) (t:=t) hv a3 (by omega) hu hul hpl rfl rfl rfl (T:=u[k+2]*1000000000+u[k+1]) (by omega) hQ2 hQ0 hQ1 (by omega) N _ _ e5 (by omega) e2 (by omega) (by rw[Int.mul_comm (_/_)];omega) hKv
  refine⟨j,?_,g2,g3,g4⟩
  unfold qat
  rw[ek2,ek1,ek,qbT (show k+2<u.length by omega),ZB,qbT (show k+1<u.length by omega),ZB,qA,Ya (show k+1<v.length by omega),ZB,qh (n:=u[k+2]*1000000000) (by omega) (by omega),qh (n:=u[k+2]*1000000000+u[k+1]) (by omega) (by omega),hq,ZB,hm,ZB]
  rcases g1 with g1|g1<;>rw[g1]<;>rfl
 obtain⟨j,g1,f2,f3,f4⟩:=G
 have hle2:=(DF j).2.2 (by omega) f3 f4
 obtain⟨w,d,m1,m2,m3,m4,m5,m6,m9⟩:=qlf hv (by omega) (q:=j) ⟨by omega,f3⟩ (p:=p) (t:=t) hpl N 0 u 0 (by omega) (by omega) (by omega) hu (by omega) (by omega)
 have m1:qU v (p.length:Int) j N (p++(u++t)) 0 0=some (p++(w++t),d):=m1
 have a0:k+2<w.length:=by omega
 have ew:w[k+2]=u[k+2]:=by
  rw[a3,Ya a0,Ya (show k+2<u.length by omega)]at m4
  exact Ye m4
 have wsp:w=w.take (k+2)++[w[k+2]]:=by
  have:=List.take_succ_eq_append_getElem a0
  rw[List.take_of_length_le (by omega)]at this
  exact this
 have wl:(w.take (k+2)).length=k+2:=by rw[Ym];omega
 have wd:=m3.take (k+2)
 have wv:dv E9 w=dv E9 (w.take (k+2))+E9^(k+2)*w[k+2]:=by
  have:=qx E9 w (k+2) a0
  rw[List.take_of_length_le (by omega)]at this
  exact this
 have lo0:=qD E0 wd
 have lo1:=yY E0 wd
 rw[wl]at lo1
 rw[List.take_zero,kV,Int.mul_zero,a3]at m9
 simp only[Int.pow_zero]at m9
 have hVk:dv E9 v<E9^(k+2):=by have:=yY E0 hv;rw[a3]at this;exact this
 have a4:=pow_pos E0 (k+2)
 have ek2:w64 ((p.length:Int)+(v.length:Int))=((k+2+p.length:Nat):Int):=by rw[qhw (by omega) (by omega)];congr 1;omega
 have eset:w.set (k+2) (u[k+2]-d)=w.take (k+2)++[u[k+2]-d]:=by
  rw[List.set_eq_take_append_cons_drop,if_pos a0,List.drop_of_length_le (by omega)]
 have hks:k+2<(w.set (k+2) (u[k+2]-d)).length:=by rw[Yk];exact a0
 have tot:dv E9 (w.take (k+2))+E9^(k+2)*(u[k+2]-d)=dv E9 u-j*dv E9 v:=by
  rw[Int.mul_sub,<-ew]
  omega
 rw[g1,ZB,m1,ZB]
 simp only
 rw[ek2,qbT a0,ZB,ew,qh (n:=u[k+2]-d) (by omega) (by omega),qd1 a0,ZB,qbT hks,List.getElem_set_self,ZB]
 by_cases hq:j=Q
 ·have hy:u[k+2]-d=0:=by
   subst hq
   have h1: ¬(1<=u[k+2]-d):=fun h=>by
    have:=Yc h (Int.le_of_lt a4)
    omega
   have h2: ¬(u[k+2]-d<= -1):=fun h=>by
    have:=Yc h (Int.le_of_lt a4)
    omega
   omega
  rw[if_neg (by omega),eset,hy,hq]
  rw[hy,Int.mul_zero,Int.add_zero,hq]at tot
  refine⟨w.take (k+2)++[0],by simp;omega,wd.append (Dg.cons ⟨by omega,by decide⟩ Dg.nil),?_,rfl⟩
  rw[qeR,Int.mul_zero,Int.add_zero]
  omega
 have hq1:j=Q+1:=by omega
 have hqm:j*dv E9 v=Q*dv E9 v+dv E9 v:=by rw[hq1,Int.add_mul,Int.one_mul]
 have hy:u[k+2]-d<0:=by
  rcases Int.lt_or_le (u[k+2]-d) 0 with h|h
  ·exact h
  have:=Yv (Int.le_of_lt a4) h
  omega
 obtain⟨u3,c3,a1',a2',a3',a5',a6',a7'⟩:=qkC hv (by omega) (q:=j) ⟨by omega,f3⟩ (p:=p) (t:=t) hpl N 0 (w.take (k+2)) (u[k+2]-d) 0 (by omega) (by omega) (by omega) wd (by omega) (by omega)
 have a1':kS v (p.length:Int) j N (p++(w.take (k+2)++[u[k+2]-d]++t)) 0 0=some (p++(u3++[u[k+2]-d]++t),j-1,c3):=a1'
 rw[List.take_zero,kV,a3]at a7'
 simp only[Int.pow_zero]at a7'
 have l0:=qD E0 a3'
 have l1:=yY E0 a3'
 rw[a2',a3]at l1
 have hyc:u[k+2]-d+c3=0:=by
  have e1:dv E9 u3+E9^(k+2)*(u[k+2]-d+c3)=dv E9 u-Q*dv E9 v:=by
   rw[Int.mul_add]
   omega
  have h1: ¬(1<=u[k+2]-d+c3):=fun h=>by
   have:=Yc h (Int.le_of_lt a4)
   omega
  have h2: ¬(u[k+2]-d+c3<= -1):=fun h=>by
   have:=Yc h (Int.le_of_lt a4)
   omega
  omega
 have hk3:k+2<(u3++[u[k+2]-d]).length:=by simp;omega
 have eg:(u3++[u[k+2]-d])[k+2]=u[k+2]-d:=by
  rw[List.getElem_append_right (by omega)]
  simp
 have es:(u3++[u[k+2]-d]).set (k+2) 0=u3++[0]:=by
  rw[List.set_append_right _ _ (by omega),show k+2-u3.length=0 by omega]
  rfl
 rw[if_pos hy,eset,a1',ZB]
 simp only
 rw[qbT hk3,eg,ZB,hyc,show w64 (0:Int)=0 from rfl,qd1 hk3,ZB,es,hq1,Int.add_sub_cancel]
 refine⟨u3++[0],by simp;omega,a3'.append (Dg.cons ⟨by omega,by decide⟩ Dg.nil),?_,rfl⟩
 rw[qeR,Int.mul_zero,Int.add_zero]
 have e1:dv E9 u3+E9^(k+2)*(u[k+2]-d+c3)=dv E9 u-Q*dv E9 v:=by
  rw[Int.mul_add]
  omega
 rw[hyc,Int.mul_zero,Int.add_zero]at e1
 omega
end Go.Av
end
section
namespace Go.Av
theorem qdT {l:List Int} (h:Dg E9 l) {n:Nat} (d:dv E9 l<E9^n):dv E9 (l.drop n)=0:=by
 by_cases hn:n<=l.length
 ·have e:=xh E9 l n hn
  have j:=qD E0 (h.take n)
  have u:=qD E0 (h.drop n)
  rcases Int.lt_or_le 0 (dv E9 (l.drop n))with c|c
  ·have:=Yc (show 1<=dv E9 (l.drop n)by omega) (Int.le_of_lt (pow_pos E0 n))
   omega
  omega
 rw[List.drop_of_length_le (by omega),kV]
theorem qkb {N:Nat} (hN:11000<N) {v:List Int} {k:Nat} (hv:Dg E9 v) (hvl:v.length=k+2) (hk:k<=9000) (hn:1000000<=v[k+1]'(by omega)) {A:Int} {m:Nat} (hm:m<=9000): ∀(K i:Nat) (l qs:List Int),i<=m+1->i<K->l.length=m+k+3->qs.length=m+1->Dg E9 l->Dg E9 qs->(∀(j:Nat) x,j<i->qs[j]? =some x->x=0)->dv E9 (l.drop i)<dv E9 v->dv E9 l+dv E9 v*dv E9 qs=A->
 ∃l' u,zH N v K l qs ((i:Int)-1)=some (l',u)/\l'.length=m+k+3/\u.length=m+1/\Dg E9 l'/\Dg E9 u/\dv E9 l'<dv E9 v/\dv E9 l'+dv E9 v*dv E9 u=A
 |0,i,l,qs,h,hK,_,_,_,_,_,_,_=>by omega
 |K+1,0,l,qs,h,hK,hl,hql,hd,hqd,hz,hlt,e=>by
  rw[zH,if_neg (by omega)]
  exact⟨l,qs,rfl,hl,hql,hd,hqd,hlt,e⟩
 |K+1,i+1,l,qs,h,hK,hl,hql,hd,hqd,hz,hlt,e=>by
  have hil:i<l.length:=by omega
  have hiq:i<qs.length:=by omega
  have ei:((i+1:Nat):Int)-1=(i:Int):=by omega
  have V1:=yY E0 hv
  rw[hvl]at V1
  have V0:0<dv E9 v:=by
   have:=qD E0 (hd.drop (i+1))
   omega
  have lp:(l.take i).length=i:=by rw[Ym];omega
  have lu:((l.drop i).take (k+3)).length=k+3:=by rw[Ym,YJ];omega
  have el:l=l.take i++((l.drop i).take (k+3)++(l.drop i).drop (k+3)):=by rw[YS,YS]
  have hu:=(hd.drop i).take (k+3)
  have ht:dv E9 ((l.drop i).drop (k+3))=0:=by
   have:=qdT (hd.drop (i+1)) (n:=k+2) (by omega)
   rw[List.drop_drop]at this⊢
   rw[show i+(k+3)=i+1+(k+2)by omega]
   exact this
  have eu:dv E9 ((l.drop i).take (k+3))=dv E9 (l.drop i):=by
   have:=xm E9 ((l.drop i).take (k+3)) ((l.drop i).drop (k+3))
   rw[YS,ht,Int.mul_zero,Int.add_zero]at this
   exact this.symm
  have hUlt:dv E9 ((l.drop i).take (k+3))<1000000000*dv E9 v:=by
   rw[eu,qis l hil]
   have:=(hd.at hil).2
   have h1:E9*(dv E9 (l.drop (i+1))+1)<=E9*dv E9 v:=Yc (by omega) (by decide)
   rw[Int.mul_add,Int.mul_one]at h1
   have h2:E9*dv E9 v=1000000000*dv E9 v:=rfl
   omega
  obtain⟨u',s2,s3,s4,d⟩:=qnZ hN (p:=l.take i) (t:=(l.drop i).drop (k+3)) hv hvl hk hu lu (by omega) hn hUlt
  rw[lp,<-el]at d
  rw[zH,ei,if_pos (by omega)]
  have hU0:=qD E0 hu
  have Q0:0<=dv E9 ((l.drop i).take (k+3))/dv E9 v:=Int.ediv_nonneg hU0 (by omega)
  have Q1:dv E9 ((l.drop i).take (k+3))/dv E9 v<E9:=by rw[Yu V0];exact hUlt
  have hR:=Int.emod_lt_of_pos (dv E9 ((l.drop i).take (k+3))) V0
  have hdm:=Int.mul_ediv_add_emod (dv E9 ((l.drop i).take (k+3))) (dv E9 v)
  have hdrop:(l.take i++(u'++(l.drop i).drop (k+3))).drop i=u'++(l.drop i).drop (k+3):=by
   rw[List.drop_append_of_le_length (by omega),List.drop_of_length_le (by omega),List.nil_append]
  have hdn:dv E9 (u'++(l.drop i).drop (k+3))=dv E9 u':=by rw[xm,ht,Int.mul_zero,Int.add_zero]
  have main:=qkb hN hv hvl hk hn (A:=A) hm K i (l.take i++(u'++(l.drop i).drop (k+3))) (qs.set i (dv E9 ((l.drop i).take (k+3))/dv E9 v)) (by omega) (by omega) (by rw[Yq,Yq,lp,s2,YJ,YJ];omega) (by rw[Yk];exact hql) ((hd.take i).append (s3.append ((hd.drop i).drop _))) (hqd.set ⟨Q0,Q1⟩) (fun j x hj hx=>by
   rw[Yw (by omega)]at hx
   exact hz j x (by omega) hx) (by rw[hdrop,hdn,s4];exact hR) (by
   rw[qkk hiq (fun j x hj hx=>hz j x (by omega) hx),xm,lp,hdn,s4,Int.mul_add]
   have e1:=xh E9 l i (by omega)
   rw[<-eu]at e1
   have e2:E9^i*dv E9 ((l.drop i).take (k+3))=E9^i*(dv E9 v*(dv E9 ((l.drop i).take (k+3))/dv E9 v))+E9^i*(dv E9 ((l.drop i).take (k+3))%dv E9 v):=by rw[<-Int.mul_add,hdm]
   have e3:dv E9 v*(E9^i*(dv E9 ((l.drop i).take (k+3))/dv E9 v))=E9^i*(dv E9 v*(dv E9 ((l.drop i).take (k+3))/dv E9 v)):=Int.mul_left_comm _ _ _
   rw[e3]
   omega)
  obtain⟨l',u,g1,g2⟩:=main
  refine⟨l',u,?_,g2⟩
  rw[<-g1]
  generalize hw:qat N l v (i:Int)=og at d⊢
  cases og with
  |none=>cases d
  |some r25=>
   simp only[ZB]at d⊢
   generalize qU v (i:Int) r25 N l 0 0=o2 at d⊢
   cases o2 with
   |none=>cases d
   |some p2=>
    obtain⟨l29,n30⟩:=p2
    simp only[ZB]at d⊢
    generalize idx l29 (w64 ((i:Int)+(v.length:Int)))=o3 at d⊢
    cases o3 with
    |none=>cases d
    |some x40=>
     simp only[ZB]at d⊢
     generalize put l29 (w64 ((i:Int)+(v.length:Int))) (w64 (x40-n30))=o4 at d⊢
     cases o4 with
     |none=>cases d
     |some l41=>
      simp only[ZB]at d⊢
      generalize idx l41 (w64 ((i:Int)+(v.length:Int)))=o5 at d⊢
      cases o5 with
      |none=>cases d
      |some x42=>
       simp only[ZB]at d⊢
       refine(congrArg (fun z=>Option.bind z _) d).trans ?_
       rw[ZB]
       simp only
       rw[qA,Ya hiq,ZB,yN hiq,ZB,qh (by omega) (by omega)]
theorem qot {a:List Int} (d:a.length<=50000): ∀(K:Nat) (l:List Int),a.length+1<K+l.length->l.length<=a.length+1->jd a K l=some (l++List.replicate (a.length+1-l.length) 0)
 |0,l,h,h2=>by omega
 |K+1,l,h,h2=>by
  rw[jd,zn (by omega)]
  by_cases c:l.length<a.length+1
  ·rw[if_pos (by omega),qc7 (by simp;omega) (by simp;omega),ZB,qot d K (l++[0]) (by simp;omega) (by simp;omega),Yz,Yq,List.length_singleton]
   rw[show a.length+1-l.length=a.length+1-(l.length+1)+1 by omega,List.replicate_succ]
   rfl
  rw[if_neg (by omega),show a.length+1-l.length=0 by omega]
  simp
theorem qdD {N:Nat} (hN:60000<N) {a b:List Int} (ha:Can E9 a) (hb:Can E9 b) (hal:a.length<=8000) (a1:0<dv E9 b):ja N a b=some (dg E9 (dv E9 a/dv E9 b),dg E9 (dv E9 a%dv E9 b)):=by
 have A0:=qD E0 ha.1
 unfold ja
 rw[qdn ha hb (by omega) (by omega),ZB]
 by_cases h:dv E9 a<dv E9 b
 ·rw[if_pos h,if_pos (by omega),Int.ediv_eq_zero_of_lt A0 h,Int.emod_eq_of_lt A0 h,qdF,qoP E1 ha]
 have hlen:b.length<=a.length:=by
  rcases Nat.lt_or_ge a.length b.length with c|c
  ·have:=qcN ha hb c;omega
  exact c
 have hb1:0<b.length:=by
  rcases Nat.eq_zero_or_pos b.length with c|c
  ·rw[YL.1 c,kV]at a1;omega
  exact c
 have hge: ¬((if dv E9 a<dv E9 b then-1 else if dv E9 a=dv E9 b then(0:Int)else 1)<0):=by
  rw[if_neg h]
  split<;>omega
 rw[if_neg hge]
 by_cases hone:b.length=1
 ·obtain⟨d,rfl⟩:=List.length_eq_one_iff.1 hone
  have ed:dv E9 [d]=d:=by rw[zw,kV];omega
  rw[ed]at a1⊢
  have hd:d<1000000000:=hb.1.head.2
  have m0:=Int.emod_nonneg (dv E9 a) (show d≠0 by omega)
  have m1:=Int.emod_lt_of_pos (dv E9 a) a1
  rw[if_pos (by simp),qa6]
  simp only[Yj,ZB]
  rw[qgC ha.1 (by omega) (by omega) a1 hd,ZB]
  simp only
  rw[qcE (Dg.cons ⟨m0,Int.lt_trans m1 hd⟩ Dg.nil) (by simp) (by simp;omega),ZB,zw,kV,Int.mul_zero,Int.add_zero]
 obtain⟨k,hk⟩: ∃k,b.length=k+2:=⟨b.length-2,by omega⟩
 obtain⟨m,hm⟩: ∃m,a.length=m+k+2:=⟨a.length-(k+2),by omega⟩
 have a2:k+1<b.length:=by omega
 have at1:=hb.1.at a2
 have at2:b[k+1]<1000000000:=at1.2
 have at0:b[k+1]≠0:=hb.2 _ (by rw[List.getLast?_eq_getElem?,hk];exact Ya a2)
 have a0:=pow_pos E0 (k+1)
 rw[if_neg (by omega),show w64 ((b.length:Int)-1)=((k+1:Nat):Int)by rw[qh (by omega) (by omega)];omega,qA,Ya a2,ZB,qh (n:=b[k+1]+1) (by omega) (by omega)]
 have hq:qcp .i64 1000000000 (b[k+1]+1)=some (1000000000/(b[k+1]+1)):=by
  unfold qcp
  have:(1000000000:Int)/(b[k+1]+1)<=1000000000:=Int.ediv_le_self _ (by omega)
  have:0<=(1000000000:Int)/(b[k+1]+1):=Int.ediv_nonneg (by omega) (by omega)
  rw[if_neg (by omega),YF (by omega)]
  show some (w64 _)=_
  rw[qh (by omega) (by omega)]
 rw[hq,ZB]
 have f1:=Int.mul_ediv_add_emod 1000000000 (b[k+1]+1)
 have f2:=Int.emod_lt_of_pos 1000000000 (show 0<b[k+1]+1 by omega)
 have f3:=Int.emod_nonneg 1000000000 (show b[k+1]+1≠0 by omega)
 have f0:1<=(1000000000:Int)/(b[k+1]+1):=by
  rw[Int.le_ediv_iff_mul_le (by omega)]
  omega
 have f5:(1000000000:Int)/(b[k+1]+1)<=500000000:=by
  have:(1000000000:Int)/(b[k+1]+1)<500000001:=by
   rw[Yu (by omega)]
   omega
  omega
 generalize hf:(1000000000:Int)/(b[k+1]+1)=f at*
 have f4:250000000<=b[k+1]*f:=by
  rw[Int.add_mul,Int.one_mul]at f1
  have:f<=b[k+1]*f:=by
   have:=Int.mul_le_mul_of_nonneg_right (show 1<=b[k+1]by omega) (show 0<=f by omega)
   omega
  have:b[k+1]<=b[k+1]*f:=by
   have:=Yc (show 1<=f by omega) (show 0<=b[k+1]by omega)
   omega
  omega
 have fd:Dg E9 [f]:=Dg.cons ⟨by omega,show f<1000000000 by omega⟩ Dg.nil
 have fv:dv E9 [f]=f:=by rw[zw,kV];omega
 have u:0<f:=by omega
 rw[qdK hb.1 fd (by omega) (by simp) (by simp;omega),ZB,qdK ha.1 fd (by omega) (by simp) (by simp;omega),ZB,fv]
 have V0:0<dv E9 b*f:=Int.mul_pos a1 u
 have ebs:dv E9 b=dv E9 (b.take (k+1))+E9^(k+1)*b[k+1]:=by
  have:=qx E9 b (k+1) a2
  rw[List.take_of_length_le (by omega)]at this
  exact this
 have blo0:=qD E0 (hb.1.take (k+1))
 have blo1:=yY E0 (hb.1.take (k+1))
 rw[Ym,Nat.min_eq_left (by omega)]at blo1
 have Vlow:E9^(k+1)*250000000<=dv E9 b*f:=by
  have h1:=Yc f4 (Int.le_of_lt a0)
  rw[ebs,Int.add_mul,Int.mul_assoc]
  have:=Yv blo0 (Int.le_of_lt u)
  omega
 have Vhigh:dv E9 b*f<E9^(k+2):=by
  have h1:(dv E9 b)*f<E9^(k+1)*((b[k+1]+1)*f):=by
   rw[<-Int.mul_assoc]
   refine YH ?_ u
   rw[ebs,Int.mul_add,Int.mul_one]
   omega
  have h3:E9^(k+1)*((b[k+1]+1)*f)<=E9^(k+1)*1000000000:=Yc (by omega) (Int.le_of_lt a0)
  rw[Int.pow_succ]
  exact Int.lt_of_lt_of_le h1 h3
 have U0:0<=dv E9 a*f:=Yv A0 (Int.le_of_lt u)
 have cu:=zC E1 U0
 have euu:=jr E1 U0
 have hA:=yY E0 ha.1
 have lu:(dg E9 (dv E9 a*f)).length<=a.length+1:=by
  refine(qcZ E1 U0).2 ?_
  rw[Int.pow_succ]
  have h1:dv E9 a*f<E9^a.length*f:=YH hA u
  have h2:E9^a.length*f<=E9^a.length*E9:=Yc (show f<=1000000000 by omega) (Int.le_of_lt (pow_pos E0 _))
  omega
 generalize hua:dg E9 (dv E9 a*f)=ua at*
 rw[qc7 (by simp;omega) (by simp;omega),ZB,List.nil_append,qot (by omega) N ua (by omega) lu,ZB]
 have lU:(ua++List.replicate (a.length+1-ua.length) 0).length=m+k+3:=by simp;omega
 have dU:Dg E9 (ua++List.replicate (a.length+1-ua.length) 0):=cu.1.append (Uj E0 _)
 have vU:dv E9 (ua++List.replicate (a.length+1-ua.length) 0)=dv E9 a*f:=by rw[xm,xR,Int.mul_zero,Int.add_zero,euu]
 generalize ua++List.replicate (a.length+1-ua.length) 0=U at*
 have cv:=zC E1 (Int.le_of_lt V0)
 have evv:=jr E1 (Int.le_of_lt V0)
 have lv:(dg E9 (dv E9 b*f)).length=k+2:=by
  have h1:=(qcZ E1 (Int.le_of_lt V0) (n:=k+2)).2 Vhigh
  have h2:=(not_congr (qcZ E1 (Int.le_of_lt V0) (n:=k+1))).2 (by
   have:E9^(k+1)*1<=E9^(k+1)*250000000:=Yc (by omega) (Int.le_of_lt a0)
   omega)
  omega
 generalize hvv:dg E9 (dv E9 b*f)=v at*
 have hkv:k+1<v.length:=by omega
 have hn:1000000<=v[k+1]:=by
  have e:=qx E9 v (k+1) hkv
  rw[List.take_of_length_le (by omega),evv]at e
  have h1:=yY E0 (cv.1.take (k+1))
  rw[Ym,Nat.min_eq_left (by omega)]at h1
  have h2:E9^(k+1)*250000000<E9^(k+1)*(v[k+1]+1):=by rw[Int.mul_add,Int.mul_one];omega
  have:=Int.lt_of_mul_lt_mul_left h2 (Int.le_of_lt a0)
  omega
 have htop:dv E9 (U.drop (m+1))<dv E9 v:=by
  rw[evv]
  have e:=xh E9 U (m+1) (by omega)
  have h1:=qD E0 (dU.take (m+1))
  have h2:dv E9 U<E9^(m+1)*(E9^(k+1)*f):=by
   rw[vU,<-Int.mul_assoc,<-Int.pow_add,show m+1+(k+1)=a.length by omega]
   exact YH hA u
  have hPm:=pow_pos E0 (m+1)
  have h3:E9^(m+1)*dv E9 (U.drop (m+1))<E9^(m+1)*(E9^(k+1)*f):=by omega
  have h4:=Int.lt_of_mul_lt_mul_left h3 (Int.le_of_lt hPm)
  have h5:E9^(k+1)*f<=E9^(k+1)*(b[k+1]*f):=by
   refine Yc ?_ (Int.le_of_lt a0)
   have:=Int.mul_le_mul_of_nonneg_right (show 1<=b[k+1]by omega) (show 0<=f by omega)
   omega
  have h6:E9^(k+1)*(b[k+1]*f)<=dv E9 b*f:=by
   rw[<-Int.mul_assoc]
   exact Int.mul_le_mul_of_nonneg_right (by omega) (Int.le_of_lt u)
  omega
 rw[show w64 ((U.length:Int)-(v.length:Int))=((m+1:Nat):Int)by rw[qh (by omega) (by omega)];omega,qba (by omega),ZB,show w64 (((m+1:Nat):Int)-1)=((m+1:Nat):Int)-1 from qh (by omega) (by omega)]
 obtain⟨l,qs,g1,g2,g3,g4,g5,g6,g7⟩:=qkb (N:=N) (by omega) cv.1 lv (by omega) hn (A:=dv E9 U) (m:=m) (by omega) N (m+1) U (List.replicate (m+1) 0) (Nat.le_refl _) (by omega) lU (by simp) dU (Uj E0 _) (fun j x _ hx=>qhJ j x hx) htop (by rw[xR,Int.mul_zero,Int.add_zero])
 rw[g1,ZB]
 simp only
 rw[vU]at g7
 rw[evv]at g6 g7
 have hl0:=qD E0 g4
 have eq:dv E9 qs=dv E9 a/dv E9 b:=by
  rw[<-Int.mul_ediv_mul_of_pos_left (dv E9 a) (dv E9 b) u,<-g7,Int.add_mul_ediv_left _ _ (by omega),Int.ediv_eq_zero_of_lt hl0 g6,Int.zero_add]
 have er:dv E9 l=dv E9 a%dv E9 b*f:=by
  have:(dv E9 a*f)%(dv E9 b*f)=dv E9 l:=by rw[<-g7,Int.add_mul_emod_self_left,Int.emod_eq_of_lt hl0 g6]
  rw[<-this,Int.mul_comm (dv E9 a),Int.mul_comm (dv E9 b),Int.mul_emod_mul_of_pos _ _ u,Int.mul_comm]
 have hzl:dv E9 (l.drop (k+2))=0:=qdT g4 (by omega)
 have etk:dv E9 (l.take (k+2))=dv E9 l:=by
  have:=xh E9 l (k+2) (by omega)
  rw[hzl,Int.mul_zero,Int.add_zero]at this
  exact this.symm
 have m0:0<=dv E9 a%dv E9 b:=Int.emod_nonneg _ (by omega)
 have r0:0<=dv E9 a%dv E9 b*f:=Yv m0 (Int.le_of_lt u)
 rw[lv,xq (by omega),ZB,qcE (g4.take _) (by rw[Ym];omega) (by rw[Ym];omega),ZB,etk,er,qa6]
 simp only[Yj,ZB]
 have lr:(dg E9 (dv E9 a%dv E9 b*f)).length<=20000:=by
  have h1:(dg E9 (dv E9 a%dv E9 b*f)).length<=k+2:=(qcZ E1 r0).2 (by omega)
  omega
 rw[qgC (zC E1 r0).1 lr (by omega) u (by omega),ZB,jr E1 r0,Int.mul_ediv_cancel _ (by omega),qcE g5 (by omega) (by omega),ZB,eq]
abbrev zR (z:Int) (n:Nat):Prop:=(z.natAbs:Int)<E9^n
theorem zR.len {z:Int} {n:Nat} (h:zR z n):(dg E9 z.natAbs).length<=n:=(qcZ E1 (by omega)).2 h
theorem zR.mono {z:Int} {m n:Nat} (h:zR z m) (d:m<=n):zR z n:=Int.lt_of_lt_of_le h (yL (by decide) d)
theorem qgk (z:Int):Can E9 (rI z).w/\dv E9 (rI z).w=(z.natAbs:Int):=⟨zC E1 (by omega),jr E1 (by omega)⟩
theorem qk0 {N:Nat} (d:60000<N) {z:Int} (h:zR z 50000):xy N (rI z)=some (rI (-z)):=by
 have l:=h.len
 obtain⟨c,e⟩:=qgk z
 unfold xy
 rw[yl _ c.1 (by show(dg E9 z.natAbs).length<=_;omega) (by show(dg E9 z.natAbs).length<_;omega),ZB,e]
 have:(if(!(rI z).neg)=true then-(z.natAbs:Int)else(z.natAbs:Int))= -z:=by
  show(if(!decide (z<0))=true then-(z.natAbs:Int)else(z.natAbs:Int))= -z
  by_cases hz:z<0
  ·rw[decide_eq_true hz,if_neg (by simp)];omega
  rw[decide_eq_false hz,if_pos (by simp)];omega
 rw[this]
theorem qd4 {N:Nat} (hN:60000<N) {a b:Int} (ha:zR a 8000) (hb:zR b 8000):yI N (rI a) (rI b)=some (rI (a*b)):=by
 have la:=ha.len
 have lb:=hb.len
 obtain⟨ca,ea⟩:=qgk a
 obtain⟨cb,eb⟩:=qgk b
 have l1:(rI a).w.length<=8000:=la
 have l2:(rI b).w.length<=8000:=lb
 have u:0<=(a.natAbs:Int)*(b.natAbs:Int):=Yv (by omega) (by omega)
 have lp:(dg E9 ((a.natAbs:Int)*(b.natAbs:Int))).length<=16000:=by
  refine(qcZ E1 u).2 ?_
  rw[show 16000=8000+8000 from rfl,Int.pow_add]
  have h:(a.natAbs:Int)*(b.natAbs:Int)<=(a.natAbs:Int)*E9^8000:=Yc (Int.le_of_lt hb) (by omega)
  have d:(a.natAbs:Int)*E9^8000<E9^8000*E9^8000:=YH ha (pow_pos E0 _)
  omega
 unfold yI
 rw[qdK ca.1 cb.1 (by omega) (by omega) (by omega),ZB,ea,eb,yl _ (zC E1 u).1 (by omega) (by omega),ZB,jr E1 u]
 congr 2
 have j:(a.natAbs:Int)*(b.natAbs:Int)=((a*b).natAbs:Int):=by rw[Int.natAbs_mul,Int.natCast_mul]
 rw[j]
 show(if(!(decide (a<0)==decide (b<0)))=true then _ else _)=_
 by_cases h:a<0
 ·by_cases d:b<0
  ·have:=Int.mul_pos_of_neg_of_neg h d
   rw[decide_eq_true h,decide_eq_true d,if_neg (by simp)]
   omega
  have:=Int.mul_nonpos_of_nonpos_of_nonneg (show a<=0 by omega) (show 0<=b by omega)
  rw[decide_eq_true h,decide_eq_false d,if_pos (by simp)]
  omega
 by_cases d:b<0
 ·have:=Int.mul_nonpos_of_nonneg_of_nonpos (show 0<=a by omega) (show b<=0 by omega)
  rw[decide_eq_false h,decide_eq_true d,if_pos (by simp)]
  omega
 have:=Yv (show 0<=a by omega) (show 0<=b by omega)
 rw[decide_eq_false h,decide_eq_false d,if_neg (by simp)]
 omega
theorem qpS {N:Nat} (hN:60000<N) {a b:Int} (ha:zR a 9000) (hb:zR b 9000):qcs N (rI a) (rI b)=some (rI (a+b)):=by
 have la:=ha.len
 have lb:=hb.len
 obtain⟨ca,ea⟩:=qgk a
 obtain⟨cb,eb⟩:=qgk b
 have l1:(rI a).w.length<=9000:=la
 have l2:(rI b).w.length<=9000:=lb
 have d: ∀x y:Int,0<=x-y->0<=y->x<E9^9000->(dg E9 (x-y)).length<=9000:=fun x y h j h1=>(qcZ E1 h).2 (by omega)
 unfold qcs
 have u:((rI a).neg==(rI b).neg)=(decide (a<0)==decide (b<0)):=rfl
 have na:(rI a).neg=decide (a<0):=rfl
 have nb:(rI b).neg=decide (b<0):=rfl
 rw[u]
 by_cases hs:(a<0↔b<0)
 ·obtain⟨l,e,d1,d2,d3⟩:=qfu (N:=N) ca.1 cb.1 (by omega) (by omega) (by omega)
  rw[if_pos (by rw[beq_iff_eq];exact decide_eq_decide.2 hs),e,ZB,yl _ d1 (by omega) (by omega),ZB,d3,ea,eb,na]
  congr 2
  simp only[decide_eq_true_eq]
  split<;>omega
 rw[if_neg (by rw[beq_iff_eq];exact fun c=>hs (decide_eq_decide.1 c)),qdn ca cb (by omega) (by omega),ZB,ea,eb]
 by_cases hc:(a.natAbs:Int)<(b.natAbs:Int)
 ·rw[if_pos hc,if_neg (by omega),qfI cb ca (by omega) (by omega) (by omega),ZB,ea,eb]
  have j:0<=(b.natAbs:Int)-(a.natAbs:Int):=by omega
  have ll:=d _ _ j (by omega) hb
  rw[yl _ (zC E1 j).1 (by omega) (by omega),ZB,jr E1 j,nb]
  congr 2
  simp only[decide_eq_true_eq]
  split<;>omega
 rw[if_neg hc,if_pos (by split<;>omega),qfI ca cb (by omega) (by omega) (by omega),ZB,ea,eb]
 have j:0<=(a.natAbs:Int)-(b.natAbs:Int):=by omega
 have ll:=d _ _ j (by omega) ha
 rw[yl _ (zC E1 j).1 (by omega) (by omega),ZB,jr E1 j,na]
 congr 2
 simp only[decide_eq_true_eq]
 split<;>omega
theorem qdd {x y:Int} (j:0<=x) (h:x<=y): ∀n:Nat,0<=x^n/\x^n<=y^n
 |0=>by simp
 |n+1=>by
  have d:=qdd j h n
  rw[Int.pow_succ,Int.pow_succ]
  exact⟨Yv d.1 j,Int.mul_le_mul d.2 h j (Int.le_trans d.1 d.2)⟩
theorem qhW {N:Nat} (u:60000<N) (B:Nat) (hB:B<=8000): ∀(k K:Nat) (a b:Int),0<=a->0<=b->b<2^k->2*k+2<=K->zR a B->zR b B->zf N K (dg E9 a) (dg E9 b)=some (dg E9 (Int.gcd a b:Int))
 |k,0,a,b,_,_,_,hK,_,_=>by omega
 |k,K+1,a,b,ha,hb,hk,hK,fa,fb=>by
  have na:(a.natAbs:Int)=a:=by omega
  have nb:(b.natAbs:Int)=b:=by omega
  have done:b=0->zf N (K+1) (dg E9 a) (dg E9 b)=some (dg E9 (Int.gcd a b:Int)):=by
   intro h0
   subst h0
   rw[zf,qdF,if_neg (by simp),Int.gcd_zero,na]
  rcases(show b=0\/0<b by omega)with h0|h0
  ·exact done h0
  match k,hk,hK with
  |0,hk,hK=>simp at hk;omega
  |k+1,hk,hK=>
   have h:=Int.emod_nonneg a (show b≠0 by omega)
   have m1:=Int.emod_lt_of_pos a h0
   have la:=fa.len
   have lb:=fb.len
   rw[na]at la
   rw[nb]at lb
   have a0:0<(dg E9 b).length:=by
    rw[List.length_pos_iff]
    intro c
    have:=(qh4 E1 hb).1 c
    omega
   have fr:zR (a%b) B:=by unfold zR at fb⊢;omega
   rw[zf,if_pos (by omega),qdD u (zC E1 ha) (zC E1 hb) (by omega) (by rw[jr E1 hb];exact h0),ZB,jr E1 ha,jr E1 hb]
   simp only
   rw[qda ha hb]
   match K,hK with
   |0,hK=>omega
   |K+1,hK=>
    rcases(show a%b=0\/0<a%b by omega)with g0|g0
    ·rw[g0,zf,qdF,if_neg (by simp),Int.gcd_zero,nb]
    have lr:=fr.len
    rw[show((a%b).natAbs:Int)=a%b by omega]at lr
    have j:0<(dg E9 (a%b)).length:=by
     rw[List.length_pos_iff]
     intro c
     have:=(qh4 E1 h).1 c
     omega
    have n0:=Int.emod_nonneg b (show a%b≠0 by omega)
    have n1:=Int.emod_lt_of_pos b g0
    rw[zf,if_pos (by omega),qdD u (zC E1 hb) (zC E1 h) (by omega) (by rw[jr E1 h];exact g0),ZB,jr E1 hb,jr E1 h]
    have d:b%(a%b)<2^k:=by
     have d1:=Int.mul_ediv_add_emod b (a%b)
     have d2:1<=b/(a%b):=by
      rw[Int.le_ediv_iff_mul_le g0]
      omega
     have d3:a%b*1<=a%b*(b/(a%b)):=Yc d2 (by omega)
     rw[Int.pow_succ]at hk
     omega
    simp only
    rw[qda hb h]
    exact qhW u B hB k K (a%b) (b%(a%b)) h n0 d (by omega) fr (by unfold zR at fr⊢;omega)
theorem qi7 {N:Nat} (hN:600000<N) {a b:Int} (u:0<=a) (h:0<=b) (fa:zR a 8000) (d:zR b 8000):qaD N (dg E9 a) (dg E9 b)=some (dg E9 (Int.gcd a b:Int)):=by
 have j:b<2^(30*8000):=by
  have e:(2:Int)^(30*8000)=1073741824^8000:=by rw[Int.pow_mul,show(2:Int)^30=1073741824 from rfl]
  rw[e]
  have:E9^8000<=(1073741824:Int)^8000:=(qdd (by decide) (by decide) _).2
  unfold zR at d
  omega
 unfold qaD
 rw[qhW (by omega) 8000 (Nat.le_refl _) (30*8000) N a b u h j (by omega) fa d,ZB]
end Go.Av
end
section
namespace Go.Av
def yj (c:UInt8):Bool:=decide (48<=c.toNat)&&decide (c.toNat<=57)
def qP (n:Nat) (s:List UInt8):Nat:=s.foldl (fun a c=>a*10+(c.toNat-48)) n
theorem qcA (n:Nat):qP n []=n:=List.foldl_nil
theorem qbA (n:Nat) (c:UInt8) (s:List UInt8):qP n (c::s)=qP (n*10+(c.toNat-48)) s:=by
 unfold qP
 rw[List.foldl_cons]
theorem qeM (s:List UInt8): ∀n:Nat,s.all yj=true->qP n s<(n+1)*10^s.length:=by
 induction s with
 |nil=>
  intro n _
  rw[List.length_nil,Nat.pow_zero,Nat.mul_one,qcA]
  exact Nat.lt_succ_self n
 |cons c s ih=>
  intro n h
  rw[List.all_cons,Bool.and_eq_true]at h
  have j:=ih (n*10+(c.toNat-48)) h.2
  have u:c.toNat-48<=9:=by
   have:=h.1
   simp[yj]at this
   omega
  have d:n*10+(c.toNat-48)+1<=(n+1)*10:=by omega
  rw[qbA,Yr,Nat.pow_succ,Nat.mul_comm (10^s.length) 10,<-Nat.mul_assoc]
  exact Nat.lt_of_lt_of_le j (Nat.mul_le_mul_right _ d)
theorem ne48 {c:UInt8} (h: ¬c=48): ¬((c.toNat:Int)=48):=fun e=>h (UInt8.toNat_inj.1 (show c.toNat=48 from by omega))
theorem qpz (c:UInt8):([48,49,50,51,52,53,54,55,56,57]:Str).contains c=yj c:=by
 rw[Bool.eq_iff_iff]
 simp only[List.contains_cons,List.contains_nil,Bool.or_eq_true,beq_iff_eq,yj,Bool.and_eq_true,decide_eq_true_eq,<-UInt8.toNat_inj,Bool.or_false]
 simp only[show(48:UInt8).toNat=48 from rfl,show(49:UInt8).toNat=49 from rfl,show(50:UInt8).toNat=50 from rfl,show(51:UInt8).toNat=51 from rfl,show(52:UInt8).toNat=52 from rfl,show(53:UInt8).toNat=53 from rfl,show(54:UInt8).toNat=54 from rfl,show(55:UInt8).toNat=55 from rfl,show(56:UInt8).toNat=56 from rfl,show(57:UInt8).toNat=57 from rfl]
 omega
theorem qcY {α:Type} {p:α->Bool}: ∀{l:List α},l.dropWhile p=[]↔l.all p=true
 |[]=>by simp
 |x::l=>by
  rw[List.dropWhile_cons,List.all_cons]
  by_cases h:p x=true
  ·rw[if_pos h,h,Bool.true_and];exact qcY
  rw[if_neg h];simp[h]
theorem qnm {s:Str}:(Lib.trimS s [48,49,50,51,52,53,54,55,56,57]==[])=s.all yj:=by
 have e:(fun c=>([48,49,50,51,52,53,54,55,56,57]:Str).contains c)=yj:=funext qpz
 unfold Lib.trimS Lib.trimLeftS Lib.trimRightS
 rw[e]
 rw[Bool.eq_iff_iff,beq_iff_eq,qcY,List.all_reverse]
 constructor
 ·intro h
  have j: ∀x∈s.reverse.takeWhile yj++s.reverse.dropWhile yj,yj x=true:=by
   intro x d
   rcases List.mem_append.1 d with d|d
   ·exact Yp.1 List.all_takeWhile x d
   exact Yp.1 h x d
  rw[List.takeWhile_append_dropWhile]at j
  exact Yp.2 fun x d=>j x (by simpa using d)
 intro h
 have:s.reverse.dropWhile yj=[]:=qcY.2 (by rw[List.all_reverse];exact h)
 rw[this]
 rfl
theorem qir: ∀(s:Str) (n:Nat),s.all yj=true->Lib.decFrom n s=some (qP n s)
 |[],n,_=>rfl
 |c::s,n,h=>by
  rw[List.all_cons,Bool.and_eq_true]at h
  unfold Lib.decFrom
  rw[qbA]
  have d:48<=c.toNat/\c.toNat<=57:=by simpa[yj]using h.1
  have e:Lib.digitVal c=some (c.toNat-48):=by unfold Lib.digitVal;rw[if_pos d]
  rw[e]
  exact qir s _ h.2
theorem qkv {s:Str} (h0:1<=s.length) (h:s.all yj=true):Lib.atoi s=some ((qP 0 s:Nat):Int):=by
 cases s with
 |nil=>simp at h0
 |cons c s=>
  have hc:yj c=true:=by rw[List.all_cons,Bool.and_eq_true]at h;exact h.1
  have d:48<=c.toNat/\c.toNat<=57:=by simpa[yj]using hc
  unfold Lib.atoi Lib.decNat
  have u: ¬(c==45)=true:=fun e=>by rw[beq_iff_eq.1 e]at d;simp at d
  have j: ¬(c==43)=true:=fun e=>by rw[beq_iff_eq.1 e]at d;simp at d
  simp only
  rw[if_neg u,if_neg j,if_neg (by simp),qir _ _ h]
  rfl
theorem qoQ (s:List UInt8): ∀n:Nat,qP n s=n*10^s.length+qP 0 s:=by
 induction s with
 |nil=>intro n;rw[qcA,qcA];simp
 |cons c s ih=>
  intro n
  rw[qbA,qbA,ih,ih (0*10+_),Yr,Nat.pow_succ,Nat.zero_mul,Nat.zero_add,Nat.add_mul]
  rw[Nat.mul_assoc,Nat.mul_comm 10,<-Nat.add_assoc]
theorem qen (s t:List UInt8):qP 0 (s++t)=qP 0 s*10^t.length+qP 0 t:=by
 have:qP 0 (s++t)=qP (qP 0 s) t:=by unfold qP;rw[List.foldl_append]
 rw[this,qoQ]
theorem qge (s:List UInt8) (c:UInt8):qP 0 (s++[c])=qP 0 s*10+(c.toNat-48):=by
 rw[qen]
 simp[qbA,qcA]
def dch (n:Nat):UInt8:=UInt8.ofNat (48+n)
theorem qhe {n:Nat} (h:n<10):(dch n).toNat=48+n:=by
 unfold dch
 rw[UInt8.toNat_ofNat']
 omega
theorem qmm {n:Nat} (h:n<10):yj (dch n)=true:=by
 unfold yj
 rw[qhe h,Bool.and_eq_true,decide_eq_true_eq,decide_eq_true_eq]
 omega
theorem qmn {c:UInt8} (h:yj c=true):c=dch (c.toNat-48)/\c.toNat-48<10:=by
 unfold yj at h
 rw[Bool.and_eq_true,decide_eq_true_eq,decide_eq_true_eq]at h
 refine⟨?_,by omega⟩
 rw[<-UInt8.toNat_inj,qhe (by omega)]
 omega
def qd0:Nat->Nat->Str
 |0,_=>[]
 |k+1,n=>qd0 k (n/10)++[dch (n%10)]
theorem qhq: ∀k n,(qd0 k n).length=k
 |0,n=>rfl
 |k+1,n=>by rw[qd0,Yq,qhq];rfl
theorem yu {n:Nat} (h:n<10):Lib.decDigits n=[dch n]:=by rw[Lib.decDigits,dif_pos h];rfl
theorem qgp {n:Nat} (h: ¬n<10):Lib.decDigits n=Lib.decDigits (n/10)++[dch (n%10)]:=by rw[Lib.decDigits,dif_neg h];rfl
theorem qh5: ∀(k n:Nat),0<n/10^k->Lib.decDigits n=Lib.decDigits (n/10^k)++qd0 k (n%10^k)
 |0,n,_=>by simp[qd0]
 |k+1,n,h=>by
  have d:n/10^(k+1)=n/10/10^k:=by rw[Nat.pow_succ,Nat.mul_comm,Nat.div_div_eq_div_mul]
  have hp:0<10^k:=Nat.pow_pos (by decide)
  have j: ¬n<10:=fun c=>by
   rw[d,Nat.div_eq_of_lt c,Nat.zero_div]at h
   omega
  have u:n%10^(k+1)/10=n/10%10^k:=by rw[Nat.pow_succ,Nat.mul_comm,Nat.mod_mul_right_div_self]
  have e3:n%10^(k+1)%10=n%10:=Nat.mod_mod_of_dvd _ ⟨10^k,by rw[Nat.pow_succ,Nat.mul_comm]⟩
  rw[qgp j,qh5 k (n/10) (by rw[<-d];exact h),qd0,u,e3,d,Yz]
theorem qbX (n:Nat):(Lib.decDigits n).all yj=true:=by
 induction n using Nat.strongRecOn with
 |_ n ih=>
  by_cases h:n<10
  ·rw[yu h,List.all_cons,qmm h];rfl
  rw[qgp h,List.all_append,ih _ (by omega),List.all_cons,qmm (by omega)];rfl
theorem qeo (n:Nat):qP 0 (Lib.decDigits n)=n:=by
 induction n using Nat.strongRecOn with
 |_ n ih=>
  by_cases h:n<10
  ·rw[yu h,qbA,qcA,qhe h];omega
  rw[qgp h,qge,ih _ (by omega),qhe (by omega)];omega
theorem qjM (n:Nat):0<(Lib.decDigits n).length:=by rw[Lib.decDigits_length];exact Lib.nDigits_pos n
theorem qrm {m n:Nat} (h:Lib.decDigits m=Lib.decDigits n):m=n:=by rw[<-qeo m,h,qeo]
theorem xI {n k:Nat} (u:0<k):(Lib.decDigits n).length<=k↔n<10^k:=by
 constructor
 ·intro h
  have:=qeM (Lib.decDigits n) 0 (qbX n)
  rw[qeo]at this
  have j:(10:Nat)^(Lib.decDigits n).length<=10^k:=Nat.pow_le_pow_right (by omega) h
  omega
 intro h
 rcases Nat.lt_or_ge k (Lib.decDigits n).length with c|c
 ·exfalso
  rw[Lib.decDigits_length]at c
  obtain⟨m,hm⟩: ∃m,Lib.nDigits n=m+2:=⟨Lib.nDigits n-2,by omega⟩
  have d: ∀(n m:Nat),Lib.nDigits n=m+2->10^(m+1)<=n:=by
   intro n
   induction n using Nat.strongRecOn with
   |_ n ih=>
    intro m hm
    by_cases h:n<10
    ·rw[Lib.nDigits_small h]at hm;omega
    rw[Lib.nDigits_big h]at hm
    cases m with
    |zero=>simp;omega
    |succ m=>
     have:=ih (n/10) (by omega) m (by omega)
     rw[Nat.pow_succ]
     omega
  have:=d n m hm
  have j:(10:Nat)^k<=10^(m+1):=Nat.pow_le_pow_right (by omega) (by omega)
  omega
 exact c
def Dec (s:Str):Prop:=0<s.length/\s.all yj=true/\(s[0]? =some 48->s=[48])
instance (s:Str):Decidable (Dec s):=by unfold Dec;infer_instance
theorem qmr {c:UInt8} (h:yj c=true):Dec [c]:=⟨by simp,by simp[h],fun e=>by simp at e;rw[e]⟩
theorem qpj: ∀(k:Nat) (s:Str),s.length<=k->Dec s->s=Lib.decDigits (qP 0 s)
 |0,s,h,hd=>by have:=hd.1;omega
 |k+1,s,h,hd=>by
  rcases List.eq_nil_or_concat s with e|⟨t,c,e⟩
  ·rw[e]at hd;exact absurd hd.1 (by simp)
  rw[List.concat_eq_append]at e
  subst e
  have u:=hd.2.1
  rw[List.all_append,Bool.and_eq_true,List.all_cons,List.all_nil,Bool.and_true]at u
  obtain⟨ec,hc⟩:=qmn u.2
  by_cases ht:t=[]
  ·subst ht
   rw[List.nil_append,qbA,qcA,Nat.zero_mul,Nat.zero_add,yu hc,<-ec]
  have d:0<t.length:=List.length_pos_iff.2 ht
  have h0:t[0]? ≠some 48:=fun e=>by
   have:=hd.2.2 (by rw[Yf d];exact e)
   have:=congrArg List.length this
   rw[Yq,List.length_singleton,List.length_singleton]at this
   omega
  have hD:Dec t:=⟨d,u.1,fun e=>absurd e h0⟩
  have j:=qpj k t (by simp at h;omega) hD
  have hv:qP 0 t≠0:=fun e=>by
   rw[e]at j
   exact h0 (by rw[j,yu (by decide)];rfl)
  rw[qge,qgp (by omega),show(qP 0 t*10+(c.toNat-48))/10=qP 0 t by omega,show(qP 0 t*10+(c.toNat-48))%10=c.toNat-48 by omega,<-j,<-ec]
theorem Dec.eq {s:Str} (h:Dec s):s=Lib.decDigits (qP 0 s):=qpj s.length s (Nat.le_refl _) h
end Go.Av
end
section
namespace Go.Av
theorem qbC {a b:Str} (h:a.length+b.length<=1000000000):cat a b=some (a++b):=by
 unfold cat
 rw[if_pos (by omega)]
theorem dcut {d:Nat} (h:d<10):cut ([48,49,50,51,52,53,54,55,56,57]:Str) (d:Int) (w64 ((d:Int)+1))=some [dch d]:=by
 rw[zn (by omega)]
 rcases(show d=0\/d=1\/d=2\/d=3\/d=4\/d=5\/d=6\/d=7\/d=8\/d=9 by omega)with e|e|e|e|e|e|e|e|e|e<;>subst e<;>decide
theorem tm10 (n:Nat):(n:Int).tmod 10=((n%10:Nat):Int):=by rw[Int.tmod_eq_emod_of_nonneg (by omega)];omega
theorem td10 (n:Nat):(n:Int).tdiv 10=((n/10:Nat):Int):=by rw[YF (by omega)];omega
theorem qgd {least:Int} {K n:Nat} {s:Str} (j:n<9223372036854775808) (hs:s.length<=1000) (h:0<n\/(s.length:Int)<least):qN least (K+1) (n:Int) s=qN least K ((n/10:Nat):Int) (dch (n%10)::s):=by
 have d:(if(n:Int)>0 then some true else some (decide ((s.length:Int)<least)):Option Bool)=some true:=by
  by_cases c:(n:Int)>0
  ·rw[if_pos c]
  rw[if_neg c,decide_eq_true (by omega)]
 rw[qN,d,ZB,if_pos rfl,tm10,td10,dcut (by omega),ZB,qbC (by simp;omega),ZB,qh (by omega) (by omega)]
 rfl
theorem qgu {least:Int} {K:Nat} {s:Str} (h: ¬(s.length:Int)<least):qN least (K+1) 0 s=some s:=by
 rw[qN,if_neg (by omega),decide_eq_false h,ZB,if_neg (by simp)]
theorem qkI: ∀(k K n:Nat) (s:Str),n<10^k->s.length+k=9->k<K->qN 9 K (n:Int) s=some (qd0 k n++s)
 |k,0,n,s,_,_,h=>by omega
 |0,K+1,n,s,hn,hs,h=>by
  simp at hn
  subst hn
  exact qgu (by omega)
 |k+1,K+1,n,s,hn,hs,h=>by
  have d:(10:Nat)^(k+1)<=10^9:=Nat.pow_le_pow_right (by omega) (by omega)
  rw[Nat.pow_succ]at hn
  rw[qgd (by rw[Nat.pow_succ]at d;omega) (by omega) (.inr (by omega)),qkI k K (n/10) _ (by omega) (by simp;omega) (by omega),qd0,Yz]
  rfl
theorem qj7: ∀(k K n:Nat) (s:Str),0<n->n<10^k->n<9223372036854775808->s.length+k<=900->k<K->qN 1 K (n:Int) s=some (Lib.decDigits n++s)
 |k,0,n,s,_,_,_,_,h=>by omega
 |0,K+1,n,s,h0,hn,_,hs,h=>by simp at hn;omega
 |k+1,K+1,n,s,h0,hn,h63,hs,h=>by
  rw[Nat.pow_succ]at hn
  rw[qgd h63 (by omega) (.inl h0)]
  by_cases c:n<10
  ·obtain⟨K2,rfl⟩: ∃K2,K=K2+1:=⟨K-1,by omega⟩
   rw[show n/10=0 by omega,yu c,show n%10=n by omega]
   exact qgu (by simp;omega)
  rw[qj7 k K (n/10) _ (by omega) (by omega) (by omega) (by simp;omega) (by omega),qgp c,Yz]
  rfl
theorem qoy {N n:Nat} (d:100<N) (h:n<1000000000):zK N (n:Int) 9=some (qd0 9 n):=by
 unfold zK
 rw[qkI 9 N n [] h rfl (by omega),ZB,YQ]
theorem qii {N n:Nat} (u:100<N) (h:n<9223372036854775808):zK N (n:Int) 1=some (Lib.decDigits n):=by
 unfold zK
 rcases Nat.eq_zero_or_pos n with e|e
 ·subst e
  obtain⟨K,rfl⟩: ∃K,N=K+1+1:=⟨N-2,by omega⟩
  have j:=qgd (least:=1) (K:=K+1) (n:=0) (s:=[]) (by omega) (by simp) (.inr (by simp))
  rw[j,Nat.zero_div]
  have d:=qgu (least:=1) (K:=K) (s:=[dch (0%10)]) (by simp)
  have d:qN 1 (K+1) ((0:Nat):Int) [dch (0%10)]=_:=d
  rw[d,ZB,yu (by decide)]
 rw[qj7 19 N n [] e (by omega) h (by simp) (by omega),ZB,YQ]
theorem qib: ∀k:Nat,E9^k=((10^(9*k):Nat):Int)
 |0=>rfl
 |k+1=>by
  rw[Int.pow_succ,qib k,Nat.mul_succ,Nat.pow_add,Int.natCast_mul]
  rfl
def nv (w:List Int):Nat:=(dv E9 w).toNat
theorem qjp {w:List Int} (h:Dg E9 w):(nv w:Int)=dv E9 w:=by
 have:=qD E0 h
 unfold nv
 omega
theorem nv_lt {w:List Int} (h:Dg E9 w):nv w<10^(9*w.length):=by
 have d:=yY E0 h
 rw[qib,<-qjp h]at d
 omega
theorem qja {w:List Int} (h:Dg E9 w):(Lib.decDigits (nv w)).length<=9*w.length+1:=by
 refine(xI (by omega)).2 ?_
 have:=nv_lt h
 rw[Nat.pow_succ]
 omega
theorem qmI {w:List Int} (h:Dg E9 w) {i:Nat} (hi:i<w.length):nv (w.drop i)=w[i].toNat+1000000000*nv (w.drop (i+1)):=by
 have d:=qjp (h.drop i)
 have j:=qjp (h.drop (i+1))
 have u:=(h.at hi).1
 rw[qis w hi]at d
 have h4:E9*dv E9 (w.drop (i+1))=1000000000*dv E9 (w.drop (i+1)):=rfl
 omega
theorem qkH {N:Nat} (hN:100<N) {a:qC} (j:Dg E9 a.w) (u:a.w.length<=100000): ∀(K i:Nat),i<=a.w.length->i<K->0<nv (a.w.drop i)->yc N a K (Lib.decDigits (nv (a.w.drop i))) ((i:Int)-1)=some (Lib.decDigits (nv a.w))
 |0,i,_,h,_=>by omega
 |K+1,0,_,_,_=>by
  rw[yc,if_neg (by omega),YR]
 |K+1,i+1,hi,h,hp=>by
  have d:i<a.w.length:=by omega
  have ax:=j.at d
  have ax2:a.w[i]<1000000000:=ax.2
  have ei:((i+1:Nat):Int)-1=(i:Int):=by omega
  have ed:a.w[i]=(a.w[i].toNat:Int):=by omega
  have el:=qmI j d
  have ll:=qja (j.drop (i+1))
  rw[YJ]at ll
  rw[yc,ei,if_pos (by omega),qA,Ya d,ZB]
  have e9:zK N a.w[i] 9=some (qd0 9 a.w[i].toNat):=by
   conv=>lhs;rw[ed]
   exact qoy hN (by omega)
  rw[e9,ZB,qbC (by rw[qhq];omega),ZB,qh (by omega) (by omega)]
  have a0:Lib.decDigits (nv (a.w.drop (i+1)))++qd0 9 a.w[i].toNat=Lib.decDigits (nv (a.w.drop i)):=by
   have h9:(10:Nat)^9=1000000000:=rfl
   have q:nv (a.w.drop i)/10^9=nv (a.w.drop (i+1)):=by rw[h9];omega
   have r:nv (a.w.drop i)%10^9=a.w[i].toNat:=by rw[h9];omega
   rw[qh5 9 (nv (a.w.drop i)) (by rw[q];exact hp),q,r]
  rw[a0]
  exact qkH hN j u K i (by omega) (by omega) (by omega)
theorem yh {z:Int} (h:z<0):Lib.itoa z=45::Lib.decDigits z.natAbs:=by unfold Lib.itoa;rw[if_pos h]
theorem zS {z:Int} (h: ¬z<0):Lib.itoa z=Lib.decDigits z.natAbs:=by
 unfold Lib.itoa
 rw[if_neg h,show z.toNat=z.natAbs by omega]
theorem qgU {N:Nat} (hN:60000<N) {z:Int} (h:zR z 50000):qap N (rI z)=some (Lib.itoa z):=by
 obtain⟨c,e⟩:=qgk z
 have l:(rI z).w.length<=50000:=h.len
 have en:nv (rI z).w=z.natAbs:=by unfold nv;rw[e];omega
 have ng:(rI z).neg=decide (z<0):=rfl
 unfold qap
 by_cases h0:(rI z).w.length=0
 ·have d:z=0:=by
   rw[YL.1 h0,kV]at e
   omega
  rw[if_pos (by omega),d]
  have:Lib.itoa 0=[48]:=by rw[zS (by decide)];exact yu (by decide)
  rw[this]
 have j:(rI z).w.length-1<(rI z).w.length:=by omega
 have ax:=c.1.at j
 have ax2:(rI z).w[(rI z).w.length-1]<1000000000:=ax.2
 have an:(rI z).w[(rI z).w.length-1]≠0:=c.2 _ (by rw[List.getLast?_eq_getElem?];exact Ya j)
 have ed:(rI z).w[(rI z).w.length-1]=((rI z).w[(rI z).w.length-1].toNat:Int):=by omega
 have u:nv ((rI z).w.drop ((rI z).w.length-1))=(rI z).w[(rI z).w.length-1].toNat:=by
  rw[qmI c.1 j,List.drop_of_length_le (by omega)]
  rfl
 have e2:zK N (rI z).w[(rI z).w.length-1] 1=some (Lib.decDigits (nv ((rI z).w.drop ((rI z).w.length-1)))):=by
  conv=>lhs;rw[ed]
  rw[u]
  exact qii (by omega) (by omega)
 have e3:=qkH (N:=N) (by omega) c.1 (by omega) N ((rI z).w.length-1) (by omega) (by omega) (by rw[u];omega)
 have ll:=qja c.1
 rw[if_neg (by omega),qjS (by omega) (by omega),qA,Ya j,ZB,e2,ZB,show w64 (((rI z).w.length:Int)-2)=(((rI z).w.length-1:Nat):Int)-1 by rw[qh (by omega) (by omega)];omega,e3,ZB,ng]
 by_cases d:z<0
 ·rw[decide_eq_true d,if_pos rfl,qbC (by simp;omega),ZB,yh d,en]
  rfl
 rw[decide_eq_false d,if_neg (by simp),zS d,en]
theorem qkM {s:Str} (j:s.all yj=true) (u:s.length<=18): ∀(K i:Nat),i<=s.length->s.length<K+i->vg s K ((qP 0 (s.take i):Nat):Int) (i:Int)=some ((qP 0 s:Nat):Int)
 |0,i,h,hK=>by omega
 |K+1,i,h,hK=>by
  rw[vg]
  by_cases hi:i<s.length
  ·have ht:s.take (i+1)=s.take i++[s[i]]:=List.take_succ_eq_append_getElem hi
   have d:yj s[i]=true:=Yp.1 j _ (List.getElem_mem hi)
   obtain⟨_,hc2⟩:=qmn d
   have a0:48<=s[i].toNat:=by
    unfold yj at d
    rw[Bool.and_eq_true,decide_eq_true_eq]at d
    exact d.1
   have hv:=qeM (s.take i) 0 (Yp.2 fun x hx=>Yp.1 j x (List.mem_of_mem_take hx))
   have hp:(10:Nat)^(s.take i).length<=10^17:=Nat.pow_le_pow_right (by omega) (by rw[Ym];omega)
   have hp2:(10:Nat)^17=100000000000000000:=rfl
   rw[if_pos (by omega),qA,Ya hi,ZB,qh (n:=10*((qP 0 (s.take i):Nat):Int)) (by omega) (by omega),qh (n:=(s[i].toNat:Int)) (by omega) (by omega),qh (n:=10*((qP 0 (s.take i):Nat):Int)+(s[i].toNat:Int)) (by omega) (by omega),qh (by omega) (by omega),zn (by omega)]
   have e:10*((qP 0 (s.take i):Nat):Int)+(s[i].toNat:Int)-48=((qP 0 (s.take (i+1)):Nat):Int):=by rw[ht,qge];omega
   rw[e]
   exact qkM j u K (i+1) (by omega) (by omega)
  rw[if_neg (by omega),List.take_of_length_le (by omega)]
theorem qfB {N:Nat} (j:100<N) {s:Str} (h:s.all yj=true) (d:s.length<=18):xz N s=some ((qP 0 s:Nat):Int):=by
 have e:=qkM h d N 0 (by omega) (by omega)
 have e:vg s N 0 0=_:=e
 unfold xz
 rw[e,ZB]
theorem qih {s:Str} (h:s.all yj=true) (k:Nat):(s.take k).all yj=true:=Yp.2 fun x hx=>Yp.1 h x (List.mem_of_mem_take hx)
theorem qht {s:Str} (h:s.all yj=true) (k:Nat):(s.drop k).all yj=true:=Yp.2 fun x hx=>Yp.1 h x (List.mem_of_mem_drop hx)
theorem qke {N:Nat} (hN:100<N): ∀(K:Nat) (l:List Int) (s:Str),s.all yj=true->l.length+s.length<=90000->s.length<K->Dg E9 l->
 ∃d s',yo N K l s=some (d,s')/\s'.length<=9/\s'.all yj=true/\Dg E9 d/\d.length<=90000/\dv E9 d+E9^d.length*(qP 0 s':Nat)=dv E9 l+E9^l.length*(qP 0 s:Nat)
 |0,l,s,_,_,h,_=>by omega
 |K+1,l,s,hd,hl,h,hg=>by
  rw[yo]
  by_cases c:s.length>9
  ·have u:(s.drop (s.length-9)).length=9:=by rw[YJ];omega
   have hv:=qfB (N:=N) hN (qht hd (s.length-9)) (by omega)
   have j:=qeM _ 0 (qht hd (s.length-9))
   rw[u]at j
   rw[if_pos (by omega),show w64 ((s.length:Int)-9)=((s.length-9:Nat):Int)by rw[qh (by omega) (by omega)];omega,xV (by omega),ZB,hv,ZB,qc7 (by simp;omega) (by simp;omega),ZB,xq (by omega),ZB]
   obtain⟨d,s',f1,f2,f3,f4,f5,f6⟩:=qke hN K (l++[((qP 0 (s.drop (s.length-9)):Nat):Int)]) (s.take (s.length-9)) (qih hd _) (by simp;omega) (by rw[Ym];omega) (hg.append (Dg.cons ⟨by omega,show((qP 0 (s.drop (s.length-9)):Nat):Int)<1000000000 by omega⟩ Dg.nil))
   refine⟨d,s',f1,f2,f3,f4,f5,?_⟩
   rw[f6,qeR,Yq,List.length_singleton,Int.pow_succ,Int.mul_assoc]
   have e:qP 0 s=qP 0 (s.take (s.length-9))*1000000000+qP 0 (s.drop (s.length-9)):=by
    have:=qen (s.take (s.length-9)) (s.drop (s.length-9))
    rw[YS,u]at this
    exact this
   have e2:((qP 0 s:Nat):Int)=((qP 0 (s.drop (s.length-9)):Nat):Int)+E9*((qP 0 (s.take (s.length-9)):Nat):Int):=by
    have h4:E9*((qP 0 (s.take (s.length-9)):Nat):Int)=1000000000*((qP 0 (s.take (s.length-9)):Nat):Int):=rfl
    omega
   rw[e2,Int.mul_add]
   omega
  rw[if_neg (by omega)]
  exact⟨l,s,rfl,by omega,hd,hg,by omega,rfl⟩
def sgn (s:Str):Bool:=decide (s[0]? =some 45)
def bdy (s:Str):Str:=if sgn s=true then s.drop 1 else s
theorem qf8 (s:Str):(if(s.length:Int)>0 then(idx s 0).bind fun c=>some (decide ((c.toNat:Int)=45))else some false:Option Bool)=some (sgn s):=by
 unfold sgn
 cases s with
 |nil=>rfl
 |cons c t=>
  rw[if_pos (by simp),qa6]
  have e:((c.toNat:Int)=45)↔(some c=some (45:UInt8)):=⟨fun h=>congrArg some (UInt8.toNat_inj.1 (show c.toNat=45 by omega)),fun h=>by rw[Ye h];rfl⟩
  simp only[Yj,ZB]
  congr 1
  exact decide_eq_decide.2 e
theorem qlk (s:Str):(if sgn s=true then(cut s 1 (s.length:Int)).bind fun x=>some x else some s:Option Str)=some (bdy s):=by
 unfold bdy
 cases h:sgn s with
 |false=>rw[if_neg (by simp),if_neg (by simp)]
 |true=>
  have d:1<=s.length:=by
   cases s with
   |nil=>simp[sgn]at h
   |cons=>simp
  have:=xV d
  have e:cut s 1 (s.length:Int)=some (s.drop 1):=this
  rw[if_pos rfl,if_pos rfl,e,ZB]
def qjA (s:Str):Int:=if sgn s=true then-((qP 0 (bdy s):Nat):Int)else((qP 0 (bdy s):Nat):Int)
theorem qij {N:Nat} (hN:100000<N) {s:Str} (hd:(bdy s).all yj=true) (hl:(bdy s).length<=80000):qah N s=some (rI (qjA s)):=by
 unfold qah
 rw[qf8,ZB,qlk,ZB]
 obtain⟨l,t,u,f2,d,f4,f5,f6⟩:=qke (N:=N) (by omega) N [] (bdy s) hd (by simp;omega) (by omega) Dg.nil
 have hv:=qfB (N:=N) (by omega) d (by omega)
 have h:=qeM _ 0 d
 have hp:(10:Nat)^t.length<=10^9:=Nat.pow_le_pow_right (by omega) f2
 rw[u,ZB]
 simp only
 have j:=f4.append (r:=[((qP 0 t:Nat):Int)]) (Dg.cons ⟨by omega,show((qP 0 t:Nat):Int)<1000000000 by omega⟩ Dg.nil)
 rw[hv,ZB,qc7 (by simp;omega) (by simp;omega),ZB,yl _ j (by simp;omega) (by simp;omega),ZB,qeR,f6]
 simp only[kV,List.length_nil,Int.pow_zero,Int.one_mul,Int.zero_add]
 rfl
theorem qfy (z:Int):sgn (Lib.itoa z)=decide (z<0):=by
 unfold sgn
 by_cases h:z<0
 ·rw[yh h,decide_eq_true h];rfl
 rw[zS h,decide_eq_false h]
 refine decide_eq_false fun e=>?_
 have d:(45:UInt8)∈Lib.decDigits z.natAbs:=Yn e
 have:=Yp.1 (qbX z.natAbs) _ d
 exact absurd this (by decide)
theorem qbV (z:Int):bdy (Lib.itoa z)=Lib.decDigits z.natAbs:=by
 unfold bdy
 rw[qfy]
 by_cases h:z<0
 ·rw[decide_eq_true h,if_pos rfl,yh h];rfl
 rw[decide_eq_false h,if_neg (by simp),zS h]
theorem qcc (z:Int):qjA (Lib.itoa z)=z:=by
 unfold qjA
 rw[qfy,qbV,qeo]
 by_cases h:z<0
 ·rw[decide_eq_true h,if_pos rfl];omega
 rw[decide_eq_false h,if_neg (by simp)];omega
def slA:Str->Nat
 |[]=>0
 |c::s=>if c=47 then 0 else slA s+1
theorem qgr: ∀s:Str,slA s<=s.length
 |[]=>Nat.le_refl _
 |c::s=>by
  rw[slA,Yr]
  have:=qgr s
  split<;>omega
theorem qkW {s:Str} (d:s.length<=1000000): ∀(K i:Nat),i<=s.length->s.length<K+i->vH s K (i:Int)=some (if i+slA (s.drop i)<s.length then .inr ((i+slA (s.drop i):Nat):Int)else .inl ())
 |0,i,h,hK=>by omega
 |K+1,i,h,hK=>by
  rw[vH]
  by_cases hi:i<s.length
  ·have j:s.drop i=s[i]::s.drop (i+1):=YG hi
   rw[if_pos (by omega),qA,Ya hi,ZB,j,slA]
   by_cases c:s[i]=47
   ·rw[if_pos c,if_pos (by rw[c];rfl),Nat.add_zero,if_pos hi]
   rw[if_neg c,if_neg (fun e=>c (UInt8.toNat_inj.1 (show s[i].toNat=47 by omega))),zn (by omega),qkW d K (i+1) (by omega) (by omega),show i+1+slA (s.drop (i+1))=i+(slA (s.drop (i+1))+1)by omega]
  rw[if_neg (by omega),List.drop_of_length_le (by omega),if_neg (by omega)]
theorem qdk {N:Nat} {s:Str} (d:s.length<=1000000) (j:s.length<N):vW N s=some (slA s:Int):=by
 have e:=qkW d N 0 (by omega) (by omega)
 have e:vH s N 0=_:=e
 have h:=qgr s
 unfold vW
 rw[e,YR,Nat.zero_add]
 by_cases c:slA s<s.length
 ·rw[if_pos c];rfl
 rw[if_neg c]
 have:slA s=s.length:=by omega
 rw[this]
 rfl
theorem qjd: ∀(s t:Str),(∀c∈s,c≠47)->slA (s++47::t)=s.length/\slA s=s.length
 |[],t,_=>⟨by simp[slA],rfl⟩
 |c::s,t,h=>by
  have d:=qjd s t fun x hx=>h x (List.mem_cons_of_mem _ hx)
  rw[List.cons_append,slA,slA,if_neg (h c (List.mem_cons_self ..)),if_neg (h c (List.mem_cons_self ..)),d.1,d.2]
  exact⟨rfl,rfl⟩
end Go.Av
end
section
namespace Go.Av
theorem and1 {n:Nat} (h:n<4611686018427387904):qB .i64 (n:Int) 1=((n%2:Nat):Int):=by
 show IntKind.wrap .i64 _=_
 have e:(BitVec.ofInt IntKind.i64.bits (n:Int)&&&BitVec.ofInt IntKind.i64.bits 1).toNat=n%2:=by
  rw[BitVec.toNat_and]
  show(BitVec.ofInt 64 (n:Int)).toNat&&&(BitVec.ofInt 64 1).toNat=_
  rw[qcj (by omega) (by omega),qcj (by omega) (by omega)]
  exact Nat.and_one_is_mod n
 rw[e]
 show w64 _=_
 exact qh (by omega) (by omega)
theorem shr1 (n:Nat):qy .i64 (n:Int) 1=((n/2:Nat):Int):=by
 show(n:Int).fdiv 2=_
 rw[Int.fdiv_eq_ediv_of_nonneg _ (by decide)]
 omega
theorem qpd {N:Nat} (hN:11000<N): ∀(K n:Nat) (b d:qg) (x y:Int) (mb ma:Nat),n<100000->n<K->IsZ b x->IsZ d y->Fit x mb->Fit y ma->ma+mb*n<=3900->
 ∃r,vw N K b.s b.w d.s d.w (n:Int)=some (r.s,r.w)/\IsZ r (y*x^n)
 |0,n,_,_,_,_,_,_,_,h,_,_,_,_,_=>by omega
 |K+1,n,b,d,x,y,mb,ma,hn,hK,hb,hacc,fx,fy,hm=>by
  rw[vw]
  by_cases h0:n=0
  ·subst h0
   rw[if_neg (by omega)]
   exact⟨d,rfl,by simpa using hacc⟩
  have hmb:mb<=mb*n:=Nat.le_mul_of_pos_right _ (by omega)
  obtain⟨m,r,hr,hmr⟩: ∃m r,r<2/\n=2*m+r:=⟨n/2,n%2,by omega,by omega⟩
  have emb:mb*n=mb*m+mb*m+mb*r:=by rw[hmr,Nat.mul_add,<-Nat.mul_assoc,Nat.mul_comm mb 2,Nat.two_mul,Nat.add_mul]
  have S1: ∃(j:qg) (m2:Nat),(if(qB .i64 (n:Int) 1)=1 then(qE N (⟨d.s,d.w⟩:qg) (⟨b.s,b.w⟩:qg)).bind fun r20=>some (r20.s,r20.w)else some (d.s,d.w):Option (Int×(List Int)))=some (j.s,j.w)/\IsZ j (y*x^r)/\Fit (y*x^r) m2/\m2=ma+mb*r:=by
   rw[and1 (by omega),show n%2=r by omega]
   rcases(show r=0\/r=1 by omega)with e|e<;>subst e
   ·rw[if_neg (by simp)]
    exact⟨d,ma,rfl,by simpa using hacc,by simpa using fy,by simp⟩
   obtain⟨p,e1,h1⟩:=qcW hN hacc hb (fy.mono (by omega)) (fx.mono (by omega))
   have e1:qE N (⟨d.s,d.w⟩:qg) (⟨b.s,b.w⟩:qg)=some p:=e1
   rw[if_pos (by simp),e1,ZB]
   exact⟨p,ma+mb,rfl,by rw[Int.pow_one];exact h1,by rw[Int.pow_one];exact yO fy fx,by simp⟩
  obtain⟨j,m2,e1,h1,f1,em2⟩:=S1
  have S2: ∃(u:qg) (x2:Int) (m3:Nat),(if(n:Int)>1 then(qE N (⟨b.s,b.w⟩:qg) (⟨b.s,b.w⟩:qg)).bind fun r22=>some (r22.s,r22.w,j.s,j.w)else some (b.s,b.w,j.s,j.w):Option (Int×(List Int)×Int×(List Int)))=some (u.s,u.w,j.s,j.w)/\IsZ u x2/\Fit x2 m3/\m3*m=mb*m+mb*m/\x2^m=(x*x)^m:=by
   by_cases c:(n:Int)>1
   ·have hm1:1<=m:=by omega
    have h3:mb<=mb*m:=Nat.le_mul_of_pos_right _ hm1
    obtain⟨p,e2,h2⟩:=qcW hN hb hb (fx.mono (by omega)) (fx.mono (by omega))
    have e2:qE N (⟨b.s,b.w⟩:qg) (⟨b.s,b.w⟩:qg)=some p:=e2
    rw[if_pos c,e2,ZB]
    exact⟨p,x*x,mb+mb,rfl,h2,yO fx fx,Nat.add_mul _ _ _,rfl⟩
   have hm0:m=0:=by omega
   subst hm0
   rw[if_neg c]
   exact⟨b,x,mb,rfl,hb,fx,by simp,by simp⟩
  obtain⟨u,x2,m3,e2,h2,f2,em3,ex⟩:=S2
  have S:((if(qB .i64 (n:Int) 1)=1 then(qE N (⟨d.s,d.w⟩:qg) (⟨b.s,b.w⟩:qg)).bind fun r20=>some (r20.s,r20.w)else some (d.s,d.w):Option (Int×(List Int)))).bind (fun(n16,l17)=>
   if(n:Int)>1 then(qE N (⟨b.s,b.w⟩:qg) (⟨b.s,b.w⟩:qg)).bind fun r22=>some (r22.s,r22.w,n16,l17)else some (b.s,b.w,n16,l17))=some (u.s,u.w,j.s,j.w):=by
   rw[e1,ZB]
   exact e2
  obtain⟨r',e3,h3⟩:=qpd hN K m u j x2 (y*x^r) m3 m2 (by omega) (by omega) h2 h1 f2 f1 (by omega)
  rw[if_pos (by omega),S,ZB]
  simp only
  rw[shr1,show n/2=m by omega]
  refine⟨r',e3,?_⟩
  have hx2:x*x=x^2:=by rw[Int.pow_succ,Int.pow_succ,Int.pow_zero,Int.one_mul]
  rw[ex,Int.mul_assoc,hx2,<-Int.pow_mul,<-Int.pow_add,show r+2*m=n by omega]at h3
  exact h3
theorem qqJ {N:Nat} (hN:110000<N) {b:qg} {x:Int} {n mb:Nat} (hn:n<100000) (j:IsZ b x) (u:Fit x mb) (d:1+mb*n<=3900): ∃r,qbQ N b (n:Int)=some r/\IsZ r (x^n):=by
 obtain⟨r,e,h⟩:=qpd (N:=N) (by omega) N n b ⟨1,[]⟩ x 1 mb 1 hn (by omega) j (Ue (by decide) (by decide)) u (F1 (by omega)) d
 have e:vw N N b.s b.w 1 [] (n:Int)=some (r.s,r.w):=e
 unfold qbQ
 rw[qik,ZB]
 simp only
 rw[e,ZB]
 exact⟨r,rfl,by rw[Int.one_mul]at h;exact h⟩
theorem qfx {z:Int} {p n:Nat} (h:(z.natAbs:Int)<((10^p:Nat):Int)) (d:p<=19*n):Fit z n:=by
 have j:(10:Nat)^p<=10^(19*n):=Nat.pow_le_pow_right (by omega) d
 have u:((10^(19*n):Nat):Int)<=W^n:=by
  rw[Nat.pow_mul]
  have:=(qdd (x:=10000000000000000000) (y:=W) (by decide) (by decide) n).2
  rw[Int.natCast_pow]
  exact this
 unfold Fit
 omega
theorem qcC (s:Str):strings_HasPrefix s [45]=some (sgn s):=by
 unfold strings_HasPrefix stringslite_HasPrefix sgn
 cases s with
 |nil=>rfl
 |cons c t=>
  rw[if_pos (by simp;omega)]
  have e:cut (c::t) 0 (([45]:Str).length:Int)=some [c]:=xq (l:=c::t) (k:=1) (by simp)
  rw[e]
  simp only[ZB,Yj]
  congr 1
  rw[Bool.eq_iff_iff,beq_iff_eq,decide_eq_true_eq]
  constructor
  ·intro h;injection h with h;rw[h]
  intro h;rw[Ye h]
theorem qj2 {s:Str} (h:sgn s=true):1<=s.length:=by
 cases s with
 |nil=>simp[sgn]at h
 |cons=>simp
theorem qe6 (s:Str):strings_TrimPrefix s [45]=some (bdy s):=by
 unfold strings_TrimPrefix stringslite_TrimPrefix
 have e:stringslite_HasPrefix s [45]=some (sgn s):=by
  have:=qcC s
  unfold strings_HasPrefix at this
  cases h:stringslite_HasPrefix s [45]with
  |none=>rw[h]at this;cases this
  |some b=>rw[h]at this;exact this
 rw[e,ZB]
 unfold bdy
 cases h:sgn s with
 |false=>rw[if_neg (by simp),if_neg (by simp),ZB]
 |true=>
  have d:cut s (([45]:Str).length:Int) (s.length:Int)=some (s.drop 1):=xV (qj2 h)
  rw[if_pos rfl,if_pos rfl,d,ZB,ZB]
theorem qjs (s:Str):strings_CutPrefix s [45]=some (bdy s,sgn s):=by
 unfold strings_CutPrefix stringslite_CutPrefix
 have e:stringslite_HasPrefix s [45]=some (sgn s):=by
  have:=qcC s
  unfold strings_HasPrefix at this
  cases h:stringslite_HasPrefix s [45]with
  |none=>rw[h]at this;cases this
  |some b=>rw[h]at this;exact this
 rw[e,ZB]
 unfold bdy
 cases h:sgn s with
 |false=>rw[if_pos (by simp),if_neg (by simp),ZB]
 |true=>
  have d:cut s (([45]:Str).length:Int) (s.length:Int)=some (s.drop 1):=xV (qj2 h)
  rw[if_neg (by simp),if_pos rfl,d,ZB,ZB]
theorem qmg {N:Nat} (hN:600000<N): ∀(K:Nat) (x:qg) (y:Int) (s:Str) (p:Nat),IsZ x y->0<=y->y<((10^p:Nat):Int)->p+s.length<=19000->s.all yj=true->s.length<K->
 ∃r,xA N K x.s x.w s=some (r.s,r.w)/\IsZ r (y*((10^s.length:Nat):Int)+(qP 0 s:Nat))
 |0,_,_,_,_,_,_,_,_,_,h=>by omega
 |K+1,x,y,s,p,hx,y0,y1,hp,hd,hK=>by
  rw[xA]
  by_cases h0:s.length=0
  ·rw[if_neg (by omega)]
   have:s=[]:=YL.1 h0
   subst this
   exact⟨x,rfl,by simpa[qcA]using hx⟩
  rw[if_pos (by omega)]
  obtain⟨g,hg,hg0,hgl,hg18⟩: ∃g:Nat,(if(s.length:Int)<18 then(s.length:Int)else 18)=(g:Int)/\0<g/\g<=s.length/\g<=18:=by
   by_cases c:(s.length:Int)<18
   ·exact⟨s.length,by rw[if_pos c],by omega,by omega,by omega⟩
   exact⟨18,by rw[if_neg c];rfl,by omega,by omega,by omega⟩
  have lt:(s.take g).length=g:=by rw[Ym];omega
  have ea:=qkv (s:=s.take g) (by omega) (qih hd g)
  have et:qkP (s.take g)=some (((qP 0 (s.take g):Nat):Int),()):=by
   unfold qkP
   rw[if_pos (by omega),ea]
   rfl
  have hv:=qeM (s.take g) 0 (qih hd g)
  rw[lt]at hv
  have a1:(10:Nat)^g<=10^18:=Nat.pow_le_pow_right (by omega) hg18
  have h18:(10:Nat)^18=1000000000000000000:=rfl
  rw[hg,xq hgl,ZB,et,ZB,qik,ZB]
  obtain⟨r1,e1,h1⟩:=qqJ (N:=N) (by omega) (b:=⟨10,[]⟩) (x:=10) (n:=g) (mb:=1) (by omega) (Ue (by decide) (by decide)) (qfx (p:=2) (by decide) (by omega)) (by omega)
  have ep:(10:Int)^g=((10^g:Nat):Int):=by rw[Int.natCast_pow];rfl
  rw[ep]at h1
  have fg:Fit ((10^g:Nat):Int) 1000:=qfx (p:=19) (by
   rw[Int.natAbs_natCast]
   have d:(10:Nat)^19=10000000000000000000:=rfl
   omega) (by omega)
  have fy:Fit y 1000:=qfx (p:=p) (by omega) (by omega)
  have hpos:0<10^g:=Nat.pow_pos (by decide)
  have yg0:0<=y*((10^g:Nat):Int):=Yv y0 (by omega)
  have u:(y+1)*((10^g:Nat):Int)<=((10^(p+g):Nat):Int):=by
   rw[Nat.pow_add,Int.natCast_mul]
   exact Int.mul_le_mul_of_nonneg_right (by omega) (by omega)
  rw[Int.add_mul,Int.one_mul]at u
  obtain⟨r2,j,h2⟩:=qcW (N:=N) (by omega) hx h1 (fy.mono (by omega)) (fg.mono (by omega))
  have j:qE N (⟨x.s,x.w⟩:qg) r1=some r2:=j
  have a0:IsZ ⟨((qP 0 (s.take g):Nat):Int),[]⟩ ((qP 0 (s.take g):Nat):Int):=Ue (by omega) (by omega)
  obtain⟨r3,e3,h3⟩:=qhh (N:=N) (by omega) h2 a0 (qfx (p:=p+g) (by omega) (by omega)) (qfx (p:=19) (by
   rw[Int.natAbs_natCast]
   have d:(10:Nat)^19=10000000000000000000:=rfl
   omega) (by omega))
  rw[e1,ZB,j,ZB,qik,ZB,e3,ZB,xV hgl,ZB]
  have ld:(s.drop g).length=s.length-g:=by rw[YJ]
  obtain⟨r,e4,h4⟩:=qmg hN K r3 _ (s.drop g) (p+g) h3 (by omega) (by omega) (by omega) (qht hd g) (by omega)
  refine⟨r,e4,?_⟩
  have e5:=qen (s.take g) (s.drop g)
  rw[YS]at e5
  have e6:(10:Nat)^s.length=10^g*10^(s.drop g).length:=by rw[<-Nat.pow_add,ld];congr 1;omega
  rw[e5,e6]
  rw[Int.add_mul]at h4
  rw[Int.natCast_mul,Int.natCast_add,Int.natCast_mul,<-Int.mul_assoc,<-Int.add_assoc]
  exact h4
theorem qgZ {N:Nat} (hN:600000<N) {s:Str} (hd:(bdy s).all yj=true) (hl:(bdy s).length<=19000): ∃r,qa8 N s=some r/\IsZ r (qjA s):=by
 obtain⟨r,e,h⟩:=qmg hN N ⟨0,[]⟩ 0 (bdy s) 0 (Ue (by decide) (by decide)) (by omega) (by decide) (by omega) hd (by omega)
 have e:xA N N 0 [] (bdy s)=some (r.s,r.w):=e
 rw[Int.zero_mul,Int.zero_add]at h
 unfold qa8
 rw[qcC,ZB,qe6,ZB,e,ZB]
 unfold qjA
 cases hs:sgn s with
 |false=>
  rw[if_neg (by simp)]
  exact⟨r,rfl,by simpa using h⟩
 |true=>
  obtain⟨j,d,u⟩:=qgv h
  have d:zI (⟨r.s,r.w⟩:qg)=some j:=d
  simp only[if_true]
  rw[d]
  exact⟨j,rfl,u⟩
end Go.Av
end
section
namespace Go.Av
theorem qmF: ∀n:Nat,Lib.repeatL [48] n=List.replicate n 48
 |0=>rfl
 |n+1=>by rw[Lib.repeatL,qmF,List.replicate_succ];rfl
theorem qiH: ∀k:Nat,qd0 k 0=List.replicate k 48
 |0=>rfl
 |k+1=>by
  rw[qd0,Nat.zero_div,qiH k,List.replicate_succ']
  rfl
theorem qky: ∀(k n:Nat),n<10^(k+1)->qd0 (k+1) n=List.replicate (k+1-(Lib.decDigits n).length) 48++Lib.decDigits n
 |0,n,h=>by
  have h:n<10:=by simpa using h
  rw[yu h,qd0,qd0,Nat.mod_eq_of_lt h]
  rfl
 |k+1,n,h=>by
  rw[qd0]
  by_cases c:n<10
  ·rw[yu c,Nat.div_eq_of_lt c,qiH,Nat.mod_eq_of_lt c]
   rfl
  rw[Nat.pow_succ]at h
  rw[qky k (n/10) (by omega),qgp c,Yz,Yq,List.length_singleton,show k+1+1-((Lib.decDigits (n/10)).length+1)=k+1-(Lib.decDigits (n/10)).length by omega]
theorem qgm (n:Nat):Lib.itoa (n:Int)=Lib.decDigits n:=by rw[zS (by omega),Int.natAbs_natCast]
theorem qnX {r:Nat} (h:r<1000000000000000000) (c: ¬r=0):dg W (r:Int)=[(r:Int)]:=by
 rw[qjN (by omega) (by unfold W;omega)]
theorem qpE {r:Nat} (h:r<1000000000000000000):qhp (r:Int) 10=some (Lib.decDigits r):=by
 unfold qhp
 rw[if_pos ⟨by omega,by omega,rfl⟩,qgm]
theorem qoD:(if((dg W ((0:Nat):Int)).length:Int)>0 then(idx (dg W ((0:Nat):Int)) 0).bind fun x13=>(qhp x13 10).bind fun r14=>some r14 else some [48]:Option Str)=some (Lib.decDigits 0):=by
 rw[show((0:Nat):Int)=0 from rfl,qdF,if_neg (by simp),yu (by decide)]
 rfl
theorem qpW {r:Nat} (h:r<1000000000000000000):(if((dg W (r:Int)).length:Int)>0 then(idx (dg W (r:Int)) 0).bind fun x13=>(qhp x13 10).bind fun r14=>some r14 else some [48]:Option Str)=some (Lib.decDigits r):=by
 by_cases c:r=0
 ·rw[c]
  exact qoD
 rw[qnX h c,if_pos (show((([(r:Int)]:List Int).length:Nat):Int)>0 from by rw[List.length_singleton];decide),qa6,Yj,ZB,qpE h]
 rfl
theorem p18:(10:Nat)^18=1000000000000000000:=rfl
theorem qp3 {q r:Nat} (h:r<1000000000000000000): ∃t:Str,(if((dg W (q:Int)).length:Int)>0 then(qeQ [48] (w64 (18-((Lib.decDigits r).length:Int)))).bind fun r18=>(cat r18 (Lib.decDigits r)).bind fun s19=>some s19 else some (Lib.decDigits r):Option Str)=some t/\0<t.length/\Lib.decDigits (1000000000000000000*q+r)=(if q=0 then[]else Lib.decDigits q)++t:=by
 have u:r<10^18:=by rw[p18];exact h
 have lD:(Lib.decDigits r).length<=18:=(xI (by decide)).2 u
 have d:=qjM r
 by_cases c:q=0
 ·subst c
  rw[show((0:Nat):Int)=0 from rfl,qdF,if_neg (by simp),if_pos rfl,Nat.mul_zero,Nat.zero_add]
  exact⟨_,rfl,d,rfl⟩
 have j:dg W (q:Int)≠[]:=fun e=>by have:=(qh4 W1 (by omega)).1 e;omega
 have hlen:0<(dg W (q:Int)).length:=List.length_pos_iff.2 j
 have et:qeQ [48] (w64 (18-((Lib.decDigits r).length:Int)))=some (List.replicate (18-(Lib.decDigits r).length) 48):=by
  rw[qh (by omega) (by omega)]
  unfold qeQ
  rw[if_pos ⟨by omega,by omega,by simp;omega⟩,qmF]
  congr 2
  omega
 have hp:=qky 17 r u
 have hl:(qd0 (17+1) r).length=18:=qhq _ _
 have hs:=qh5 18 (1000000000000000000*q+r)
 rw[p18,Nat.mul_add_div (by omega),Nat.div_eq_of_lt h,Nat.add_zero,Nat.mul_add_mod,Nat.mod_eq_of_lt h]at hs
 rw[if_pos (by omega),et,ZB,qbC (by simp;omega),ZB,<-hp,if_neg c]
 exact⟨_,rfl,by omega,hs (by omega)⟩
theorem qq8 {N:Nat} (hN:600000<N) (B:Nat) (hB:B<=3900) (K:Nat): ∀(k m:Nat) (l:List Str),m<10^(18*k)->k<K->k+l.length<=100000->Fit (m:Int) B->(∀t∈l,0<t.length)->
 ∃l',jm N K l (dg W (m:Int))=some l'/\(∀t∈l',0<t.length)/\l'.length<=k+l.length/\l'.reverse.flatten=(if m=0 then[]else Lib.decDigits m)++l.reverse.flatten:=by
 induction K with
 |zero=>intro k m l _ h;omega
 |succ K ih=>
  intro k m l hm hK hl fm hp
  rw[jm]
  by_cases h0:m=0
  ·subst h0
   rw[show((0:Nat):Int)=0 from rfl,qdF,if_neg (by simp),if_pos rfl]
   exact⟨l,rfl,hp,by omega,rfl⟩
  obtain⟨j,hj⟩: ∃j,k=j+1:=⟨k-1,by
   rcases Nat.eq_zero_or_pos k with e|e
   ·subst e;simp at hm;omega
   omega⟩
  rw[hj]at hm hK hl
  have d:(0:Int)<=(m:Int):=by omega
  have hne:dg W (m:Int)≠[]:=fun e=>by have:=(qh4 W1 d).1 e;omega
  have hlen:0<(dg W (m:Int)).length:=List.length_pos_iff.2 hne
  have ln:(dg W (m:Int)).length<=3900:=Nat.le_trans fm.len hB
  have cB:Can W [1000000000000000000]:=by
   have:=zC W1 (show(0:Int)<=1000000000000000000 by decide)
   rw[qjN (by decide) (by decide)]at this
   exact this
  have vB:dv W [1000000000000000000]=1000000000000000000:=by rw[zw,kV,Int.mul_zero,Int.add_zero]
  have ed:=qiI (N:=N) (by omega) (zC W1 d) cB (by omega) (by rw[vB];decide)
  rw[vB,jr W1 d]at ed
  obtain⟨q,r,hq,hr⟩: ∃q r,m=1000000000000000000*q+r/\r<1000000000000000000:=⟨m/1000000000000000000,m%1000000000000000000,by omega,by omega⟩
  have eq:(m:Int)/1000000000000000000=(q:Int):=by omega
  have er:(m:Int)%1000000000000000000=(r:Int):=by omega
  rw[eq,er]at ed
  obtain⟨t,et,t0,eD⟩:=qp3 (q:=q) hr
  rw[<-hq]at eD
  rw[if_pos (by omega),ed,ZB]
  simp only
  rw[qpW hr,ZB,et,ZB,qc7 (by simp;omega) (by simp;omega),ZB]
  have hk:q<10^(18*j):=by
   rw[Nat.mul_succ,Nat.pow_add,p18,Nat.mul_comm]at hm
   refine Nat.lt_of_mul_lt_mul_left (a:=1000000000000000000) ?_
   omega
  obtain⟨l',f1,f2,f3,f4⟩:=ih j q (l++[t]) hk (by omega) (by simp;omega) (qbj (by omega) fm) (fun u hu=>by
   rcases List.mem_append.1 hu with hu|hu
   ·exact hp u hu
   rw[List.mem_singleton.1 hu];exact t0)
  refine⟨l',f1,f2,by simp at f3;omega,?_⟩
  rw[f4,if_neg h0,eD,List.reverse_append,List.flatten_append,Yz]
  simp
def byN (s:Str):List Int:=s.map fun x=>(x.toNat:Int)
theorem qhb (s:Str):(byN s).length=s.length:=by unfold byN;rw[List.length_map]
theorem qop {l:List Str} (u: ∀t∈l,0<t.length) (hl:l.length<=100000): ∀(K i:Nat) (o:Option (List Int)),i<=l.length->i<K->(hof o).length+(l.take i).flatten.length<=1000000000->
 ∃j,zA l K o.isSome o ((i:Int)-1)=some (j.isSome,j)/\hof j=hof o++byN (l.take i).reverse.flatten
 |0,i,o,_,h,_=>by omega
 |K+1,0,o,hi,h,hb=>by
  rw[zA,if_neg (by omega)]
  exact⟨o,rfl,by simp[byN]⟩
 |K+1,i+1,o,hi,h,hb=>by
  have d:i<l.length:=by omega
  have ei:((i+1:Nat):Int)-1=(i:Int):=by omega
  have ht:l.take (i+1)=l.take i++[l[i]]:=List.take_succ_eq_append_getElem d
  have h1:=u l[i] (List.getElem_mem d)
  rw[ht,List.flatten_append,Yq]at hb
  simp only[List.flatten_cons,List.flatten_nil,YQ]at hb
  have ew:bWr o.isSome o l[i]=some (hof o++byN l[i]):=by
   unfold bWr
   rw[if_pos ⟨rfl,by omega,h1⟩]
   rfl
  rw[zA,ei,if_pos (by omega),qA,Ya d,ZB,ew,ZB,qh (by omega) (by omega)]
  obtain⟨j,f1,f2⟩:=qop u hl K i (some (hof o++byN l[i])) (by omega) (by omega) (by
   show(hof o++byN l[i]).length+_<=_
   rw[Yq,qhb];omega)
  refine⟨j,f1,?_⟩
  rw[f2,ht,List.reverse_append,List.flatten_append]
  show hof o++byN l[i]++_=_
  rw[Yz]
  unfold byN
  simp
theorem qoO (s:Str):(byN s).map (fun n=>UInt8.ofNat n.toNat)=s:=by
 unfold byN
 rw[List.map_map]
 conv=>rhs;rw[<-List.map_id s]
 refine List.map_congr_left fun x _=>?_
 show UInt8.ofNat ((x.toNat:Int)).toNat=x
 rw[Int.toNat_natCast,UInt8.ofNat_toNat]
theorem qpJ (s:Str):(byN s).all (fun n=>decide (0<=n)&&decide (n<256))=true:=by
 unfold byN
 rw[List.all_map,Yp]
 intro x _
 have:x.toNat<256:=x.toNat_lt
 simp
 omega
theorem qjV: ∀l:List Str,l.reverse.flatten.length=l.flatten.length:=fun l=>by
 rw[List.length_flatten,List.length_flatten,List.map_reverse,List.sum_reverse]
theorem qeG {N:Nat} (hN:600000<N) {x:qg} {z:Int} (h:IsZ x z) (fz:Fit z 3900):vK N x=some (Lib.itoa z):=by
 unfold vK
 cases e:x.w.isEmpty with
 |true=>
  obtain⟨u,h2,h3⟩:=h.emp e
  rw[if_pos rfl,u]
  unfold ql8
  rw[if_pos ⟨h2,h3⟩,ZB]
 |false=>
  have hz:z.natAbs≠0:=by
   rcases h with⟨hw,_⟩|⟨_,_,u,_⟩
   ·rw[hw]at e;cases e
   omega
  obtain⟨B8,hB8⟩: ∃B8:Nat,B8=8000:=⟨_,rfl⟩
  have pw:((10^(18*B8):Nat):Int)=(1000000000000000000:Int)^B8:=by
   rw[Nat.pow_mul,Int.natCast_pow]
   rfl
  have hm:z.natAbs<10^(18*B8):=by
   have u:W^3900<=(1000000000000000000:Int)^B8:=by
    have a1:(1000000000000000000:Int)^B8=((1000000000000000000:Int)^2)^4000:=by rw[<-Int.pow_mul,hB8]
    have a2:W^4000<=((1000000000000000000:Int)^2)^4000:=(qdd (by decide) (by decide) 4000).2
    have a3:W^3900<=W^4000:=yL (by decide) (by decide)
    rw[a1]
    exact Int.le_trans a3 a2
   rw[<-pw]at u
   unfold Fit at fz
   omega
  obtain⟨l,f1,f2,f3,j⟩:=qq8 hN 3900 (Nat.le_refl _) N B8 z.natAbs [] hm (by omega) (by simp;omega) (by unfold Fit;rw[Int.natAbs_natCast];exact fz) (fun t ht=>by cases ht)
  rw[if_neg hz]at j
  simp only[List.reverse_nil,List.flatten_nil,YQ,List.length_nil,Nat.add_zero]at f3 j
  have lD:(Lib.decDigits z.natAbs).length<=18*B8:=(xI (by omega)).2 hm
  have lf:l.flatten.length<=18*B8:=by rw[<-qjV,j];exact lD
  have lpos:=qjM z.natAbs
  rw[if_neg (by simp),parts_eq h,ZB]
  simp only
  rw[f1,ZB]
  have el:w64 ((l.length:Int)-1)=(l.length:Int)-1:=qh (by omega) (by omega)
  have d: ∀(o:Option (List Int)) (pre:Str),hof o=byN pre->pre.length<=10->((zA l N o.isSome o (w64 ((l.length:Int)-1))).bind fun(ok30,o31)=>(qnd ok30 o31).bind fun t38=>some t38)=some (pre++Lib.decDigits z.natAbs):=by
   intro o pre ho hpre
   obtain⟨o',g1,g2⟩:=qop f2 (by omega) N l.length o (Nat.le_refl _) (by omega) (by rw[ho,qhb,List.take_of_length_le (Nat.le_refl _)];omega)
   rw[List.take_of_length_le (Nat.le_refl _),j,ho]at g2
   have g3:hof o'=byN (pre++Lib.decDigits z.natAbs):=by
    rw[g2]
    unfold byN
    rw[List.map_append]
   have hs:o'.isSome=true:=by
    cases o' with
    |none=>
     have:=congrArg List.length g3
     rw[qhb,Yq]at this
     simp at this
     omega
    |some q=>rfl
   rw[el,g1,ZB]
   simp only
   unfold qnd
   rw[if_pos ⟨hs,by rw[g3,qhb,Yq];omega,by rw[g3];exact qpJ _⟩,g3,qoO,ZB]
  by_cases c:z<0
  ·have eb:bWr false (none:Option (List Int)) [45]=some [45]:=rfl
   rw[decide_eq_true c,if_pos rfl,eb,ZB,ZB]
   simp only
   have:=d (some [45]) [45] rfl (by simp)
   rw[yh c]
   exact this
  rw[decide_eq_false c,if_neg (by simp),ZB]
  simp only
  have:=d none [] rfl (by simp)
  rw[zS c]
  exact this
end Go.Av
end
section
namespace Go.Av
theorem qqi {x:qg} {z:Int} (h:IsZ x z) (fz:Fit z 3900): ∃b:Nat,qbe x=some (b:Int)/\(z.natAbs:Int)<2^b:=by
 unfold qbe
 rw[parts_eq h,ZB]
 simp only
 have hz:(0:Int)<=(z.natAbs:Int):=by omega
 have cc:=zC W1 hz
 have u:=jr W1 hz
 have ll:=fz.len
 generalize dg W (z.natAbs:Int)=w at*
 by_cases h0:w.length=0
 ·rw[if_pos (by omega)]
  rw[YL.1 h0,kV]at u
  exact⟨0,rfl,by rw[<-u];decide⟩
 have hk:w.length-1<w.length:=by omega
 have ax:=cc.1.at hk
 obtain⟨l,e,hl⟩:=qkq ax.1 ax.2
 have hl0:0<=l/\l<=64:=by
  rcases hl with⟨_,h⟩|⟨j,d,_⟩<;>omega
 have hl2:w[w.length-1]<2^l.toNat:=by
  rcases hl with⟨j,d⟩|⟨_,_,_,h⟩
  ·rw[j,d];decide
  exact h
 rw[if_neg (by omega),qjS (by omega) (by omega),qA,Ya hk,ZB,e,ZB,qh (n:=64*((w.length-1:Nat):Int)) (by omega) (by omega),qh (by omega) (by omega)]
 refine⟨64*(w.length-1)+l.toNat,by congr 1;omega,?_⟩
 have e1:=qx W w (w.length-1) hk
 rw[List.take_of_length_le (by omega),u]at e1
 have j:=yY W0 (cc.1.take (w.length-1))
 rw[Ym,Nat.min_eq_left (by omega)]at j
 have e2:(2:Int)^(64*(w.length-1)+l.toNat)=W^(w.length-1)*2^l.toNat:=by
  rw[Int.pow_add,Int.pow_mul]
  rfl
 have d:W^(w.length-1)*(w[w.length-1]+1)<=W^(w.length-1)*2^l.toNat:=Yc (by omega) (Int.le_of_lt (pow_pos W0 _))
 rw[Int.mul_add,Int.mul_one]at d
 rw[e2]
 omega
theorem pow8: ∀n:Nat,(8:Int)^(n+1)<((10^(n+1):Nat):Int)
 |0=>by decide
 |n+1=>by
  have d:=pow8 n
  have h:=pow_pos (show(0:Int)<8 by decide) (n+1)
  rw[Int.pow_succ,Nat.pow_succ,Int.natCast_mul]
  omega
theorem qq5 (n:Nat):(2:Int)^(3*n)=(8:Int)^n:=by
 rw[Int.pow_mul]
 rfl
theorem qqp {n m:Nat} (d:m=3*(n+1)):(2:Int)^m<((10^(n+1):Nat):Int):=by
 rw[d,qq5]
 exact pow8 n
def lng (z:Int):Bool:=decide (600<(Lib.decDigits z.natAbs).length)
theorem qmt {N:Nat} (j:600000<N) {x:qg} {z:Int} (h:IsZ x z) (fz:Fit z 3900):qc8 N x=some (lng z):=by
 obtain⟨b,e,hb⟩:=qqi h fz
 unfold qc8
 rw[e,ZB]
 by_cases c:(b:Int)>1800
 ·rw[if_pos c,qeG j h fz,ZB,qe6,qbV,ZB,ZB]
  congr 1
  exact decide_eq_decide.2 (by omega)
 rw[if_neg c,ZB]
 congr 1
 obtain⟨m,hm⟩: ∃m:Nat,m=3*(599+1):=⟨_,rfl⟩
 have u:(2:Int)^b<=2^m:=yL (by decide) (by omega)
 have h2:=qqp hm
 have d:z.natAbs<10^(599+1):=by omega
 have:=(xI (n:=z.natAbs) (k:=599+1) (by decide)).2 d
 unfold lng
 rw[decide_eq_false (by omega)]
def qiE (q:Rat):Bool:=lng q.num||lng q.den
theorem qpb {N:Nat} (j:600000<N) {f:qm} {q:Rat} (h:IsF f q) (d:vI q 3900):qam N f=some (qiE q):=by
 unfold qam qiE
 rw[qmt j h.1 d.1,ZB]
 cases lng q.num with
 |true=>rw[if_pos rfl,ZB,Bool.true_or]
 |false=>rw[if_neg (by simp),qmt j h.2 d.2,ZB,ZB,Bool.false_or]
def T (q:Rat):Str:=Lib.itoa q.num++(if q.den=1 then[]else 47::Lib.decDigits q.den)
theorem Fit.itoaLen {z:Int} (h:Fit z 3900):(Lib.itoa z).length<=200001:=by
 have d:(Lib.decDigits z.natAbs).length<=20*10000:=by
  refine(xI (by decide)).2 ?_
  obtain⟨B,hB⟩: ∃B:Nat,B=10000:=⟨_,rfl⟩
  rw[<-hB]
  have j:W^3900<=W^B:=yL (by decide) (by omega)
  have u:W^B<=(100000000000000000000:Int)^B:=(qdd (by decide) (by decide) B).2
  have h4:((10^(20*B):Nat):Int)=(100000000000000000000:Int)^B:=by
   rw[Nat.pow_mul,Int.natCast_pow]
   rfl
  unfold Fit at h
  generalize W^3900=p at*
  omega
 by_cases c:z<0
 ·rw[yh c,Yr];omega
 rw[zS c];omega
theorem qpT {N:Nat} (j:600000<N) {f:qm} {q:Rat} (h:IsF f q) (d:vI q 3900):qaL N f=some (T q):=by
 unfold qaL T
 rw[qfm h,ZB]
 by_cases c:q.den=1
 ·rw[decide_eq_true c,if_pos rfl,qeG j h.1 d.1,ZB,if_pos c,YQ]
 have u:=Fit.itoaLen d.1
 have l2:=Fit.itoaLen d.2
 rw[decide_eq_false c,if_neg (by simp),qeG j h.1 d.1,ZB,qbC (by simp;omega),ZB,qeG j h.2 d.2,ZB,qbC (by simp;omega),ZB,if_neg c,qgm,Yz]
 rfl
theorem qgl {N:Nat} (j:600000<N) {f:qm} {q:Rat} (h:IsF f q) (d:vI q 3900):vY N f=some (if qiE q=true then([],4)else(T q,0)):=by
 unfold vY
 rw[qpb j h d,ZB]
 cases qiE q with
 |true=>rfl
 |false=>rw[if_neg (by simp),qpT j h d,ZB,if_neg (by simp)]
theorem qql {α:Type} {b:Bool} {x y:α}:zN b x y=if b=true then x else y:=by cases b<;>rfl
theorem qkm: ∀(s:Str) (j:Nat),qiw 47 s j=if slA s<s.length then((j+slA s:Nat):Int)else-1
 |[],j=>rfl
 |c::s,j=>by
  show zN (Nat.beq c.toNat 47) (Int.ofNat j) (qiw 47 s (j+1))=_
  rw[qql,qkm s (j+1),slA,Yr]
  by_cases h:c=47
  ·subst h
   rw[if_pos (by decide),if_pos rfl,if_pos (by omega)]
   rfl
  have d:c.toNat≠47:=fun e=>h (UInt8.toNat_inj.1 (by rw[e];rfl))
  rw[if_neg (by rw[qcO d];simp),if_neg h]
  by_cases c2:slA s<s.length
  ·rw[if_pos c2,if_pos (by omega)]
   congr 1
   omega
  rw[if_neg c2,if_neg (by omega)]
theorem qoV {s:Str}:stringslite_Index s [47]=some (qiw 47 s 0):=by
 unfold stringslite_Index stringslite_IndexByte qjC
 have d: ¬(([47]:Str).length:Int)=0:=by simp
 have h:(([47]:Str).length:Int)=1:=by simp
 rw[if_neg d]
 simp only[ZB]
 by_cases hs:(([47]:Str)==s)=true
 ·have:s=[47]:=(beq_iff_eq.1 hs).symm
  subst this
  rfl
 rw[if_neg hs,if_pos h,qa6,show([47]:Str)[0]? =some 47 from rfl,ZB,if_pos (by decide)]
 rfl
theorem qoe {s:Str} (d:s.length<=1000000):strings_Cut s [47]=some (if slA s<s.length then(s.take (slA s),s.drop (slA s+1),true)else(s,[],false)):=by
 have h:=qgr s
 unfold strings_Cut stringslite_Cut
 rw[qoV,qkm,ZB]
 by_cases c:slA s<s.length
 ·rw[if_pos c,if_pos (by omega),if_pos c,Nat.zero_add,xq h,ZB,show w64 ((slA s:Int)+(([47]:Str).length:Int))=((slA s+1:Nat):Int)from zn (by omega),xV (by omega),ZB,ZB]
 rw[if_neg c,if_neg (by omega),if_neg c,ZB]
theorem qf5 {s:Str} (d:s.length<=1000000):jJ s=some (decide (Dec s)):=by
 have j:qks s [48,49,50,51,52,53,54,55,56,57]=some (Lib.trimS s [48,49,50,51,52,53,54,55,56,57]):=by
  unfold qks
  rw[if_pos ⟨d,by decide,by decide⟩]
 unfold jJ
 rw[j]
 simp only[ZB,qnm]
 cases s with
 |nil=>rfl
 |cons c t=>
  rw[if_pos (by rfl),qa6]
  simp only[Yj,ZB]
  cases hd:(c::t).all yj with
  |false=>
   rw[if_neg (by simp),ZB,decide_eq_false fun h=>by rw[h.2.1]at hd;cases hd]
  |true=>
   rw[if_pos rfl]
   by_cases h:c=48
   ·subst h
    rw[if_neg (by decide),ZB]
    congr 1
    rw[Bool.eq_iff_iff,beq_iff_eq,decide_eq_true_eq]
    exact⟨fun e=>by rw[e];exact qmr (by decide),fun h=>h.2.2 rfl⟩
   rw[if_pos (by simp[ne48 h]),ZB,decide_eq_true (show Dec (c::t)from⟨by simp,hd,fun e=>absurd (Ye e) h⟩)]
theorem qh3 {s:Str} (d:s.length<=1000000): ∀(K i:Nat),i<=s.length->s.length<K+i->jF s K (i:Int)=some (if(s.drop i).all yj=true then .inl ()else .inr false)
 |0,i,h,hK=>by omega
 |K+1,i,h,hK=>by
  rw[jF]
  by_cases hi:i<s.length
  ·have j:s.drop i=s[i]::s.drop (i+1):=YG hi
   rw[if_pos (by omega),qA,Ya hi,ZB,j,List.all_cons]
   generalize s[i]=c
   have e:(if(c.toNat:Int)<48 then some true else some (decide ((c.toNat:Int)>57)):Option Bool)=some (!yj c):=by
    by_cases h1:(c.toNat:Int)<48
    ·rw[if_pos h1]
     congr 1
     unfold yj
     rw[decide_eq_false (by omega)]
     rfl
    rw[if_neg h1]
    congr 1
    unfold yj
    rw[decide_eq_true (p:=48<=c.toNat) (by omega),Bool.true_and,<-decide_not]
    exact decide_eq_decide.2 (by omega)
   rw[e,ZB]
   cases hc:yj c with
   |true=>rw[if_neg (by simp),zn (by omega),qh3 d K (i+1) (by omega) (by omega),Bool.true_and]
   |false=>rw[if_pos (by simp),Bool.false_and,if_neg (by simp)]
  rw[if_neg (by omega),List.drop_of_length_le (by omega)]
  rfl
theorem qhv {N:Nat} {s:Str} (j:s.length<=1000000) (hN:s.length<N):jk N s=some (decide (Dec s)):=by
 have e:=qh3 j N 0 (by omega) (by omega)
 have e:jF s N 0=_:=e
 have d:qa9 N s=some (s.all yj):=by
  unfold qa9
  rw[e,YR]
  cases s.all yj<;>rfl
 unfold jk
 cases s with
 |nil=>rfl
 |cons c t=>
  rw[if_neg (by simp;omega)]
  by_cases h1:((c::t).length:Int)>1
  ·rw[if_pos h1,qa6]
   simp only[Yj,ZB]
   by_cases h:c=48
   ·subst h
    rw[if_pos (by decide),decide_eq_false fun hD=>?_]
    have:=congrArg List.length (hD.2.2 rfl)
    rw[List.length_singleton]at this
    omega
   rw[if_neg (by simp[ne48 h]),d,ZB]
   congr 1
   rw[Bool.eq_iff_iff,decide_eq_true_eq]
   exact⟨fun hd=>⟨by simp,hd,fun e=>absurd (Ye e) h⟩,fun hD=>hD.2.1⟩
  rw[if_neg h1,ZB,if_neg (by simp),d,ZB]
  have u:t=[]:=YL.1 (by simp at h1;omega)
  subst u
  congr 1
  rw[Bool.eq_iff_iff,decide_eq_true_eq]
  exact⟨fun hd=>qmr (by simpa using hd),fun hD=>hD.2.1⟩
end Go.Av
end
section
namespace Go.Av
theorem qj3 {z:Int} {p n:Nat} (h:(z.natAbs:Int)<((10^p:Nat):Int)) (d:p<=9*n):zR z n:=by
 have j:(10:Nat)^p<=10^(9*n):=Nat.pow_le_pow_right (by omega) d
 unfold zR
 rw[qib]
 omega
theorem qbE {N:Nat} (h:10<N) (a b:Int):kN N [a,b]=some (if a=0 then b else a):=by
 obtain⟨K,rfl⟩: ∃K,N=K+1+1+1:=⟨N-3,by omega⟩
 unfold kN
 by_cases ha:a=0
 ·by_cases hb:b=0
  ·subst ha;subst hb
   rfl
  have d:zJ [a,b] (K+1+1+1) 0=some (.inr b):=by
   rw[zJ,if_pos (by simp),qa6]
   simp only[Yj,ZB]
   rw[if_neg (by simp[ha]),zJ,show w64 ((0:Int)+1)=1 from rfl,if_pos (by simp),idx_1]
   simp only[YK,Yj,ZB]
   rw[if_pos (by simp[hb])]
  rw[d,if_pos ha]
  rfl
 have d:zJ [a,b] (K+1+1+1) 0=some (.inr a):=by
  rw[zJ,if_pos (by simp),qa6]
  simp only[Yj,ZB]
  rw[if_pos (by simp[ha])]
 rw[d,if_neg ha]
 rfl
def okF (s:Str):Bool:=decide (Dec ((bdy s).take (slA (bdy s)))/\ ¬(sgn s=true/\(bdy s).take (slA (bdy s))=[48]))
def qjx (s:Str):Bool:=decide (slA (bdy s)<(bdy s).length/\ ¬(Dec ((bdy s).drop (slA (bdy s)+1))/\(bdy s).drop (slA (bdy s)+1)≠[48]/\(bdy s).drop (slA (bdy s)+1)≠[49]))
def chk (s:Str):Int:=
 if okF s=false\/qjx s=true then 1
 else if 600<((bdy s).take (slA (bdy s))).length\/600<((bdy s).drop (slA (bdy s)+1)).length then 4
 else if slA (bdy s)<(bdy s).length/\Nat.gcd (qP 0 ((bdy s).take (slA (bdy s)))) (qP 0 ((bdy s).drop (slA (bdy s)+1)))≠1 then 1
 else 0
theorem qbH {s:Str} (h:s.all yj=true):sgn s=false/\bdy s=s:=by
 have e:sgn s=false:=decide_eq_false fun e=>by
  have d:(45:UInt8)∈s:=Yn e
  exact absurd (Yp.1 h _ d) (by decide)
 exact⟨e,by unfold bdy;rw[e];rfl⟩
theorem qde {s:Str} (h:s.all yj=true):qjA s=(qP 0 s:Nat):=by
 obtain⟨j,d⟩:=qbH h
 unfold qjA
 rw[j,d]
 rfl
theorem qf2 (s:Str):(bdy s).length<=s.length:=by
 unfold bdy
 split
 ·rw[YJ];omega
 exact Nat.le_refl _
theorem qeJ {s:Str} {k:Nat} (h:Dec s) (d:s.length<=k):((qP 0 s:Nat):Int).natAbs<10^k:=by
 have j:=qeM s 0 h.2.1
 have u:(10:Nat)^s.length<=10^k:=Nat.pow_le_pow_right (by omega) d
 omega
theorem qfw {s:Str} (h:Dec s) (d:s≠[48]):0<qP 0 s:=by
 rcases Nat.eq_zero_or_pos (qP 0 s)with e|e
 ·have:=h.eq
  rw[e,yu (by decide)]at this
  exact absurd this d
 exact e
theorem qce {N:Nat} (hN:600000<N) {s:Str} (hl:s.length<=10000):xD N s=some (chk s):=by
 have hb:=qf2 s
 have hk:=qgr (bdy s)
 have lt:((bdy s).take (slA (bdy s))).length=slA (bdy s):=by rw[Ym];omega
 have ld:((bdy s).drop (slA (bdy s)+1)).length=(bdy s).length-(slA (bdy s)+1):=by rw[YJ]
 unfold xD
 rw[qjs,ZB]
 simp only
 have C:strings_Cut (bdy s) [47]=some ((bdy s).take (slA (bdy s)),(bdy s).drop (slA (bdy s)+1),decide (slA (bdy s)<(bdy s).length)):=by
  rw[qoe (by omega)]
  by_cases c:slA (bdy s)<(bdy s).length
  ·rw[if_pos c,decide_eq_true c]
  rw[if_neg c,decide_eq_false c,List.take_of_length_le (by omega),List.drop_of_length_le (by omega)]
 rw[C,ZB]
 unfold chk okF qjx
 generalize hn:(bdy s).take (slA (bdy s))=n at*
 generalize hd:(bdy s).drop (slA (bdy s)+1)=d at*
 generalize slA (bdy s)=k at*
 generalize (bdy s).length=m at*
 simp only
 rw[qf5 (by omega),ZB]
 have B6:(if decide (Dec n)=true then if(!sgn s)=true then some true else some (!(n==[48]))else some false:Option Bool)=some (decide (Dec n/\ ¬(sgn s=true/\n=[48]))):=by
  by_cases u:Dec n
  ·cases h2:sgn s with
   |false=>simp[u]
   |true=>
    by_cases h3:n=[48]<;>simp[u,h3]
  simp[u]
 rw[B6,ZB]
 generalize hf:decide (Dec n/\ ¬(sgn s=true/\n=[48]))=ok at*
 have B8:(if decide (k<m)=true then(if ok=true then(jJ d).bind fun r12=>if r12=true then if(!(d==[48]))=true then some (!(d==[49]))else some false else some false else some false:Option Bool).bind fun b15=>some b15 else some ok:Option Bool)=some (ok&&!decide (k<m/\ ¬(Dec d/\d≠[48]/\d≠[49]))):=by
  by_cases u:k<m
  ·cases ok with
   |false=>simp[u]
   |true=>
    rw[qf5 (by omega)]
    by_cases h2:Dec d
    ·by_cases h3:d=[48]
     ·simp[u,h2,h3]
     by_cases h4:d=[49]<;>simp[u,h2,h3,h4]
    simp[u,h2]
  simp[u]
 rw[B8,ZB]
 generalize hg:decide (k<m/\ ¬(Dec d/\d≠[48]/\d≠[49]))=bd at*
 have B:((qK (!(ok&&!bd)) 1).bind fun r17=>if(n.length:Int)>600 then(qK true 4).bind fun r19=>(kN N ([r17,r19]:List Int)).bind fun r20=>some (r17,r19,r20)else(qK (decide ((d.length:Int)>600)) 4).bind fun r21=>(kN N ([r17,r21]:List Int)).bind fun r22=>some (r17,r21,r22):Option (Int×Int×Int))=some (if ok=false\/bd=true then 1 else 0,if 600<n.length\/600<d.length then 4 else 0,if ok=false\/bd=true then 1 else if 600<n.length\/600<d.length then 4 else 0):=by
  have w1:qK (!(ok&&!bd)) 1=some (if ok=false\/bd=true then 1 else 0):=by
   unfold qK
   cases ok<;>cases bd<;>rfl
  rw[w1,ZB]
  by_cases c:(n.length:Int)>600
  ·rw[if_pos c,show qK true 4=some 4 from rfl,ZB,qbE (by omega),ZB,if_pos (show 600<n.length\/600<d.length from .inl (by omega))]
   by_cases c2:ok=false\/bd=true
   ·simp only[if_pos c2];rfl
   simp only[if_neg c2];rfl
  have w2:qK (decide ((d.length:Int)>600)) 4=some (if 600<n.length\/600<d.length then 4 else 0):=by
   unfold qK
   by_cases c2:(d.length:Int)>600
   ·rw[decide_eq_true c2,if_pos rfl,if_pos (.inr (by omega))]
   rw[decide_eq_false c2,if_neg (by simp),if_neg (by omega)]
  rw[if_neg c,w2,ZB,qbE (by omega),ZB]
  by_cases c2:ok=false\/bd=true
  ·simp only[if_pos c2];rfl
  simp only[if_neg c2];rfl
 rw[B,ZB]
 simp only
 by_cases c1:ok=false\/bd=true
 ·simp only[if_pos c1];rfl
 simp only[if_neg c1]
 by_cases c2:600<n.length\/600<d.length
 ·simp only[if_pos c2];rfl
 simp only[if_neg c2]
 rw[if_neg (show¬((!decide True)=true)by decide)]
 have ho:ok=true:=by cases ok<;>simp at c1⊢
 have hbd:bd=false:=by cases bd<;>simp at c1⊢
 have a0:=(of_decide_eq_true (hf.trans ho)).1
 by_cases c3:k<m
 ·have j:Dec d/\d≠[48]/\d≠[49]:=Classical.byContradiction fun hc=>of_decide_eq_false (hg.trans hbd) ⟨c3,hc⟩
  obtain⟨r1,e1,u⟩:=qgZ hN (s:=n) (by rw[(qbH a0.2.1).2];exact a0.2.1) (by rw[(qbH a0.2.1).2];omega)
  obtain⟨r2,e2,h2⟩:=qgZ hN (s:=d) (by rw[(qbH j.1.2.1).2];exact j.1.2.1) (by rw[(qbH j.1.2.1).2];omega)
  rw[qde a0.2.1]at u
  rw[qde j.1.2.1]at h2
  have f1:Fit ((qP 0 n:Nat):Int) 40:=qfx (p:=600) (by have:=qeJ a0 (k:=600) (by omega);omega) (by omega)
  have f2:Fit ((qP 0 d:Nat):Int) 40:=qfx (p:=600) (by have:=qeJ j.1 (k:=600) (by omega);omega) (by omega)
  obtain⟨g,e3,h3⟩:=qnL hN u h2 (f1.mono (by omega)) (f2.mono (by omega))
  have eg:Int.gcd ((qP 0 n:Nat):Int) ((qP 0 d:Nat):Int)=Nat.gcd (qP 0 n) (qP 0 d):=rfl
  rw[eg]at h3
  have hgp:0<Nat.gcd (qP 0 n) (qP 0 d):=Nat.gcd_pos_of_pos_right _ (qfw j.1 j.2.1)
  have fg:Fit ((Nat.gcd (qP 0 n) (qP 0 d):Nat):Int) 40:=qbj (by
   have:=Nat.le_of_dvd (qfw j.1 j.2.1) (Nat.gcd_dvd_right (qP 0 n) (qP 0 d))
   omega) f2
  have e4:=qoo (N:=N) (by omega) h3 (Ue (z:=1) (by decide) (by decide)) (fg.mono (by omega)) (F1 (by omega))
  rw[decide_eq_true c3,if_pos rfl,e1,ZB,e2,ZB,e3,ZB,qik,ZB,e4,ZB,ZB]
  unfold qK
  by_cases c4:Nat.gcd (qP 0 n) (qP 0 d)=1
  ·rw[if_neg (show¬((Nat.gcd (qP 0 n) (qP 0 d):Nat):Int)<1 by omega),if_pos (show((Nat.gcd (qP 0 n) (qP 0 d):Nat):Int)=1 by omega),if_neg (show¬(k<m/\Nat.gcd (qP 0 n) (qP 0 d)≠1)from fun h=>h.2 c4)]
   rfl
  have: ¬((Nat.gcd (qP 0 n) (qP 0 d):Nat):Int)<1:=by omega
  rw[if_neg this,if_neg (show¬(((Nat.gcd (qP 0 n) (qP 0 d):Nat):Int)=1)by omega),if_pos (show k<m/\Nat.gcd (qP 0 n) (qP 0 d)≠1 from⟨c3,c4⟩)]
  rfl
 rw[decide_eq_false c3,if_neg (by simp),ZB,if_neg (by omega)]
 rfl
end Go.Av
end
section
namespace Go.Av
theorem qlu:dg E9 1=[1]:=qjN (by decide) (by decide)
theorem qqX {N:Nat} (d:100<N):vX N 1=some (rI 1):=by
 obtain⟨K,rfl⟩: ∃K,N=K+1+1:=⟨N-2,by omega⟩
 have h:zW (K+1+1) [] 1=some [1]:=by
  rw[zW,if_pos (by decide),if_neg (by decide),ZB,qc7 (by simp) (by simp),ZB,show w64 ((1:Int).tdiv 1000000000)=0 from rfl,zW,if_neg (by decide)]
  rfl
 unfold vX
 rw[h,ZB,decide_eq_false (by decide),yl false (w:=[1]) (Dg.cons ⟨by decide,by decide⟩ Dg.nil) (by simp) (by simp),ZB]
 rfl
theorem qi2 {N:Nat} (hN:600000<N) {s:Str} (hl:s.length<=10000) (hk:slA s<s.length) (u:(bdy (s.take (slA s))).all yj=true) (h:(bdy (s.drop (slA s+1))).all yj=true):jf N s=some (rI (qjA (s.take (slA s))),rI (qjA (s.drop (slA s+1)))):=by
 have d:=qf2 (s.take (slA s))
 have j:=qf2 (s.drop (slA s+1))
 rw[Ym]at d
 rw[YJ]at j
 unfold jf
 rw[qdk (by omega) (by omega),ZB,if_neg (by omega),xq (by omega),ZB,qij (by omega) u (by omega),ZB,zn (by omega),xV (by omega),ZB,qij (by omega) h (by omega),ZB]
theorem qgi {N:Nat} (hN:600000<N) {s:Str} (hl:s.length<=10000):yK N s=some (chk s):=by
 have hb:=qf2 s
 have hk:=qgr (bdy s)
 have lt:((bdy s).take (slA (bdy s))).length=slA (bdy s):=by rw[Ym];omega
 have ld:((bdy s).drop (slA (bdy s)+1)).length=(bdy s).length-(slA (bdy s)+1):=by rw[YJ]
 unfold yK
 rw[qf8,ZB,qlk,ZB,qdk (by omega) (by omega),ZB,xq hk,ZB,qhv (by omega) (by omega),ZB]
 have I:Dec ((bdy s).take (slA (bdy s)))->((idx s 0).bind fun c13=>if(c13.toNat:Int)=45 then(some ((bdy s).take (slA (bdy s)))).bind fun s15=>some (s15==[48])else some false:Option Bool)=some (sgn s&&((bdy s).take (slA (bdy s))==[48])):=by
  intro hD
  have h1:=hD.1
  have hs:=qf8 s
  rw[if_pos (by omega)]at hs
  rw[qa6]at hs⊢
  cases e:s[0]? with
  |none=>rw[e]at hs;cases hs
  |some c=>
   rw[e,ZB]at hs
   rw[ZB,<-Ye hs]
   by_cases c2:(c.toNat:Int)=45
   ·rw[if_pos c2,decide_eq_true c2,ZB,Bool.true_and]
   rw[if_neg c2,decide_eq_false c2,Bool.false_and]
 have S16:(if(!decide (Dec ((bdy s).take (slA (bdy s)))))=true then some true else(idx s 0).bind fun c13=>if(c13.toNat:Int)=45 then(some ((bdy s).take (slA (bdy s)))).bind fun s15=>some (s15==[48])else some false:Option Bool)=some (!okF s):=by
  unfold okF
  by_cases hD:Dec ((bdy s).take (slA (bdy s)))
  ·rw[if_neg (by simp[hD]),I hD]
   congr 1
   rw[Bool.eq_iff_iff]
   simp[hD]
  rw[if_pos (by simp[hD])]
  simp[hD]
 rw[S16,ZB]
 have S26:(if(slA (bdy s):Int)<((bdy s).length:Int)then(cut (bdy s) (w64 ((slA (bdy s):Int)+1)) ((bdy s).length:Int)).bind fun s20=>(jk N s20).bind fun r21=>if(!r21)=true then some true else(cut (bdy s) (w64 ((slA (bdy s):Int)+1)) ((bdy s).length:Int)).bind fun s23=>if(s23==[48])=true then some true else(cut (bdy s) (w64 ((slA (bdy s):Int)+1)) ((bdy s).length:Int)).bind fun s25=>some (s25==[49])else some false:Option Bool)=some (qjx s):=by
  unfold qjx
  by_cases c:slA (bdy s)<(bdy s).length
  ·rw[if_pos (by omega),zn (by omega),xV (by omega),ZB,qhv (by omega) (by omega),ZB]
   by_cases hD:Dec ((bdy s).drop (slA (bdy s)+1))
   ·rw[if_neg (by simp[hD]),ZB]
    by_cases h3:(bdy s).drop (slA (bdy s)+1)=[48]
    ·rw[if_pos (by simp[h3])]
     simp[c,h3]
    rw[if_neg (by simp[h3]),ZB]
    congr 1
    rw[Bool.eq_iff_iff]
    simp[c,h3,hD]
   rw[if_pos (by simp[hD])]
   simp[c,hD]
  rw[if_neg (by omega)]
  simp[c]
 have S30:(if(slA (bdy s):Int)>600 then some true else some (decide ((w64 ((w64 (((bdy s).length:Int)-(slA (bdy s):Int)))-1))>600)):Option Bool)=some (decide (600<((bdy s).take (slA (bdy s))).length\/600<((bdy s).drop (slA (bdy s)+1)).length)):=by
  rw[lt,ld]
  by_cases c:(slA (bdy s):Int)>600
  ·rw[if_pos c,decide_eq_true (.inl (by omega))]
  rw[if_neg c,qh (n:=((bdy s).length:Int)-(slA (bdy s):Int)) (by omega) (by omega),qh (by omega) (by omega)]
  congr 1
  exact decide_eq_decide.2 (by omega)
 unfold chk
 by_cases h1:okF s=true
 ·rw[h1,if_neg (by simp),S26,ZB]
  by_cases h2:qjx s=true
  ·rw[h2,if_pos rfl,if_pos (.inr rfl)]
  have a0:qjx s=false:=by simpa using h2
  rw[a0,if_neg (by simp),S30,ZB,if_neg (show¬(true=false\/false=true)by simp)]
  by_cases h3:600<((bdy s).take (slA (bdy s))).length\/600<((bdy s).drop (slA (bdy s)+1)).length
  ·rw[decide_eq_true h3,if_pos rfl,if_pos h3]
  rw[decide_eq_false h3,if_neg (by simp),if_neg h3]
  by_cases c:slA (bdy s)<(bdy s).length
  ·have u:=(of_decide_eq_true h1).1
   have j:Dec ((bdy s).drop (slA (bdy s)+1))/\(bdy s).drop (slA (bdy s)+1)≠[48]/\(bdy s).drop (slA (bdy s)+1)≠[49]:=Classical.byContradiction fun hc=>of_decide_eq_false a0 ⟨c,hc⟩
   have ep:=qi2 hN (s:=bdy s) (by omega) c (by rw[(qbH u.2.1).2];exact u.2.1) (by rw[(qbH j.1.2.1).2];exact j.1.2.1)
   rw[qde u.2.1,qde j.1.2.1]at ep
   rw[if_pos (by omega),ep,ZB]
   simp only
   have v1:=qeJ u (k:=600) (by omega)
   have v2:=qeJ j.1 (k:=600) (by omega)
   have v3:=qfw j.1 j.2.1
   generalize qP 0 ((bdy s).take (slA (bdy s)))=n at*
   generalize qP 0 ((bdy s).drop (slA (bdy s)+1))=d at*
   have f1:zR ((n:Nat):Int) 8000:=(qj3 (p:=600) (n:=70) (by omega) (by omega)).mono (by omega)
   have f2:zR ((d:Nat):Int) 8000:=(qj3 (p:=600) (n:=70) (by omega) (by omega)).mono (by omega)
   have e1:(rI ((n:Nat):Int)).w=dg E9 ((n:Nat):Int):=by
    show dg E9 (((n:Nat):Int).natAbs:Int)=_
    rw[Int.natAbs_natCast]
   have e2:(rI ((d:Nat):Int)).w=dg E9 ((d:Nat):Int):=by
    show dg E9 (((d:Nat):Int).natAbs:Int)=_
    rw[Int.natAbs_natCast]
   have ec:=qi7 (N:=N) hN (a:=((n:Nat):Int)) (b:=((d:Nat):Int)) (by omega) (by omega) f1 f2
   have eg:Int.gcd ((n:Nat):Int) ((d:Nat):Int)=Nat.gcd n d:=rfl
   rw[eg]at ec
   rw[e1,e2,ec,ZB]
   have hg:0<Nat.gcd n d:=Nat.gcd_pos_of_pos_right _ v3
   have cc:=zC E1 (show(0:Int)<=((Nat.gcd n d:Nat):Int)by omega)
   have vv:=jr E1 (show(0:Int)<=((Nat.gcd n d:Nat):Int)by omega)
   by_cases h4:Nat.gcd n d=1
   ·have:dg E9 ((Nat.gcd n d:Nat):Int)=[1]:=by rw[show((Nat.gcd n d:Nat):Int)=1 by omega];exact qlu
    rw[this,if_neg (by simp),qa6,if_neg (fun h=>h.2 h4)]
    rfl
   rw[if_pos (show slA (bdy s)<(bdy s).length/\Nat.gcd n d≠1 from⟨c,h4⟩)]
   by_cases h5:(dg E9 ((Nat.gcd n d:Nat):Int)).length=1
   ·obtain⟨x,hx⟩:=List.length_eq_one_iff.1 h5
    rw[hx,zw,kV,Int.mul_zero,Int.add_zero]at vv
    have hx1:x≠1:=by omega
    rw[hx,if_neg (by simp),qa6]
    simp only[Yj,ZB,decide_eq_false hx1]
    rfl
   rw[if_pos (by simp;omega)]
   rfl
  rw[if_neg (by omega),if_neg (by omega)]
  rfl
 have h1':okF s=false:=by simpa using h1
 rw[h1',if_pos (by simp),if_pos (.inl rfl)]
end Go.Av
end
section
namespace Go.Av
def tl (q:Rat):Str:=if q.den=1 then[]else 47::Lib.decDigits q.den
theorem qm6 (q:Rat):T q=Lib.itoa q.num++tl q:=rfl
theorem no47 {s:Str} (h:s.all yj=true): ∀c∈s,c≠47:=fun c hc e=>by
 have:=Yp.1 h c hc
 rw[e]at this
 exact absurd this (by decide)
theorem qk6: ∀{s:Str},(∀c∈s,c≠47)->slA s=s.length:=fun {s} h=>(qjd s [] h).2
theorem qjq {s:Str} (h: ∀c∈s,c≠47) (q:Rat):slA (s++tl q)=s.length:=by
 unfold tl
 by_cases c:q.den=1
 ·rw[if_pos c,YQ]
  exact qk6 h
 rw[if_neg c]
 exact(qjd s _ h).1
theorem qeT (z:Int): ∀c∈Lib.itoa z,c≠47:=by
 by_cases h:z<0
 ·rw[yh h]
  intro c hc
  rcases List.mem_cons.1 hc with e|e
  ·rw[e];decide
  exact no47 (qbX _) c e
 rw[zS h]
 exact no47 (qbX _)
theorem qpN {s t:Str} (h:0<s.length):sgn (s++t)=sgn s:=by
 unfold sgn
 rw[Yf h]
theorem qkX (z:Int):0<(Lib.itoa z).length:=by
 by_cases h:z<0
 ·rw[yh h];simp
 rw[zS h];exact qjM _
theorem qmR (q:Rat):sgn (T q)=decide (q.num<0):=by rw[qm6,qpN (qkX _),qfy]
theorem qqw (q:Rat):bdy (T q)=Lib.decDigits q.num.natAbs++tl q:=by
 unfold bdy
 rw[qmR,qm6]
 by_cases h:q.num<0
 ·rw[decide_eq_true h,if_pos rfl,yh h]
  rfl
 rw[decide_eq_false h,if_neg (by simp),zS h]
theorem T_inj {p q:Rat} (h:T p=T q):p=q:=by
 have u:=congrArg slA h
 have e1:slA (T p)=(Lib.itoa p.num).length:=qjq (qeT _) p
 have e2:slA (T q)=(Lib.itoa q.num).length:=qjq (qeT _) q
 rw[e1,e2]at u
 rw[qm6,qm6]at h
 obtain⟨h2,j⟩:=List.append_inj h u
 have n1:p.num=q.num:=by rw[<-qcc p.num,h2,qcc]
 have n2:p.den=q.den:=by
  unfold tl at j
  by_cases c:p.den=1
  ·by_cases d:q.den=1
   ·rw[c,d]
   rw[if_pos c,if_neg d]at j;cases j
  by_cases d:q.den=1
  ·rw[if_neg c,if_pos d]at j;cases j
  rw[if_neg c,if_neg d]at j
  injection j with _ j
  exact qrm j
 exact Rat.ext n1 n2
theorem qmd: ∀{s:Str},slA s<s.length->s=s.take (slA s)++47::s.drop (slA s+1)
 |[],h=>by simp at h
 |c::s,h=>by
  rw[slA]at h⊢
  by_cases e:c=47
  ·rw[if_pos e,e]
   rfl
  rw[if_neg e,Yr]at h
  rw[if_neg e,List.take_succ_cons,List.drop_succ_cons,List.cons_append,<-qmd (show slA s<s.length by omega)]
theorem qp6 (s:Str):s=if sgn s=true then 45::bdy s else bdy s:=by
 unfold bdy
 cases h:sgn s with
 |false=>rw[if_neg (by simp),if_neg (by simp)]
 |true=>
  rw[if_pos rfl,if_pos rfl]
  cases s with
  |nil=>cases h
  |cons c t=>
   have e:=of_decide_eq_true h
   simp only[Yj]at e
   rw[Ye e]
   rfl
theorem qd9 {s:Str} (h:chk s=0): ∃q:Rat,s=T q/\(Lib.decDigits q.num.natAbs).length<=600/\(Lib.decDigits q.den).length<=600:=by
 have hk:=qgr (bdy s)
 have lt:((bdy s).take (slA (bdy s))).length=slA (bdy s):=by rw[Ym];omega
 have hs:=qp6 s
 have hsp:=@qmd (bdy s)
 unfold chk at h
 by_cases h1:okF s=false\/qjx s=true
 ·rw[if_pos h1]at h;cases h
 rw[if_neg h1]at h
 by_cases h2:600<((bdy s).take (slA (bdy s))).length\/600<((bdy s).drop (slA (bdy s)+1)).length
 ·rw[if_pos h2]at h;cases h
 rw[if_neg h2]at h
 by_cases h3:slA (bdy s)<(bdy s).length/\Nat.gcd (qP 0 ((bdy s).take (slA (bdy s)))) (qP 0 ((bdy s).drop (slA (bdy s)+1)))≠1
 ·rw[if_pos h3]at h;cases h
 have ho:okF s=true:=by cases e:okF s with|true=>rfl|false=>exact absurd (.inl e) h1
 have hb:qjx s=false:=by cases e:qjx s with|false=>rfl|true=>exact absurd (.inr e) h1
 obtain⟨j,hng⟩:=of_decide_eq_true ho
 have en:=j.eq
 obtain⟨z,hz1,hz2⟩: ∃z:Int,z.natAbs=qP 0 ((bdy s).take (slA (bdy s)))/\(z<0↔sgn s=true):=by
  cases e:sgn s with
  |false=>exact⟨((qP 0 ((bdy s).take (slA (bdy s))):Nat):Int),by omega,by simp⟩
  |true=>
   have:=qfw j fun c=>hng ⟨e,c⟩
   exact⟨-((qP 0 ((bdy s).take (slA (bdy s))):Nat):Int),by omega,by simp;omega⟩
 have hT: ∀t:Str,bdy s=(bdy s).take (slA (bdy s))++t->s=Lib.itoa z++t:=by
  intro t ht
  rw[hs]
  by_cases c:z<0
  ·rw[if_pos (hz2.1 c),yh c,hz1,<-en,List.cons_append,<-ht]
  rw[if_neg fun e=>c (hz2.2 e),zS c,hz1,<-en,<-ht]
 by_cases c:slA (bdy s)<(bdy s).length
 ·have d:Dec ((bdy s).drop (slA (bdy s)+1))/\(bdy s).drop (slA (bdy s)+1)≠[48]/\(bdy s).drop (slA (bdy s)+1)≠[49]:=Classical.byContradiction fun hc=>of_decide_eq_false hb ⟨c,hc⟩
  have u:=d.1.eq
  have hd0:=qfw d.1 d.2.1
  have hd1:qP 0 ((bdy s).drop (slA (bdy s)+1))≠1:=fun e=>by
   rw[e,yu (by decide)]at u
   exact d.2.2 u
  have hg:Nat.gcd z.natAbs (qP 0 ((bdy s).drop (slA (bdy s)+1)))=1:=by
   rw[hz1]
   exact Classical.byContradiction fun e=>h3 ⟨c,e⟩
  refine⟨⟨z,qP 0 ((bdy s).drop (slA (bdy s)+1)),by omega,hg⟩,?_,?_,?_⟩
  ·have:=hT _ (hsp c)
   unfold T
   rw[if_neg hd1]
   show s=Lib.itoa z++47::Lib.decDigits (qP 0 ((bdy s).drop (slA (bdy s)+1)))
   rw[<-u]
   exact this
  ·show(Lib.decDigits z.natAbs).length<=600
   rw[hz1,<-en]
   omega
  show(Lib.decDigits (qP 0 ((bdy s).drop (slA (bdy s)+1)))).length<=600
  rw[<-u]
  omega
 refine⟨(z:Rat),?_,?_,?_⟩
 ·have:=hT [] (by rw[YQ,List.take_of_length_le (by omega)])
  unfold T
  rw[Rat.den_intCast,if_pos rfl,Rat.num_intCast]
  exact this
 ·rw[Rat.num_intCast,hz1,<-en]
  omega
 rw[Rat.den_intCast,yu (by decide)]
 simp
end Go.Av
end
section
namespace Go.Av
def Sml (q:Rat) (k:Nat):Prop:=(Lib.decDigits q.num.natAbs).length<=k/\(Lib.decDigits q.den).length<=k
theorem qjU (z:Int):(Lib.itoa z).length<=(Lib.decDigits z.natAbs).length+1:=by
 by_cases h:z<0
 ·rw[yh h];simp
 rw[zS h];omega
theorem qfQ (q:Rat) (h:q.den≠1):slA (T q)<(T q).length/\(T q).take (slA (T q))=Lib.itoa q.num/\(T q).drop (slA (T q)+1)=Lib.decDigits q.den:=by
 have e:slA (T q)=(Lib.itoa q.num).length:=qjq (qeT _) q
 have d:T q=Lib.itoa q.num++47::Lib.decDigits q.den:=by unfold T;rw[if_neg h]
 rw[e,d]
 refine⟨by rw[Yq,Yr];omega,?_,?_⟩
 ·rw[List.take_append_of_le_length (Nat.le_refl _),List.take_of_length_le (Nat.le_refl _)]
 rw[List.drop_append,List.drop_of_length_le (by omega),show(Lib.itoa q.num).length+1-(Lib.itoa q.num).length=1 by omega]
 rfl
theorem qeU (q:Rat) (h:q.den=1):T q=Lib.itoa q.num/\slA (T q)=(T q).length:=by
 have d:T q=Lib.itoa q.num:=by unfold T;rw[if_pos h,YQ]
 refine⟨d,?_⟩
 rw[d]
 exact qk6 (qeT _)
theorem qfR {q:Rat} {k:Nat} (h:Sml q k):(T q).length<=2*k+2:=by
 have d:=qjU q.num
 have j:=h.1
 have u:=h.2
 unfold T
 rw[Yq]
 split
 ·simp;omega
 rw[Yr];omega
theorem qg8 {N:Nat} (hN:600000<N) {q:Rat} (h:Sml q 9000): ∃f,vz N (T q)=some f/\IsF f q:=by
 have hl:=qfR h
 have h1:=h.1
 have h2:=h.2
 unfold vz
 rw[qoe (by omega),ZB]
 obtain⟨r1,e1,i1⟩:=qgZ hN (s:=Lib.itoa q.num) (by rw[qbV];exact qbX _) (by rw[qbV];omega)
 rw[qcc]at i1
 by_cases c:q.den=1
 ·obtain⟨t1,t2⟩:=qeU q c
  rw[if_neg (show¬slA (T q)<(T q).length by omega)]
  obtain⟨f,u,d⟩:=qfA i1
  rw[if_pos (by rfl),t1,e1,ZB,u,ZB]
  refine⟨f,rfl,?_⟩
  have:(q.num:Rat)=q:=Rat.ext (by simp) (by simp[c])
  rw[this]at d
  exact d
 obtain⟨t1,t2,t3⟩:=qfQ q c
 rw[if_pos t1]
 have j:=qbX q.den
 obtain⟨r2,u,d⟩:=qgZ hN (s:=Lib.decDigits q.den) (by rw[(qbH j).2];exact j) (by rw[(qbH j).2];omega)
 rw[qde j,qeo]at d
 rw[if_neg (by simp),t2,t3,e1,ZB,u,ZB]
 exact⟨⟨r1,r2⟩,rfl,i1,d⟩
theorem qcg {N:Nat} (hN:600000<N) {q:Rat} (h:Sml q 4000):jf N (T q)=some (rI q.num,rI (q.den:Int)):=by
 have hl:=qfR h
 have h1:=h.1
 have h2:=h.2
 by_cases c:q.den=1
 ·obtain⟨u,d⟩:=qeU q c
  unfold jf
  rw[qdk (by omega) (by omega),ZB,d,if_pos rfl,u,qij (by omega) (by rw[qbV];exact qbX _) (by rw[qbV];omega),ZB,qqX (by omega),ZB,qcc,c]
  rfl
 obtain⟨u,d,t3⟩:=qfQ q c
 have j:=qbX q.den
 rw[qi2 hN (by omega) u (by rw[d,qbV];exact qbX _) (by rw[t3,(qbH j).2];exact j),d,t3,qcc,qde j,qeo]
end Go.Av
end
section
namespace Go.Av
theorem rI_w (z:Int):(rI z).w=dg E9 (z.natAbs:Int):=rfl
theorem qnr {n:Nat} (h:0<n):(if((dg E9 (n:Int)).length:Int)=1 then(idx (dg E9 (n:Int)) 0).bind fun x15=>some (decide (x15=1))else some false:Option Bool)=some (decide (n=1)):=by
 have u:=jr E1 (show(0:Int)<=(n:Int)by omega)
 by_cases h4:n=1
 ·rw[show(n:Int)=1 by omega,qlu,if_pos (by simp),qa6,h4]
  rfl
 rw[decide_eq_false h4]
 by_cases h5:(dg E9 (n:Int)).length=1
 ·obtain⟨x,j⟩:=List.length_eq_one_iff.1 h5
  rw[j,zw,kV,Int.mul_zero,Int.add_zero]at u
  have d:x≠1:=by omega
  rw[j,if_pos (by simp),qa6]
  simp only[Yj,ZB,decide_eq_false d]
 rw[if_neg (by omega)]
theorem zR.abs {z:Int} {n:Nat} (h:zR z n):zR (z.natAbs:Int) n:=by
 unfold zR at h⊢
 rw[Int.natAbs_natCast]
 exact h
theorem zR.le {a b:Int} {n:Nat} (h:(a.natAbs:Int)<=(b.natAbs:Int)) (k:zR b n):zR a n:=Int.lt_of_le_of_lt h k
theorem zR.itoaLen {z:Int} {n:Nat} (h:zR z n) (j:0<n):(Lib.itoa z).length<=9*n+1:=by
 have d:z.natAbs<10^(9*n):=by
  have h:(z.natAbs:Int)<E9^n:=h
  rw[qib]at h
  exact Int.ofNat_lt.1 h
 have u:=(xI (show 0<9*n by omega)).2 d
 have h4:=qjU z
 omega
theorem qjy {N:Nat} (u:60000<N) {x y:Int} (d:0<=x) (j:0<y) {B:Nat} (hB:B<=8000) (h:zR x B):ja N (dg E9 x) (dg E9 y)=some (dg E9 (x/y),dg E9 (x%y)):=by
 have l:=h.len
 rw[show(x.natAbs:Int)=x by omega]at l
 rw[qdD u (zC E1 d) (zC E1 (by omega)) (by omega) (by rw[jr E1 (by omega)];exact j),jr E1 d,jr E1 (by omega)]
theorem den_pos (q:Rat):0<q.den:=Nat.pos_of_ne_zero q.den_nz
theorem qhP {a b:Int} (d:b≠0):(b.sign*a).natAbs=a.natAbs:=by rw[Int.natAbs_mul,Int.natAbs_sign_of_ne_zero d,Nat.one_mul]
theorem qme (a b:Int):Int.gcd (a.natAbs:Int) (b.natAbs:Int)=Int.gcd b a:=by
 rw[Int.gcd_comm]
 rfl
theorem qdB {N:Nat} (hN:600000<N) {B:Nat} (d:0<B) (u:B<=8000) {a b:Int} (fa:zR a B) (j:zR b B) (hb:b≠0):jX N (rI a) (rI b)=some (T (Rat.divInt a b)):=by
 have hg:0<Int.gcd b a:=Int.gcd_pos_of_ne_zero_left _ hb
 have ea:=qhP (a:=a) hb
 have S:(if(rI b).neg=true then(xy N (rI a)).bind fun r7=>(xy N (rI b)).bind fun r8=>some (r7.neg,r7.w,r8.neg,r8.w)else some ((rI a).neg,(rI a).w,(rI b).neg,(rI b).w):Option (Bool×(List Int)×Bool×(List Int)))=some (decide (b.sign*a<0),dg E9 (a.natAbs:Int),false,dg E9 (b.natAbs:Int)):=by
  by_cases h:b<0
  ·rw[if_pos (show(rI b).neg=true from decide_eq_true h),qk0 (by omega) (fa.mono (by omega)),ZB,qk0 (by omega) (j.mono (by omega)),ZB,Int.sign_eq_neg_one_of_neg h,Int.neg_mul,Int.one_mul]
   show some (decide (-a<0),dg E9 (((-a).natAbs:Nat):Int),decide (-b<0),dg E9 (((-b).natAbs:Nat):Int))=_
   rw[decide_eq_false (show¬ -b<0 by omega),Int.natAbs_neg,Int.natAbs_neg]
  rw[if_neg (show¬(rI b).neg=true from fun c=>h (of_decide_eq_true c)),Int.sign_eq_one_of_pos (by omega),Int.one_mul]
  show some (decide (a<0),dg E9 ((a.natAbs:Nat):Int),decide (b<0),dg E9 ((b.natAbs:Nat):Int))=_
  rw[decide_eq_false h]
 have en:(Rat.divInt a b).num=b.sign*a/(Int.gcd b a:Int):=Rat.num_divInt ..
 have ed:(b.natAbs:Int)/(Int.gcd b a:Int)=((Rat.divInt a b).den:Int):=by rw[Rat.den_divInt,if_neg hb,Int.natCast_ediv]
 have hd:=den_pos (Rat.divInt a b)
 have a0:(Int.gcd b a:Int)∣b.sign*a:=Int.dvd_mul_of_dvd_right (Int.gcd_dvd_right ..)
 have fn:zR (Rat.divInt a b).num B:=by
  rw[en]
  exact zR.le (Int.le_trans (jo _ (by omega)) (by rw[ea];exact Int.le_refl _)) fa
 have fd:zR ((Rat.divInt a b).den:Int) B:=by
  rw[<-ed]
  exact zR.le (Int.le_trans (jo _ (by omega)) (Int.le_refl _)) j.abs
 have vn:(if decide (b.sign*a<0)=true then-dv E9 (dg E9 ((a.natAbs:Int)/(Int.gcd b a:Int)))else dv E9 (dg E9 ((a.natAbs:Int)/(Int.gcd b a:Int))))=(Rat.divInt a b).num:=by
  have p0:0<=(a.natAbs:Int)/(Int.gcd b a:Int):=Int.ediv_nonneg (by omega) (by omega)
  rw[jr E1 p0,en]
  by_cases c:b.sign*a<0
  ·rw[if_pos (decide_eq_true c),show(a.natAbs:Int)= -(b.sign*a)by omega,Int.neg_ediv_of_dvd a0,Int.neg_neg]
  rw[if_neg (fun h=>c (of_decide_eq_true h)),show(a.natAbs:Int)=b.sign*a by omega]
 unfold jX
 rw[S,ZB]
 simp only
 rw[qi7 hN (by omega) (by omega) (fa.abs.mono u) (j.abs.mono u),ZB,qme,qjy (by omega) (by omega) (by omega) u fa.abs,ZB,qjy (by omega) (by omega) (by omega) u j.abs,ZB]
 simp only
 have p0:0<=(a.natAbs:Int)/(Int.gcd b a:Int):=Int.ediv_nonneg (by omega) (by omega)
 have ln:(dg E9 ((a.natAbs:Int)/(Int.gcd b a:Int))).length<=B:=by
  have:=(zR.le (Int.le_trans (jo _ (by omega)) (Int.le_refl _)) fa.abs:zR ((a.natAbs:Int)/(Int.gcd b a:Int)) B).len
  rw[show(((a.natAbs:Int)/(Int.gcd b a:Int)).natAbs:Int)=(a.natAbs:Int)/(Int.gcd b a:Int)by omega]at this
  exact this
 have ld:(dg E9 ((Rat.divInt a b).den:Int)).length<=B:=by
  have:=fd.len
  rw[Int.natAbs_natCast]at this
  exact this
 rw[yl _ (zC E1 p0).1 (by omega) (by omega),ZB,vn,qgU (by omega) (fn.mono (by omega)),ZB,ed,qnr hd,ZB]
 have l1:=fn.itoaLen d
 have l2:=fd.itoaLen d
 unfold T
 by_cases c:(Rat.divInt a b).den=1
 ·rw[if_pos (decide_eq_true c),if_pos c,YQ]
 rw[if_neg (fun h=>c (of_decide_eq_true h)),if_neg c,qbC (by simp;omega),ZB,yl _ (zC E1 (by omega)).1 (by omega) (by omega),ZB,if_neg (by simp),jr E1 (by omega),qgU (by omega) (fd.mono (by omega)),ZB,qbC (by simp;omega),ZB,qgm,Yz]
 rfl
theorem qqy {a b:Int} (d:0<=a) (h:0<b):qek .i64 a b=some (a%b):=by
 unfold qek
 rw[if_neg (by omega),Int.tmod_eq_emod_of_nonneg d]
theorem qqB {a b:Int} (d:0<b) (j: -4000000000000000000<=a) (u:a<=4000000000000000000) (h:b∣a):qcp .i64 a b=some (a/b):=by
 have:=jo a d
 unfold qcp
 rw[if_neg (by omega),Int.tdiv_eq_ediv_of_dvd h]
 show some (w64 _)=_
 rw[qh (by omega) (by omega)]
theorem qmi: ∀(k K:Nat) (a b:Int),0<=a->0<=b->b<2^k->2*k+2<=K->jS K a b=some (Int.gcd a b:Int)
 |k,0,a,b,_,_,_,hK=>by omega
 |k,K+1,a,b,ha,hb,hk,hK=>by
  have na:(a.natAbs:Int)=a:=by omega
  have nb:(b.natAbs:Int)=b:=by omega
  rcases(show b=0\/0<b by omega)with h0|h0
  ·rw[h0,jS,if_neg (by omega),Int.gcd_zero,na]
  match k,hk,hK with
  |0,hk,hK=>simp at hk;omega
  |k+1,hk,hK=>
   have h:=Int.emod_nonneg a (show b≠0 by omega)
   have m1:=Int.emod_lt_of_pos a h0
   rw[jS,if_pos (by omega),qqy ha h0,ZB,qda ha hb]
   match K,hK with
   |0,hK=>omega
   |K+1,hK=>
    rcases(show a%b=0\/0<a%b by omega)with g0|g0
    ·rw[g0,jS,if_neg (by omega),Int.gcd_zero,nb]
    have u:=Int.emod_nonneg b (show a%b≠0 by omega)
    have n1:=Int.emod_lt_of_pos b g0
    have d:b%(a%b)<2^k:=by
     have d1:=Int.mul_ediv_add_emod b (a%b)
     have j:1<=b/(a%b):=by
      rw[Int.le_ediv_iff_mul_le g0]
      omega
     have d3:a%b*1<=a%b*(b/(a%b)):=Yc j (by omega)
     rw[Int.pow_succ]at hk
     omega
    rw[jS,if_pos (by omega),qqy hb g0,ZB,qda hb h]
    exact qmi k K (a%b) (b%(a%b)) h u d (by omega)
theorem qqr {N:Nat} (u:200<N) {a b:Int} (j:0<=a) (d:0<=b) (h:b<9223372036854775808):qdq N a b=some (Int.gcd a b:Int):=by
 unfold qdq
 rw[qmi 63 N a b j d h (by omega),ZB]
theorem rabs {z:Int} (h: -9223372036854775807<=z) (d:z<=9223372036854775807):(if w64 (0-z)>z then w64 (0-z)else z)=(z.natAbs:Int):=by
 rw[qh (by omega) (by omega)]
 split<;>omega
theorem qqu {n:Nat} (h:n<=4000000000000000000):(Lib.decDigits n).length<=19:=(xI (by decide)).2 (by omega)
theorem qo0 {N:Nat} (hN:1000<N) {a b:Int} (a1: -4000000000000000000<=a) (a2:a<=4000000000000000000) (b1: -4000000000000000000<=b) (b2:b<=4000000000000000000) (j:b≠0):qdl N a b=some (T (Rat.divInt a b)):=by
 have hg:0<Int.gcd b a:=Int.gcd_pos_of_ne_zero_left _ j
 have ea:=qhP (a:=a) j
 have S:(if b<0 then some (w64 (0-a),w64 (0-b))else some (a,b):Option (Int×Int))=some (b.sign*a,(b.natAbs:Int)):=by
  by_cases h:b<0
  ·rw[if_pos h,qh (by omega) (by omega),qh (by omega) (by omega),Int.sign_eq_neg_one_of_neg h,show(-1:Int)*a=0-a by omega,show(b.natAbs:Int)=0-b by omega]
  rw[if_neg h,Int.sign_eq_one_of_pos (by omega),Int.one_mul,show(b.natAbs:Int)=b by omega]
 have en:(Rat.divInt a b).num=b.sign*a/(Int.gcd b a:Int):=Rat.num_divInt ..
 have ed:(b.natAbs:Int)/(Int.gcd b a:Int)=((Rat.divInt a b).den:Int):=by rw[Rat.den_divInt,if_neg j,Int.natCast_ediv]
 have hd:=den_pos (Rat.divInt a b)
 have d:(Int.gcd b a:Int)∣b.sign*a:=Int.dvd_mul_of_dvd_right (Int.gcd_dvd_right ..)
 have u:(Int.gcd b a:Int)∣(b.natAbs:Int):=by
  rw[Int.dvd_natAbs]
  exact Int.gcd_dvd_left ..
 have n1:=jo (b.sign*a) (show(0:Int)<(Int.gcd b a:Int)by omega)
 have n2:=jo (b.natAbs:Int) (show(0:Int)<(Int.gcd b a:Int)by omega)
 rw[<-en,ea]at n1
 rw[ed,Int.natAbs_natCast,Int.natAbs_natCast]at n2
 unfold qdl
 rw[if_neg (show¬a< -4000000000000000000 by omega),if_neg (show¬a>4000000000000000000 by omega),if_neg (show¬b< -4000000000000000000 by omega),decide_eq_false (show¬b>4000000000000000000 by omega),ZB,if_neg (by simp),S,ZB]
 simp only
 rw[rabs (by omega) (by omega),ea,qqr (by omega) (by omega) (by omega) (by omega),ZB,qme,qqB (by omega) (by omega) (by omega) d,ZB,qqB (by omega) (by omega) (by omega) u,ZB,<-en,ed,rabs (by omega) (by omega),qii (by omega) (by omega),qii (by omega) (by omega)]
 generalize Rat.divInt a b=q at*
 have l1:=qqu (n:=q.num.natAbs) (by omega)
 have l2:=qqu (n:=q.den) (by omega)
 have S2:((if q.num<0 then some [45]else some []:Option Str).bind fun s17=>(some (Lib.decDigits q.num.natAbs)).bind fun r20=>(cat s17 r20).bind fun s21=>(if(q.den:Int)>1 then(cat s21 [47]).bind fun s25=>(some (Lib.decDigits q.den)).bind fun r26=>(cat s25 r26).bind fun s27=>some s27 else some s21:Option Str).bind fun s22=>some s22)=some (T q):=by
  have li:(Lib.itoa q.num).length<=20:=by have:=qjU q.num;omega
  have I:((if q.num<0 then some [45]else some []:Option Str).bind fun s17=>(some (Lib.decDigits q.num.natAbs)).bind fun r20=>(cat s17 r20).bind fun s21=>(if(q.den:Int)>1 then(cat s21 [47]).bind fun s25=>(some (Lib.decDigits q.den)).bind fun r26=>(cat s25 r26).bind fun s27=>some s27 else some s21:Option Str).bind fun s22=>some s22)=((if(q.den:Int)>1 then(cat (Lib.itoa q.num) [47]).bind fun s25=>(some (Lib.decDigits q.den)).bind fun r26=>(cat s25 r26).bind fun s27=>some s27 else some (Lib.itoa q.num):Option Str).bind fun s22=>some s22):=by
   by_cases c:q.num<0
   ·rw[if_pos c,ZB,ZB,qbC (by simp;omega),ZB,yh c]
    rfl
   rw[if_neg c,ZB,ZB,qbC (by simp;omega),ZB,zS c]
   rfl
  rw[I]
  unfold T
  by_cases c:q.den=1
  ·rw[if_neg (by omega),if_pos c,ZB,YQ]
  rw[if_pos (by omega),if_neg c,qbC (by simp;omega),ZB,ZB,qbC (by simp;omega),ZB,ZB,Yz]
  rfl
 exact S2
end Go.Av
end
section
namespace Go.Av
theorem Sml.mono {q:Rat} {m n:Nat} (h:Sml q m) (d:m<=n):Sml q n:=⟨Nat.le_trans h.1 d,Nat.le_trans h.2 d⟩
theorem qbD {q:Rat} {k n:Nat} (h:Sml q k) (j:0<k) (d:k<=9*n):zR q.num n:=qj3 (p:=k) (Int.ofNat_lt.2 ((xI j).1 h.1)) d
theorem qb3 {q:Rat} {k n:Nat} (h:Sml q k) (j:0<k) (d:k<=9*n):zR (q.den:Int) n:=qj3 (p:=k) (by rw[Int.natAbs_natCast];exact Int.ofNat_lt.2 ((xI j).1 h.2)) d
theorem qhK {q:Rat} {k n:Nat} (h:Sml q k) (j:0<k) (d:k<=19*n):vI q n:=⟨qfx (p:=k) (Int.ofNat_lt.2 ((xI j).1 h.1)) d,qfx (p:=k) (by rw[Int.natAbs_natCast];exact Int.ofNat_lt.2 ((xI j).1 h.2)) d⟩
theorem qmv {z:Int} {n:Nat} (h:zR z n) (d:0<n):(Lib.decDigits z.natAbs).length<=9*n:=by
 refine(xI (by omega)).2 ?_
 have h:(z.natAbs:Int)<E9^n:=h
 rw[qib]at h
 exact Int.ofNat_lt.1 h
theorem qhB {q:Rat} {n:Nat} (u:zR q.num n) (j:zR (q.den:Int) n) (d:0<n):Sml q (9*n):=by
 have h:=qmv j d
 rw[Int.natAbs_natCast]at h
 exact⟨qmv u d,h⟩
theorem qgD {a b:Int} {n:Nat} (d:b≠0) (fa:zR a n) (h:zR b n):zR (Rat.divInt a b).num n/\zR ((Rat.divInt a b).den:Int) n:=by
 have j:0<Int.gcd b a:=Int.gcd_pos_of_ne_zero_left _ d
 constructor
 ·rw[Rat.num_divInt]
  exact zR.le (Int.le_trans (jo _ (by omega)) (by rw[qhP d];exact Int.le_refl _)) fa
 rw[Rat.den_divInt,if_neg d,Int.natCast_ediv]
 exact zR.le (Int.le_trans (jo _ (by omega)) (Int.le_refl _)) h.abs
theorem xU {a b:Int} {m n:Nat} (h:zR a m) (d:zR b n):zR (a*b) (m+n):=by
 unfold zR at*
 rw[Int.natAbs_mul,Int.natCast_mul,Int.pow_add]
 have j:(a.natAbs:Int)*(b.natAbs:Int)<=(a.natAbs:Int)*E9^n:=Yc (Int.le_of_lt d) (by omega)
 have u:(a.natAbs:Int)*E9^n<E9^m*E9^n:=YH h (pow_pos E0 n)
 omega
theorem qkF {a b:Int} {n:Nat} (j:zR a n) (h:zR b n):zR (a+b) (n+1):=by
 unfold zR at*
 rw[Int.pow_succ]
 have d:=pow_pos E0 n
 have:((a+b).natAbs:Int)<=(a.natAbs:Int)+(b.natAbs:Int):=by omega
 unfold E9 at*
 omega
theorem qfK {q:Rat} (h:Sml q 600):qiE q=false:=by
 have j:=h.1
 have d:=h.2
 unfold qiE lng
 rw[Int.natAbs_natCast,decide_eq_false (by omega),decide_eq_false (by omega)]
 rfl
theorem qkL (s:Str):xQ s=some (if s=[48]then 0 else if sgn s=true then-1 else 1):=by
 unfold xQ
 by_cases c:s=[48]
 ·rw[if_pos (by simp[c]),if_pos c]
 rw[if_neg (by simp[c]),qf8,ZB,if_neg c]
 cases sgn s<;>rfl
theorem qqD:Lib.itoa 0=[48]:=by
 rw[zS (by decide),show(0:Int).natAbs=0 from rfl,yu (by decide)]
 rfl
theorem qnk {z:Int}:Lib.itoa z=[48]↔z=0:=by
 constructor
 ·intro h
  have d:=qcc z
  rw[h]at d
  exact d.symm
 intro h
 rw[h]
 exact qqD
theorem T0:T 0=[48]:=by
 rw[(qeU 0 rfl).1]
 exact qqD
theorem qo3 {q:Rat}:T q=[48]↔q=0:=by
 constructor
 ·intro h
  exact T_inj (h.trans T0.symm)
 intro h
 rw[h]
 exact T0
theorem qjF (q:Rat):xQ (T q)=some (if q.num<0 then-1 else if q.num=0 then 0 else 1):=by
 rw[qkL,qmR]
 by_cases c:q=0
 ·rw[if_pos (qo3.2 c),c]
  rfl
 rw[if_neg (fun h=>c (qo3.1 h)),if_neg (show¬q.num=0 from fun h=>c (Rat.num_eq_zero.1 h))]
 by_cases d:q.num<0
 ·rw[decide_eq_true d,if_pos rfl,if_pos d]
 rw[decide_eq_false d,if_neg (by simp),if_neg d]
theorem qq9 (q:Rat):tl (-q)=tl q:=by
 unfold tl
 rw[Rat.neg_den]
theorem qqC {N:Nat} {q:Rat} (h:(T q).length<=100000):qcd (T q)=some (T (-q)):=by
 unfold qcd
 rw[qjF,ZB]
 have e:T (-q)=Lib.itoa (-q.num)++tl q:=by rw[qm6,qq9,Rat.neg_num]
 by_cases c:q.num<0
 ·have hs:sgn (T q)=true:=by rw[qmR];exact decide_eq_true c
  have j:(T q).drop 1=bdy (T q):=by unfold bdy;rw[if_pos hs]
  have u:=qj2 hs
  rw[if_pos c,if_pos (by decide),show(1:Int)=((1:Nat):Int)from rfl,xV u,ZB,j,qqw,e,zS (by omega),Int.natAbs_neg]
 rw[if_neg c,if_neg (by split<;>decide),ZB]
 by_cases d:q.num=0
 ·rw[if_pos d,if_pos rfl,Rat.num_eq_zero.1 d]
  rfl
 rw[if_neg d,if_neg (by decide),qbC (by simp;omega),ZB,e,yh (by omega),Int.natAbs_neg,qm6,zS c]
 rfl
theorem qpL {N:Nat} (hN:100000<N) {q:Rat} {k:Nat} (h:Sml q k) (hk:k<=9000):qbS N (T q)=some (if qiE q=true then 4 else 0):=by
 have hl:=qfR h
 have hs:=qdk (N:=N) (s:=T q) (by omega) (by omega)
 have hnum:qdi N (T q)=some (Lib.itoa q.num):=by
  unfold qdi
  rw[hs,ZB]
  by_cases c:q.den=1
  ·obtain⟨t1,t2⟩:=qeU q c
   rw[xq (by omega),ZB,t2,List.take_length,t1]
  obtain⟨t1,t2,t3⟩:=qfQ q c
  rw[xq (by omega),ZB,t2]
 have u:xn (Lib.itoa q.num)=some (Lib.decDigits q.num.natAbs):=by
  have hs:=qfy q.num
  have hb:=qbV q.num
  unfold xn
  rw[qkL,ZB,hs]
  unfold bdy at hb
  rw[hs]at hb
  by_cases c:q.num<0
  ·rw[if_neg (show¬Lib.itoa q.num=[48]from fun h=>by have:=qnk.1 h;omega),if_pos (decide_eq_true c),if_pos (by decide),show(1:Int)=((1:Nat):Int)from rfl,xV (qkX _),ZB]
   rw[if_pos (decide_eq_true c)]at hb
   rw[hb]
  rw[decide_eq_false c,if_neg (by split<;>simp),zS c]
 have j:qc9 N (T q)=some (Lib.decDigits q.den):=by
  unfold qc9
  rw[hs,ZB]
  by_cases c:q.den=1
  ·obtain⟨t1,t2⟩:=qeU q c
   rw[if_pos (by omega),c,yu (by decide)]
   rfl
  obtain⟨t1,t2,t3⟩:=qfQ q c
  rw[if_neg (by omega),zn (by omega),xV (by omega),ZB,t3]
 unfold qbS
 rw[hnum,ZB,u,ZB,j]
 unfold qiE lng
 rw[Int.natAbs_natCast]
 by_cases c:600<(Lib.decDigits q.num.natAbs).length
 ·rw[if_pos (by omega),decide_eq_true c,Bool.true_or]
  rfl
 rw[if_neg (by omega),decide_eq_false c,Bool.false_or,ZB]
 by_cases d:600<(Lib.decDigits q.den).length
 ·rw[decide_eq_true (by omega),decide_eq_true d]
  rfl
 rw[decide_eq_false (by omega),decide_eq_false d]
 rfl
theorem qhS {N:Nat} (hN:100000<N) {q:Rat} {k:Nat} (h:Sml q k) (hk:k<=9000):vJ N (T q)=some (0,0,false)\/(vJ N (T q)=some (q.num,(q.den:Int),true)/\q.num.natAbs<1000000000/\q.den<1000000000):=by
 have hl:=qfR h
 have hb:=qf2 (T q)
 have eb:=qqw q
 have es:slA (Lib.decDigits q.num.natAbs++tl q)=(Lib.decDigits q.num.natAbs).length:=qjq (no47 (qbX _)) q
 have u:(Lib.decDigits q.num.natAbs++tl q).length=(Lib.decDigits q.num.natAbs).length+(tl q).length:=Yq
 rw[eb]at hb
 unfold vJ
 by_cases c:((T q).length:Int)>20
 ·left
  rw[if_pos c]
 rw[if_neg c,qf8,ZB,qlk,ZB,eb,qdk (by omega) (by omega),ZB,es,qmR]
 by_cases c1:(Lib.decDigits q.num.natAbs).length>9
 ·left
  rw[if_pos (by omega),ZB,if_pos rfl]
 rw[if_neg (by omega),qh (by omega) (by omega)]
 by_cases c2:(tl q).length>10
 ·left
  rw[decide_eq_true (by omega),ZB,if_pos rfl]
 right
 rw[decide_eq_false (by omega),ZB,if_neg (by simp),xq (by omega),ZB,List.take_left',qfB (by omega) (qbX _) (by omega),ZB,qeo]
 ·have hn:q.num.natAbs<1000000000:=(xI (show 0<9 by decide)).1 (by omega)
  have sg:(if decide (q.num<0)=true then some (w64 (0-(q.num.natAbs:Int)))else some (q.num.natAbs:Int):Option Int)=some q.num:=by
   by_cases d:q.num<0
   ·rw[if_pos (decide_eq_true d),qh (by omega) (by omega)]
    congr 1
    omega
   rw[if_neg (fun h=>d (of_decide_eq_true h))]
   congr 1
   omega
  by_cases d:q.den=1
  ·have j:tl q=[]:=by unfold tl;rw[if_pos d]
   rw[j]at u
   rw[List.length_nil]at u
   rw[j,if_neg (by omega),ZB,sg,ZB,d]
   exact⟨rfl,hn,by decide⟩
  have j:tl q=47::Lib.decDigits q.den:=by unfold tl;rw[if_neg d]
  rw[j,Yr]at u c2
  have hd:q.den<1000000000:=(xI (show 0<9 by decide)).1 (by omega)
  rw[j,if_pos (by omega),zn (by omega),xV (by omega),ZB,List.drop_append,List.drop_of_length_le (by omega),show(Lib.decDigits q.num.natAbs).length+1-(Lib.decDigits q.num.natAbs).length=1 by omega,List.nil_append,List.drop_succ_cons,YR,qfB (by omega) (qbX _) (by omega),ZB,ZB,sg,ZB,qeo]
  exact⟨rfl,hn,hd⟩
 rfl
theorem qlX {N:Nat} (hN:100000<N) {p q:Rat} {k:Nat} (hk:k<=9000) (hp:Sml p k) (hq:Sml q k) {Fq:(Int×Int×Bool)->(Int×Int×Bool)->Option Str} {d:Option Str} {t:Str}
 (h1:p.num.natAbs<1000000000->p.den<1000000000->q.num.natAbs<1000000000->q.den<1000000000->Fq (p.num,(p.den:Int),true) (q.num,(q.den:Int),true)=some t) (u:d=some t):
 ((vJ N (T p)).bind fun r1=>(vJ N (T q)).bind fun r2=>(if r1.2.2=true then some r2.2.2 else some false:Option Bool).bind fun b4=>if b4=true then(Fq r1 r2).bind fun r7=>some r7 else d)=some t:=by
 rcases qhS hN hp hk with j|⟨j,a1,a2⟩
 ·rcases qhS hN hq hk with h|⟨h,b1,b2⟩
  ·rw[j,ZB,h,ZB]
   exact u
  rw[j,ZB,h,ZB]
  exact u
 rcases qhS hN hq hk with h|⟨h,b1,b2⟩
 ·rw[j,ZB,h,ZB]
  exact u
 rw[j,ZB,h,ZB]
 show((Fq (p.num,(p.den:Int),true) (q.num,(q.den:Int),true)).bind fun r7=>some r7)=some t
 rw[h1 a1 a2 b1 b2,ZB]
theorem qo8 {a b:Int} (j:a.natAbs<1000000000) (d:b.natAbs<1000000000): -1000000000000000000<=a*b/\a*b<=1000000000000000000:=by
 have h:(a*b).natAbs<=1000000000*1000000000:=by
  rw[Int.natAbs_mul]
  exact Nat.mul_le_mul (by omega) (by omega)
 omega
theorem qmz {N:Nat} (hN:600000<N) {p q:Rat} {k:Nat} (d:0<k) (hk:k<=4000) (hp:Sml p k) (u:Sml q k):qbs N (T p) (T q)=some (T (p+q)):=by
 unfold qbs
 obtain⟨n,hn⟩: ∃n:Nat,n=500:=⟨_,rfl⟩
 have p1:=qbD (n:=n) hp d (by omega)
 have j:=qb3 (n:=n) hp d (by omega)
 have q1:=qbD (n:=n) u d (by omega)
 have h:=qb3 (n:=n) u d (by omega)
 refine qlX (N:=N) (by omega) (show k<=9000 by omega) hp u (fun a1 a2 b1 b2=>?_) ?_
 ·have m1:=qo8 a1 (show((q.den:Int)).natAbs<1000000000 by omega)
  have m2:=qo8 b1 (show((p.den:Int)).natAbs<1000000000 by omega)
  have m3:=qo8 (show((p.den:Int)).natAbs<1000000000 by omega) (show((q.den:Int)).natAbs<1000000000 by omega)
  have:=qcr p q
  simp only
  rw[qh (n:=p.num*(q.den:Int)) (by omega) (by omega),qh (n:=q.num*(p.den:Int)) (by omega) (by omega),qh (n:=(p.den:Int)*(q.den:Int)) (by omega) (by omega),qh (by omega) (by omega),qo0 (by omega) (by omega) (by omega) (by omega) (by omega) (qcr p q),<-qcz]
 rw[qcg hN (hp.mono (by omega)),ZB,qcg hN (u.mono (by omega)),ZB]
 simp only
 rw[qd4 (by omega) (p1.mono (by omega)) (h.mono (by omega)),ZB,qd4 (by omega) (q1.mono (by omega)) (j.mono (by omega)),ZB,qpS (by omega) ((xU p1 h).mono (by omega)) ((xU q1 j).mono (by omega)),ZB,qd4 (by omega) (j.mono (by omega)) (h.mono (by omega)),ZB,qdB hN (B:=n+n+1) (by omega) (by omega) (qkF (xU p1 h) (xU q1 j)) ((xU j h).mono (by omega)) (qcr p q),ZB,<-qcz]
theorem qml {N:Nat} (u:600000<N) {p q:Rat} {k:Nat} (d:0<k) (hk:k<=4000) (j:Sml p k) (h:Sml q k):qcf N (T p) (T q)=some (T (p*q)):=by
 unfold qcf
 obtain⟨n,hn⟩: ∃n:Nat,n=500:=⟨_,rfl⟩
 have p1:=qbD (n:=n) j d (by omega)
 have p2:=qb3 (n:=n) j d (by omega)
 have q1:=qbD (n:=n) h d (by omega)
 have q2:=qb3 (n:=n) h d (by omega)
 refine qlX (N:=N) (by omega) (show k<=9000 by omega) j h (fun a1 a2 b1 b2=>?_) ?_
 ·have m1:=qo8 a1 b1
  have m3:=qo8 (show((p.den:Int)).natAbs<1000000000 by omega) (show((q.den:Int)).natAbs<1000000000 by omega)
  simp only
  rw[qh (n:=p.num*q.num) (by omega) (by omega),qh (n:=(p.den:Int)*(q.den:Int)) (by omega) (by omega),qo0 (by omega) (by omega) (by omega) (by omega) (by omega) (qcr p q),<-qct]
 rw[qcg u (j.mono (by omega)),ZB,qcg u (h.mono (by omega)),ZB]
 simp only
 rw[qd4 (by omega) (p1.mono (by omega)) (q1.mono (by omega)),ZB,qd4 (by omega) (p2.mono (by omega)) (q2.mono (by omega)),ZB,qdB u (B:=n+n) (by omega) (by omega) (xU p1 q1) (xU p2 q2) (qcr p q),ZB,<-qct]
theorem qjW {p q:Rat} {n:Nat} (hn:0<n) (j:Sml p (9*n)) (h:Sml q (9*n)):Sml (p+q) (9*(n+n+1)):=by
 have p1:=qbD (n:=n) j (by omega) (by omega)
 have u:=qb3 (n:=n) j (by omega) (by omega)
 have q1:=qbD (n:=n) h (by omega) (by omega)
 have d:=qb3 (n:=n) h (by omega) (by omega)
 rw[qcz]
 obtain⟨f1,f2⟩:=qgD (qcr p q) (qkF (xU p1 d) (xU q1 u)) ((xU u d).mono (show n+n<=n+n+1 by omega))
 exact qhB f1 f2 (by omega)
theorem qmj {p q:Rat} {n:Nat} (hn:0<n) (h:Sml p (9*n)) (d:Sml q (9*n)):Sml (p*q) (9*(n+n)):=by
 have u:=qbD (n:=n) h (by omega) (by omega)
 have p2:=qb3 (n:=n) h (by omega) (by omega)
 have q1:=qbD (n:=n) d (by omega) (by omega)
 have j:=qb3 (n:=n) d (by omega) (by omega)
 rw[qct]
 obtain⟨f1,f2⟩:=qgD (qcr p q) (xU u q1) (xU p2 j)
 exact qhB f1 f2 (by omega)
theorem qg0 {p:Rat} {k:Nat} (h:Sml p k):Sml (-p) k:=by
 unfold Sml
 rw[Rat.neg_num,Rat.neg_den,Int.natAbs_neg]
 exact h
theorem qmV {p:Rat} {k:Nat} (h:Sml p k) (j:p≠0):Sml p⁻¹ k:=by
 have d:p.num≠0:=fun c=>j (Rat.num_eq_zero.1 c)
 unfold Sml
 rw[Rat.num_inv,Rat.den_inv,if_neg d,Int.natAbs_mul,Int.natAbs_sign_of_ne_zero d,Nat.one_mul,Int.natAbs_natCast]
 exact⟨h.2,h.1⟩
theorem qjD {N:Nat} (hN:600000<N) {p q:Rat} {k:Nat} (d:0<k) (j:k<=4000) (u:Sml p k) (h:Sml q k):qaH N (T p) (T q)=some (T (p-q)):=by
 have hl:=qfR h
 unfold qaH
 rw[qqC (N:=N) (by omega),ZB,qmz hN d j u (qg0 h),ZB,Rat.sub_eq_add_neg]
theorem qmM {N:Nat} (hN:600000<N) {p q:Rat} {k:Nat} (d:0<k) (hk:k<=4000) (hp:Sml p k) (u:Sml q k):qaG N (T p) (T q)=some (if p<q then-1 else if p=q then 0 else 1):=by
 unfold qaG
 rw[qjD hN d hk hp u,ZB,qjF,ZB]
 have j:((p-q).num<0)=(p<q):=by
  apply propext
  rw[<-Rat.not_le,Rat.le_iff_sub_nonneg q p,<-Rat.num_nonneg]
  omega
 have a2:((p-q).num=0)=(p=q):=by
  apply propext
  rw[Rat.num_eq_zero]
  constructor
  ·intro h
   have:p-q+q=p:=Rat.sub_add_cancel
   rw[h,Rat.zero_add]at this
   exact this.symm
  intro h
  rw[h,Rat.sub_self]
 simp only[j,a2]
theorem qp0 {N:Nat} (j:600000<N) {p:Rat} {k:Nat} (d:0<k) (hk:k<=4000) (h:Sml p k) (h0:p≠0):y9 N (T p)=some (T p⁻¹):=by
 obtain⟨n,hn⟩: ∃n:Nat,n=500:=⟨_,rfl⟩
 have u:=qbD (n:=n) h d (by omega)
 have p2:=qb3 (n:=n) h d (by omega)
 unfold y9
 rw[qcg j (h.mono (by omega)),ZB]
 simp only
 rw[qdB j (B:=n) (by omega) (by omega) p2 u (fun c=>h0 (Rat.num_eq_zero.1 c)),ZB,<-Rat.inv_def]
theorem qpO {N:Nat} (hN:600000<N) {p q:Rat} {k:Nat} (d:0<k) (j:k<=4000) (hp:Sml p k) (h:Sml q k) (u:q≠0):qch N (T p) (T q)=some (T (p/q)):=by
 unfold qch
 rw[qp0 hN d j h u,ZB,qml hN d j hp (qmV h u),ZB,<-Rat.div_def]
end Go.Av
end
section
namespace Go.Av
theorem qfX {N:Nat} (h:10<N) (a b:Int):vL N [a,b]=some (if a=0 then b else a):=by
 obtain⟨K,rfl⟩: ∃K,N=K+1+1+1:=⟨N-3,by omega⟩
 unfold vL
 rw[vD,if_pos (by simp),qa6]
 simp only[Yj,ZB]
 by_cases c:a=0
 ·rw[if_neg (by simp[c]),if_pos c,show w64 (0+1)=((1:Nat):Int)from rfl,vD,if_pos (by simp),qA]
  simp only[YK,Yj,ZB]
  by_cases d:b=0
  ·rw[if_neg (by simp[d]),d,show w64 (((1:Nat):Int)+1)=2 from rfl,vD,if_neg (by simp)]
   rfl
  rw[if_pos (by simp[d])]
  rfl
 rw[if_pos (by simp[c]),if_neg c]
 rfl
theorem qnn {N:Nat} (h:600000<N) {a b:Str} (ha:a.length<=10000) (hb:b.length<=10000):xS N [a,b]=some (if chk a=0 then chk b else chk a):=by
 have j:=qce h ha
 have u:=qce h hb
 unfold xS
 obtain⟨K,hK⟩: ∃K,N=K+1+1+1:=⟨N-3,by omega⟩
 have L:qR N [a,b] (K+1+1+1) 0=some (if chk a=0 then(if chk b=0 then .inl ()else .inr (chk b))else .inr (chk a)):=by
  rw[qR,if_pos (by simp),qa6]
  simp only[Yj,ZB]
  rw[j,ZB]
  by_cases c:chk a=0
  ·rw[if_neg (by simp[c]),if_pos c,show w64 (0+1)=((1:Nat):Int)from rfl,qR,if_pos (by simp),qA]
   simp only[YK,Yj,ZB]
   rw[u,ZB]
   by_cases d:chk b=0
   ·rw[if_neg (by simp[d]),if_pos d,show w64 (((1:Nat):Int)+1)=2 from rfl,qR,if_neg (by simp)]
   rw[if_pos (by simp[d]),if_neg d]
  rw[if_pos (by simp[c]),if_neg c]
 rw[show qR N [a,b] N 0=qR N [a,b] (K+1+1+1) 0 by rw[<-hK],L,ZB]
 by_cases c:chk a=0
 ·by_cases d:chk b=0
  ·rw[if_pos c,if_pos d,if_pos c,d]
  rw[if_pos c,if_neg d,if_pos c]
 rw[if_neg c,if_neg c]
def res (q:Rat):Str×Int:=if qiE q=true then([],4)else(T q,0)
section ops
variable {N:Nat} (hN:600000<N)
include hN
variable {p q:Rat} (hp:Sml p 600) (hq:Sml q 600) (cp:chk (T p)=0) (cq:chk (T q)=0)
include hp hq cp cq
end ops
theorem qjB {N:Nat} {e:Int} (h:e≠0) (w:Str):ym N [] e e w=some true:=by
 unfold ym
 rw[if_neg h,ZB,if_pos (by simp[h]),if_pos (show(([]:Str)==[])=true from rfl),ZB,decide_eq_true rfl]
theorem qom {N:Nat} (j:100000<N) {r:Rat} {k:Nat} (h:Sml r k) (d:k<=9000):ym N (res r).1 (res r).2 0 (T r)=some true:=by
 unfold ym res
 rw[if_pos rfl,qpL j h d]
 cases qiE r with
 |true=>rfl
 |false=>
  rw[if_neg (by simp),if_neg (by simp)]
  simp
end Go.Av
end
