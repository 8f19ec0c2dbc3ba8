/-
  The reference's digits to the base 10^9: zeros off the end, comparison, sums, differences, products, division by a digit.
-/
import Derived.Test.YtbjpmhdicbgjkaaGreatDoorNuPa
noncomputable section
set_option linter.unusedVariables false
set_option linter.unusedSimpArgs false
set_option maxRecDepth 100000
section
namespace Go.Av
abbrev E9:Int:=1000000000
theorem E1:(1:Int)<E9:=by decide
theorem E0:(0:Int)<E9:=by decide
theorem qj7 {w:List Int} (hl:w.length<=100000): ∀(K m:Nat),m<=w.length->m<K->(∀(i:Nat) x,m<=i->w[i]? =some x->x=0)->
 ∃m':Nat,yD K (w.take m)=some (w.take m')/\m'<=w.length/\(∀x,0<m'->w[m'-1]? =some x->x≠0)/\ ∀(i:Nat) x,m'<=i->w[i]? =some x->x=0
 |0,m,h,hK,_=>by omega
 |K+1,m,h,hK,hz=>by
  have el:(w.take m).length=m:=by rw[Ym];omega
  rw[yD,el]
  by_cases h0:0<m
  ·have j:m-1<w.length:=by omega
   have e1:(w.take m)[m-1]? =some w[m-1]:=by rw[Yt,if_pos (by omega),Ya j]
   rw[if_pos (by omega),qiG (by omega) h0,qz,e1,ZB,ZB]
   by_cases c:w[m-1]=0
   ·rw[decide_eq_true c,if_pos rfl,yI (by omega),ZB,List.take_take,Nat.min_eq_left (by omega)]
    refine qj7 hl K (m-1) (by omega) (by omega) fun i x hi hx=>?_
    rcases Nat.lt_or_ge i m with u|u
    ·have e:i=m-1:=by omega
     subst e
     rw[Ya j]at hx
     rw[<-Ye hx]
     exact c
    exact hz i x u hx
   rw[decide_eq_false c,if_neg (by simp)]
   refine⟨m,rfl,h,fun x _ hx=>?_,hz⟩
   rw[Ya j]at hx
   rw[<-Ye hx]
   exact c
  rw[if_neg (by omega),ZB,if_neg (by simp)]
  exact⟨m,rfl,h,fun x u=>by omega,hz⟩
theorem qb1 {N:Nat} {w:List Int} (hw:Dg E9 w) (j:w.length<=100000) (u:w.length<N):vX N w=some (dg E9 (dv E9 w)):=by
 unfold vX
 obtain⟨m,e,h1,h2,h⟩:=qj7 j N w.length (Nat.le_refl _) u (fun i x hi hx=>by rw[Yg hi]at hx;cases hx)
 rw[List.take_of_length_le (Nat.le_refl _)]at e
 rw[e,ZB,qln E1 hw h1 h2 h]
def rI (z:Int):qB:=⟨decide (z<0),dg E9 z.natAbs⟩
theorem vQ {N:Nat} (h:Bool) {w:List Int} (j:Dg E9 w) (hl:w.length<=100000) (hN:w.length<N):zh N h w=some (rI (if h=true then-dv E9 w else dv E9 w)):=by
 have h0:=qC E0 j
 have u:=qgX E1 h0
 unfold zh
 rw[qb1 j hl hN,ZB]
 have hlen:0<(dg E9 (dv E9 w)).length↔0<dv E9 w:=by
  rw[List.length_pos_iff]
  constructor
  ·intro c
   have:dv E9 w≠0:=fun e=>c (u.2 e)
   omega
  intro c e
  have:=u.1 e
  omega
 cases h with
 |true=>
  rw[if_pos rfl,if_pos rfl,ZB]
  unfold rI
  rw[Int.natAbs_neg,show(dv E9 w).natAbs=dv E9 w by omega]
  congr 2
  exact decide_eq_decide.2 (by omega)
 |false=>
  rw[if_neg (by simp),if_neg (by simp),ZB]
  unfold rI
  rw[show((dv E9 w).natAbs:Int)=dv E9 w by omega,decide_eq_false (by omega)]
theorem qcv {a b:List Int} (u:Can E9 a) (j:Can E9 b) (h:a.length<b.length):dv E9 a<dv E9 b:=by
 obtain⟨n,hn⟩: ∃n,b.length=n+1:=⟨b.length-1,by omega⟩
 have h1:=yF E0 u.1
 have h2:=j.low E1 hn
 have h3:=yo (show(1:Int)<=E9 by decide) (show a.length<=n by omega)
 omega
theorem qlR {a b:List Int} (ha:Dg E9 a) (hl:a.length=b.length) (hb:Dg E9 b) {k:Nat} (u:k<a.length) (he:a.drop (k+1)=b.drop (k+1)) (h:a[k]<b[k]'(by omega)):dv E9 a<dv E9 b:=by
 have j:=yT E9 a (k+1) (by omega)
 have e2:=yT E9 b (k+1) (by omega)
 rw[qw E9 a k u]at j
 rw[qw E9 b k (by omega)]at e2
 have l1:=yF E0 (ha.take k)
 have l2:=qC E0 (hb.take k)
 rw[Ym,Nat.min_eq_left (by omega)]at l1
 have l3:E9^k*(a[k]+1)<=E9^k*b[k]:=Yc (by omega) (Int.le_of_lt (pow_pos E0 k))
 rw[Int.mul_add,Int.mul_one]at l3
 rw[he]at j
 omega
theorem qlg {a b:List Int} (ha:Dg E9 a) (hb:Dg E9 b) (hl:a.length=b.length) (a0:a.length<=100000): ∀(K k:Nat),k<=a.length->k<K->a.drop k=b.drop k->
 qW a b K ((k:Int)-1)=some (if dv E9 a<dv E9 b then .inr (-1)else if dv E9 a=dv E9 b then .inl ()else .inr 1)
 |0,k,h,hK,_=>by omega
 |K+1,0,h,hK,he=>by
  rw[YR,YR]at he
  rw[qW,if_neg (by omega),he,if_neg (by omega),if_pos rfl]
 |K+1,k+1,h,hK,he=>by
  have j:k<a.length:=by omega
  have u:k<b.length:=by omega
  have ek:((k+1:Nat):Int)-1=(k:Int):=by omega
  rw[ek,qW,if_pos (by omega),qz,Ya j,ZB,qz,Ya u,ZB]
  by_cases d:a[k]<b[k]
  ·rw[if_pos d,if_pos (qlR ha hl hb j he d)]
  rw[if_neg d]
  by_cases c:a[k]>b[k]
  ·have:=qlR hb hl.symm ha u he.symm c
   rw[if_pos c,if_neg (by omega),if_neg (by omega)]
  rw[if_neg c,qj (by omega) (by omega)]
  refine qlg ha hb hl a0 K k (by omega) (by omega) ?_
  rw[YG j,YG u,show a[k]=b[k]by omega,he]
theorem qcX {N:Nat} {a b:List Int} (u:Can E9 a) (j:Can E9 b) (a0:a.length<=10000) (hN:a.length+1<N):jl N a b=some (if dv E9 a<dv E9 b then-1 else if dv E9 a=dv E9 b then 0 else 1):=by
 unfold jl
 by_cases h:a.length=b.length
 ·have e:=qlg u.1 j.1 h (by omega) N a.length (Nat.le_refl _) (by omega) (by rw[List.drop_of_length_le (Nat.le_refl _),List.drop_of_length_le (by omega)])
  rw[if_neg (by simp[h]),qj (by omega) (by omega),e,ZB]
  by_cases c:dv E9 a<dv E9 b
  ·rw[if_pos c,if_pos c]
  rw[if_neg c,if_neg c]
  by_cases d:dv E9 a=dv E9 b
  ·rw[if_pos d,if_pos d]
  rw[if_neg d,if_neg d]
 rw[if_pos (by simp;omega)]
 by_cases c:a.length<b.length
 ·rw[if_pos (by omega),if_pos (qcv u j c)]
 have:=qcv j u (by omega)
 rw[if_neg (by omega),if_neg (by omega),if_neg (by omega)]
theorem qg3 {l:List Int} {k:Nat}:dv E9 (l.take (k+1))=dv E9 (l.take k)+E9^k*((l[k]?).getD 0):=by
 by_cases h:k<l.length
 ·rw[qw E9 l k h,Ya h]
  rfl
 rw[List.take_of_length_le (by omega),List.take_of_length_le (by omega),Yg (by omega)]
 simp
theorem qi1 {l:List Int} (h:Dg E9 l) (k:Nat):0<=(l[k]?).getD 0/\(l[k]?).getD 0<1000000000:=by
 by_cases hk:k<l.length
 ·rw[Ya hk]
  exact h.at hk
 rw[Yg (by omega)]
 exact⟨Int.le_refl _,by decide⟩
theorem digit_eq (l:List Int) (k:Nat):qae l (k:Int)=some ((l[k]?).getD 0):=by
 unfold qae
 by_cases h:k<l.length
 ·rw[if_pos (by omega),qz,Ya h]
  rfl
 rw[if_neg (by omega),Yg (by omega)]
 rfl
theorem qeo (l:List Int) (x:Int):dv E9 (l++[x])=dv E9 l+E9^l.length*x:=by rw[yN,zg,kC,Int.mul_zero,Int.add_zero]
theorem qlz {a b:List Int} (ha:Dg E9 a) (hb:Dg E9 b) (u:a.length<=10000) (a1:b.length<=10000): ∀(K k:Nat) (l:List Int) (c:Int),10002<K+k->k<=10001->l.length=k->Dg E9 l->0<=c->c<=1->(c=1->k<=a.length\/k<=b.length)->dv E9 l+E9^k*c=dv E9 (a.take k)+dv E9 (b.take k)->
 ∃l',zq a b K l c (k:Int)=some l'/\Dg E9 l'/\l'.length<=10002/\dv E9 l'=dv E9 a+dv E9 b
 |0,k,l,c,hK,hk,_,_,_,_,_,_=>by omega
 |K+1,k,l,c,hK,hk,hl,hd,c0,c1,hc,e=>by
  rw[zq]
  have j:(if(k:Int)<(a.length:Int)then some true else if(k:Int)<(b.length:Int)then some true else some (decide (c>0)):Option Bool)=some (decide (k<a.length\/k<b.length\/0<c)):=by
   by_cases h1:k<a.length
   ·rw[if_pos (by omega),decide_eq_true (.inl h1)]
   rw[if_neg (by omega)]
   by_cases h2:k<b.length
   ·rw[if_pos (by omega),decide_eq_true (.inr (.inl h2))]
   rw[if_neg (by omega)]
   congr 1
   exact decide_eq_decide.2 (by omega)
  rw[j,ZB]
  by_cases h:k<a.length\/k<b.length\/0<c
  ·have xa:=qi1 ha k
   have xb:=qi1 hb k
   rw[decide_eq_true h,if_pos rfl,digit_eq,ZB,digit_eq,ZB]
   generalize hx:(a[k]?).getD 0=x at*
   generalize hy:(b[k]?).getD 0=y at*
   rw[qj (n:=x+y) (by omega) (by omega),qj (n:=x+y+c) (by omega) (by omega),Int.tmod_eq_emod_of_nonneg (by omega),YF (by omega),qcz (by simp;omega) (by simp;omega),ZB,qj (by omega) (by omega),zV (by omega)]
   have hs:=Int.mul_ediv_add_emod (x+y+c) 1000000000
   have m0:=Int.emod_nonneg (x+y+c) (show(1000000000:Int)≠0 by decide)
   have m1:=Int.emod_lt_of_pos (x+y+c) (show(0:Int)<1000000000 by decide)
   have hk2:k<=10000:=by
    rcases h with h|h|h
    ·omega
    ·omega
    rcases hc (by omega)with h|h<;>omega
   refine qlz ha hb u a1 K (k+1) _ _ (by omega) (by omega) (by simp[hl]) (hd.append (Dg.cons ⟨m0,m1⟩ Dg.nil)) (by omega) (by omega) (fun hq=>?_) ?_
   ·rcases Nat.lt_or_ge k a.length with g|g
    ·exact .inl g
    rcases Nat.lt_or_ge k b.length with g2|g2
    ·exact .inr g2
    rw[Yg g]at hx
    rw[Yg g2]at hy
    simp only[Option.getD_none]at hx hy
    omega
   rw[qeo,hl,qg3,qg3,hx,hy,Int.pow_succ,Int.mul_assoc]
   have e2:E9^k*(x+y+c)=E9^k*(E9*((x+y+c)/1000000000))+E9^k*((x+y+c)%1000000000):=by rw[<-Int.mul_add];exact congrArg (E9^k* ·) hs.symm
   rw[Int.mul_add,Int.mul_add]at e2
   omega
  have a0:c=0:=by omega
  rw[decide_eq_false h,if_neg (by simp)]
  rw[List.take_of_length_le (by omega),List.take_of_length_le (by omega),a0,Int.mul_zero,Int.add_zero]at e
  exact⟨l,rfl,hd,by omega,e⟩
theorem qeZ {N:Nat} {a b:List Int} (ha:Dg E9 a) (hb:Dg E9 b) (h:a.length<=10000) (j:b.length<=10000) (hN:11000<N): ∃l,yf N a b=some l/\Dg E9 l/\l.length<=10002/\dv E9 l=dv E9 a+dv E9 b:=by
 unfold yf
 obtain⟨l,e,h1,h2,u⟩:=qlz ha hb h j N 0 [] 0 (by omega) (by omega) rfl Dg.nil (by omega) (by omega) (by omega) (by simp[dv])
 have e:zq a b N [] 0 0=some l:=e
 rw[e,ZB]
 exact⟨l,rfl,h1,h2,u⟩
theorem qlA {a b:List Int} (ha:Dg E9 a) (hb:Dg E9 b) (a0:a.length<=10000) (u:b.length<=a.length): ∀(K k:Nat) (l:List Int) (c:Int),k<=a.length->a.length<K+k->l.length=k->Dg E9 l->0<=c->c<=1->dv E9 l+dv E9 (b.take k)=dv E9 (a.take k)+E9^k*c->
 ∃l' c',kw a b K l c (k:Int)=some l'/\Dg E9 l'/\l'.length=a.length/\0<=c'/\c'<=1/\dv E9 l'+dv E9 b=dv E9 a+E9^a.length*c'
 |0,k,l,c,h,hK,_,_,_,_,_=>by omega
 |K+1,k,l,c,h,hK,hl,hd,c0,c1,e=>by
  rw[kw]
  by_cases hk:k<a.length
  ·have xa:=ha.at hk
   have xb:=qi1 hb k
   have xa2:a[k]<1000000000:=xa.2
   rw[if_pos (by omega),qz,Ya hk,ZB,digit_eq,ZB]
   generalize hy:(b[k]?).getD 0=y at*
   rw[qj (n:=a[k]-y) (by omega) (by omega),qj (n:=a[k]-y-c) (by omega) (by omega)]
   have j: ∀(s d:Int),(0<=s/\s<1000000000)->(0<=d/\d<=1)->s=a[k]-y-c+1000000000*d-> ∃l' c',kw a b K (l++[s]) d ((k+1:Nat):Int)=some l'/\Dg E9 l'/\l'.length=a.length/\0<=c'/\c'<=1/\dv E9 l'+dv E9 b=dv E9 a+E9^a.length*c':=by
    intro s d hs hd2 es
    refine qlA ha hb a0 u K (k+1) _ _ (by omega) (by omega) (by simp[hl]) (hd.append (Dg.cons hs Dg.nil)) hd2.1 hd2.2 ?_
    rw[qeo,hl,qg3,qw E9 a k hk,hy,Int.pow_succ,Int.mul_assoc,es]
    have e2:E9^k*(a[k]-y-c+1000000000*d)=E9^k*a[k]-E9^k*y-E9^k*c+E9^k*(E9*d):=by rw[Int.mul_add,Int.mul_sub,Int.mul_sub]
    omega
   by_cases c2:a[k]-y-c<0
   ·rw[if_pos c2,qj (by omega) (by omega),ZB]
    simp only
    rw[qcz (by simp;omega) (by simp;omega),ZB,zV (by omega)]
    exact j _ 1 (by omega) (by omega) (by omega)
   rw[if_neg c2,ZB]
   simp only
   rw[qcz (by simp;omega) (by simp;omega),ZB,zV (by omega)]
   exact j _ 0 (by omega) (by omega) (by omega)
  rw[if_neg (by omega)]
  have ek:k=a.length:=by omega
  subst ek
  rw[List.take_of_length_le (Nat.le_refl _),List.take_of_length_le u]at e
  exact⟨l,c,rfl,hd,hl,c0,c1,e⟩
theorem qfx {N:Nat} {a b:List Int} (ha:Can E9 a) (hb:Can E9 b) (j:a.length<=10000) (hN:a.length+2<N) (h:dv E9 b<=dv E9 a):yj N a b=some (dg E9 (dv E9 a-dv E9 b)):=by
 have u:b.length<=a.length:=by
  rcases Nat.lt_or_ge a.length b.length with c|c
  ·have:=qcv ha hb c;omega
  exact c
 unfold yj
 obtain⟨l,c,e,h1,h2,h4,h5,h6⟩:=qlA ha.1 hb.1 j u N 0 [] 0 (by omega) (by omega) rfl Dg.nil (by omega) (by omega) (by simp[dv])
 have e:kw a b N [] 0 0=some l:=e
 have l1:=yF E0 h1
 rw[h2]at l1
 have hp:=pow_pos E0 a.length
 have hc:c=0:=by
  rcases(show c=0\/c=1 by omega)with c|c
  ·exact c
  subst c;omega
 rw[e,ZB,qb1 h1 (by omega) (by omega),ZB]
 subst hc
 rw[show dv E9 l=dv E9 a-dv E9 b by omega]
theorem qoY {l:List Int} {k:Nat} {v:Int} (j:k<l.length) (h: ∀(i:Nat) x,k<=i->l[i]? =some x->x=0):dv E9 (l.set k v)=dv E9 l+E9^k*v:=by
 rw[qaF E9 l k v j,h k l[k] (Nat.le_refl _) (Ya j),Int.sub_zero]
theorem qgI {n:Nat}: ∀(m:Nat) z,(List.replicate n (0:Int))[m]? =some z->z=0:=fun m z hz=>by
 rw[List.getElem?_replicate]at hz
 split at hz
 ·exact(Ye hz).symm
 cases hz
theorem ql4 {a b:List Int} (ha:Dg E9 a) (hb:Dg E9 b) (hbl:b.length<=10000) {i:Nat} (hi:i<a.length) (hal:a.length<=10000): ∀(K j:Nat) (l:List Int) (c:Int),j<=b.length->b.length<K+j->i+b.length<=l.length->Dg E9 l->0<=c->c<1000000000->
 ∃l' c',zw a b (i:Int) K l c (j:Int)=some (l',c')/\l'.length=l.length/\Dg E9 l'/\(∀m,i+b.length<=m->l'[m]? =l[m]?)/\0<=c'/\c'<1000000000/\dv E9 l'+E9^(i+b.length)*c'+E9^i*(a[i]*dv E9 (b.take j))=dv E9 l+E9^(i+j)*c+E9^i*(a[i]*dv E9 b)
 |0,j,l,c,h,hK,_,_,_,_=>by omega
 |K+1,j,l,c,h,hK,hl,hd,c0,c1=>by
  rw[zw]
  by_cases hj:j<b.length
  ·have xa:=ha.at hi
   have xb:=hb.at hj
   have u:i+j<l.length:=by omega
   have xl:=hd.at u
   have a2:a[i]<1000000000:=xa.2
   have b2:b[j]<1000000000:=xb.2
   have l2:l[i+j]<1000000000:=xl.2
   rw[if_pos (by omega),show(i:Int)+(j:Int)=((i+j:Nat):Int)by omega,qj (n:=((i+j:Nat):Int)) (by omega) (by omega),qz,Ya u,ZB,qz,Ya hi,ZB,qz,Ya hj,ZB]
   have hp0:0<=a[i]*b[j]:=Yv xa.1 xb.1
   have hp1:a[i]*b[j]<=999999999*999999999:=Int.mul_le_mul (by omega) (by omega) xb.1 (by omega)
   generalize hp:a[i]*b[j]=p at*
   rw[qj (n:=p) (by omega) (by omega),qj (n:=l[i+j]+p) (by omega) (by omega),qj (n:=l[i+j]+p+c) (by omega) (by omega),Int.tmod_eq_emod_of_nonneg (by omega),YF (by omega),yn u,ZB,zV (by omega),qj (by omega) (by omega)]
   have hs:=Int.mul_ediv_add_emod (l[i+j]+p+c) 1000000000
   have m0:=Int.emod_nonneg (l[i+j]+p+c) (show(1000000000:Int)≠0 by decide)
   have m1:=Int.emod_lt_of_pos (l[i+j]+p+c) (show(0:Int)<1000000000 by decide)
   obtain⟨l',c',e1,e2,e3,e4,e5,e6,e7⟩:=ql4 ha hb hbl hi hal K (j+1) (l.set (i+j) ((l[i+j]+p+c)%1000000000)) ((l[i+j]+p+c)/1000000000) (by omega) (by omega) (by rw[Yk];exact hl) (hd.set ⟨m0,m1⟩) (by omega) (by omega)
   refine⟨l',c',e1,by rw[e2,Yk],e3,fun m hm=>by rw[e4 m hm,Yw (by omega)],e5,e6,?_⟩
   rw[qaF E9 l (i+j) _ u,qw E9 b j hj,<-Nat.add_assoc,Int.pow_succ]at e7
   rw[Int.mul_add a[i],<-Int.mul_assoc a[i],Int.mul_comm a[i] (E9^j),Int.mul_assoc (E9^j),hp,Int.mul_add (E9^i),<-Int.mul_assoc (E9^i) (E9^j),<-Int.pow_add]at e7
   have e8:E9^(i+j)*(l[i+j]+p+c)=E9^(i+j)*(E9*((l[i+j]+p+c)/1000000000))+E9^(i+j)*((l[i+j]+p+c)%1000000000):=by rw[<-Int.mul_add];exact congrArg (E9^(i+j)* ·) hs.symm
   rw[Int.mul_assoc (E9^(i+j))]at e7
   rw[Int.mul_add,Int.mul_add]at e8
   rw[Int.mul_sub]at e7
   omega
  rw[if_neg (by omega)]
  have ej:j=b.length:=by omega
  subst ej
  rw[List.take_of_length_le (Nat.le_refl _)]
  exact⟨l,c,rfl,rfl,hd,fun _ _=>rfl,c0,c1,rfl⟩
theorem qlq {N:Nat} {a b:List Int} (ha:Dg E9 a) (hb:Dg E9 b) (a0:a.length<=10000) (a1:b.length<=10000) (hN:b.length<N): ∀(K i:Nat) (l:List Int),i<=a.length->a.length<K+i->l.length=a.length+b.length->Dg E9 l->(∀(m:Nat) z,i+b.length<=m->l[m]? =some z->z=0)->dv E9 l=dv E9 (a.take i)*dv E9 b->
 ∃l',zo N a b K l (i:Int)=some l'/\l'.length=a.length+b.length/\Dg E9 l'/\dv E9 l'=dv E9 a*dv E9 b
 |0,i,l,h,hK,_,_,_,_=>by omega
 |K+1,i,l,h,hK,hl,hd,hz,e=>by
  rw[zo]
  by_cases hi:i<a.length
  ·obtain⟨l1,c,e1,e2,e3,e4,e5,e6,e7⟩:=ql4 ha hb a1 hi a0 N 0 l 0 (by omega) (by omega) (by omega) hd (by omega) (by decide)
   have e1:zw a b (i:Int) N l 0 0=some (l1,c):=e1
   have j:i+b.length<l1.length:=by omega
   have u: ∀(m:Nat) z,i+b.length<=m->l1[m]? =some z->z=0:=fun m z hm hx=>hz m z hm (by rw[<-e4 m hm];exact hx)
   have h0:l1[i+b.length]=0:=u _ _ (Nat.le_refl _) (Ya j)
   rw[if_pos (by omega),e1,ZB]
   simp only
   rw[show(i:Int)+(b.length:Int)=((i+b.length:Nat):Int)by omega,qj (by omega) (by omega),qz,Ya j,ZB,yn j,ZB,h0,Int.zero_add,qj (n:=c) (by omega) (by omega),zV (by omega)]
   refine qlq ha hb a0 a1 hN K (i+1) _ (by omega) (by omega) (by rw[Yk,e2,hl]) (e3.set ⟨e5,e6⟩) (fun m z hm hx=>qfE u m z (by omega) hx) ?_
   rw[qoY j u,qw E9 a i hi,Int.add_mul,<-e,Int.mul_assoc]
   rw[List.take_zero,kC,Int.mul_zero,Int.mul_zero]at e7
   omega
  rw[if_neg (by omega)]
  have ei:i=a.length:=by omega
  subst ei
  rw[List.take_of_length_le (Nat.le_refl _)]at e
  exact⟨l,rfl,hl,hd,e⟩
theorem qdf {N:Nat} {a b:List Int} (ha:Dg E9 a) (hb:Dg E9 b) (j:a.length<=10000) (u:b.length<=10000) (hN:a.length+b.length<N):vz N a b=some (dg E9 (dv E9 a*dv E9 b)):=by
 unfold vz
 rw[show(a.length:Int)+(b.length:Int)=((a.length+b.length:Nat):Int)by omega,qj (by omega) (by omega),qaT (by omega),ZB]
 obtain⟨l,e,h1,h2,h3⟩:=qlq ha hb j u (N:=N) (by omega) N 0 (List.replicate (a.length+b.length) 0) (by omega) (by omega) (by simp) (Uj E0 _) (fun m z _ h=>qgI m z h) (by rw[xz];simp[dv])
 have e:zo N a b N (List.replicate (a.length+b.length) 0) 0=some l:=e
 rw[e,ZB,qb1 h2 (by omega) (by omega),ZB,h3]
theorem qg5 (l:List Int) {i:Nat} (h:i<l.length):dv E9 (l.drop i)=l[i]+E9*dv E9 (l.drop (i+1)):=by
 rw[YG h,zg]
theorem qjZ {l:List Int} {k:Nat} {v:Int} (j:k<l.length) (h: ∀(i:Nat) x,i<=k->l[i]? =some x->x=0):dv E9 (l.set k v)=dv E9 l+E9^k*v:=by
 rw[qaF E9 l k v j,h k l[k] (Nat.le_refl _) (Ya j),Int.sub_zero]
theorem qls {a:List Int} (ha:Dg E9 a) (u:a.length<=20000) {d:Int} (d0:0<d) (d1:d<1000000000): ∀(K i:Nat) (l:List Int) (r:Int),i<=a.length->i<K->l.length=a.length->Dg E9 l->(∀(m:Nat) x,m<i->l[m]? =some x->x=0)->dv E9 l=E9^i*(dv E9 (a.drop i)/d)->r=dv E9 (a.drop i)%d->
 ∃l',zI a d K l r ((i:Int)-1)=some (l',dv E9 a%d)/\l'.length=a.length/\Dg E9 l'/\dv E9 l'=dv E9 a/d
 |0,i,l,r,h,hK,_,_,_,_,_=>by omega
 |K+1,0,l,r,h,hK,hl,hd,hz,e,er=>by
  rw[YR]at e er
  rw[zI,if_neg (by omega),er]
  exact⟨l,rfl,hl,hd,by rw[e];simp⟩
 |K+1,i+1,l,r,h,hK,hl,hd,hz,e,er=>by
  have hi:i<a.length:=by omega
  have j:i<l.length:=by omega
  have ax:=ha.at hi
  have ax2:a[i]<1000000000:=ax.2
  have r0:0<=r:=by rw[er];exact Int.emod_nonneg _ (by omega)
  have r1:r<d:=by rw[er];exact Int.emod_lt_of_pos _ d0
  have ei:((i+1:Nat):Int)-1=(i:Int):=by omega
  have hr1:r*1000000000<=999999998*1000000000:=Int.mul_le_mul_of_nonneg_right (by omega) (by omega)
  have q0:0<=(r*1000000000+a[i])/d:=Int.ediv_nonneg (by omega) (by omega)
  have q1:(r*1000000000+a[i])/d<1000000000:=by
   rw[Yu d0]
   have:(r+1)*1000000000<=d*1000000000:=Int.mul_le_mul_of_nonneg_right (by omega) (by omega)
   rw[Int.mul_comm 1000000000]
   omega
  have hq:qca .i64 (r*1000000000+a[i]) d=some ((r*1000000000+a[i])/d):=by
   unfold qca
   rw[if_neg (by omega),YF (by omega)]
   show some (w64 _)=_
   rw[qj (by omega) (by omega)]
  have hm:qd1 .i64 (r*1000000000+a[i]) d=some ((r*1000000000+a[i])%d):=by
   unfold qd1
   rw[if_neg (by omega),Int.tmod_eq_emod_of_nonneg (by omega)]
  rw[zI,ei,if_pos (by omega),qz,Ya hi,ZB,qj (n:=r*1000000000) (by omega) (by omega),qj (n:=r*1000000000+a[i]) (by omega) (by omega),hq,ZB,qz,Ya j,ZB,yn j,ZB,hm,ZB,qj (by omega) (by omega)]
  have ed:dv E9 (a.drop i)=r*1000000000+a[i]+d*(dv E9 (a.drop (i+1))/d*1000000000):=by
   have h1:=Int.mul_ediv_add_emod (dv E9 (a.drop (i+1))) d
   rw[<-er]at h1
   rw[qg5 a hi,<-Int.mul_assoc]
   have e9:E9*dv E9 (a.drop (i+1))=1000000000*dv E9 (a.drop (i+1)):=rfl
   rw[e9]
   generalize d*(dv E9 (a.drop (i+1))/d)=m at*
   omega
  refine qls ha u d0 d1 K i _ _ (by omega) (by omega) (by rw[Yk];exact hl) (hd.set ⟨q0,q1⟩) (fun m x hm hx=>?_) ?_ ?_
  ·rw[Yw (by omega)]at hx
   exact hz m x (by omega) hx
  ·rw[qjZ j (fun m x hm hx=>hz m x (by omega) hx),e,ed,Int.add_mul_ediv_left _ _ (by omega),Int.pow_succ,Int.mul_assoc,<-Int.mul_add]
   congr 1
   have e9:E9*(dv E9 (a.drop (i+1))/d)=1000000000*(dv E9 (a.drop (i+1))/d):=rfl
   rw[e9]
   omega
  rw[ed,Int.add_mul_emod_self_left]
theorem qf1 {N:Nat} {a:List Int} (u:Dg E9 a) (h:a.length<=20000) (hN:a.length<N) {d:Int} (d0:0<d) (d1:d<1000000000):yO N a d=some (dg E9 (dv E9 a/d),dv E9 a%d):=by
 unfold yO
 rw[qaT (by omega),ZB,qj (by omega) (by omega)]
 obtain⟨l,e,h1,h2,j⟩:=qls u h d0 d1 N a.length (List.replicate a.length 0) 0 (Nat.le_refl _) (by omega) (by simp) (Uj E0 _) (fun m x _ hx=>qgI m x hx) (by rw[xz,List.drop_of_length_le (Nat.le_refl _),kC];simp) (by rw[List.drop_of_length_le (Nat.le_refl _),kC];simp)
 rw[e,ZB]
 simp only
 rw[qb1 h2 (by omega) (by omega),ZB,j]
end Go.Av
end
section
namespace Go.Av
theorem e9m (x:Int):E9*x=1000000000*x:=rfl
theorem qbw {p u t:List Int} {i:Nat} (hi:i<u.length):idx (p++(u++t)) ((i+p.length:Nat):Int)=some u[i]:=by
 rw[qz,Yo (by omega),Nat.add_sub_cancel,Yf hi,Ya hi]
theorem qd4 {p u t:List Int} {i:Nat} (hi:i<u.length) (x:Int):put (p++(u++t)) ((i+p.length:Nat):Int) x=some (p++(u.set i x++t)):=by
 rw[yn (by simp;omega)]
 congr 1
 rw[List.set_append_right _ _ (by omega),Nat.add_sub_cancel,List.set_append_left _ _ hi]
theorem qhO {i j:Nat} (hi:i<=100000) (h:j<=100000):w64 ((i:Int)+(j:Int))=((i+j:Nat):Int):=by rw[qj (by omega) (by omega)];omega
theorem qii {p u t v:List Int} {k:Nat} (hv:Dg E9 v) (hvl:v.length=k+2) (hk:k<=10000) (hu:Dg E9 u) (hul:u.length=k+3) (hpl:p.length<=50000) {T j v2 u2 Q:Int} (e1:v[k+1]'(by omega)=j) (e2:v[k]'(by omega)=v2) (e3:u[k]'(by omega)=u2) (hT:T<=j*1000000000+999999999) (hQ:Q*(j*1000000000+v2)<=T*1000000000+u2) (hQ0:0<=Q) (hQ1:Q<1000000000) (hn:1<=j): ∀(K:Nat) (q r:Int),Q<=q->q<=4000000000->0<=r->r<1000000000->r=T-q*j->1000000000<=r+K*j->
 ∃q',(vg (p++(u++t)) v (p.length:Int) K r q=some (.inl q')\/vg (p++(u++t)) v (p.length:Int) K r q=some (.inr q'))/\Q<=q'/\q'<1000000000/\q'*(j*1000000000+v2)<=T*1000000000+u2
 |0,q,r,h1,h2,h3,h4,h6,h7=>by simp at h7;omega
 |K+1,q,r,h1,h2,h3,h4,h6,h7=>by
  have a1:=hv.at (show k+1<v.length by omega)
  have a2:=hv.at (show k<v.length by omega)
  have a3:=hu.at (show k<u.length by omega)
  rw[e1]at a1
  rw[e2]at a2
  rw[e3]at a3
  have b1:j<1000000000:=a1.2
  have b2:v2<1000000000:=a2.2
  have b3:u2<1000000000:=a3.2
  have hq0:0<=q:=by omega
  have hp0:0<=q*v2:=Yv hq0 a2.1
  have ed: ∀q:Int,q*(j*1000000000+v2)=q*j*1000000000+q*v2:=fun q=>by rw[Int.mul_add,Int.mul_assoc]
  have ek:w64 ((v.length:Int)-2)=(k:Int):=by rw[qj (by omega) (by omega)];omega
  have ek1:w64 ((v.length:Int)-1)=((k+1:Nat):Int):=by rw[qj (by omega) (by omega)];omega
  have eku:w64 (w64 ((p.length:Int)+(v.length:Int))-2)=((k+p.length:Nat):Int):=by
   rw[qhO (by omega) (by omega),qj (by omega) (by omega)]
   omega
  have cond:(if q>=1000000000 then some true else(idx v (w64 ((v.length:Int)-2))).bind fun x12=>(idx (p++(u++t)) (w64 ((w64 ((p.length:Int)+(v.length:Int)))-2))).bind fun x13=>some (decide ((w64 (q*x12))>(w64 ((w64 (r*1000000000))+x13)))):Option Bool)=some (decide (q>=1000000000\/q*v2>r*1000000000+u2)):=by
   by_cases c:q>=1000000000
   ·rw[if_pos c,decide_eq_true (.inl c)]
   have hp1:q*v2<=999999999*999999999:=Int.mul_le_mul (by omega) (by omega) a2.1 (by omega)
   rw[if_neg c,ek,qz,Ya (show k<v.length by omega),e2,ZB,eku,qbw (show k<u.length by omega),e3,ZB,qj (n:=q*v2) (by omega) (by omega),qj (n:=r*1000000000) (by omega) (by omega),qj (by omega) (by omega)]
   congr 1
   exact decide_eq_decide.2 (by omega)
  rw[vg,cond,ZB]
  by_cases c:q>=1000000000\/q*v2>r*1000000000+u2
  ·have hm1:(q-1)*j=q*j-j:=by rw[Int.sub_mul,Int.one_mul]
   have hlt:Q<=q-1:=by
    rcases Int.lt_or_le Q q with h|h
    ·omega
    exfalso
    have e:q=Q:=by omega
    subst e
    rw[ed]at hQ
    rcases c with c|c<;>omega
   rw[decide_eq_true c,if_pos rfl,ek1,qz,Ya (show k+1<v.length by omega),e1,ZB,qj (n:=r+j) (by omega) (by omega),qj (n:=q-1) (by omega) (by omega)]
   by_cases d:r+j>=1000000000
   ·rw[if_pos d]
    have hq1:q-1<1000000000:=by
     rcases Int.lt_or_le (q-1) 1000000000 with h|h
     ·exact h
     have:j*1000000000<=(q-1)*j:=by rw[Int.mul_comm];exact Int.mul_le_mul_of_nonneg_right h (by omega)
     omega
    have hp1:(q-1)*v2<=999999999*999999999:=Int.mul_le_mul (by omega) (by omega) a2.1 (by omega)
    refine⟨q-1,.inr rfl,hlt,hq1,?_⟩
    rw[ed]
    omega
   rw[if_neg d]
   have eK:((K+1:Nat):Int)*j=K*j+j:=by rw[Int.natCast_add,Int.add_mul];simp
   exact qii hv hvl hk hu hul hpl e1 e2 e3 hT hQ hQ0 hQ1 hn K (q-1) _ hlt (by omega) (by omega) (by omega) (by rw[hm1];omega) (by omega)
  rw[decide_eq_false c,if_neg (by simp)]
  refine⟨q,.inl rfl,h1,by omega,?_⟩
  rw[ed]
  omega
theorem qjG {v:List Int} (hv:Dg E9 v) (hvl:v.length<=10002) {q:Int} (hq:0<=q/\q<1000000000) {p t:List Int} (hpl:p.length<=50000): ∀(K i:Nat) (u:List Int) (b:Int),i<=v.length->v.length<K+i->u.length=v.length+1->Dg E9 u->0<=b->b<=1000000000->
 ∃j b',qQ v (p.length:Int) q K (p++(u++t)) b (i:Int)=some (p++(j++t),b')/\j.length=v.length+1/\Dg E9 j/\j[v.length]? =u[v.length]? /\0<=b'/\b'<=1000000000/\dv E9 j+q*dv E9 v=dv E9 u+q*dv E9 (v.take i)-E9^i*b+E9^v.length*b'
 |0,i,u,b,h,hK,_,_,_,_=>by omega
 |K+1,i,u,b,h,hK,hul,hu,b0,b1=>by
  rw[qQ]
  by_cases hi:i<v.length
  ·have av:=hv.at hi
   have hiu:i<u.length:=by omega
   have au:=hu.at hiu
   have av2:v[i]<1000000000:=av.2
   have au2:u[i]<1000000000:=au.2
   have hp0:0<=q*v[i]:=Yv hq.1 av.1
   have hp1:q*v[i]<=999999999*999999999:=Int.mul_le_mul (by omega) (by omega) av.1 (by omega)
   rw[if_pos (by omega),qz,Ya hi,ZB,qhO (by omega) (by omega),qbw hiu,ZB]
   generalize hp:q*v[i]=x at*
   rw[qj (n:=x) (by omega) (by omega),qj (n:=x+b) (by omega) (by omega),Int.tmod_eq_emod_of_nonneg (by omega),YF (by omega),qj (n:=u[i]-(x+b)%1000000000) (by omega) (by omega)]
   have hxc:=Int.mul_ediv_add_emod (x+b) 1000000000
   have step: ∀(un b2 d:Int),(0<=un/\un<1000000000)->(0<=d/\d<=1)->b2=(x+b)/1000000000+d->un=u[i]-(x+b)%1000000000+1000000000*d->
    ∃j b',qQ v (p.length:Int) q K (p++(u.set i un++t)) b2 ((i+1:Nat):Int)=some (p++(j++t),b')/\j.length=v.length+1/\Dg E9 j/\j[v.length]? =u[v.length]? /\0<=b'/\b'<=1000000000/\dv E9 j+q*dv E9 v=dv E9 u+q*dv E9 (v.take i)-E9^i*b+E9^v.length*b':=by
    intro un b2 d hun hd eb eun
    obtain⟨j,b',f1,f2,f3,f4,f5,f6,f9⟩:=qjG hv hvl hq hpl K (i+1) (u.set i un) b2 (by omega) (by omega) (by rw[Yk];exact hul) (hu.set hun) (by omega) (by omega)
    refine⟨j,b',f1,f2,f3,by rw[f4,Yw (by omega)],f5,f6,?_⟩
    rw[f9,qaF E9 u i un hiu,qw E9 v i hi,Int.mul_add q,<-Int.mul_assoc q,Int.mul_comm q (E9^i),Int.mul_assoc (E9^i) q,hp,Int.pow_succ,Int.mul_assoc (E9^i) E9]
    have e5:E9^i*(un-u[i])+E9^i*x-E9^i*(E9*b2)= -(E9^i*b):=by
     rw[<-Int.mul_add,<-Int.mul_sub,<-Int.mul_neg]
     congr 1
     rw[e9m]
     omega
    omega
   by_cases c:u[i]-(x+b)%1000000000<0
   ·rw[if_pos c,qj (n:=(x+b)/1000000000) (by omega) (by omega),qj (n:=(x+b)/1000000000+1) (by omega) (by omega),qj (n:=u[i]-(x+b)%1000000000+1000000000) (by omega) (by omega),ZB]
    simp only
    rw[qd4 hiu,ZB,zV (by omega)]
    exact step _ _ 1 (by omega) (by omega) rfl (by omega)
   rw[if_neg c,qj (n:=(x+b)/1000000000) (by omega) (by omega),ZB]
   simp only
   rw[qd4 hiu,ZB,zV (by omega)]
   exact step _ _ 0 (by omega) (by omega) (by omega) (by omega)
  rw[if_neg (by omega)]
  have ei:i=v.length:=by omega
  subst ei
  rw[List.take_of_length_le (Nat.le_refl _)]
  exact⟨u,b,rfl,hul,hu,rfl,b0,b1,by omega⟩
theorem qjv {v:List Int} (hv:Dg E9 v) (hvl:v.length<=10002) {q:Int} (hq:0<q/\q<1000000000) {p t:List Int} (hpl:p.length<=50000): ∀(K i:Nat) (u:List Int) (y c:Int),i<=v.length->v.length<K+i->u.length=v.length->Dg E9 u->0<=c->c<=1->
 ∃u' c',ku v (p.length:Int) q K (p++(u++[y]++t)) c (i:Int)=some (p++(u'++[y]++t),q-1,c')/\u'.length=v.length/\Dg E9 u'/\0<=c'/\c'<=1/\dv E9 u'+E9^v.length*c'=dv E9 u+dv E9 v-dv E9 (v.take i)+E9^i*c
 |0,i,u,y,c,h,hK,_,_,_,_=>by omega
 |K+1,i,u,y,c,h,hK,hul,hu,c0,c1=>by
  rw[ku]
  by_cases hi:i<v.length
  ·have av:=hv.at hi
   have j:i<u.length:=by omega
   have a0:i<(u++[y]).length:=by simp;omega
   have au:=hu.at j
   have av2:v[i]<1000000000:=av.2
   have au2:u[i]<1000000000:=au.2
   have eg:(u++[y])[i]=u[i]:=List.getElem_append_left j
   rw[if_pos (by omega),qhO (by omega) (by omega),qbw a0,eg,ZB,qz,Ya hi,ZB,qj (n:=u[i]+v[i]) (by omega) (by omega),qj (n:=u[i]+v[i]+c) (by omega) (by omega),Int.tmod_eq_emod_of_nonneg (by omega),YF (by omega),qd4 a0,ZB,List.set_append_left _ _ j,qj (n:=(u[i]+v[i]+c)/1000000000) (by omega) (by omega),zV (by omega)]
   have hs:=Int.mul_ediv_add_emod (u[i]+v[i]+c) 1000000000
   have m0:=Int.emod_nonneg (u[i]+v[i]+c) (show(1000000000:Int)≠0 by decide)
   have m1:=Int.emod_lt_of_pos (u[i]+v[i]+c) (show(0:Int)<1000000000 by decide)
   have k0:0<=(u[i]+v[i]+c)/1000000000/\(u[i]+v[i]+c)/1000000000<=1:=by omega
   generalize (u[i]+v[i]+c)/1000000000=c2 at*
   generalize (u[i]+v[i]+c)%1000000000=un at*
   obtain⟨u',c',f1,f2,f3,f5,f6,f7⟩:=qjv hv hvl hq hpl K (i+1) (u.set i un) y c2 (by omega) (by omega) (by rw[Yk];exact hul) (hu.set ⟨m0,m1⟩) k0.1 k0.2
   refine⟨u',c',f1,f2,f3,f5,f6,?_⟩
   rw[f7,qaF E9 u i un j,qw E9 v i hi,Int.pow_succ,Int.mul_assoc (E9^i) E9]
   have e5:E9^i*(un-u[i])-E9^i*v[i]+E9^i*(E9*c2)=E9^i*c:=by
    rw[<-Int.mul_sub,<-Int.mul_add]
    congr 1
    rw[e9m]
    omega
   omega
  rw[if_neg (by omega),qj (by omega) (by omega)]
  have ei:i=v.length:=by omega
  subst ei
  rw[List.take_of_length_le (Nat.le_refl _)]
  exact⟨u,c,rfl,hul,hu,c0,c1,by omega⟩
theorem qi0 {P u j T3 V2 U V Q q v1 v2:Int} (hP:0<P) (eU:U=u+P*T3) (eV:V=j+P*V2) (hu:0<=u/\u<P) (hv:0<=j/\j<P) (e2:V2=v1*1000000000+v2) (h1:1<=v1) (h2:0<=v2) (hU:0<=U) (eQ:Q=U/V):0<V/\Q*V2<=T3/\(0<=q->q<1000000000->q*V2<=T3->q<=Q+1):=by
 have hPW:P*1000000000<=P*V2:=Yc (by omega) (by omega)
 have hV:0<V:=by omega
 have q0:0<=Q:=by rw[eQ];exact Int.ediv_nonneg hU (by omega)
 have q1:Q*V<=U:=by rw[eQ];exact Int.ediv_mul_le U (by omega)
 have q2:U<(Q+1)*V:=by
  rw[eQ]
  exact Int.lt_ediv_add_one_mul_self U hV
 refine⟨hV,?_,fun a b c=>?_⟩
 ·rcases Int.lt_or_le T3 (Q*V2)with h|h
  ·exfalso
   have a1:P*(T3+1)<=P*(Q*V2):=Yc (by omega) (by omega)
   have a2:P*(Q*V2)<=Q*V:=by
    rw[eV,Int.mul_add]
    have:P*(Q*V2)=Q*(P*V2):=by rw[<-Int.mul_assoc,Int.mul_comm P Q,Int.mul_assoc]
    have:=Yv q0 hv.1
    omega
   rw[Int.mul_add,Int.mul_one]at a1
   omega
  exact h
 have a1:q*V=q*j+P*(q*V2):=by
  rw[eV,Int.mul_add]
  congr 1
  rw[<-Int.mul_assoc,Int.mul_comm q P,Int.mul_assoc]
 have a2:P*(q*V2)<=P*T3:=Yc c (by omega)
 have a3:q*j<=999999999*P:=Int.mul_le_mul (by omega) (by omega) hv.1 (by omega)
 have a4:q*V<(Q+2)*V:=by
  rw[Int.add_mul]
  rw[Int.add_mul]at q2
  omega
 have:=Int.lt_of_mul_lt_mul_right a4 (by omega)
 omega
set_option maxHeartbeats 1000000 in
theorem qmT {N:Nat} (hN:11000<N) {p u t v:List Int} {k:Nat} (hv:Dg E9 v) (hvl:v.length=k+2) (hk:k<=9000) (hu:Dg E9 u) (hul:u.length=k+3) (hpl:p.length<=50000) (hn:1000000<=v[k+1]'(by omega)) (hlt:dv E9 u<1000000000*dv E9 v):
 ∃u',u'.length=k+3/\Dg E9 u'/\dv E9 u'=dv E9 u%dv E9 v/\((xW N (p++(u++t)) v (p.length:Int)).bind fun r25=>
 (qQ v (p.length:Int) r25 N (p++(u++t)) 0 0).bind fun(l29,n30)=>
 (idx l29 (w64 ((p.length:Int)+(v.length:Int)))).bind fun x40=>
 (put l29 (w64 ((p.length:Int)+(v.length:Int))) (w64 (x40-n30))).bind fun l41=>
 (idx l41 (w64 ((p.length:Int)+(v.length:Int)))).bind fun x42=>
 ((if x42<0 then
 (ku v (p.length:Int) r25 N l41 0 0).bind fun(l50,n51,n52)=>
 (idx l50 (w64 ((p.length:Int)+(v.length:Int)))).bind fun x58=>
 (put l50 (w64 ((p.length:Int)+(v.length:Int))) (w64 (x58+n52))).bind fun l59=>
 some (l59,n51)
 else
 some (l41,r25):Option ((List Int)×Int))))=some (p++(u'++t),dv E9 u/dv E9 v):=by
 have a1:=hv.at (show k+1<v.length by omega)
 have a2:=hv.at (show k<v.length by omega)
 have b0:=hu.at (show k+2<u.length by omega)
 have b1:=hu.at (show k+1<u.length by omega)
 have b2:=hu.at (show k<u.length by omega)
 have eV:dv E9 v=dv E9 (v.take k)+E9^k*(v[k+1]*1000000000+v[k]):=by
  have e1:=qw E9 v (k+1) (by omega)
  have e2:=qw E9 v k (by omega)
  have p1:E9^(k+1)=E9^k*E9:=Int.pow_succ _ _
  rw[List.take_of_length_le (by omega),e2,p1]at e1
  rw[e1,show v[k+1]*1000000000+v[k]=v[k]+E9*v[k+1]by rw[e9m];omega,Int.mul_add]
  simp only[Int.mul_assoc]
  omega
 have eU:dv E9 u=dv E9 (u.take k)+E9^k*((u[k+2]*1000000000+u[k+1])*1000000000+u[k]):=by
  have e0:=qw E9 u (k+2) (by omega)
  have e1:=qw E9 u (k+1) (by omega)
  have e2:=qw E9 u k (by omega)
  have p1:E9^(k+1)=E9^k*E9:=Int.pow_succ _ _
  have p2:E9^(k+2)=E9^k*E9*E9:=by rw[<-p1];exact Int.pow_succ _ _
  rw[List.take_of_length_le (by omega),e1,e2,p2,p1]at e0
  have e3:(u[k+2]*1000000000+u[k+1])*1000000000+u[k]=u[k]+E9*u[k+1]+E9*(E9*u[k+2]):=by
   have h1:E9*u[k+1]=1000000000*u[k+1]:=rfl
   have h2:E9*(E9*u[k+2])=1000000000*(1000000000*u[k+2]):=rfl
   omega
  rw[e0,e3,Int.mul_add,Int.mul_add]
  simp only[Int.mul_assoc]
  omega
 have vlo0:=qC E0 (hv.take k)
 have vlo1:=yF E0 (hv.take k)
 have ulo0:=qC E0 (hu.take k)
 have ulo1:=yF E0 (hu.take k)
 rw[Ym,Nat.min_eq_left (by omega)]at vlo1 ulo1
 have U0:=qC E0 hu
 have hP:=pow_pos E0 k
 have DF:=fun q=>qi0 (q:=q) hP eU eV ⟨ulo0,ulo1⟩ ⟨vlo0,vlo1⟩ rfl (by omega) a2.1 U0 rfl
 have V0:=(DF 0).1
 have hQ0:0<=dv E9 u/dv E9 v:=Int.ediv_nonneg U0 (by omega)
 have hQ1:dv E9 u/dv E9 v<1000000000:=by rw[Yu V0];exact hlt
 have hQ2:=(DF 0).2.1
 have hmod:dv E9 u%dv E9 v=dv E9 u-dv E9 u/dv E9 v*dv E9 v:=by rw[Int.emod_def,Int.mul_comm]
 have hm0:=Int.emod_nonneg (dv E9 u) (show dv E9 v≠0 by omega)
 have hm1:=Int.emod_lt_of_pos (dv E9 u) V0
 generalize hQ:dv E9 u/dv E9 v=Q at*
 have c1:v[k+1]<1000000000:=a1.2
 have c2:v[k]<1000000000:=a2.2
 have d0:u[k+2]<1000000000:=b0.2
 have d1:u[k+1]<1000000000:=b1.2
 have d2:u[k]<1000000000:=b2.2
 have hle:u[k+2]<=v[k+1]:=by
  rcases Int.lt_or_le v[k+1] u[k+2]with g|g
  ·exfalso
   have g1:E9^k*((v[k+1]*1000000000+v[k]+1)*1000000000)<=E9^k*((u[k+2]*1000000000+u[k+1])*1000000000+u[k]):=Yc (by omega) (by omega)
   rw[<-Int.mul_assoc,Int.mul_add (E9^k) _ 1]at g1
   omega
  exact g
 have G: ∃q',xW N (p++(u++t)) v (p.length:Int)=some q'/\Q<=q'/\q'<1000000000/\q'*(v[k+1]*1000000000+v[k])<=(u[k+2]*1000000000+u[k+1])*1000000000+u[k]:=by
  have ek:w64 ((v.length:Int)-1)=((k+1:Nat):Int):=by rw[qj (by omega) (by omega)];omega
  have ek2:w64 ((p.length:Int)+(v.length:Int))=((k+2+p.length:Nat):Int):=by rw[qhO (by omega) (by omega)];congr 1;omega
  have ek1:w64 (((k+2+p.length:Nat):Int)-1)=((k+1+p.length:Nat):Int):=by rw[qj (by omega) (by omega)];omega
  have e1:=Int.mul_ediv_add_emod (u[k+2]*1000000000+u[k+1]) v[k+1]
  have e2:=Int.emod_nonneg (u[k+2]*1000000000+u[k+1]) (show v[k+1]≠0 by omega)
  have e3:=Int.emod_lt_of_pos (u[k+2]*1000000000+u[k+1]) (show 0<v[k+1]by omega)
  have e4:(u[k+2]*1000000000+u[k+1])/v[k+1]<=1000001000:=by
   have:(u[k+2]*1000000000+u[k+1])/v[k+1]<1000001001:=by
    rw[Yu (by omega)]
    omega
   omega
  have e5:Q<=(u[k+2]*1000000000+u[k+1])/v[k+1]:=by
   rw[Int.le_ediv_iff_mul_le (by omega)]
   have e:Q*(v[k+1]*1000000000+v[k])=Q*v[k+1]*1000000000+Q*v[k]:=by rw[Int.mul_add,Int.mul_assoc]
   have:=Yv hQ0 a2.1
   omega
  have hq:qca .i64 (u[k+2]*1000000000+u[k+1]) v[k+1]=some ((u[k+2]*1000000000+u[k+1])/v[k+1]):=by
   unfold qca
   rw[if_neg (by omega),YF (by omega)]
   show some (w64 _)=_
   rw[qj (by omega) (by omega)]
  have hm:qd1 .i64 (u[k+2]*1000000000+u[k+1]) v[k+1]=some ((u[k+2]*1000000000+u[k+1])%v[k+1]):=by
   unfold qd1
   rw[if_neg (by omega),Int.tmod_eq_emod_of_nonneg (by omega)]
  have hKv:(1000000000:Int)<=(u[k+2]*1000000000+u[k+1])%v[k+1]+N*v[k+1]:=by
   have:(1000:Int)*v[k+1]<=N*v[k+1]:=Int.mul_le_mul_of_nonneg_right (by omega) (by omega)
   omega
  obtain⟨q',g1,g2,g3,g4⟩:=qii (p:=p) (t:=t) hv hvl (by omega) hu hul hpl rfl rfl rfl (T:=u[k+2]*1000000000+u[k+1]) (by omega) hQ2 hQ0 hQ1 (by omega) N _ _ e5 (by omega) e2 (by omega) (by rw[Int.mul_comm (_/_)];omega) hKv
  refine⟨q',?_,g2,g3,g4⟩
  unfold xW
  rw[ek2,ek1,ek,qbw (show k+2<u.length by omega),ZB,qbw (show k+1<u.length by omega),ZB,qz,Ya (show k+1<v.length by omega),ZB,qj (n:=u[k+2]*1000000000) (by omega) (by omega),qj (n:=u[k+2]*1000000000+u[k+1]) (by omega) (by omega),hq,ZB,hm,ZB]
  rcases g1 with g1|g1<;>rw[g1]<;>rfl
 obtain⟨q',g1,f2,f3,f4⟩:=G
 have hle2:=(DF q').2.2 (by omega) f3 f4
 obtain⟨w,j,m1,m2,m3,m4,m5,m6,m9⟩:=qjG hv (by omega) (q:=q') ⟨by omega,f3⟩ (p:=p) (t:=t) hpl N 0 u 0 (by omega) (by omega) (by omega) hu (by omega) (by omega)
 have m1:qQ v (p.length:Int) q' N (p++(u++t)) 0 0=some (p++(w++t),j):=m1
 have hkw:k+2<w.length:=by omega
 have ew:w[k+2]=u[k+2]:=by
  rw[hvl,Ya hkw,Ya (show k+2<u.length by omega)]at m4
  exact Ye m4
 have wsp:w=w.take (k+2)++[w[k+2]]:=by
  have:=List.take_succ_eq_append_getElem hkw
  rw[List.take_of_length_le (by omega)]at this
  exact this
 have wl:(w.take (k+2)).length=k+2:=by rw[Ym];omega
 have wd:=m3.take (k+2)
 have wv:dv E9 w=dv E9 (w.take (k+2))+E9^(k+2)*w[k+2]:=by
  have:=qw E9 w (k+2) hkw
  rw[List.take_of_length_le (by omega)]at this
  exact this
 have lo0:=qC E0 wd
 have lo1:=yF E0 wd
 rw[wl]at lo1
 rw[List.take_zero,kC,Int.mul_zero,hvl]at m9
 simp only[Int.pow_zero]at m9
 have hVk:dv E9 v<E9^(k+2):=by have:=yF E0 hv;rw[hvl]at this;exact this
 have hPk:=pow_pos E0 (k+2)
 have ek2:w64 ((p.length:Int)+(v.length:Int))=((k+2+p.length:Nat):Int):=by rw[qhO (by omega) (by omega)];congr 1;omega
 have eset:w.set (k+2) (u[k+2]-j)=w.take (k+2)++[u[k+2]-j]:=by
  rw[List.set_eq_take_append_cons_drop,if_pos hkw,List.drop_of_length_le (by omega)]
 have hks:k+2<(w.set (k+2) (u[k+2]-j)).length:=by rw[Yk];exact hkw
 have tot:dv E9 (w.take (k+2))+E9^(k+2)*(u[k+2]-j)=dv E9 u-q'*dv E9 v:=by
  rw[Int.mul_sub,<-ew]
  omega
 rw[g1,ZB,m1,ZB]
 simp only
 rw[ek2,qbw hkw,ZB,ew,qj (n:=u[k+2]-j) (by omega) (by omega),qd4 hkw,ZB,qbw hks,List.getElem_set_self,ZB]
 by_cases hq:q'=Q
 ·have hy:u[k+2]-j=0:=by
   subst hq
   have h1: ¬(1<=u[k+2]-j):=fun h=>by
    have:=Yc h (Int.le_of_lt hPk)
    omega
   have h2: ¬(u[k+2]-j<= -1):=fun h=>by
    have:=Yc h (Int.le_of_lt hPk)
    omega
   omega
  rw[if_neg (by omega),eset,hy,hq]
  rw[hy,Int.mul_zero,Int.add_zero,hq]at tot
  refine⟨w.take (k+2)++[0],by simp;omega,wd.append (Dg.cons ⟨by omega,by decide⟩ Dg.nil),?_,rfl⟩
  rw[qeo,Int.mul_zero,Int.add_zero]
  omega
 have hq1:q'=Q+1:=by omega
 have hqm:q'*dv E9 v=Q*dv E9 v+dv E9 v:=by rw[hq1,Int.add_mul,Int.one_mul]
 have hy:u[k+2]-j<0:=by
  rcases Int.lt_or_le (u[k+2]-j) 0 with h|h
  ·exact h
  have:=Yv (Int.le_of_lt hPk) h
  omega
 obtain⟨u3,c3,a1',a2',a3',a5',a6',a7'⟩:=qjv hv (by omega) (q:=q') ⟨by omega,f3⟩ (p:=p) (t:=t) hpl N 0 (w.take (k+2)) (u[k+2]-j) 0 (by omega) (by omega) (by omega) wd (by omega) (by omega)
 have a1':ku v (p.length:Int) q' N (p++(w.take (k+2)++[u[k+2]-j]++t)) 0 0=some (p++(u3++[u[k+2]-j]++t),q'-1,c3):=a1'
 rw[List.take_zero,kC,hvl]at a7'
 simp only[Int.pow_zero]at a7'
 have l0:=qC E0 a3'
 have l1:=yF E0 a3'
 rw[a2',hvl]at l1
 have hyc:u[k+2]-j+c3=0:=by
  have e1:dv E9 u3+E9^(k+2)*(u[k+2]-j+c3)=dv E9 u-Q*dv E9 v:=by
   rw[Int.mul_add]
   omega
  have h1: ¬(1<=u[k+2]-j+c3):=fun h=>by
   have:=Yc h (Int.le_of_lt hPk)
   omega
  have h2: ¬(u[k+2]-j+c3<= -1):=fun h=>by
   have:=Yc h (Int.le_of_lt hPk)
   omega
  omega
 have hk3:k+2<(u3++[u[k+2]-j]).length:=by simp;omega
 have eg:(u3++[u[k+2]-j])[k+2]=u[k+2]-j:=by
  rw[List.getElem_append_right (by omega)]
  simp
 have es:(u3++[u[k+2]-j]).set (k+2) 0=u3++[0]:=by
  rw[List.set_append_right _ _ (by omega),show k+2-u3.length=0 by omega]
  rfl
 rw[if_pos hy,eset,a1',ZB]
 simp only
 rw[qbw hk3,eg,ZB,hyc,show w64 (0:Int)=0 from rfl,qd4 hk3,ZB,es,hq1,Int.add_sub_cancel]
 refine⟨u3++[0],by simp;omega,a3'.append (Dg.cons ⟨by omega,by decide⟩ Dg.nil),?_,rfl⟩
 rw[qeo,Int.mul_zero,Int.add_zero]
 have e1:dv E9 u3+E9^(k+2)*(u[k+2]-j+c3)=dv E9 u-Q*dv E9 v:=by
  rw[Int.mul_add]
  omega
 rw[hyc,Int.mul_zero,Int.add_zero]at e1
 omega
end Go.Av
end
section
namespace Go.Av
theorem qdy {l:List Int} (h:Dg E9 l) {n:Nat} (hl:dv E9 l<E9^n):dv E9 (l.drop n)=0:=by
 by_cases hn:n<=l.length
 ·have e:=yT E9 l n hn
  have u:=qC E0 (h.take n)
  have j:=qC E0 (h.drop n)
  rcases Int.lt_or_le 0 (dv E9 (l.drop n))with c|c
  ·have:=Yc (show 1<=dv E9 (l.drop n)by omega) (Int.le_of_lt (pow_pos E0 n))
   omega
  omega
 rw[List.drop_of_length_le (by omega),kC]
theorem qjU {N:Nat} (hN:11000<N) {v:List Int} {k:Nat} (hv:Dg E9 v) (hvl:v.length=k+2) (hk:k<=9000) (hn:1000000<=v[k+1]'(by omega)) {A:Int} {m:Nat} (hm:m<=9000): ∀(K i:Nat) (l qs:List Int),i<=m+1->i<K->l.length=m+k+3->qs.length=m+1->Dg E9 l->Dg E9 qs->(∀(j:Nat) x,j<i->qs[j]? =some x->x=0)->dv E9 (l.drop i)<dv E9 v->dv E9 l+dv E9 v*dv E9 qs=A->
 ∃l' a0,zl N v K l qs ((i:Int)-1)=some (l',a0)/\l'.length=m+k+3/\a0.length=m+1/\Dg E9 l'/\Dg E9 a0/\dv E9 l'<dv E9 v/\dv E9 l'+dv E9 v*dv E9 a0=A
 |0,i,l,qs,h,hK,_,_,_,_,_,_,_=>by omega
 |K+1,0,l,qs,h,hK,hl,hql,hd,hqd,hz,hlt,e=>by
  rw[zl,if_neg (by omega)]
  exact⟨l,qs,rfl,hl,hql,hd,hqd,hlt,e⟩
 |K+1,i+1,l,qs,h,hK,hl,hql,hd,hqd,hz,hlt,e=>by
  have hil:i<l.length:=by omega
  have hiq:i<qs.length:=by omega
  have ei:((i+1:Nat):Int)-1=(i:Int):=by omega
  have V1:=yF E0 hv
  rw[hvl]at V1
  have V0:0<dv E9 v:=by
   have:=qC E0 (hd.drop (i+1))
   omega
  have lp:(l.take i).length=i:=by rw[Ym];omega
  have lu:((l.drop i).take (k+3)).length=k+3:=by rw[Ym,YJ];omega
  have el:l=l.take i++((l.drop i).take (k+3)++(l.drop i).drop (k+3)):=by rw[YS,YS]
  have hu:=(hd.drop i).take (k+3)
  have ht:dv E9 ((l.drop i).drop (k+3))=0:=by
   have:=qdy (hd.drop (i+1)) (n:=k+2) (by omega)
   rw[List.drop_drop]at this⊢
   rw[show i+(k+3)=i+1+(k+2)by omega]
   exact this
  have eu:dv E9 ((l.drop i).take (k+3))=dv E9 (l.drop i):=by
   have:=yN E9 ((l.drop i).take (k+3)) ((l.drop i).drop (k+3))
   rw[YS,ht,Int.mul_zero,Int.add_zero]at this
   exact this.symm
  have hUlt:dv E9 ((l.drop i).take (k+3))<1000000000*dv E9 v:=by
   rw[eu,qg5 l hil]
   have:=(hd.at hil).2
   have h1:E9*(dv E9 (l.drop (i+1))+1)<=E9*dv E9 v:=Yc (by omega) (by decide)
   rw[Int.mul_add,Int.mul_one]at h1
   have h2:E9*dv E9 v=1000000000*dv E9 v:=rfl
   omega
  obtain⟨u',s2,s3,s4,u⟩:=qmT hN (p:=l.take i) (t:=(l.drop i).drop (k+3)) hv hvl hk hu lu (by omega) hn hUlt
  rw[lp,<-el]at u
  rw[zl,ei,if_pos (by omega)]
  have hU0:=qC E0 hu
  have Q0:0<=dv E9 ((l.drop i).take (k+3))/dv E9 v:=Int.ediv_nonneg hU0 (by omega)
  have Q1:dv E9 ((l.drop i).take (k+3))/dv E9 v<E9:=by rw[Yu V0];exact hUlt
  have hR:=Int.emod_lt_of_pos (dv E9 ((l.drop i).take (k+3))) V0
  have hdm:=Int.mul_ediv_add_emod (dv E9 ((l.drop i).take (k+3))) (dv E9 v)
  have hdrop:(l.take i++(u'++(l.drop i).drop (k+3))).drop i=u'++(l.drop i).drop (k+3):=by
   rw[List.drop_append_of_le_length (by omega),List.drop_of_length_le (by omega),List.nil_append]
  have hdn:dv E9 (u'++(l.drop i).drop (k+3))=dv E9 u':=by rw[yN,ht,Int.mul_zero,Int.add_zero]
  have main:=qjU hN hv hvl hk hn (A:=A) hm K i (l.take i++(u'++(l.drop i).drop (k+3))) (qs.set i (dv E9 ((l.drop i).take (k+3))/dv E9 v)) (by omega) (by omega) (by rw[Yq,Yq,lp,s2,YJ,YJ];omega) (by rw[Yk];exact hql) ((hd.take i).append (s3.append ((hd.drop i).drop _))) (hqd.set ⟨Q0,Q1⟩) (fun j x hj hx=>by
   rw[Yw (by omega)]at hx
   exact hz j x (by omega) hx) (by rw[hdrop,hdn,s4];exact hR) (by
   rw[qjZ hiq (fun j x hj hx=>hz j x (by omega) hx),yN,lp,hdn,s4,Int.mul_add]
   have e1:=yT E9 l i (by omega)
   rw[<-eu]at e1
   have e2:E9^i*dv E9 ((l.drop i).take (k+3))=E9^i*(dv E9 v*(dv E9 ((l.drop i).take (k+3))/dv E9 v))+E9^i*(dv E9 ((l.drop i).take (k+3))%dv E9 v):=by rw[<-Int.mul_add,hdm]
   have e3:dv E9 v*(E9^i*(dv E9 ((l.drop i).take (k+3))/dv E9 v))=E9^i*(dv E9 v*(dv E9 ((l.drop i).take (k+3))/dv E9 v)):=Int.mul_left_comm _ _ _
   rw[e3]
   omega)
  obtain⟨l',a0,g1,g2⟩:=main
  refine⟨l',a0,?_,g2⟩
  rw[<-g1]
  generalize hw:xW N l v (i:Int)=og at u⊢
  cases og with
  |none=>cases u
  |some r25=>
   simp only[ZB]at u⊢
   generalize qQ v (i:Int) r25 N l 0 0=o2 at u⊢
   cases o2 with
   |none=>cases u
   |some p2=>
    obtain⟨l29,n30⟩:=p2
    simp only[ZB]at u⊢
    generalize idx l29 (w64 ((i:Int)+(v.length:Int)))=o3 at u⊢
    cases o3 with
    |none=>cases u
    |some x40=>
     simp only[ZB]at u⊢
     generalize put l29 (w64 ((i:Int)+(v.length:Int))) (w64 (x40-n30))=o4 at u⊢
     cases o4 with
     |none=>cases u
     |some l41=>
      simp only[ZB]at u⊢
      generalize idx l41 (w64 ((i:Int)+(v.length:Int)))=o5 at u⊢
      cases o5 with
      |none=>cases u
      |some x42=>
       simp only[ZB]at u⊢
       refine(congrArg (fun z=>Option.bind z _) u).trans ?_
       rw[ZB]
       simp only
       rw[qz,Ya hiq,ZB,yn hiq,ZB,qj (by omega) (by omega)]
theorem qnF {a:List Int} (j:a.length<=50000): ∀(K:Nat) (l:List Int),a.length+1<K+l.length->l.length<=a.length+1->zW a K l=some (l++List.replicate (a.length+1-l.length) 0)
 |0,l,h,h2=>by omega
 |K+1,l,h,h2=>by
  rw[zW,zV (by omega)]
  by_cases c:l.length<a.length+1
  ·rw[if_pos (by omega),qcz (by simp;omega) (by simp;omega),ZB,qnF j K (l++[0]) (by simp;omega) (by simp;omega),Yz,Yq,List.length_singleton]
   rw[show a.length+1-l.length=a.length+1-(l.length+1)+1 by omega,List.replicate_succ]
   rfl
  rw[if_neg (by omega),show a.length+1-l.length=0 by omega]
  simp
theorem qcZ {N:Nat} (hN:60000<N) {a b:List Int} (ha:Can E9 a) (hb:Can E9 b) (hal:a.length<=8000) (a1:0<dv E9 b):zT N a b=some (dg E9 (dv E9 a/dv E9 b),dg E9 (dv E9 a%dv E9 b)):=by
 have A0:=qC E0 ha.1
 unfold zT
 rw[qcX ha hb (by omega) (by omega),ZB]
 by_cases h:dv E9 a<dv E9 b
 ·rw[if_pos h,if_pos (by omega),Int.ediv_eq_zero_of_lt A0 h,Int.emod_eq_of_lt A0 h,qdq,qoS E1 ha]
 have hlen:b.length<=a.length:=by
  rcases Nat.lt_or_ge a.length b.length with c|c
  ·have:=qcv ha hb c;omega
  exact c
 have hb1:0<b.length:=by
  rcases Nat.eq_zero_or_pos b.length with c|c
  ·rw[YL.1 c,kC]at a1;omega
  exact c
 have hge: ¬((if dv E9 a<dv E9 b then-1 else if dv E9 a=dv E9 b then(0:Int)else 1)<0):=by
  rw[if_neg h]
  split<;>omega
 rw[if_neg hge]
 by_cases hone:b.length=1
 ·obtain⟨d,rfl⟩:=List.length_eq_one_iff.1 hone
  have ed:dv E9 [d]=d:=by rw[zg,kC];omega
  rw[ed]at a1⊢
  have hd:d<1000000000:=hb.1.head.2
  have m0:=Int.emod_nonneg (dv E9 a) (show d≠0 by omega)
  have m1:=Int.emod_lt_of_pos (dv E9 a) a1
  rw[if_pos (by simp),qbr]
  simp only[Yj,ZB]
  rw[qf1 ha.1 (by omega) (by omega) a1 hd,ZB]
  simp only
  rw[qb1 (Dg.cons ⟨m0,Int.lt_trans m1 hd⟩ Dg.nil) (by simp) (by simp;omega),ZB,zg,kC,Int.mul_zero,Int.add_zero]
 obtain⟨k,hk⟩: ∃k,b.length=k+2:=⟨b.length-2,by omega⟩
 obtain⟨m,hm⟩: ∃m,a.length=m+k+2:=⟨a.length-(k+2),by omega⟩
 have a2:k+1<b.length:=by omega
 have at1:=hb.1.at a2
 have at2:b[k+1]<1000000000:=at1.2
 have at0:b[k+1]≠0:=hb.2 _ (by rw[List.getLast?_eq_getElem?,hk];exact Ya a2)
 have a0:=pow_pos E0 (k+1)
 rw[if_neg (by omega),show w64 ((b.length:Int)-1)=((k+1:Nat):Int)by rw[qj (by omega) (by omega)];omega,qz,Ya a2,ZB,qj (n:=b[k+1]+1) (by omega) (by omega)]
 have hq:qca .i64 1000000000 (b[k+1]+1)=some (1000000000/(b[k+1]+1)):=by
  unfold qca
  have:(1000000000:Int)/(b[k+1]+1)<=1000000000:=Int.ediv_le_self _ (by omega)
  have:0<=(1000000000:Int)/(b[k+1]+1):=Int.ediv_nonneg (by omega) (by omega)
  rw[if_neg (by omega),YF (by omega)]
  show some (w64 _)=_
  rw[qj (by omega) (by omega)]
 rw[hq,ZB]
 have f1:=Int.mul_ediv_add_emod 1000000000 (b[k+1]+1)
 have f2:=Int.emod_lt_of_pos 1000000000 (show 0<b[k+1]+1 by omega)
 have f3:=Int.emod_nonneg 1000000000 (show b[k+1]+1≠0 by omega)
 have f0:1<=(1000000000:Int)/(b[k+1]+1):=by
  rw[Int.le_ediv_iff_mul_le (by omega)]
  omega
 have f5:(1000000000:Int)/(b[k+1]+1)<=500000000:=by
  have:(1000000000:Int)/(b[k+1]+1)<500000001:=by
   rw[Yu (by omega)]
   omega
  omega
 generalize hf:(1000000000:Int)/(b[k+1]+1)=f at*
 have f4:250000000<=b[k+1]*f:=by
  rw[Int.add_mul,Int.one_mul]at f1
  have:f<=b[k+1]*f:=by
   have:=Int.mul_le_mul_of_nonneg_right (show 1<=b[k+1]by omega) (show 0<=f by omega)
   omega
  have:b[k+1]<=b[k+1]*f:=by
   have:=Yc (show 1<=f by omega) (show 0<=b[k+1]by omega)
   omega
  omega
 have fd:Dg E9 [f]:=Dg.cons ⟨by omega,show f<1000000000 by omega⟩ Dg.nil
 have fv:dv E9 [f]=f:=by rw[zg,kC];omega
 have u:0<f:=by omega
 rw[qdf hb.1 fd (by omega) (by simp) (by simp;omega),ZB,qdf ha.1 fd (by omega) (by simp) (by simp;omega),ZB,fv]
 have V0:0<dv E9 b*f:=Int.mul_pos a1 u
 have ebs:dv E9 b=dv E9 (b.take (k+1))+E9^(k+1)*b[k+1]:=by
  have:=qw E9 b (k+1) a2
  rw[List.take_of_length_le (by omega)]at this
  exact this
 have blo0:=qC E0 (hb.1.take (k+1))
 have blo1:=yF E0 (hb.1.take (k+1))
 rw[Ym,Nat.min_eq_left (by omega)]at blo1
 have Vlow:E9^(k+1)*250000000<=dv E9 b*f:=by
  have h1:=Yc f4 (Int.le_of_lt a0)
  rw[ebs,Int.add_mul,Int.mul_assoc]
  have:=Yv blo0 (Int.le_of_lt u)
  omega
 have Vhigh:dv E9 b*f<E9^(k+2):=by
  have h1:(dv E9 b)*f<E9^(k+1)*((b[k+1]+1)*f):=by
   rw[<-Int.mul_assoc]
   refine YH ?_ u
   rw[ebs,Int.mul_add,Int.mul_one]
   omega
  have h3:E9^(k+1)*((b[k+1]+1)*f)<=E9^(k+1)*1000000000:=Yc (by omega) (Int.le_of_lt a0)
  rw[Int.pow_succ]
  exact Int.lt_of_lt_of_le h1 h3
 have U0:0<=dv E9 a*f:=Yv A0 (Int.le_of_lt u)
 have cu:=zy E1 U0
 have euu:=jh E1 U0
 have hA:=yF E0 ha.1
 have lu:(dg E9 (dv E9 a*f)).length<=a.length+1:=by
  refine(qcE E1 U0).2 ?_
  rw[Int.pow_succ]
  have h1:dv E9 a*f<E9^a.length*f:=YH hA u
  have h2:E9^a.length*f<=E9^a.length*E9:=Yc (show f<=1000000000 by omega) (Int.le_of_lt (pow_pos E0 _))
  omega
 generalize hua:dg E9 (dv E9 a*f)=ua at*
 rw[qcz (by simp;omega) (by simp;omega),ZB,List.nil_append,qnF (by omega) N ua (by omega) lu,ZB]
 have lU:(ua++List.replicate (a.length+1-ua.length) 0).length=m+k+3:=by simp;omega
 have dU:Dg E9 (ua++List.replicate (a.length+1-ua.length) 0):=cu.1.append (Uj E0 _)
 have vU:dv E9 (ua++List.replicate (a.length+1-ua.length) 0)=dv E9 a*f:=by rw[yN,xz,Int.mul_zero,Int.add_zero,euu]
 generalize ua++List.replicate (a.length+1-ua.length) 0=U at*
 have cv:=zy E1 (Int.le_of_lt V0)
 have evv:=jh E1 (Int.le_of_lt V0)
 have lv:(dg E9 (dv E9 b*f)).length=k+2:=by
  have h1:=(qcE E1 (Int.le_of_lt V0) (n:=k+2)).2 Vhigh
  have h2:=(not_congr (qcE E1 (Int.le_of_lt V0) (n:=k+1))).2 (by
   have:E9^(k+1)*1<=E9^(k+1)*250000000:=Yc (by omega) (Int.le_of_lt a0)
   omega)
  omega
 generalize hvv:dg E9 (dv E9 b*f)=v at*
 have hkv:k+1<v.length:=by omega
 have hn:1000000<=v[k+1]:=by
  have e:=qw E9 v (k+1) hkv
  rw[List.take_of_length_le (by omega),evv]at e
  have h1:=yF E0 (cv.1.take (k+1))
  rw[Ym,Nat.min_eq_left (by omega)]at h1
  have h2:E9^(k+1)*250000000<E9^(k+1)*(v[k+1]+1):=by rw[Int.mul_add,Int.mul_one];omega
  have:=Int.lt_of_mul_lt_mul_left h2 (Int.le_of_lt a0)
  omega
 have htop:dv E9 (U.drop (m+1))<dv E9 v:=by
  rw[evv]
  have e:=yT E9 U (m+1) (by omega)
  have h1:=qC E0 (dU.take (m+1))
  have h2:dv E9 U<E9^(m+1)*(E9^(k+1)*f):=by
   rw[vU,<-Int.mul_assoc,<-Int.pow_add,show m+1+(k+1)=a.length by omega]
   exact YH hA u
  have hPm:=pow_pos E0 (m+1)
  have h3:E9^(m+1)*dv E9 (U.drop (m+1))<E9^(m+1)*(E9^(k+1)*f):=by omega
  have h4:=Int.lt_of_mul_lt_mul_left h3 (Int.le_of_lt hPm)
  have h5:E9^(k+1)*f<=E9^(k+1)*(b[k+1]*f):=by
   refine Yc ?_ (Int.le_of_lt a0)
   have:=Int.mul_le_mul_of_nonneg_right (show 1<=b[k+1]by omega) (show 0<=f by omega)
   omega
  have h6:E9^(k+1)*(b[k+1]*f)<=dv E9 b*f:=by
   rw[<-Int.mul_assoc]
   exact Int.mul_le_mul_of_nonneg_right (by omega) (Int.le_of_lt u)
  omega
 rw[show w64 ((U.length:Int)-(v.length:Int))=((m+1:Nat):Int)by rw[qj (by omega) (by omega)];omega,qaT (by omega),ZB,show w64 (((m+1:Nat):Int)-1)=((m+1:Nat):Int)-1 from qj (by omega) (by omega)]
 obtain⟨l,qs,g1,g2,g3,g4,g5,g6,g7⟩:=qjU (N:=N) (by omega) cv.1 lv (by omega) hn (A:=dv E9 U) (m:=m) (by omega) N (m+1) U (List.replicate (m+1) 0) (Nat.le_refl _) (by omega) lU (by simp) dU (Uj E0 _) (fun j x _ hx=>qgI j x hx) htop (by rw[xz,Int.mul_zero,Int.add_zero])
 rw[g1,ZB]
 simp only
 rw[vU]at g7
 rw[evv]at g6 g7
 have hl0:=qC E0 g4
 have eq:dv E9 qs=dv E9 a/dv E9 b:=by
  rw[<-Int.mul_ediv_mul_of_pos_left (dv E9 a) (dv E9 b) u,<-g7,Int.add_mul_ediv_left _ _ (by omega),Int.ediv_eq_zero_of_lt hl0 g6,Int.zero_add]
 have er:dv E9 l=dv E9 a%dv E9 b*f:=by
  have:(dv E9 a*f)%(dv E9 b*f)=dv E9 l:=by rw[<-g7,Int.add_mul_emod_self_left,Int.emod_eq_of_lt hl0 g6]
  rw[<-this,Int.mul_comm (dv E9 a),Int.mul_comm (dv E9 b),Int.mul_emod_mul_of_pos _ _ u,Int.mul_comm]
 have hzl:dv E9 (l.drop (k+2))=0:=qdy g4 (by omega)
 have etk:dv E9 (l.take (k+2))=dv E9 l:=by
  have:=yT E9 l (k+2) (by omega)
  rw[hzl,Int.mul_zero,Int.add_zero]at this
  exact this.symm
 have m0:0<=dv E9 a%dv E9 b:=Int.emod_nonneg _ (by omega)
 have r0:0<=dv E9 a%dv E9 b*f:=Yv m0 (Int.le_of_lt u)
 rw[lv,yI (by omega),ZB,qb1 (g4.take _) (by rw[Ym];omega) (by rw[Ym];omega),ZB,etk,er,qbr]
 simp only[Yj,ZB]
 have lr:(dg E9 (dv E9 a%dv E9 b*f)).length<=20000:=by
  have h1:(dg E9 (dv E9 a%dv E9 b*f)).length<=k+2:=(qcE E1 r0).2 (by omega)
  omega
 rw[qf1 (zy E1 r0).1 lr (by omega) u (by omega),ZB,jh E1 r0,Int.mul_ediv_cancel _ (by omega),qb1 g5 (by omega) (by omega),ZB,eq]
abbrev zJ (z:Int) (n:Nat):Prop:=(z.natAbs:Int)<E9^n
theorem zJ.len {z:Int} {n:Nat} (h:zJ z n):(dg E9 z.natAbs).length<=n:=(qcE E1 (by omega)).2 h
theorem zJ.mono {z:Int} {m n:Nat} (h:zJ z m) (j:m<=n):zJ z n:=Int.lt_of_lt_of_le h (yo (by decide) j)
theorem qfW (z:Int):Can E9 (rI z).w/\dv E9 (rI z).w=(z.natAbs:Int):=⟨zy E1 (by omega),jh E1 (by omega)⟩
theorem qky {N:Nat} (j:60000<N) {z:Int} (h:zJ z 50000):yV N (rI z)=some (rI (-z)):=by
 have l:=h.len
 obtain⟨c,e⟩:=qfW z
 unfold yV
 rw[vQ _ c.1 (by show(dg E9 z.natAbs).length<=_;omega) (by show(dg E9 z.natAbs).length<_;omega),ZB,e]
 have:(if(!(rI z).neg)=true then-(z.natAbs:Int)else(z.natAbs:Int))= -z:=by
  show(if(!decide (z<0))=true then-(z.natAbs:Int)else(z.natAbs:Int))= -z
  by_cases hz:z<0
  ·rw[decide_eq_true hz,if_neg (by simp)];omega
  rw[decide_eq_false hz,if_pos (by simp)];omega
 rw[this]
theorem qdR {N:Nat} (hN:60000<N) {a b:Int} (ha:zJ a 8000) (hb:zJ b 8000):yu N (rI a) (rI b)=some (rI (a*b)):=by
 have la:=ha.len
 have lb:=hb.len
 obtain⟨ca,ea⟩:=qfW a
 obtain⟨cb,eb⟩:=qfW b
 have l1:(rI a).w.length<=8000:=la
 have l2:(rI b).w.length<=8000:=lb
 have u:0<=(a.natAbs:Int)*(b.natAbs:Int):=Yv (by omega) (by omega)
 have lp:(dg E9 ((a.natAbs:Int)*(b.natAbs:Int))).length<=16000:=by
  refine(qcE E1 u).2 ?_
  rw[show 16000=8000+8000 from rfl,Int.pow_add]
  have j:(a.natAbs:Int)*(b.natAbs:Int)<=(a.natAbs:Int)*E9^8000:=Yc (Int.le_of_lt hb) (by omega)
  have h:(a.natAbs:Int)*E9^8000<E9^8000*E9^8000:=YH ha (pow_pos E0 _)
  omega
 unfold yu
 rw[qdf ca.1 cb.1 (by omega) (by omega) (by omega),ZB,ea,eb,vQ _ (zy E1 u).1 (by omega) (by omega),ZB,jh E1 u]
 congr 2
 have a0:(a.natAbs:Int)*(b.natAbs:Int)=((a*b).natAbs:Int):=by rw[Int.natAbs_mul,Int.natCast_mul]
 rw[a0]
 show(if(!(decide (a<0)==decide (b<0)))=true then _ else _)=_
 by_cases j:a<0
 ·by_cases h:b<0
  ·have:=Int.mul_pos_of_neg_of_neg j h
   rw[decide_eq_true j,decide_eq_true h,if_neg (by simp)]
   omega
  have:=Int.mul_nonpos_of_nonpos_of_nonneg (show a<=0 by omega) (show 0<=b by omega)
  rw[decide_eq_true j,decide_eq_false h,if_pos (by simp)]
  omega
 by_cases h:b<0
 ·have:=Int.mul_nonpos_of_nonneg_of_nonpos (show 0<=a by omega) (show b<=0 by omega)
  rw[decide_eq_false j,decide_eq_true h,if_pos (by simp)]
  omega
 have:=Yv (show 0<=a by omega) (show 0<=b by omega)
 rw[decide_eq_false j,decide_eq_false h,if_neg (by simp)]
 omega
theorem qpa {N:Nat} (hN:60000<N) {a b:Int} (ha:zJ a 9000) (hb:zJ b 9000):qbX N (rI a) (rI b)=some (rI (a+b)):=by
 have la:=ha.len
 have lb:=hb.len
 obtain⟨ca,ea⟩:=qfW a
 obtain⟨cb,eb⟩:=qfW b
 have l1:(rI a).w.length<=9000:=la
 have l2:(rI b).w.length<=9000:=lb
 have u: ∀x y:Int,0<=x-y->0<=y->x<E9^9000->(dg E9 (x-y)).length<=9000:=fun x y h j h1=>(qcE E1 h).2 (by omega)
 unfold qbX
 have a0:((rI a).neg==(rI b).neg)=(decide (a<0)==decide (b<0)):=rfl
 have na:(rI a).neg=decide (a<0):=rfl
 have nb:(rI b).neg=decide (b<0):=rfl
 rw[a0]
 by_cases hs:(a<0↔b<0)
 ·obtain⟨l,e,d1,d2,d3⟩:=qeZ (N:=N) ca.1 cb.1 (by omega) (by omega) (by omega)
  rw[if_pos (by rw[beq_iff_eq];exact decide_eq_decide.2 hs),e,ZB,vQ _ d1 (by omega) (by omega),ZB,d3,ea,eb,na]
  congr 2
  simp only[decide_eq_true_eq]
  split<;>omega
 rw[if_neg (by rw[beq_iff_eq];exact fun c=>hs (decide_eq_decide.1 c)),qcX ca cb (by omega) (by omega),ZB,ea,eb]
 by_cases hc:(a.natAbs:Int)<(b.natAbs:Int)
 ·rw[if_pos hc,if_neg (by omega),qfx cb ca (by omega) (by omega) (by omega),ZB,ea,eb]
  have j:0<=(b.natAbs:Int)-(a.natAbs:Int):=by omega
  have ll:=u _ _ j (by omega) hb
  rw[vQ _ (zy E1 j).1 (by omega) (by omega),ZB,jh E1 j,nb]
  congr 2
  simp only[decide_eq_true_eq]
  split<;>omega
 rw[if_neg hc,if_pos (by split<;>omega),qfx ca cb (by omega) (by omega) (by omega),ZB,ea,eb]
 have j:0<=(a.natAbs:Int)-(b.natAbs:Int):=by omega
 have ll:=u _ _ j (by omega) ha
 rw[vQ _ (zy E1 j).1 (by omega) (by omega),ZB,jh E1 j,na]
 congr 2
 simp only[decide_eq_true_eq]
 split<;>omega
theorem qcN {x y:Int} (u:0<=x) (h:x<=y): ∀n:Nat,0<=x^n/\x^n<=y^n
 |0=>by simp
 |n+1=>by
  have j:=qcN u h n
  rw[Int.pow_succ,Int.pow_succ]
  exact⟨Yv j.1 u,Int.mul_le_mul j.2 h u (Int.le_trans j.1 j.2)⟩
theorem qhR {N:Nat} (u:60000<N) (B:Nat) (hB:B<=8000): ∀(k K:Nat) (a b:Int),0<=a->0<=b->b<2^k->2*k+2<=K->zJ a B->zJ b B->kz N K (dg E9 a) (dg E9 b)=some (dg E9 (Int.gcd a b:Int))
 |k,0,a,b,_,_,_,hK,_,_=>by omega
 |k,K+1,a,b,ha,hb,hk,hK,fa,fb=>by
  have na:(a.natAbs:Int)=a:=by omega
  have nb:(b.natAbs:Int)=b:=by omega
  have done:b=0->kz N (K+1) (dg E9 a) (dg E9 b)=some (dg E9 (Int.gcd a b:Int)):=by
   intro h0
   subst h0
   rw[kz,qdq,if_neg (by simp),Int.gcd_zero,na]
  rcases(show b=0\/0<b by omega)with h0|h0
  ·exact done h0
  match k,hk,hK with
  |0,hk,hK=>simp at hk;omega
  |k+1,hk,hK=>
   have j:=Int.emod_nonneg a (show b≠0 by omega)
   have m1:=Int.emod_lt_of_pos a h0
   have la:=fa.len
   have lb:=fb.len
   rw[na]at la
   rw[nb]at lb
   have a1:0<(dg E9 b).length:=by
    rw[List.length_pos_iff]
    intro c
    have:=(qgX E1 hb).1 c
    omega
   have fr:zJ (a%b) B:=by unfold zJ at fb⊢;omega
   rw[kz,if_pos (by omega),qcZ u (zy E1 ha) (zy E1 hb) (by omega) (by rw[jh E1 hb];exact h0),ZB,jh E1 ha,jh E1 hb]
   simp only
   rw[qcY ha hb]
   match K,hK with
   |0,hK=>omega
   |K+1,hK=>
    rcases(show a%b=0\/0<a%b by omega)with g0|g0
    ·rw[g0,kz,qdq,if_neg (by simp),Int.gcd_zero,nb]
    have lr:=fr.len
    rw[show((a%b).natAbs:Int)=a%b by omega]at lr
    have a0:0<(dg E9 (a%b)).length:=by
     rw[List.length_pos_iff]
     intro c
     have:=(qgX E1 j).1 c
     omega
    have n0:=Int.emod_nonneg b (show a%b≠0 by omega)
    have n1:=Int.emod_lt_of_pos b g0
    rw[kz,if_pos (by omega),qcZ u (zy E1 hb) (zy E1 j) (by omega) (by rw[jh E1 j];exact g0),ZB,jh E1 hb,jh E1 j]
    have h:b%(a%b)<2^k:=by
     have d1:=Int.mul_ediv_add_emod b (a%b)
     have d2:1<=b/(a%b):=by
      rw[Int.le_ediv_iff_mul_le g0]
      omega
     have d3:a%b*1<=a%b*(b/(a%b)):=Yc d2 (by omega)
     rw[Int.pow_succ]at hk
     omega
    simp only
    rw[qcY hb j]
    exact qhR u B hB k K (a%b) (b%(a%b)) j n0 h (by omega) fr (by unfold zJ at fr⊢;omega)
theorem qiu {N:Nat} (hN:600000<N) {a b:Int} (u:0<=a) (j:0<=b) (fa:zJ a 8000) (h:zJ b 8000):qaf N (dg E9 a) (dg E9 b)=some (dg E9 (Int.gcd a b:Int)):=by
 have h2:b<2^(30*8000):=by
  have e:(2:Int)^(30*8000)=1073741824^8000:=by rw[Int.pow_mul,show(2:Int)^30=1073741824 from rfl]
  rw[e]
  have:E9^8000<=(1073741824:Int)^8000:=(qcN (by decide) (by decide) _).2
  unfold zJ at h
  omega
 unfold qaf
 rw[qhR (by omega) 8000 (Nat.le_refl _) (30*8000) N a b u j h2 (by omega) fa h,ZB]
end Go.Av
end
section
namespace Go.Av
def vP (c:UInt8):Bool:=decide (48<=c.toNat)&&decide (c.toNat<=57)
def qO (n:Nat) (s:List UInt8):Nat:=s.foldl (fun a c=>a*10+(c.toNat-48)) n
theorem qbZ (n:Nat):qO n []=n:=List.foldl_nil
theorem qba (n:Nat) (c:UInt8) (s:List UInt8):qO n (c::s)=qO (n*10+(c.toNat-48)) s:=by
 unfold qO
 rw[List.foldl_cons]
theorem qes (s:List UInt8): ∀n:Nat,s.all vP=true->qO n s<(n+1)*10^s.length:=by
 induction s with
 |nil=>
  intro n _
  rw[List.length_nil,Nat.pow_zero,Nat.mul_one,qbZ]
  exact Nat.lt_succ_self n
 |cons c s ih=>
  intro n h
  rw[List.all_cons,Bool.and_eq_true]at h
  have j:=ih (n*10+(c.toNat-48)) h.2
  have hd:c.toNat-48<=9:=by
   have:=h.1
   simp[vP]at this
   omega
  have u:n*10+(c.toNat-48)+1<=(n+1)*10:=by omega
  rw[qba,Yr,Nat.pow_succ,Nat.mul_comm (10^s.length) 10,<-Nat.mul_assoc]
  exact Nat.lt_of_lt_of_le j (Nat.mul_le_mul_right _ u)
theorem ne48 {c:UInt8} (h: ¬c=48): ¬((c.toNat:Int)=48):=fun e=>h (UInt8.toNat_inj.1 (show c.toNat=48 from by omega))
theorem qnh (c:UInt8):([48,49,50,51,52,53,54,55,56,57]:Str).contains c=vP c:=by
 rw[Bool.eq_iff_iff]
 simp only[List.contains_cons,List.contains_nil,Bool.or_eq_true,beq_iff_eq,vP,Bool.and_eq_true,decide_eq_true_eq,<-UInt8.toNat_inj,Bool.or_false]
 simp only[show(48:UInt8).toNat=48 from rfl,show(49:UInt8).toNat=49 from rfl,show(50:UInt8).toNat=50 from rfl,show(51:UInt8).toNat=51 from rfl,show(52:UInt8).toNat=52 from rfl,show(53:UInt8).toNat=53 from rfl,show(54:UInt8).toNat=54 from rfl,show(55:UInt8).toNat=55 from rfl,show(56:UInt8).toNat=56 from rfl,show(57:UInt8).toNat=57 from rfl]
 omega
theorem qcD {α:Type} {p:α->Bool}: ∀{l:List α},l.dropWhile p=[]↔l.all p=true
 |[]=>by simp
 |x::l=>by
  rw[List.dropWhile_cons,List.all_cons]
  by_cases h:p x=true
  ·rw[if_pos h,h,Bool.true_and];exact qcD
  rw[if_neg h];simp[h]
theorem qmp {s:Str}:(Lib.trimS s [48,49,50,51,52,53,54,55,56,57]==[])=s.all vP:=by
 have e:(fun c=>([48,49,50,51,52,53,54,55,56,57]:Str).contains c)=vP:=funext qnh
 unfold Lib.trimS Lib.trimLeftS Lib.trimRightS
 rw[e]
 rw[Bool.eq_iff_iff,beq_iff_eq,qcD,List.all_reverse]
 constructor
 ·intro h
  have u: ∀x∈s.reverse.takeWhile vP++s.reverse.dropWhile vP,vP x=true:=by
   intro x j
   rcases List.mem_append.1 j with j|j
   ·exact Yp.1 List.all_takeWhile x j
   exact Yp.1 h x j
  rw[List.takeWhile_append_dropWhile]at u
  exact Yp.2 fun x j=>u x (by simpa using j)
 intro h
 have:s.reverse.dropWhile vP=[]:=qcD.2 (by rw[List.all_reverse];exact h)
 rw[this]
 rfl
theorem qg4: ∀(s:Str) (n:Nat),s.all vP=true->Lib.decFrom n s=some (qO n s)
 |[],n,_=>rfl
 |c::s,n,h=>by
  rw[List.all_cons,Bool.and_eq_true]at h
  unfold Lib.decFrom
  rw[qba]
  have j:48<=c.toNat/\c.toNat<=57:=by simpa[vP]using h.1
  have e:Lib.digitVal c=some (c.toNat-48):=by unfold Lib.digitVal;rw[if_pos j]
  rw[e]
  exact qg4 s _ h.2
theorem qks {s:Str} (h0:1<=s.length) (h:s.all vP=true):Lib.atoi s=some ((qO 0 s:Nat):Int):=by
 cases s with
 |nil=>simp at h0
 |cons c s=>
  have hc:vP c=true:=by rw[List.all_cons,Bool.and_eq_true]at h;exact h.1
  have j:48<=c.toNat/\c.toNat<=57:=by simpa[vP]using hc
  unfold Lib.atoi Lib.decNat
  have u: ¬(c==45)=true:=fun e=>by rw[beq_iff_eq.1 e]at j;simp at j
  have n2: ¬(c==43)=true:=fun e=>by rw[beq_iff_eq.1 e]at j;simp at j
  simp only
  rw[if_neg u,if_neg n2,if_neg (by simp),qg4 _ _ h]
  rfl
theorem qoW (s:List UInt8): ∀n:Nat,qO n s=n*10^s.length+qO 0 s:=by
 induction s with
 |nil=>intro n;rw[qbZ,qbZ];simp
 |cons c s ih=>
  intro n
  rw[qba,qba,ih,ih (0*10+_),Yr,Nat.pow_succ,Nat.zero_mul,Nat.zero_add,Nat.add_mul]
  rw[Nat.mul_assoc,Nat.mul_comm 10,<-Nat.add_assoc]
theorem qdP (s t:List UInt8):qO 0 (s++t)=qO 0 s*10^t.length+qO 0 t:=by
 have:qO 0 (s++t)=qO (qO 0 s) t:=by unfold qO;rw[List.foldl_append]
 rw[this,qoW]
theorem qfZ (s:List UInt8) (c:UInt8):qO 0 (s++[c])=qO 0 s*10+(c.toNat-48):=by
 rw[qdP]
 simp[qba,qbZ]
def dch (n:Nat):UInt8:=UInt8.ofNat (48+n)
theorem qgq {n:Nat} (h:n<10):(dch n).toNat=48+n:=by
 unfold dch
 rw[UInt8.toNat_ofNat']
 omega
theorem qlr {n:Nat} (h:n<10):vP (dch n)=true:=by
 unfold vP
 rw[qgq h,Bool.and_eq_true,decide_eq_true_eq,decide_eq_true_eq]
 omega
theorem qlT {c:UInt8} (h:vP c=true):c=dch (c.toNat-48)/\c.toNat-48<10:=by
 unfold vP at h
 rw[Bool.and_eq_true,decide_eq_true_eq,decide_eq_true_eq]at h
 refine⟨?_,by omega⟩
 rw[<-UInt8.toNat_inj,qgq (by omega)]
 omega
def qdF:Nat->Nat->Str
 |0,_=>[]
 |k+1,n=>qdF k (n/10)++[dch (n%10)]
theorem qhL: ∀k n,(qdF k n).length=k
 |0,n=>rfl
 |k+1,n=>by rw[qdF,Yq,qhL];rfl
theorem ja {n:Nat} (h:n<10):Lib.decDigits n=[dch n]:=by rw[Lib.decDigits,dif_pos h];rfl
theorem qeL {n:Nat} (h: ¬n<10):Lib.decDigits n=Lib.decDigits (n/10)++[dch (n%10)]:=by rw[Lib.decDigits,dif_neg h];rfl
theorem qhX: ∀(k n:Nat),0<n/10^k->Lib.decDigits n=Lib.decDigits (n/10^k)++qdF k (n%10^k)
 |0,n,_=>by simp[qdF]
 |k+1,n,h=>by
  have j:n/10^(k+1)=n/10/10^k:=by rw[Nat.pow_succ,Nat.mul_comm,Nat.div_div_eq_div_mul]
  have hp:0<10^k:=Nat.pow_pos (by decide)
  have u: ¬n<10:=fun c=>by
   rw[j,Nat.div_eq_of_lt c,Nat.zero_div]at h
   omega
  have e2:n%10^(k+1)/10=n/10%10^k:=by rw[Nat.pow_succ,Nat.mul_comm,Nat.mod_mul_right_div_self]
  have e3:n%10^(k+1)%10=n%10:=Nat.mod_mod_of_dvd _ ⟨10^k,by rw[Nat.pow_succ,Nat.mul_comm]⟩
  rw[qeL u,qhX k (n/10) (by rw[<-j];exact h),qdF,e2,e3,j,Yz]
theorem qaB (n:Nat):(Lib.decDigits n).all vP=true:=by
 induction n using Nat.strongRecOn with
 |_ n ih=>
  by_cases h:n<10
  ·rw[ja h,List.all_cons,qlr h];rfl
  rw[qeL h,List.all_append,ih _ (by omega),List.all_cons,qlr (by omega)];rfl
theorem qbA (n:Nat):qO 0 (Lib.decDigits n)=n:=by
 induction n using Nat.strongRecOn with
 |_ n ih=>
  by_cases h:n<10
  ·rw[ja h,qba,qbZ,qgq h];omega
  rw[qeL h,qfZ,ih _ (by omega),qgq (by omega)];omega
theorem qfK (n:Nat):0<(Lib.decDigits n).length:=by rw[Lib.decDigits_length];exact Lib.nDigits_pos n
theorem qkW {m n:Nat} (h:Lib.decDigits m=Lib.decDigits n):m=n:=by rw[<-qbA m,h,qbA]
theorem yH {n k:Nat} (hk:0<k):(Lib.decDigits n).length<=k↔n<10^k:=by
 constructor
 ·intro h
  have:=qes (Lib.decDigits n) 0 (qaB n)
  rw[qbA]at this
  have u:(10:Nat)^(Lib.decDigits n).length<=10^k:=Nat.pow_le_pow_right (by omega) h
  omega
 intro h
 rcases Nat.lt_or_ge k (Lib.decDigits n).length with c|c
 ·exfalso
  rw[Lib.decDigits_length]at c
  obtain⟨m,hm⟩: ∃m,Lib.nDigits n=m+2:=⟨Lib.nDigits n-2,by omega⟩
  have j: ∀(n m:Nat),Lib.nDigits n=m+2->10^(m+1)<=n:=by
   intro n
   induction n using Nat.strongRecOn with
   |_ n ih=>
    intro m hm
    by_cases h:n<10
    ·rw[Lib.nDigits_small h]at hm;omega
    rw[Lib.nDigits_big h]at hm
    cases m with
    |zero=>simp;omega
    |succ m=>
     have:=ih (n/10) (by omega) m (by omega)
     rw[Nat.pow_succ]
     omega
  have:=j n m hm
  have u:(10:Nat)^k<=10^(m+1):=Nat.pow_le_pow_right (by omega) (by omega)
  omega
 exact c
def Dec (s:Str):Prop:=0<s.length/\s.all vP=true/\(s[0]? =some 48->s=[48])
instance (s:Str):Decidable (Dec s):=by unfold Dec;infer_instance
theorem qlk {c:UInt8} (h:vP c=true):Dec [c]:=⟨by simp,by simp[h],fun e=>by simp at e;rw[e]⟩
theorem qon: ∀(k:Nat) (s:Str),s.length<=k->Dec s->s=Lib.decDigits (qO 0 s)
 |0,s,h,hd=>by have:=hd.1;omega
 |k+1,s,h,hd=>by
  rcases List.eq_nil_or_concat s with e|⟨t,c,e⟩
  ·rw[e]at hd;exact absurd hd.1 (by simp)
  rw[List.concat_eq_append]at e
  subst e
  have ha:=hd.2.1
  rw[List.all_append,Bool.and_eq_true,List.all_cons,List.all_nil,Bool.and_true]at ha
  obtain⟨ec,hc⟩:=qlT ha.2
  by_cases ht:t=[]
  ·subst ht
   rw[List.nil_append,qba,qbZ,Nat.zero_mul,Nat.zero_add,ja hc,<-ec]
  have j:0<t.length:=List.length_pos_iff.2 ht
  have h0:t[0]? ≠some 48:=fun e=>by
   have:=hd.2.2 (by rw[Yf j];exact e)
   have:=congrArg List.length this
   rw[Yq,List.length_singleton,List.length_singleton]at this
   omega
  have hD:Dec t:=⟨j,ha.1,fun e=>absurd e h0⟩
  have u:=qon k t (by simp at h;omega) hD
  have hv:qO 0 t≠0:=fun e=>by
   rw[e]at u
   exact h0 (by rw[u,ja (by decide)];rfl)
  rw[qfZ,qeL (by omega),show(qO 0 t*10+(c.toNat-48))/10=qO 0 t by omega,show(qO 0 t*10+(c.toNat-48))%10=c.toNat-48 by omega,<-u,<-ec]
theorem Dec.eq {s:Str} (h:Dec s):s=Lib.decDigits (qO 0 s):=qon s.length s (Nat.le_refl _) h
theorem qn0 (n:Nat):Dec (Lib.decDigits n):=by
 refine⟨qfK n,qaB n,?_⟩
 induction n using Nat.strongRecOn with
 |_ n ih=>
  intro e
  by_cases h:n<10
  ·rw[ja h]at e⊢
   simp only[Yj]at e
   rw[Ye e]
  exfalso
  rw[qeL h,Yf (qfK _)]at e
  have:=ih (n/10) (by omega) e
  have j:=qbA (n/10)
  rw[this]at j
  have:qO 0 [48]=0:=rfl
  omega
end Go.Av
end
section
namespace Go.Av
theorem qbg {a b:Str} (h:a.length+b.length<=1000000000):cat a b=some (a++b):=by
 unfold cat
 rw[if_pos (by omega)]
theorem dcut {d:Nat} (h:d<10):cut ([48,49,50,51,52,53,54,55,56,57]:Str) (d:Int) (w64 ((d:Int)+1))=some [dch d]:=by
 rw[zV (by omega)]
 rcases(show d=0\/d=1\/d=2\/d=3\/d=4\/d=5\/d=6\/d=7\/d=8\/d=9 by omega)with e|e|e|e|e|e|e|e|e|e<;>subst e<;>decide
theorem tm10 (n:Nat):(n:Int).tmod 10=((n%10:Nat):Int):=by rw[Int.tmod_eq_emod_of_nonneg (by omega)];omega
theorem td10 (n:Nat):(n:Int).tdiv 10=((n/10:Nat):Int):=by rw[YF (by omega)];omega
theorem qfR {least:Int} {K n:Nat} {s:Str} (u:n<9223372036854775808) (hs:s.length<=1000) (h:0<n\/(s.length:Int)<least):qM least (K+1) (n:Int) s=qM least K ((n/10:Nat):Int) (dch (n%10)::s):=by
 have j:(if(n:Int)>0 then some true else some (decide ((s.length:Int)<least)):Option Bool)=some true:=by
  by_cases c:(n:Int)>0
  ·rw[if_pos c]
  rw[if_neg c,decide_eq_true (by omega)]
 rw[qM,j,ZB,if_pos rfl,tm10,td10,dcut (by omega),ZB,qbg (by simp;omega),ZB,qj (by omega) (by omega)]
 rfl
theorem qfM {least:Int} {K:Nat} {s:Str} (h: ¬(s.length:Int)<least):qM least (K+1) 0 s=some s:=by
 rw[qM,if_neg (by omega),decide_eq_false h,ZB,if_neg (by simp)]
theorem qj6: ∀(k K n:Nat) (s:Str),n<10^k->s.length+k=9->k<K->qM 9 K (n:Int) s=some (qdF k n++s)
 |k,0,n,s,_,_,h=>by omega
 |0,K+1,n,s,hn,hs,h=>by
  simp at hn
  subst hn
  exact qfM (by omega)
 |k+1,K+1,n,s,hn,hs,h=>by
  have j:(10:Nat)^(k+1)<=10^9:=Nat.pow_le_pow_right (by omega) (by omega)
  rw[Nat.pow_succ]at hn
  rw[qfR (by rw[Nat.pow_succ]at j;omega) (by omega) (.inr (by omega)),qj6 k K (n/10) _ (by omega) (by simp;omega) (by omega),qdF,Yz]
  rfl
theorem qjD: ∀(k K n:Nat) (s:Str),0<n->n<10^k->n<9223372036854775808->s.length+k<=900->k<K->qM 1 K (n:Int) s=some (Lib.decDigits n++s)
 |k,0,n,s,_,_,_,_,h=>by omega
 |0,K+1,n,s,h0,hn,_,hs,h=>by simp at hn;omega
 |k+1,K+1,n,s,h0,hn,h63,hs,h=>by
  rw[Nat.pow_succ]at hn
  rw[qfR h63 (by omega) (.inl h0)]
  by_cases c:n<10
  ·obtain⟨K2,rfl⟩: ∃K2,K=K2+1:=⟨K-1,by omega⟩
   rw[show n/10=0 by omega,ja c,show n%10=n by omega]
   exact qfM (by simp;omega)
  rw[qjD k K (n/10) _ (by omega) (by omega) (by omega) (by simp;omega) (by omega),qeL c,Yz]
  rfl
theorem qmW {N n:Nat} (j:100<N) (h:n<1000000000):zB N (n:Int) 9=some (qdF 9 n):=by
 unfold zB
 rw[qj6 9 N n [] h rfl (by omega),ZB,YQ]
theorem qgM {N n:Nat} (hN:100<N) (h:n<9223372036854775808):zB N (n:Int) 1=some (Lib.decDigits n):=by
 unfold zB
 rcases Nat.eq_zero_or_pos n with e|e
 ·subst e
  obtain⟨K,rfl⟩: ∃K,N=K+1+1:=⟨N-2,by omega⟩
  have u:=qfR (least:=1) (K:=K+1) (n:=0) (s:=[]) (by omega) (by simp) (.inr (by simp))
  rw[u,Nat.zero_div]
  have j:=qfM (least:=1) (K:=K) (s:=[dch (0%10)]) (by simp)
  have j:qM 1 (K+1) ((0:Nat):Int) [dch (0%10)]=_:=j
  rw[j,ZB,ja (by decide)]
 rw[qjD 19 N n [] e (by omega) h (by simp) (by omega),ZB,YQ]
theorem qgW: ∀k:Nat,E9^k=((10^(9*k):Nat):Int)
 |0=>rfl
 |k+1=>by
  rw[Int.pow_succ,qgW k,Nat.mul_succ,Nat.pow_add,Int.natCast_mul]
  rfl
def nv (w:List Int):Nat:=(dv E9 w).toNat
theorem qjb {w:List Int} (h:Dg E9 w):(nv w:Int)=dv E9 w:=by
 have:=qC E0 h
 unfold nv
 omega
theorem nv_lt {w:List Int} (h:Dg E9 w):nv w<10^(9*w.length):=by
 have j:=yF E0 h
 rw[qgW,<-qjb h]at j
 omega
theorem qib {w:List Int} (h:Dg E9 w):(Lib.decDigits (nv w)).length<=9*w.length+1:=by
 refine(yH (by omega)).2 ?_
 have:=nv_lt h
 rw[Nat.pow_succ]
 omega
theorem qli {w:List Int} (h:Dg E9 w) {i:Nat} (hi:i<w.length):nv (w.drop i)=w[i].toNat+1000000000*nv (w.drop (i+1)):=by
 have j:=qjb (h.drop i)
 have u:=qjb (h.drop (i+1))
 have h3:=(h.at hi).1
 rw[qg5 w hi]at j
 have h4:E9*dv E9 (w.drop (i+1))=1000000000*dv E9 (w.drop (i+1)):=rfl
 omega
theorem qjM {N:Nat} (hN:100<N) {a:qB} (u:Dg E9 a.w) (a0:a.w.length<=100000): ∀(K i:Nat),i<=a.w.length->i<K->0<nv (a.w.drop i)->vN N a K (Lib.decDigits (nv (a.w.drop i))) ((i:Int)-1)=some (Lib.decDigits (nv a.w))
 |0,i,_,h,_=>by omega
 |K+1,0,_,_,_=>by
  rw[vN,if_neg (by omega),YR]
 |K+1,i+1,hi,h,hp=>by
  have j:i<a.w.length:=by omega
  have ax:=u.at j
  have ax2:a.w[i]<1000000000:=ax.2
  have ei:((i+1:Nat):Int)-1=(i:Int):=by omega
  have ed:a.w[i]=(a.w[i].toNat:Int):=by omega
  have el:=qli u j
  have ll:=qib (u.drop (i+1))
  rw[YJ]at ll
  rw[vN,ei,if_pos (by omega),qz,Ya j,ZB]
  have e9:zB N a.w[i] 9=some (qdF 9 a.w[i].toNat):=by
   conv=>lhs;rw[ed]
   exact qmW hN (by omega)
  rw[e9,ZB,qbg (by rw[qhL];omega),ZB,qj (by omega) (by omega)]
  have a1:Lib.decDigits (nv (a.w.drop (i+1)))++qdF 9 a.w[i].toNat=Lib.decDigits (nv (a.w.drop i)):=by
   have h9:(10:Nat)^9=1000000000:=rfl
   have q:nv (a.w.drop i)/10^9=nv (a.w.drop (i+1)):=by rw[h9];omega
   have r:nv (a.w.drop i)%10^9=a.w[i].toNat:=by rw[h9];omega
   rw[qhX 9 (nv (a.w.drop i)) (by rw[q];exact hp),q,r]
  rw[a1]
  exact qjM hN u a0 K i (by omega) (by omega) (by omega)
theorem yg {z:Int} (h:z<0):Lib.itoa z=45::Lib.decDigits z.natAbs:=by unfold Lib.itoa;rw[if_pos h]
theorem zK {z:Int} (h: ¬z<0):Lib.itoa z=Lib.decDigits z.natAbs:=by
 unfold Lib.itoa
 rw[if_neg h,show z.toNat=z.natAbs by omega]
theorem qgj {N:Nat} (hN:60000<N) {z:Int} (h:zJ z 50000):xV N (rI z)=some (Lib.itoa z):=by
 obtain⟨c,e⟩:=qfW z
 have l:(rI z).w.length<=50000:=h.len
 have en:nv (rI z).w=z.natAbs:=by unfold nv;rw[e];omega
 have ng:(rI z).neg=decide (z<0):=rfl
 unfold xV
 by_cases h0:(rI z).w.length=0
 ·have j:z=0:=by
   rw[YL.1 h0,kC]at e
   omega
  rw[if_pos (by omega),j]
  have:Lib.itoa 0=[48]:=by rw[zK (by decide)];exact ja (by decide)
  rw[this]
 have u:(rI z).w.length-1<(rI z).w.length:=by omega
 have ax:=c.1.at u
 have ax2:(rI z).w[(rI z).w.length-1]<1000000000:=ax.2
 have an:(rI z).w[(rI z).w.length-1]≠0:=c.2 _ (by rw[List.getLast?_eq_getElem?];exact Ya u)
 have ed:(rI z).w[(rI z).w.length-1]=((rI z).w[(rI z).w.length-1].toNat:Int):=by omega
 have e1:nv ((rI z).w.drop ((rI z).w.length-1))=(rI z).w[(rI z).w.length-1].toNat:=by
  rw[qli c.1 u,List.drop_of_length_le (by omega)]
  rfl
 have e2:zB N (rI z).w[(rI z).w.length-1] 1=some (Lib.decDigits (nv ((rI z).w.drop ((rI z).w.length-1)))):=by
  conv=>lhs;rw[ed]
  rw[e1]
  exact qgM (by omega) (by omega)
 have e3:=qjM (N:=N) (by omega) c.1 (by omega) N ((rI z).w.length-1) (by omega) (by omega) (by rw[e1];omega)
 have ll:=qib c.1
 rw[if_neg (by omega),qiG (by omega) (by omega),qz,Ya u,ZB,e2,ZB,show w64 (((rI z).w.length:Int)-2)=(((rI z).w.length-1:Nat):Int)-1 by rw[qj (by omega) (by omega)];omega,e3,ZB,ng]
 by_cases j:z<0
 ·rw[decide_eq_true j,if_pos rfl,qbg (by simp;omega),ZB,yg j,en]
  rfl
 rw[decide_eq_false j,if_neg (by simp),zK j,en]
theorem qjF {s:Str} (u:s.all vP=true) (hl:s.length<=18): ∀(K i:Nat),i<=s.length->s.length<K+i->jQ s K ((qO 0 (s.take i):Nat):Int) (i:Int)=some ((qO 0 s:Nat):Int)
 |0,i,h,hK=>by omega
 |K+1,i,h,hK=>by
  rw[jQ]
  by_cases hi:i<s.length
  ·have ht:s.take (i+1)=s.take i++[s[i]]:=List.take_succ_eq_append_getElem hi
   have j:vP s[i]=true:=Yp.1 u _ (List.getElem_mem hi)
   obtain⟨_,a2⟩:=qlT j
   have a0:48<=s[i].toNat:=by
    unfold vP at j
    rw[Bool.and_eq_true,decide_eq_true_eq]at j
    exact j.1
   have hv:=qes (s.take i) 0 (Yp.2 fun x hx=>Yp.1 u x (List.mem_of_mem_take hx))
   have hp:(10:Nat)^(s.take i).length<=10^17:=Nat.pow_le_pow_right (by omega) (by rw[Ym];omega)
   have a1:(10:Nat)^17=100000000000000000:=rfl
   rw[if_pos (by omega),qz,Ya hi,ZB,qj (n:=10*((qO 0 (s.take i):Nat):Int)) (by omega) (by omega),qj (n:=(s[i].toNat:Int)) (by omega) (by omega),qj (n:=10*((qO 0 (s.take i):Nat):Int)+(s[i].toNat:Int)) (by omega) (by omega),qj (by omega) (by omega),zV (by omega)]
   have e:10*((qO 0 (s.take i):Nat):Int)+(s[i].toNat:Int)-48=((qO 0 (s.take (i+1)):Nat):Int):=by rw[ht,qfZ];omega
   rw[e]
   exact qjF u hl K (i+1) (by omega) (by omega)
  rw[if_neg (by omega),List.take_of_length_le (by omega)]
theorem qfb {N:Nat} (u:100<N) {s:Str} (h:s.all vP=true) (j:s.length<=18):y8 N s=some ((qO 0 s:Nat):Int):=by
 have e:=qjF h j N 0 (by omega) (by omega)
 have e:jQ s N 0 0=_:=e
 unfold y8
 rw[e,ZB]
theorem qhP {s:Str} (h:s.all vP=true) (k:Nat):(s.take k).all vP=true:=Yp.2 fun x hx=>Yp.1 h x (List.mem_of_mem_take hx)
theorem qhk {s:Str} (h:s.all vP=true) (k:Nat):(s.drop k).all vP=true:=Yp.2 fun x hx=>Yp.1 h x (List.mem_of_mem_drop hx)
theorem qku {N:Nat} (hN:100<N): ∀(K:Nat) (l:List Int) (s:Str),s.all vP=true->l.length+s.length<=90000->s.length<K->Dg E9 l->
 ∃j s',vT N K l s=some (j,s')/\s'.length<=9/\s'.all vP=true/\Dg E9 j/\j.length<=90000/\dv E9 j+E9^j.length*(qO 0 s':Nat)=dv E9 l+E9^l.length*(qO 0 s:Nat)
 |0,l,s,_,_,h,_=>by omega
 |K+1,l,s,hd,hl,h,hg=>by
  rw[vT]
  by_cases c:s.length>9
  ·have lu:(s.drop (s.length-9)).length=9:=by rw[YJ];omega
   have hv:=qfb (N:=N) hN (qhk hd (s.length-9)) (by omega)
   have u:=qes _ 0 (qhk hd (s.length-9))
   rw[lu]at u
   rw[if_pos (by omega),show w64 ((s.length:Int)-9)=((s.length-9:Nat):Int)by rw[qj (by omega) (by omega)];omega,xY (by omega),ZB,hv,ZB,qcz (by simp;omega) (by simp;omega),ZB,yI (by omega),ZB]
   obtain⟨j,s',f1,f2,f3,f4,f5,f6⟩:=qku hN K (l++[((qO 0 (s.drop (s.length-9)):Nat):Int)]) (s.take (s.length-9)) (qhP hd _) (by simp;omega) (by rw[Ym];omega) (hg.append (Dg.cons ⟨by omega,show((qO 0 (s.drop (s.length-9)):Nat):Int)<1000000000 by omega⟩ Dg.nil))
   refine⟨j,s',f1,f2,f3,f4,f5,?_⟩
   rw[f6,qeo,Yq,List.length_singleton,Int.pow_succ,Int.mul_assoc]
   have e:qO 0 s=qO 0 (s.take (s.length-9))*1000000000+qO 0 (s.drop (s.length-9)):=by
    have:=qdP (s.take (s.length-9)) (s.drop (s.length-9))
    rw[YS,lu]at this
    exact this
   have e2:((qO 0 s:Nat):Int)=((qO 0 (s.drop (s.length-9)):Nat):Int)+E9*((qO 0 (s.take (s.length-9)):Nat):Int):=by
    have h4:E9*((qO 0 (s.take (s.length-9)):Nat):Int)=1000000000*((qO 0 (s.take (s.length-9)):Nat):Int):=rfl
    omega
   rw[e2,Int.mul_add]
   omega
  rw[if_neg (by omega)]
  exact⟨l,s,rfl,by omega,hd,hg,by omega,rfl⟩
def sgn (s:Str):Bool:=decide (s[0]? =some 45)
def bdy (s:Str):Str:=if sgn s=true then s.drop 1 else s
theorem qft (s:Str):(if(s.length:Int)>0 then(idx s 0).bind fun c=>some (decide ((c.toNat:Int)=45))else some false:Option Bool)=some (sgn s):=by
 unfold sgn
 cases s with
 |nil=>rfl
 |cons c t=>
  rw[if_pos (by simp),qbr]
  have e:((c.toNat:Int)=45)↔(some c=some (45:UInt8)):=⟨fun h=>congrArg some (UInt8.toNat_inj.1 (show c.toNat=45 by omega)),fun h=>by rw[Ye h];rfl⟩
  simp only[Yj,ZB]
  congr 1
  exact decide_eq_decide.2 e
theorem qlc (s:Str):(if sgn s=true then(cut s 1 (s.length:Int)).bind fun x=>some x else some s:Option Str)=some (bdy s):=by
 unfold bdy
 cases h:sgn s with
 |false=>rw[if_neg (by simp),if_neg (by simp)]
 |true=>
  have j:1<=s.length:=by
   cases s with
   |nil=>simp[sgn]at h
   |cons=>simp
  have:=xY j
  have e:cut s 1 (s.length:Int)=some (s.drop 1):=this
  rw[if_pos rfl,if_pos rfl,e,ZB]
def qjn (s:Str):Int:=if sgn s=true then-((qO 0 (bdy s):Nat):Int)else((qO 0 (bdy s):Nat):Int)
theorem qfy {N:Nat} (hN:100000<N) {s:Str} (hd:(bdy s).all vP=true) (hl:(bdy s).length<=80000):yw N s=some (rI (qjn s)):=by
 unfold yw
 rw[qft,ZB,qlc,ZB]
 obtain⟨l,t,f1,u,h,f4,f5,f6⟩:=qku (N:=N) (by omega) N [] (bdy s) hd (by simp;omega) (by omega) Dg.nil
 have hv:=qfb (N:=N) (by omega) h (by omega)
 have hv2:=qes _ 0 h
 have hp:(10:Nat)^t.length<=10^9:=Nat.pow_le_pow_right (by omega) u
 rw[f1,ZB]
 simp only
 have j:=f4.append (r:=[((qO 0 t:Nat):Int)]) (Dg.cons ⟨by omega,show((qO 0 t:Nat):Int)<1000000000 by omega⟩ Dg.nil)
 rw[hv,ZB,qcz (by simp;omega) (by simp;omega),ZB,vQ _ j (by simp;omega) (by simp;omega),ZB,qeo,f6]
 simp only[kC,List.length_nil,Int.pow_zero,Int.one_mul,Int.zero_add]
 rfl
theorem qhN (z:Int):sgn (Lib.itoa z)=decide (z<0):=by
 unfold sgn
 by_cases h:z<0
 ·rw[yg h,decide_eq_true h];rfl
 rw[zK h,decide_eq_false h]
 refine decide_eq_false fun e=>?_
 have j:(45:UInt8)∈Lib.decDigits z.natAbs:=Yn e
 have:=Yp.1 (qaB z.natAbs) _ j
 exact absurd this (by decide)
theorem qcg (z:Int):bdy (Lib.itoa z)=Lib.decDigits z.natAbs:=by
 unfold bdy
 rw[qhN]
 by_cases h:z<0
 ·rw[decide_eq_true h,if_pos rfl,yg h];rfl
 rw[decide_eq_false h,if_neg (by simp),zK h]
theorem qcJ (z:Int):qjn (Lib.itoa z)=z:=by
 unfold qjn
 rw[qhN,qcg,qbA]
 by_cases h:z<0
 ·rw[decide_eq_true h,if_pos rfl];omega
 rw[decide_eq_false h,if_neg (by simp)];omega
def slA:Str->Nat
 |[]=>0
 |c::s=>if c=47 then 0 else slA s+1
theorem qfH: ∀s:Str,slA s<=s.length
 |[]=>Nat.le_refl _
 |c::s=>by
  rw[slA,Yr]
  have:=qfH s
  split<;>omega
theorem qj2 {s:Str} (u:s.length<=1000000): ∀(K i:Nat),i<=s.length->s.length<K+i->jU s K (i:Int)=some (if i+slA (s.drop i)<s.length then .inr ((i+slA (s.drop i):Nat):Int)else .inl ())
 |0,i,h,hK=>by omega
 |K+1,i,h,hK=>by
  rw[jU]
  by_cases hi:i<s.length
  ·have j:s.drop i=s[i]::s.drop (i+1):=YG hi
   rw[if_pos (by omega),qz,Ya hi,ZB,j,slA]
   by_cases c:s[i]=47
   ·rw[if_pos c,if_pos (by rw[c];rfl),Nat.add_zero,if_pos hi]
   rw[if_neg c,if_neg (fun e=>c (UInt8.toNat_inj.1 (show s[i].toNat=47 by omega))),zV (by omega),qj2 u K (i+1) (by omega) (by omega),show i+1+slA (s.drop (i+1))=i+(slA (s.drop (i+1))+1)by omega]
  rw[if_neg (by omega),List.drop_of_length_le (by omega),if_neg (by omega)]
theorem qbu {N:Nat} {s:Str} (j:s.length<=1000000) (u:s.length<N):vL N s=some (slA s:Int):=by
 have e:=qj2 j N 0 (by omega) (by omega)
 have e:jU s N 0=_:=e
 have h:=qfH s
 unfold vL
 rw[e,YR,Nat.zero_add]
 by_cases c:slA s<s.length
 ·rw[if_pos c];rfl
 rw[if_neg c]
 have:slA s=s.length:=by omega
 rw[this]
 rfl
theorem qiS: ∀(s t:Str),(∀c∈s,c≠47)->slA (s++47::t)=s.length/\slA s=s.length
 |[],t,_=>⟨by simp[slA],rfl⟩
 |c::s,t,h=>by
  have j:=qiS s t fun x hx=>h x (List.mem_cons_of_mem _ hx)
  rw[List.cons_append,slA,slA,if_neg (h c (List.mem_cons_self ..)),if_neg (h c (List.mem_cons_self ..)),j.1,j.2]
  exact⟨rfl,rfl⟩
end Go.Av
end
section
namespace Go.Av
theorem and1 {n:Nat} (h:n<4611686018427387904):qA .i64 (n:Int) 1=((n%2:Nat):Int):=by
 show IntKind.wrap .i64 _=_
 have e:(BitVec.ofInt IntKind.i64.bits (n:Int)&&&BitVec.ofInt IntKind.i64.bits 1).toNat=n%2:=by
  rw[BitVec.toNat_and]
  show(BitVec.ofInt 64 (n:Int)).toNat&&&(BitVec.ofInt 64 1).toNat=_
  rw[qbQ (by omega) (by omega),qbQ (by omega) (by omega)]
  exact Nat.and_one_is_mod n
 rw[e]
 show w64 _=_
 exact qj (by omega) (by omega)
theorem shr1 (n:Nat):qx .i64 (n:Int) 1=((n/2:Nat):Int):=by
 show(n:Int).fdiv 2=_
 rw[Int.fdiv_eq_ediv_of_nonneg _ (by decide)]
 omega
theorem qn9 {N:Nat} (hN:11000<N): ∀(K n:Nat) (b j:qf) (x y:Int) (mb ma:Nat),n<100000->n<K->IsZ b x->IsZ j y->Fit x mb->Fit y ma->ma+mb*n<=3900->
 ∃r,vo N K b.s b.w j.s j.w (n:Int)=some (r.s,r.w)/\IsZ r (y*x^n)
 |0,n,_,_,_,_,_,_,_,h,_,_,_,_,_=>by omega
 |K+1,n,b,j,x,y,mb,ma,hn,hK,hb,hacc,fx,fy,hm=>by
  rw[vo]
  by_cases h0:n=0
  ·subst h0
   rw[if_neg (by omega)]
   exact⟨j,rfl,by simpa using hacc⟩
  have hmb:mb<=mb*n:=Nat.le_mul_of_pos_right _ (by omega)
  obtain⟨m,r,hr,hmr⟩: ∃m r,r<2/\n=2*m+r:=⟨n/2,n%2,by omega,by omega⟩
  have emb:mb*n=mb*m+mb*m+mb*r:=by rw[hmr,Nat.mul_add,<-Nat.mul_assoc,Nat.mul_comm mb 2,Nat.two_mul,Nat.add_mul]
  have S1: ∃(u:qf) (m2:Nat),(if(qA .i64 (n:Int) 1)=1 then(qF N (⟨j.s,j.w⟩:qf) (⟨b.s,b.w⟩:qf)).bind fun r20=>some (r20.s,r20.w)else some (j.s,j.w):Option (Int×(List Int)))=some (u.s,u.w)/\IsZ u (y*x^r)/\Fit (y*x^r) m2/\m2=ma+mb*r:=by
   rw[and1 (by omega),show n%2=r by omega]
   rcases(show r=0\/r=1 by omega)with e|e<;>subst e
   ·rw[if_neg (by simp)]
    exact⟨j,ma,rfl,by simpa using hacc,by simpa using fy,by simp⟩
   obtain⟨p,e1,h1⟩:=qcF hN hacc hb (fy.mono (by omega)) (fx.mono (by omega))
   have e1:qF N (⟨j.s,j.w⟩:qf) (⟨b.s,b.w⟩:qf)=some p:=e1
   rw[if_pos (by simp),e1,ZB]
   exact⟨p,ma+mb,rfl,by rw[Int.pow_one];exact h1,by rw[Int.pow_one];exact ym fy fx,by simp⟩
  obtain⟨u,m2,e1,h1,f1,em2⟩:=S1
  have S2: ∃(b2:qf) (x2:Int) (m3:Nat),(if(n:Int)>1 then(qF N (⟨b.s,b.w⟩:qf) (⟨b.s,b.w⟩:qf)).bind fun r22=>some (r22.s,r22.w,u.s,u.w)else some (b.s,b.w,u.s,u.w):Option (Int×(List Int)×Int×(List Int)))=some (b2.s,b2.w,u.s,u.w)/\IsZ b2 x2/\Fit x2 m3/\m3*m=mb*m+mb*m/\x2^m=(x*x)^m:=by
   by_cases c:(n:Int)>1
   ·have hm1:1<=m:=by omega
    have h3:mb<=mb*m:=Nat.le_mul_of_pos_right _ hm1
    obtain⟨p,e2,h2⟩:=qcF hN hb hb (fx.mono (by omega)) (fx.mono (by omega))
    have e2:qF N (⟨b.s,b.w⟩:qf) (⟨b.s,b.w⟩:qf)=some p:=e2
    rw[if_pos c,e2,ZB]
    exact⟨p,x*x,mb+mb,rfl,h2,ym fx fx,Nat.add_mul _ _ _,rfl⟩
   have hm0:m=0:=by omega
   subst hm0
   rw[if_neg c]
   exact⟨b,x,mb,rfl,hb,fx,by simp,by simp⟩
  obtain⟨b2,x2,m3,e2,h2,f2,em3,ex⟩:=S2
  have S:((if(qA .i64 (n:Int) 1)=1 then(qF N (⟨j.s,j.w⟩:qf) (⟨b.s,b.w⟩:qf)).bind fun r20=>some (r20.s,r20.w)else some (j.s,j.w):Option (Int×(List Int)))).bind (fun(n16,l17)=>
   if(n:Int)>1 then(qF N (⟨b.s,b.w⟩:qf) (⟨b.s,b.w⟩:qf)).bind fun r22=>some (r22.s,r22.w,n16,l17)else some (b.s,b.w,n16,l17))=some (b2.s,b2.w,u.s,u.w):=by
   rw[e1,ZB]
   exact e2
  obtain⟨r',e3,h3⟩:=qn9 hN K m b2 u x2 (y*x^r) m3 m2 (by omega) (by omega) h2 h1 f2 f1 (by omega)
  rw[if_pos (by omega),S,ZB]
  simp only
  rw[shr1,show n/2=m by omega]
  refine⟨r',e3,?_⟩
  have hx2:x*x=x^2:=by rw[Int.pow_succ,Int.pow_succ,Int.pow_zero,Int.one_mul]
  rw[ex,Int.mul_assoc,hx2,<-Int.pow_mul,<-Int.pow_add,show r+2*m=n by omega]at h3
  exact h3
theorem qqo {N:Nat} (hN:110000<N) {b:qf} {x:Int} {n mb:Nat} (hn:n<100000) (j:IsZ b x) (fx:Fit x mb) (u:1+mb*n<=3900): ∃r,qbn N b (n:Int)=some r/\IsZ r (x^n):=by
 obtain⟨r,e,h⟩:=qn9 (N:=N) (by omega) N n b ⟨1,[]⟩ x 1 mb 1 hn (by omega) j (Ud (by decide) (by decide)) fx (F1 (by omega)) u
 have e:vo N N b.s b.w 1 [] (n:Int)=some (r.s,r.w):=e
 unfold qbn
 rw[qg8,ZB]
 simp only
 rw[e,ZB]
 exact⟨r,rfl,by rw[Int.one_mul]at h;exact h⟩
theorem qfs {z:Int} {p n:Nat} (h:(z.natAbs:Int)<((10^p:Nat):Int)) (j:p<=19*n):Fit z n:=by
 have h1:(10:Nat)^p<=10^(19*n):=Nat.pow_le_pow_right (by omega) j
 have u:((10^(19*n):Nat):Int)<=W^n:=by
  rw[Nat.pow_mul]
  have:=(qcN (x:=10000000000000000000) (y:=W) (by decide) (by decide) n).2
  rw[Int.natCast_pow]
  exact this
 unfold Fit
 omega
theorem qck (s:Str):strings_HasPrefix s [45]=some (sgn s):=by
 unfold strings_HasPrefix stringslite_HasPrefix sgn
 cases s with
 |nil=>rfl
 |cons c t=>
  rw[if_pos (by simp;omega)]
  have e:cut (c::t) 0 (([45]:Str).length:Int)=some [c]:=yI (l:=c::t) (k:=1) (by simp)
  rw[e]
  simp only[ZB,Yj]
  congr 1
  rw[Bool.eq_iff_iff,beq_iff_eq,decide_eq_true_eq]
  constructor
  ·intro h;injection h with h;rw[h]
  intro h;rw[Ye h]
theorem qjo {s:Str} (h:sgn s=true):1<=s.length:=by
 cases s with
 |nil=>simp[sgn]at h
 |cons=>simp
theorem qeA (s:Str):strings_TrimPrefix s [45]=some (bdy s):=by
 unfold strings_TrimPrefix stringslite_TrimPrefix
 have e:stringslite_HasPrefix s [45]=some (sgn s):=by
  have:=qck s
  unfold strings_HasPrefix at this
  cases h:stringslite_HasPrefix s [45]with
  |none=>rw[h]at this;cases this
  |some b=>rw[h]at this;exact this
 rw[e,ZB]
 unfold bdy
 cases h:sgn s with
 |false=>rw[if_neg (by simp),if_neg (by simp),ZB]
 |true=>
  have j:cut s (([45]:Str).length:Int) (s.length:Int)=some (s.drop 1):=xY (qjo h)
  rw[if_pos rfl,if_pos rfl,j,ZB,ZB]
theorem qiW (s:Str):strings_CutPrefix s [45]=some (bdy s,sgn s):=by
 unfold strings_CutPrefix stringslite_CutPrefix
 have e:stringslite_HasPrefix s [45]=some (sgn s):=by
  have:=qck s
  unfold strings_HasPrefix at this
  cases h:stringslite_HasPrefix s [45]with
  |none=>rw[h]at this;cases this
  |some b=>rw[h]at this;exact this
 rw[e,ZB]
 unfold bdy
 cases h:sgn s with
 |false=>rw[if_pos (by simp),if_neg (by simp),ZB]
 |true=>
  have j:cut s (([45]:Str).length:Int) (s.length:Int)=some (s.drop 1):=xY (qjo h)
  rw[if_neg (by simp),if_pos rfl,j,ZB,ZB]
theorem qlU {N:Nat} (hN:600000<N): ∀(K:Nat) (x:qf) (y:Int) (s:Str) (p:Nat),IsZ x y->0<=y->y<((10^p:Nat):Int)->p+s.length<=19000->s.all vP=true->s.length<K->
 ∃r,yX N K x.s x.w s=some (r.s,r.w)/\IsZ r (y*((10^s.length:Nat):Int)+(qO 0 s:Nat))
 |0,_,_,_,_,_,_,_,_,_,h=>by omega
 |K+1,x,y,s,p,hx,y0,y1,hp,hd,hK=>by
  rw[yX]
  by_cases h0:s.length=0
  ·rw[if_neg (by omega)]
   have:s=[]:=YL.1 h0
   subst this
   exact⟨x,rfl,by simpa[qbZ]using hx⟩
  rw[if_pos (by omega)]
  obtain⟨g,hg,hg0,hgl,hg18⟩: ∃g:Nat,(if(s.length:Int)<18 then(s.length:Int)else 18)=(g:Int)/\0<g/\g<=s.length/\g<=18:=by
   by_cases c:(s.length:Int)<18
   ·exact⟨s.length,by rw[if_pos c],by omega,by omega,by omega⟩
   exact⟨18,by rw[if_neg c];rfl,by omega,by omega,by omega⟩
  have lt:(s.take g).length=g:=by rw[Ym];omega
  have ea:=qks (s:=s.take g) (by omega) (qhP hd g)
  have et:qjN (s.take g)=some (((qO 0 (s.take g):Nat):Int),()):=by
   unfold qjN
   rw[if_pos (by omega),ea]
   rfl
  have hv:=qes (s.take g) 0 (qhP hd g)
  rw[lt]at hv
  have hp18:(10:Nat)^g<=10^18:=Nat.pow_le_pow_right (by omega) hg18
  have h18:(10:Nat)^18=1000000000000000000:=rfl
  rw[hg,yI hgl,ZB,et,ZB,qg8,ZB]
  obtain⟨r1,e1,h1⟩:=qqo (N:=N) (by omega) (b:=⟨10,[]⟩) (x:=10) (n:=g) (mb:=1) (by omega) (Ud (by decide) (by decide)) (qfs (p:=2) (by decide) (by omega)) (by omega)
  have ep:(10:Int)^g=((10^g:Nat):Int):=by rw[Int.natCast_pow];rfl
  rw[ep]at h1
  have fg:Fit ((10^g:Nat):Int) 1000:=qfs (p:=19) (by
   rw[Int.natAbs_natCast]
   have u:(10:Nat)^19=10000000000000000000:=rfl
   omega) (by omega)
  have fy:Fit y 1000:=qfs (p:=p) (by omega) (by omega)
  have hpos:0<10^g:=Nat.pow_pos (by decide)
  have yg0:0<=y*((10^g:Nat):Int):=Yv y0 (by omega)
  have j:(y+1)*((10^g:Nat):Int)<=((10^(p+g):Nat):Int):=by
   rw[Nat.pow_add,Int.natCast_mul]
   exact Int.mul_le_mul_of_nonneg_right (by omega) (by omega)
  rw[Int.add_mul,Int.one_mul]at j
  obtain⟨r2,e2,h2⟩:=qcF (N:=N) (by omega) hx h1 (fy.mono (by omega)) (fg.mono (by omega))
  have e2:qF N (⟨x.s,x.w⟩:qf) r1=some r2:=e2
  have hd2:IsZ ⟨((qO 0 (s.take g):Nat):Int),[]⟩ ((qO 0 (s.take g):Nat):Int):=Ud (by omega) (by omega)
  obtain⟨r3,e3,h3⟩:=qhf (N:=N) (by omega) h2 hd2 (qfs (p:=p+g) (by omega) (by omega)) (qfs (p:=19) (by
   rw[Int.natAbs_natCast]
   have u:(10:Nat)^19=10000000000000000000:=rfl
   omega) (by omega))
  rw[e1,ZB,e2,ZB,qg8,ZB,e3,ZB,xY hgl,ZB]
  have ld:(s.drop g).length=s.length-g:=by rw[YJ]
  obtain⟨r,e4,h4⟩:=qlU hN K r3 _ (s.drop g) (p+g) h3 (by omega) (by omega) (by omega) (qhk hd g) (by omega)
  refine⟨r,e4,?_⟩
  have e5:=qdP (s.take g) (s.drop g)
  rw[YS]at e5
  have e6:(10:Nat)^s.length=10^g*10^(s.drop g).length:=by rw[<-Nat.pow_add,ld];congr 1;omega
  rw[e5,e6]
  rw[Int.add_mul]at h4
  rw[Int.natCast_mul,Int.natCast_add,Int.natCast_mul,<-Int.mul_assoc,<-Int.add_assoc]
  exact h4
theorem qgB {N:Nat} (hN:600000<N) {s:Str} (hd:(bdy s).all vP=true) (hl:(bdy s).length<=19000): ∃r,qa1 N s=some r/\IsZ r (qjn s):=by
 obtain⟨r,e,h⟩:=qlU hN N ⟨0,[]⟩ 0 (bdy s) 0 (Ud (by decide) (by decide)) (by omega) (by decide) (by omega) hd (by omega)
 have e:yX N N 0 [] (bdy s)=some (r.s,r.w):=e
 rw[Int.zero_mul,Int.zero_add]at h
 unfold qa1
 rw[qck,ZB,qeA,ZB,e,ZB]
 unfold qjn
 cases hs:sgn s with
 |false=>
  rw[if_neg (by simp)]
  exact⟨r,rfl,by simpa using h⟩
 |true=>
  obtain⟨u,j,h2⟩:=qf0 h
  have j:zx (⟨r.s,r.w⟩:qf)=some u:=j
  simp only[if_true]
  rw[j]
  exact⟨u,rfl,h2⟩
end Go.Av
end
section
namespace Go.Av
theorem ql8: ∀n:Nat,Lib.repeatL [48] n=List.replicate n 48
 |0=>rfl
 |n+1=>by rw[Lib.repeatL,ql8,List.replicate_succ];rfl
theorem qip: ∀k:Nat,qdF k 0=List.replicate k 48
 |0=>rfl
 |k+1=>by
  rw[qdF,Nat.zero_div,qip k,List.replicate_succ']
  rfl
theorem qkb: ∀(k n:Nat),n<10^(k+1)->qdF (k+1) n=List.replicate (k+1-(Lib.decDigits n).length) 48++Lib.decDigits n
 |0,n,h=>by
  have h:n<10:=by simpa using h
  rw[ja h,qdF,qdF,Nat.mod_eq_of_lt h]
  rfl
 |k+1,n,h=>by
  rw[qdF]
  by_cases c:n<10
  ·rw[ja c,Nat.div_eq_of_lt c,qip,Nat.mod_eq_of_lt c]
   rfl
  rw[Nat.pow_succ]at h
  rw[qkb k (n/10) (by omega),qeL c,Yz,Yq,List.length_singleton,show k+1+1-((Lib.decDigits (n/10)).length+1)=k+1-(Lib.decDigits (n/10)).length by omega]
theorem qek (n:Nat):Lib.itoa (n:Int)=Lib.decDigits n:=by rw[zK (by omega),Int.natAbs_natCast]
theorem qoO {r:Nat} (h:r<1000000000000000000) (c: ¬r=0):dg W (r:Int)=[(r:Int)]:=by
 rw[qhD (by omega) (by unfold W;omega)]
theorem qoT {r:Nat} (h:r<1000000000000000000):qhW (r:Int) 10=some (Lib.decDigits r):=by
 unfold qhW
 rw[if_pos ⟨by omega,by omega,rfl⟩,qek]
theorem qmN:(if((dg W ((0:Nat):Int)).length:Int)>0 then(idx (dg W ((0:Nat):Int)) 0).bind fun x13=>(qhW x13 10).bind fun r14=>some r14 else some [48]:Option Str)=some (Lib.decDigits 0):=by
 rw[show((0:Nat):Int)=0 from rfl,qdq,if_neg (by simp),ja (by decide)]
 rfl
theorem qpu {r:Nat} (h:r<1000000000000000000):(if((dg W (r:Int)).length:Int)>0 then(idx (dg W (r:Int)) 0).bind fun x13=>(qhW x13 10).bind fun r14=>some r14 else some [48]:Option Str)=some (Lib.decDigits r):=by
 by_cases c:r=0
 ·rw[c]
  exact qmN
 rw[qoO h c,if_pos (show((([(r:Int)]:List Int).length:Nat):Int)>0 from by rw[List.length_singleton];decide),qbr,Yj,ZB,qoT h]
 rfl
theorem p18:(10:Nat)^18=1000000000000000000:=rfl
theorem qpf {q r:Nat} (h:r<1000000000000000000): ∃t:Str,(if((dg W (q:Int)).length:Int)>0 then(qeq [48] (w64 (18-((Lib.decDigits r).length:Int)))).bind fun r18=>(cat r18 (Lib.decDigits r)).bind fun s19=>some s19 else some (Lib.decDigits r):Option Str)=some t/\0<t.length/\Lib.decDigits (1000000000000000000*q+r)=(if q=0 then[]else Lib.decDigits q)++t:=by
 have hr:r<10^18:=by rw[p18];exact h
 have lD:(Lib.decDigits r).length<=18:=(yH (by decide)).2 hr
 have j:=qfK r
 by_cases c:q=0
 ·subst c
  rw[show((0:Nat):Int)=0 from rfl,qdq,if_neg (by simp),if_pos rfl,Nat.mul_zero,Nat.zero_add]
  exact⟨_,rfl,j,rfl⟩
 have u:dg W (q:Int)≠[]:=fun e=>by have:=(qgX W1 (by omega)).1 e;omega
 have hlen:0<(dg W (q:Int)).length:=List.length_pos_iff.2 u
 have et:qeq [48] (w64 (18-((Lib.decDigits r).length:Int)))=some (List.replicate (18-(Lib.decDigits r).length) 48):=by
  rw[qj (by omega) (by omega)]
  unfold qeq
  rw[if_pos ⟨by omega,by omega,by simp;omega⟩,ql8]
  congr 2
  omega
 have hp:=qkb 17 r hr
 have hl:(qdF (17+1) r).length=18:=qhL _ _
 have hs:=qhX 18 (1000000000000000000*q+r)
 rw[p18,Nat.mul_add_div (by omega),Nat.div_eq_of_lt h,Nat.add_zero,Nat.mul_add_mod,Nat.mod_eq_of_lt h]at hs
 rw[if_pos (by omega),et,ZB,qbg (by simp;omega),ZB,<-hp,if_neg c]
 exact⟨_,rfl,by omega,hs (by omega)⟩
theorem qqu {N:Nat} (hN:600000<N) (B:Nat) (hB:B<=3900) (K:Nat): ∀(k m:Nat) (l:List Str),m<10^(18*k)->k<K->k+l.length<=100000->Fit (m:Int) B->(∀t∈l,0<t.length)->
 ∃l',jd N K l (dg W (m:Int))=some l'/\(∀t∈l',0<t.length)/\l'.length<=k+l.length/\l'.reverse.flatten=(if m=0 then[]else Lib.decDigits m)++l.reverse.flatten:=by
 induction K with
 |zero=>intro k m l _ h;omega
 |succ K ih=>
  intro k m l hm hK hl fm hp
  rw[jd]
  by_cases h0:m=0
  ·subst h0
   rw[show((0:Nat):Int)=0 from rfl,qdq,if_neg (by simp),if_pos rfl]
   exact⟨l,rfl,hp,by omega,rfl⟩
  obtain⟨j,hj⟩: ∃j,k=j+1:=⟨k-1,by
   rcases Nat.eq_zero_or_pos k with e|e
   ·subst e;simp at hm;omega
   omega⟩
  rw[hj]at hm hK hl
  have a0:(0:Int)<=(m:Int):=by omega
  have hne:dg W (m:Int)≠[]:=fun e=>by have:=(qgX W1 a0).1 e;omega
  have hlen:0<(dg W (m:Int)).length:=List.length_pos_iff.2 hne
  have ln:(dg W (m:Int)).length<=3900:=Nat.le_trans fm.len hB
  have cB:Can W [1000000000000000000]:=by
   have:=zy W1 (show(0:Int)<=1000000000000000000 by decide)
   rw[qhD (by decide) (by decide)]at this
   exact this
  have vB:dv W [1000000000000000000]=1000000000000000000:=by rw[zg,kC,Int.mul_zero,Int.add_zero]
  have ed:=qiD (N:=N) (by omega) (zy W1 a0) cB (by omega) (by rw[vB];decide)
  rw[vB,jh W1 a0]at ed
  obtain⟨q,r,hq,hr⟩: ∃q r,m=1000000000000000000*q+r/\r<1000000000000000000:=⟨m/1000000000000000000,m%1000000000000000000,by omega,by omega⟩
  have eq:(m:Int)/1000000000000000000=(q:Int):=by omega
  have er:(m:Int)%1000000000000000000=(r:Int):=by omega
  rw[eq,er]at ed
  obtain⟨t,et,t0,eD⟩:=qpf (q:=q) hr
  rw[<-hq]at eD
  rw[if_pos (by omega),ed,ZB]
  simp only
  rw[qpu hr,ZB,et,ZB,qcz (by simp;omega) (by simp;omega),ZB]
  have hk:q<10^(18*j):=by
   rw[Nat.mul_succ,Nat.pow_add,p18,Nat.mul_comm]at hm
   refine Nat.lt_of_mul_lt_mul_left (a:=1000000000000000000) ?_
   omega
  obtain⟨l',f1,f2,f3,f4⟩:=ih j q (l++[t]) hk (by omega) (by simp;omega) (qa0 (by omega) fm) (fun u hu=>by
   rcases List.mem_append.1 hu with hu|hu
   ·exact hp u hu
   rw[List.mem_singleton.1 hu];exact t0)
  refine⟨l',f1,f2,by simp at f3;omega,?_⟩
  rw[f4,if_neg h0,eD,List.reverse_append,List.flatten_append,Yz]
  simp
def byN (s:Str):List Int:=s.map fun x=>(x.toNat:Int)
theorem qgA (s:Str):(byN s).length=s.length:=by unfold byN;rw[List.length_map]
theorem qoN {l:List Str} (hp: ∀t∈l,0<t.length) (hl:l.length<=100000): ∀(K i:Nat) (o:Option (List Int)),i<=l.length->i<K->(hof o).length+(l.take i).flatten.length<=1000000000->
 ∃u,ze l K o.isSome o ((i:Int)-1)=some (u.isSome,u)/\hof u=hof o++byN (l.take i).reverse.flatten
 |0,i,o,_,h,_=>by omega
 |K+1,0,o,hi,h,hb=>by
  rw[ze,if_neg (by omega)]
  exact⟨o,rfl,by simp[byN]⟩
 |K+1,i+1,o,hi,h,hb=>by
  have j:i<l.length:=by omega
  have ei:((i+1:Nat):Int)-1=(i:Int):=by omega
  have ht:l.take (i+1)=l.take i++[l[i]]:=List.take_succ_eq_append_getElem j
  have h1:=hp l[i] (List.getElem_mem j)
  rw[ht,List.flatten_append,Yq]at hb
  simp only[List.flatten_cons,List.flatten_nil,YQ]at hb
  have ew:bWr o.isSome o l[i]=some (hof o++byN l[i]):=by
   unfold bWr
   rw[if_pos ⟨rfl,by omega,h1⟩]
   rfl
  rw[ze,ei,if_pos (by omega),qz,Ya j,ZB,ew,ZB,qj (by omega) (by omega)]
  obtain⟨u,f1,f2⟩:=qoN hp hl K i (some (hof o++byN l[i])) (by omega) (by omega) (by
   show(hof o++byN l[i]).length+_<=_
   rw[Yq,qgA];omega)
  refine⟨u,f1,?_⟩
  rw[f2,ht,List.reverse_append,List.flatten_append]
  show hof o++byN l[i]++_=_
  rw[Yz]
  unfold byN
  simp
theorem qnz (s:Str):(byN s).map (fun n=>UInt8.ofNat n.toNat)=s:=by
 unfold byN
 rw[List.map_map]
 conv=>rhs;rw[<-List.map_id s]
 refine List.map_congr_left fun x _=>?_
 show UInt8.ofNat ((x.toNat:Int)).toNat=x
 rw[Int.toNat_natCast,UInt8.ofNat_toNat]
theorem qph (s:Str):(byN s).all (fun n=>decide (0<=n)&&decide (n<256))=true:=by
 unfold byN
 rw[List.all_map,Yp]
 intro x _
 have:x.toNat<256:=x.toNat_lt
 simp
 omega
theorem qjd: ∀l:List Str,l.reverse.flatten.length=l.flatten.length:=fun l=>by
 rw[List.length_flatten,List.length_flatten,List.map_reverse,List.sum_reverse]
theorem qeg {N:Nat} (hN:600000<N) {x:qf} {z:Int} (h:IsZ x z) (fz:Fit z 3900):jR N x=some (Lib.itoa z):=by
 unfold jR
 cases e:x.w.isEmpty with
 |true=>
  obtain⟨u,h2,h3⟩:=h.emp e
  rw[if_pos rfl,u]
  unfold qlS
  rw[if_pos ⟨h2,h3⟩,ZB]
 |false=>
  have hz:z.natAbs≠0:=by
   rcases h with⟨hw,_⟩|⟨_,_,u,_⟩
   ·rw[hw]at e;cases e
   omega
  obtain⟨B8,hB8⟩: ∃B8:Nat,B8=8000:=⟨_,rfl⟩
  have pw:((10^(18*B8):Nat):Int)=(1000000000000000000:Int)^B8:=by
   rw[Nat.pow_mul,Int.natCast_pow]
   rfl
  have hm:z.natAbs<10^(18*B8):=by
   have u:W^3900<=(1000000000000000000:Int)^B8:=by
    have a1:(1000000000000000000:Int)^B8=((1000000000000000000:Int)^2)^4000:=by rw[<-Int.pow_mul,hB8]
    have a2:W^4000<=((1000000000000000000:Int)^2)^4000:=(qcN (by decide) (by decide) 4000).2
    have a3:W^3900<=W^4000:=yo (by decide) (by decide)
    rw[a1]
    exact Int.le_trans a3 a2
   rw[<-pw]at u
   unfold Fit at fz
   omega
  obtain⟨l,f1,f2,f3,f4⟩:=qqu hN 3900 (Nat.le_refl _) N B8 z.natAbs [] hm (by omega) (by simp;omega) (by unfold Fit;rw[Int.natAbs_natCast];exact fz) (fun t ht=>by cases ht)
  rw[if_neg hz]at f4
  simp only[List.reverse_nil,List.flatten_nil,YQ,List.length_nil,Nat.add_zero]at f3 f4
  have lD:(Lib.decDigits z.natAbs).length<=18*B8:=(yH (by omega)).2 hm
  have lf:l.flatten.length<=18*B8:=by rw[<-qjd,f4];exact lD
  have lpos:=qfK z.natAbs
  rw[if_neg (by simp),parts_eq h,ZB]
  simp only
  rw[f1,ZB]
  have el:w64 ((l.length:Int)-1)=(l.length:Int)-1:=qj (by omega) (by omega)
  have j: ∀(o:Option (List Int)) (pre:Str),hof o=byN pre->pre.length<=10->((ze l N o.isSome o (w64 ((l.length:Int)-1))).bind fun(ok30,o31)=>(qme ok30 o31).bind fun t38=>some t38)=some (pre++Lib.decDigits z.natAbs):=by
   intro o pre ho hpre
   obtain⟨o',g1,g2⟩:=qoN f2 (by omega) N l.length o (Nat.le_refl _) (by omega) (by rw[ho,qgA,List.take_of_length_le (Nat.le_refl _)];omega)
   rw[List.take_of_length_le (Nat.le_refl _),f4,ho]at g2
   have g3:hof o'=byN (pre++Lib.decDigits z.natAbs):=by
    rw[g2]
    unfold byN
    rw[List.map_append]
   have hs:o'.isSome=true:=by
    cases o' with
    |none=>
     have:=congrArg List.length g3
     rw[qgA,Yq]at this
     simp at this
     omega
    |some q=>rfl
   rw[el,g1,ZB]
   simp only
   unfold qme
   rw[if_pos ⟨hs,by rw[g3,qgA,Yq];omega,by rw[g3];exact qph _⟩,g3,qnz,ZB]
  by_cases c:z<0
  ·have eb:bWr false (none:Option (List Int)) [45]=some [45]:=rfl
   rw[decide_eq_true c,if_pos rfl,eb,ZB,ZB]
   simp only
   have:=j (some [45]) [45] rfl (by simp)
   rw[yg c]
   exact this
  rw[decide_eq_false c,if_neg (by simp),ZB]
  simp only
  have:=j none [] rfl (by simp)
  rw[zK c]
  exact this
end Go.Av
end
section
namespace Go.Av
theorem qpA {x:qf} {z:Int} (h:IsZ x z) (fz:Fit z 3900): ∃b:Nat,qa2 x=some (b:Int)/\(z.natAbs:Int)<2^b:=by
 unfold qa2
 rw[parts_eq h,ZB]
 simp only
 have hz:(0:Int)<=(z.natAbs:Int):=by omega
 have cc:=zy W1 hz
 have vv:=jh W1 hz
 have ll:=fz.len
 generalize dg W (z.natAbs:Int)=w at*
 by_cases h0:w.length=0
 ·rw[if_pos (by omega)]
  rw[YL.1 h0,kC]at vv
  exact⟨0,rfl,by rw[<-vv];decide⟩
 have hk:w.length-1<w.length:=by omega
 have ax:=cc.1.at hk
 obtain⟨l,e,hl⟩:=qjs ax.1 ax.2
 have hl0:0<=l/\l<=64:=by
  rcases hl with⟨_,h⟩|⟨u,j,_⟩<;>omega
 have hl2:w[w.length-1]<2^l.toNat:=by
  rcases hl with⟨u,j⟩|⟨_,_,_,h⟩
  ·rw[u,j];decide
  exact h
 rw[if_neg (by omega),qiG (by omega) (by omega),qz,Ya hk,ZB,e,ZB,qj (n:=64*((w.length-1:Nat):Int)) (by omega) (by omega),qj (by omega) (by omega)]
 refine⟨64*(w.length-1)+l.toNat,by congr 1;omega,?_⟩
 have e1:=qw W w (w.length-1) hk
 rw[List.take_of_length_le (by omega),vv]at e1
 have u:=yF W0 (cc.1.take (w.length-1))
 rw[Ym,Nat.min_eq_left (by omega)]at u
 have e2:(2:Int)^(64*(w.length-1)+l.toNat)=W^(w.length-1)*2^l.toNat:=by
  rw[Int.pow_add,Int.pow_mul]
  rfl
 have j:W^(w.length-1)*(w[w.length-1]+1)<=W^(w.length-1)*2^l.toNat:=Yc (by omega) (Int.le_of_lt (pow_pos W0 _))
 rw[Int.mul_add,Int.mul_one]at j
 rw[e2]
 omega
theorem pow8: ∀n:Nat,(8:Int)^(n+1)<((10^(n+1):Nat):Int)
 |0=>by decide
 |n+1=>by
  have h:=pow8 n
  have j:=pow_pos (show(0:Int)<8 by decide) (n+1)
  rw[Int.pow_succ,Nat.pow_succ,Int.natCast_mul]
  omega
theorem qqz (n:Nat):(2:Int)^(3*n)=(8:Int)^n:=by
 rw[Int.pow_mul]
 rfl
theorem qo8 {n m:Nat} (h:m=3*(n+1)):(2:Int)^m<((10^(n+1):Nat):Int):=by
 rw[h,qqz]
 exact pow8 n
def lng (z:Int):Bool:=decide (600<(Lib.decDigits z.natAbs).length)
theorem qmb {N:Nat} (u:600000<N) {x:qf} {z:Int} (h:IsZ x z) (fz:Fit z 3900):qcV N x=some (lng z):=by
 obtain⟨b,e,hb⟩:=qpA h fz
 unfold qcV
 rw[e,ZB]
 by_cases c:(b:Int)>1800
 ·rw[if_pos c,qeg u h fz,ZB,qeA,qcg,ZB,ZB]
  congr 1
  exact decide_eq_decide.2 (by omega)
 rw[if_neg c,ZB]
 congr 1
 obtain⟨m,hm⟩: ∃m:Nat,m=3*(599+1):=⟨_,rfl⟩
 have h1:(2:Int)^b<=2^m:=yo (by decide) (by omega)
 have h2:=qo8 hm
 have j:z.natAbs<10^(599+1):=by omega
 have:=(yH (n:=z.natAbs) (k:=599+1) (by decide)).2 j
 unfold lng
 rw[decide_eq_false (by omega)]
def qk7 (q:Rat):Bool:=lng q.num||lng q.den
theorem qnB {N:Nat} (u:600000<N) {f:qm} {q:Rat} (h:IsF f q) (j:jV q 3900):xQ N f=some (qk7 q):=by
 unfold xQ qk7
 rw[qmb u h.1 j.1,ZB]
 cases lng q.num with
 |true=>rw[if_pos rfl,ZB,Bool.true_or]
 |false=>rw[if_neg (by simp),qmb u h.2 j.2,ZB,ZB,Bool.false_or]
def T (q:Rat):Str:=Lib.itoa q.num++(if q.den=1 then[]else 47::Lib.decDigits q.den)
theorem Fit.itoaLen {z:Int} (h:Fit z 3900):(Lib.itoa z).length<=200001:=by
 have h1:(Lib.decDigits z.natAbs).length<=20*10000:=by
  refine(yH (by decide)).2 ?_
  obtain⟨B,hB⟩: ∃B:Nat,B=10000:=⟨_,rfl⟩
  rw[<-hB]
  have j:W^3900<=W^B:=yo (by decide) (by omega)
  have u:W^B<=(100000000000000000000:Int)^B:=(qcN (by decide) (by decide) B).2
  have h4:((10^(20*B):Nat):Int)=(100000000000000000000:Int)^B:=by
   rw[Nat.pow_mul,Int.natCast_pow]
   rfl
  unfold Fit at h
  generalize W^3900=p at*
  omega
 by_cases c:z<0
 ·rw[yg c,Yr];omega
 rw[zK c];omega
theorem qo5 {N:Nat} (u:600000<N) {f:qm} {q:Rat} (h:IsF f q) (j:jV q 3900):qar N f=some (T q):=by
 unfold qar T
 rw[qeV h,ZB]
 by_cases c:q.den=1
 ·rw[decide_eq_true c,if_pos rfl,qeg u h.1 j.1,ZB,if_pos c,YQ]
 have l1:=Fit.itoaLen j.1
 have l2:=Fit.itoaLen j.2
 rw[decide_eq_false c,if_neg (by simp),qeg u h.1 j.1,ZB,qbg (by simp;omega),ZB,qeg u h.2 j.2,ZB,qbg (by simp;omega),ZB,if_neg c,qek,Yz]
 rfl
theorem qfS {N:Nat} (u:600000<N) {f:qm} {q:Rat} (h:IsF f q) (j:jV q 3900):vJ N f=some (if qk7 q=true then([],4)else(T q,0)):=by
 unfold vJ
 rw[qnB u h j,ZB]
 cases qk7 q with
 |true=>rfl
 |false=>rw[if_neg (by simp),qo5 u h j,ZB,if_neg (by simp)]
theorem qpl {α:Type} {b:Bool} {x y:α}:zF b x y=if b=true then x else y:=by cases b<;>rfl
theorem qkp: ∀(s:Str) (j:Nat),qh3 47 s j=if slA s<s.length then((j+slA s:Nat):Int)else-1
 |[],j=>rfl
 |c::s,j=>by
  show zF (Nat.beq c.toNat 47) (Int.ofNat j) (qh3 47 s (j+1))=_
  rw[qpl,qkp s (j+1),slA,Yr]
  by_cases h:c=47
  ·subst h
   rw[if_pos (by decide),if_pos rfl,if_pos (by omega)]
   rfl
  have u:c.toNat≠47:=fun e=>h (UInt8.toNat_inj.1 (by rw[e];rfl))
  rw[if_neg (by rw[qcu u];simp),if_neg h]
  by_cases c2:slA s<s.length
  ·rw[if_pos c2,if_pos (by omega)]
   congr 1
   omega
  rw[if_neg c2,if_neg (by omega)]
theorem qni {s:Str}:stringslite_Index s [47]=some (qh3 47 s 0):=by
 unfold stringslite_Index stringslite_IndexByte qiR
 have j: ¬(([47]:Str).length:Int)=0:=by simp
 have h:(([47]:Str).length:Int)=1:=by simp
 rw[if_neg j]
 simp only[ZB]
 by_cases hs:(([47]:Str)==s)=true
 ·have:s=[47]:=(beq_iff_eq.1 hs).symm
  subst this
  rfl
 rw[if_neg hs,if_pos h,qbr,show([47]:Str)[0]? =some 47 from rfl,ZB,if_pos (by decide)]
 rfl
theorem qoQ {s:Str} (j:s.length<=1000000):strings_Cut s [47]=some (if slA s<s.length then(s.take (slA s),s.drop (slA s+1),true)else(s,[],false)):=by
 have h:=qfH s
 unfold strings_Cut stringslite_Cut
 rw[qni,qkp,ZB]
 by_cases c:slA s<s.length
 ·rw[if_pos c,if_pos (by omega),if_pos c,Nat.zero_add,yI h,ZB,show w64 ((slA s:Int)+(([47]:Str).length:Int))=((slA s+1:Nat):Int)from zV (by omega),xY (by omega),ZB,ZB]
 rw[if_neg c,if_neg (by omega),if_neg c,ZB]
theorem qfk {s:Str} (j:s.length<=1000000):jF s=some (decide (Dec s)):=by
 have u:qkl s [48,49,50,51,52,53,54,55,56,57]=some (Lib.trimS s [48,49,50,51,52,53,54,55,56,57]):=by
  unfold qkl
  rw[if_pos ⟨j,by decide,by decide⟩]
 unfold jF
 rw[u]
 simp only[ZB,qmp]
 cases s with
 |nil=>rfl
 |cons c t=>
  rw[if_pos (by rfl),qbr]
  simp only[Yj,ZB]
  cases hd:(c::t).all vP with
  |false=>
   rw[if_neg (by simp),ZB,decide_eq_false fun h=>by rw[h.2.1]at hd;cases hd]
  |true=>
   rw[if_pos rfl]
   by_cases h:c=48
   ·subst h
    rw[if_neg (by decide),ZB]
    congr 1
    rw[Bool.eq_iff_iff,beq_iff_eq,decide_eq_true_eq]
    exact⟨fun e=>by rw[e];exact qlk (by decide),fun h=>h.2.2 rfl⟩
   rw[if_pos (by simp[ne48 h]),ZB,decide_eq_true (show Dec (c::t)from⟨by simp,hd,fun e=>absurd (Ye e) h⟩)]
theorem qgS {s:Str} (u:s.length<=1000000): ∀(K i:Nat),i<=s.length->s.length<K+i->jo s K (i:Int)=some (if(s.drop i).all vP=true then .inl ()else .inr false)
 |0,i,h,hK=>by omega
 |K+1,i,h,hK=>by
  rw[jo]
  by_cases hi:i<s.length
  ·have j:s.drop i=s[i]::s.drop (i+1):=YG hi
   rw[if_pos (by omega),qz,Ya hi,ZB,j,List.all_cons]
   generalize s[i]=c
   have e:(if(c.toNat:Int)<48 then some true else some (decide ((c.toNat:Int)>57)):Option Bool)=some (!vP c):=by
    by_cases h1:(c.toNat:Int)<48
    ·rw[if_pos h1]
     congr 1
     unfold vP
     rw[decide_eq_false (by omega)]
     rfl
    rw[if_neg h1]
    congr 1
    unfold vP
    rw[decide_eq_true (p:=48<=c.toNat) (by omega),Bool.true_and,<-decide_not]
    exact decide_eq_decide.2 (by omega)
   rw[e,ZB]
   cases hc:vP c with
   |true=>rw[if_neg (by simp),zV (by omega),qgS u K (i+1) (by omega) (by omega),Bool.true_and]
   |false=>rw[if_pos (by simp),Bool.false_and,if_neg (by simp)]
  rw[if_neg (by omega),List.drop_of_length_le (by omega)]
  rfl
theorem qgU {N:Nat} {s:Str} (hl:s.length<=1000000) (hN:s.length<N):je N s=some (decide (Dec s)):=by
 have e:=qgS hl N 0 (by omega) (by omega)
 have e:jo s N 0=_:=e
 have j:qaU N s=some (s.all vP):=by
  unfold qaU
  rw[e,YR]
  cases s.all vP<;>rfl
 unfold je
 cases s with
 |nil=>rfl
 |cons c t=>
  rw[if_neg (by simp;omega)]
  by_cases h1:((c::t).length:Int)>1
  ·rw[if_pos h1,qbr]
   simp only[Yj,ZB]
   by_cases h:c=48
   ·subst h
    rw[if_pos (by decide),decide_eq_false fun hD=>?_]
    have:=congrArg List.length (hD.2.2 rfl)
    rw[List.length_singleton]at this
    omega
   rw[if_neg (by simp[ne48 h]),j,ZB]
   congr 1
   rw[Bool.eq_iff_iff,decide_eq_true_eq]
   exact⟨fun hd=>⟨by simp,hd,fun e=>absurd (Ye e) h⟩,fun hD=>hD.2.1⟩
  rw[if_neg h1,ZB,if_neg (by simp),j,ZB]
  have u:t=[]:=YL.1 (by simp at h1;omega)
  subst u
  congr 1
  rw[Bool.eq_iff_iff,decide_eq_true_eq]
  exact⟨fun hd=>qlk (by simpa using hd),fun hD=>hD.2.1⟩
end Go.Av
end
section
namespace Go.Av
theorem qiX {z:Int} {p n:Nat} (h:(z.natAbs:Int)<((10^p:Nat):Int)) (j:p<=9*n):zJ z n:=by
 have u:(10:Nat)^p<=10^(9*n):=Nat.pow_le_pow_right (by omega) j
 unfold zJ
 rw[qgW]
 omega
theorem qiQ {N:Nat} (j:10<N) (a b:Int):jK N [a,b]=some (if a=0 then b else a):=by
 obtain⟨K,rfl⟩: ∃K,N=K+1+1+1:=⟨N-3,by omega⟩
 unfold jK
 by_cases ha:a=0
 ·by_cases hb:b=0
  ·subst ha;subst hb
   rfl
  have h:zC [a,b] (K+1+1+1) 0=some (.inr b):=by
   rw[zC,if_pos (by simp),qbr]
   simp only[Yj,ZB]
   rw[if_neg (by simp[ha]),zC,show w64 ((0:Int)+1)=1 from rfl,if_pos (by simp),idx_1]
   simp only[YK,Yj,ZB]
   rw[if_pos (by simp[hb])]
  rw[h,if_pos ha]
  rfl
 have h:zC [a,b] (K+1+1+1) 0=some (.inr a):=by
  rw[zC,if_pos (by simp),qbr]
  simp only[Yj,ZB]
  rw[if_pos (by simp[ha])]
 rw[h,if_neg ha]
 rfl
def okF (s:Str):Bool:=decide (Dec ((bdy s).take (slA (bdy s)))/\ ¬(sgn s=true/\(bdy s).take (slA (bdy s))=[48]))
def qhr (s:Str):Bool:=decide (slA (bdy s)<(bdy s).length/\ ¬(Dec ((bdy s).drop (slA (bdy s)+1))/\(bdy s).drop (slA (bdy s)+1)≠[48]/\(bdy s).drop (slA (bdy s)+1)≠[49]))
def chk (s:Str):Int:=
 if okF s=false\/qhr s=true then 1
 else if 600<((bdy s).take (slA (bdy s))).length\/600<((bdy s).drop (slA (bdy s)+1)).length then 4
 else if slA (bdy s)<(bdy s).length/\Nat.gcd (qO 0 ((bdy s).take (slA (bdy s)))) (qO 0 ((bdy s).drop (slA (bdy s)+1)))≠1 then 1
 else 0
theorem qaZ {s:Str} (h:s.all vP=true):sgn s=false/\bdy s=s:=by
 have e:sgn s=false:=decide_eq_false fun e=>by
  have j:(45:UInt8)∈s:=Yn e
  exact absurd (Yp.1 h _ j) (by decide)
 exact⟨e,by unfold bdy;rw[e];rfl⟩
theorem qcj {s:Str} (h:s.all vP=true):qjn s=(qO 0 s:Nat):=by
 obtain⟨j,u⟩:=qaZ h
 unfold qjn
 rw[j,u]
 rfl
theorem qfh (s:Str):(bdy s).length<=s.length:=by
 unfold bdy
 split
 ·rw[YJ];omega
 exact Nat.le_refl _
theorem qew {s:Str} {k:Nat} (h:Dec s) (j:s.length<=k):((qO 0 s:Nat):Int).natAbs<10^k:=by
 have h1:=qes s 0 h.2.1
 have u:(10:Nat)^s.length<=10^k:=Nat.pow_le_pow_right (by omega) j
 omega
theorem qfm {s:Str} (h:Dec s) (j:s≠[48]):0<qO 0 s:=by
 rcases Nat.eq_zero_or_pos (qO 0 s)with e|e
 ·have:=h.eq
  rw[e,ja (by decide)]at this
  exact absurd this j
 exact e
theorem qmn {N:Nat} (hN:600000<N) {s:Str} (hl:s.length<=10000):qaQ N s=some (chk s):=by
 have hb:=qfh s
 have hk:=qfH (bdy s)
 have lt:((bdy s).take (slA (bdy s))).length=slA (bdy s):=by rw[Ym];omega
 have ld:((bdy s).drop (slA (bdy s)+1)).length=(bdy s).length-(slA (bdy s)+1):=by rw[YJ]
 unfold qaQ
 rw[qiW,ZB]
 simp only
 have C:strings_Cut (bdy s) [47]=some ((bdy s).take (slA (bdy s)),(bdy s).drop (slA (bdy s)+1),decide (slA (bdy s)<(bdy s).length)):=by
  rw[qoQ (by omega)]
  by_cases c:slA (bdy s)<(bdy s).length
  ·rw[if_pos c,decide_eq_true c]
  rw[if_neg c,decide_eq_false c,List.take_of_length_le (by omega),List.drop_of_length_le (by omega)]
 rw[C,ZB]
 unfold chk okF qhr
 generalize hn:(bdy s).take (slA (bdy s))=n at*
 generalize hd:(bdy s).drop (slA (bdy s)+1)=d at*
 generalize slA (bdy s)=k at*
 generalize (bdy s).length=m at*
 simp only
 rw[qfk (by omega),ZB]
 have B6:(if decide (Dec n)=true then if(!sgn s)=true then some true else some (!(n==[48]))else some false:Option Bool)=some (decide (Dec n/\ ¬(sgn s=true/\n=[48]))):=by
  by_cases u:Dec n
  ·cases h2:sgn s with
   |false=>simp[u]
   |true=>
    by_cases h3:n=[48]<;>simp[u,h3]
  simp[u]
 rw[B6,ZB]
 generalize hf:decide (Dec n/\ ¬(sgn s=true/\n=[48]))=ok at*
 have B8:(if decide (k<m)=true then(if ok=true then(jF d).bind fun r12=>if r12=true then if(!(d==[48]))=true then some (!(d==[49]))else some false else some false else some false:Option Bool).bind fun b15=>some b15 else some ok:Option Bool)=some (ok&&!decide (k<m/\ ¬(Dec d/\d≠[48]/\d≠[49]))):=by
  by_cases u:k<m
  ·cases ok with
   |false=>simp[u]
   |true=>
    rw[qfk (by omega)]
    by_cases h2:Dec d
    ·by_cases h3:d=[48]
     ·simp[u,h2,h3]
     by_cases h4:d=[49]<;>simp[u,h2,h3,h4]
    simp[u,h2]
  simp[u]
 rw[B8,ZB]
 generalize hg:decide (k<m/\ ¬(Dec d/\d≠[48]/\d≠[49]))=bd at*
 have B:((qX (!(ok&&!bd)) 1).bind fun r17=>if(n.length:Int)>600 then(qX true 4).bind fun r19=>(jK N ([r17,r19]:List Int)).bind fun r20=>some (r17,r19,r20)else(qX (decide ((d.length:Int)>600)) 4).bind fun r21=>(jK N ([r17,r21]:List Int)).bind fun r22=>some (r17,r21,r22):Option (Int×Int×Int))=some (if ok=false\/bd=true then 1 else 0,if 600<n.length\/600<d.length then 4 else 0,if ok=false\/bd=true then 1 else if 600<n.length\/600<d.length then 4 else 0):=by
  have w1:qX (!(ok&&!bd)) 1=some (if ok=false\/bd=true then 1 else 0):=by
   unfold qX
   cases ok<;>cases bd<;>rfl
  rw[w1,ZB]
  by_cases c:(n.length:Int)>600
  ·rw[if_pos c,show qX true 4=some 4 from rfl,ZB,qiQ (by omega),ZB,if_pos (show 600<n.length\/600<d.length from .inl (by omega))]
   by_cases c2:ok=false\/bd=true
   ·simp only[if_pos c2];rfl
   simp only[if_neg c2];rfl
  have w2:qX (decide ((d.length:Int)>600)) 4=some (if 600<n.length\/600<d.length then 4 else 0):=by
   unfold qX
   by_cases c2:(d.length:Int)>600
   ·rw[decide_eq_true c2,if_pos rfl,if_pos (.inr (by omega))]
   rw[decide_eq_false c2,if_neg (by simp),if_neg (by omega)]
  rw[if_neg c,w2,ZB,qiQ (by omega),ZB]
  by_cases c2:ok=false\/bd=true
  ·simp only[if_pos c2];rfl
  simp only[if_neg c2];rfl
 rw[B,ZB]
 simp only
 by_cases c1:ok=false\/bd=true
 ·simp only[if_pos c1];rfl
 simp only[if_neg c1]
 by_cases c2:600<n.length\/600<d.length
 ·simp only[if_pos c2];rfl
 simp only[if_neg c2]
 rw[if_neg (show¬((!decide True)=true)by decide)]
 have ho:ok=true:=by cases ok<;>simp at c1⊢
 have hbd:bd=false:=by cases bd<;>simp at c1⊢
 have a0:=(of_decide_eq_true (hf.trans ho)).1
 by_cases c3:k<m
 ·have j:Dec d/\d≠[48]/\d≠[49]:=Classical.byContradiction fun hc=>of_decide_eq_false (hg.trans hbd) ⟨c3,hc⟩
  obtain⟨r1,e1,u⟩:=qgB hN (s:=n) (by rw[(qaZ a0.2.1).2];exact a0.2.1) (by rw[(qaZ a0.2.1).2];omega)
  obtain⟨r2,e2,h2⟩:=qgB hN (s:=d) (by rw[(qaZ j.1.2.1).2];exact j.1.2.1) (by rw[(qaZ j.1.2.1).2];omega)
  rw[qcj a0.2.1]at u
  rw[qcj j.1.2.1]at h2
  have f1:Fit ((qO 0 n:Nat):Int) 40:=qfs (p:=600) (by have:=qew a0 (k:=600) (by omega);omega) (by omega)
  have f2:Fit ((qO 0 d:Nat):Int) 40:=qfs (p:=600) (by have:=qew j.1 (k:=600) (by omega);omega) (by omega)
  obtain⟨g,e3,h3⟩:=qol hN u h2 (f1.mono (by omega)) (f2.mono (by omega))
  have eg:Int.gcd ((qO 0 n:Nat):Int) ((qO 0 d:Nat):Int)=Nat.gcd (qO 0 n) (qO 0 d):=rfl
  rw[eg]at h3
  have hgp:0<Nat.gcd (qO 0 n) (qO 0 d):=Nat.gcd_pos_of_pos_right _ (qfm j.1 j.2.1)
  have fg:Fit ((Nat.gcd (qO 0 n) (qO 0 d):Nat):Int) 40:=qa0 (by
   have:=Nat.le_of_dvd (qfm j.1 j.2.1) (Nat.gcd_dvd_right (qO 0 n) (qO 0 d))
   omega) f2
  have e4:=qm2 (N:=N) (by omega) h3 (Ud (z:=1) (by decide) (by decide)) (fg.mono (by omega)) (F1 (by omega))
  rw[decide_eq_true c3,if_pos rfl,e1,ZB,e2,ZB,e3,ZB,qg8,ZB,e4,ZB,ZB]
  unfold qX
  by_cases c4:Nat.gcd (qO 0 n) (qO 0 d)=1
  ·rw[if_neg (show¬((Nat.gcd (qO 0 n) (qO 0 d):Nat):Int)<1 by omega),if_pos (show((Nat.gcd (qO 0 n) (qO 0 d):Nat):Int)=1 by omega),if_neg (show¬(k<m/\Nat.gcd (qO 0 n) (qO 0 d)≠1)from fun h=>h.2 c4)]
   rfl
  have: ¬((Nat.gcd (qO 0 n) (qO 0 d):Nat):Int)<1:=by omega
  rw[if_neg this,if_neg (show¬(((Nat.gcd (qO 0 n) (qO 0 d):Nat):Int)=1)by omega),if_pos (show k<m/\Nat.gcd (qO 0 n) (qO 0 d)≠1 from⟨c3,c4⟩)]
  rfl
 rw[decide_eq_false c3,if_neg (by simp),ZB,if_neg (by omega)]
 rfl
end Go.Av
end
section
namespace Go.Av
theorem qk5:dg E9 1=[1]:=qhD (by decide) (by decide)
theorem qqn {N:Nat} (j:100<N):vK N 1=some (rI 1):=by
 obtain⟨K,rfl⟩: ∃K,N=K+1+1:=⟨N-2,by omega⟩
 have h:zR (K+1+1) [] 1=some [1]:=by
  rw[zR,if_pos (by decide),if_neg (by decide),ZB,qcz (by simp) (by simp),ZB,show w64 ((1:Int).tdiv 1000000000)=0 from rfl,zR,if_neg (by decide)]
  rfl
 unfold vK
 rw[h,ZB,decide_eq_false (by decide),vQ false (w:=[1]) (Dg.cons ⟨by decide,by decide⟩ Dg.nil) (by simp) (by simp),ZB]
 rfl
theorem qis {N:Nat} (hN:600000<N) {s:Str} (hl:s.length<=10000) (hk:slA s<s.length) (u:(bdy (s.take (slA s))).all vP=true) (j:(bdy (s.drop (slA s+1))).all vP=true):z8 N s=some (rI (qjn (s.take (slA s))),rI (qjn (s.drop (slA s+1)))):=by
 have h:=qfh (s.take (slA s))
 have b2:=qfh (s.drop (slA s+1))
 rw[Ym]at h
 rw[YJ]at b2
 unfold z8
 rw[qbu (by omega) (by omega),ZB,if_neg (by omega),yI (by omega),ZB,qfy (by omega) u (by omega),ZB,zV (by omega),xY (by omega),ZB,qfy (by omega) j (by omega),ZB]
theorem qfF {N:Nat} (hN:600000<N) {s:Str} (hl:s.length<=10000):qad N s=some (chk s):=by
 have hb:=qfh s
 have hk:=qfH (bdy s)
 have lt:((bdy s).take (slA (bdy s))).length=slA (bdy s):=by rw[Ym];omega
 have ld:((bdy s).drop (slA (bdy s)+1)).length=(bdy s).length-(slA (bdy s)+1):=by rw[YJ]
 unfold qad
 rw[qft,ZB,qlc,ZB,qbu (by omega) (by omega),ZB,yI hk,ZB,qgU (by omega) (by omega),ZB]
 have I:Dec ((bdy s).take (slA (bdy s)))->((idx s 0).bind fun c13=>if(c13.toNat:Int)=45 then(some ((bdy s).take (slA (bdy s)))).bind fun s15=>some (s15==[48])else some false:Option Bool)=some (sgn s&&((bdy s).take (slA (bdy s))==[48])):=by
  intro hD
  have h1:=hD.1
  have hs:=qft s
  rw[if_pos (by omega)]at hs
  rw[qbr]at hs⊢
  cases e:s[0]? with
  |none=>rw[e]at hs;cases hs
  |some c=>
   rw[e,ZB]at hs
   rw[ZB,<-Ye hs]
   by_cases c2:(c.toNat:Int)=45
   ·rw[if_pos c2,decide_eq_true c2,ZB,Bool.true_and]
   rw[if_neg c2,decide_eq_false c2,Bool.false_and]
 have S16:(if(!decide (Dec ((bdy s).take (slA (bdy s)))))=true then some true else(idx s 0).bind fun c13=>if(c13.toNat:Int)=45 then(some ((bdy s).take (slA (bdy s)))).bind fun s15=>some (s15==[48])else some false:Option Bool)=some (!okF s):=by
  unfold okF
  by_cases hD:Dec ((bdy s).take (slA (bdy s)))
  ·rw[if_neg (by simp[hD]),I hD]
   congr 1
   rw[Bool.eq_iff_iff]
   simp[hD]
  rw[if_pos (by simp[hD])]
  simp[hD]
 rw[S16,ZB]
 have S26:(if(slA (bdy s):Int)<((bdy s).length:Int)then(cut (bdy s) (w64 ((slA (bdy s):Int)+1)) ((bdy s).length:Int)).bind fun s20=>(je N s20).bind fun r21=>if(!r21)=true then some true else(cut (bdy s) (w64 ((slA (bdy s):Int)+1)) ((bdy s).length:Int)).bind fun s23=>if(s23==[48])=true then some true else(cut (bdy s) (w64 ((slA (bdy s):Int)+1)) ((bdy s).length:Int)).bind fun s25=>some (s25==[49])else some false:Option Bool)=some (qhr s):=by
  unfold qhr
  by_cases c:slA (bdy s)<(bdy s).length
  ·rw[if_pos (by omega),zV (by omega),xY (by omega),ZB,qgU (by omega) (by omega),ZB]
   by_cases hD:Dec ((bdy s).drop (slA (bdy s)+1))
   ·rw[if_neg (by simp[hD]),ZB]
    by_cases h3:(bdy s).drop (slA (bdy s)+1)=[48]
    ·rw[if_pos (by simp[h3])]
     simp[c,h3]
    rw[if_neg (by simp[h3]),ZB]
    congr 1
    rw[Bool.eq_iff_iff]
    simp[c,h3,hD]
   rw[if_pos (by simp[hD])]
   simp[c,hD]
  rw[if_neg (by omega)]
  simp[c]
 have S30:(if(slA (bdy s):Int)>600 then some true else some (decide ((w64 ((w64 (((bdy s).length:Int)-(slA (bdy s):Int)))-1))>600)):Option Bool)=some (decide (600<((bdy s).take (slA (bdy s))).length\/600<((bdy s).drop (slA (bdy s)+1)).length)):=by
  rw[lt,ld]
  by_cases c:(slA (bdy s):Int)>600
  ·rw[if_pos c,decide_eq_true (.inl (by omega))]
  rw[if_neg c,qj (n:=((bdy s).length:Int)-(slA (bdy s):Int)) (by omega) (by omega),qj (by omega) (by omega)]
  congr 1
  exact decide_eq_decide.2 (by omega)
 unfold chk
 by_cases h1:okF s=true
 ·rw[h1,if_neg (by simp),S26,ZB]
  by_cases h2:qhr s=true
  ·rw[h2,if_pos rfl,if_pos (.inr rfl)]
  have a0:qhr s=false:=by simpa using h2
  rw[a0,if_neg (by simp),S30,ZB,if_neg (show¬(true=false\/false=true)by simp)]
  by_cases h3:600<((bdy s).take (slA (bdy s))).length\/600<((bdy s).drop (slA (bdy s)+1)).length
  ·rw[decide_eq_true h3,if_pos rfl,if_pos h3]
  rw[decide_eq_false h3,if_neg (by simp),if_neg h3]
  by_cases c:slA (bdy s)<(bdy s).length
  ·have u:=(of_decide_eq_true h1).1
   have j:Dec ((bdy s).drop (slA (bdy s)+1))/\(bdy s).drop (slA (bdy s)+1)≠[48]/\(bdy s).drop (slA (bdy s)+1)≠[49]:=Classical.byContradiction fun hc=>of_decide_eq_false a0 ⟨c,hc⟩
   have ep:=qis hN (s:=bdy s) (by omega) c (by rw[(qaZ u.2.1).2];exact u.2.1) (by rw[(qaZ j.1.2.1).2];exact j.1.2.1)
   rw[qcj u.2.1,qcj j.1.2.1]at ep
   rw[if_pos (by omega),ep,ZB]
   simp only
   have v1:=qew u (k:=600) (by omega)
   have v2:=qew j.1 (k:=600) (by omega)
   have v3:=qfm j.1 j.2.1
   generalize qO 0 ((bdy s).take (slA (bdy s)))=n at*
   generalize qO 0 ((bdy s).drop (slA (bdy s)+1))=d at*
   have f1:zJ ((n:Nat):Int) 8000:=(qiX (p:=600) (n:=70) (by omega) (by omega)).mono (by omega)
   have f2:zJ ((d:Nat):Int) 8000:=(qiX (p:=600) (n:=70) (by omega) (by omega)).mono (by omega)
   have e1:(rI ((n:Nat):Int)).w=dg E9 ((n:Nat):Int):=by
    show dg E9 (((n:Nat):Int).natAbs:Int)=_
    rw[Int.natAbs_natCast]
   have e2:(rI ((d:Nat):Int)).w=dg E9 ((d:Nat):Int):=by
    show dg E9 (((d:Nat):Int).natAbs:Int)=_
    rw[Int.natAbs_natCast]
   have ec:=qiu (N:=N) hN (a:=((n:Nat):Int)) (b:=((d:Nat):Int)) (by omega) (by omega) f1 f2
   have eg:Int.gcd ((n:Nat):Int) ((d:Nat):Int)=Nat.gcd n d:=rfl
   rw[eg]at ec
   rw[e1,e2,ec,ZB]
   have hg:0<Nat.gcd n d:=Nat.gcd_pos_of_pos_right _ v3
   have cc:=zy E1 (show(0:Int)<=((Nat.gcd n d:Nat):Int)by omega)
   have vv:=jh E1 (show(0:Int)<=((Nat.gcd n d:Nat):Int)by omega)
   by_cases h4:Nat.gcd n d=1
   ·have:dg E9 ((Nat.gcd n d:Nat):Int)=[1]:=by rw[show((Nat.gcd n d:Nat):Int)=1 by omega];exact qk5
    rw[this,if_neg (by simp),qbr,if_neg (fun h=>h.2 h4)]
    rfl
   rw[if_pos (show slA (bdy s)<(bdy s).length/\Nat.gcd n d≠1 from⟨c,h4⟩)]
   by_cases h5:(dg E9 ((Nat.gcd n d:Nat):Int)).length=1
   ·obtain⟨x,hx⟩:=List.length_eq_one_iff.1 h5
    rw[hx,zg,kC,Int.mul_zero,Int.add_zero]at vv
    have hx1:x≠1:=by omega
    rw[hx,if_neg (by simp),qbr]
    simp only[Yj,ZB,decide_eq_false hx1]
    rfl
   rw[if_pos (by simp;omega)]
   rfl
  rw[if_neg (by omega),if_neg (by omega)]
  rfl
 have h1':okF s=false:=by simpa using h1
 rw[h1',if_pos (by simp),if_pos (.inl rfl)]
end Go.Av
end
section
namespace Go.Av
def tl (q:Rat):Str:=if q.den=1 then[]else 47::Lib.decDigits q.den
theorem qmj (q:Rat):T q=Lib.itoa q.num++tl q:=rfl
theorem qnk {s:Str} (h:s.all vP=true): ∀c∈s,c≠47:=fun c hc e=>by
 have:=Yp.1 h c hc
 rw[e]at this
 exact absurd this (by decide)
theorem qg1: ∀{s:Str},(∀c∈s,c≠47)->slA s=s.length:=fun {s} h=>(qiS s [] h).2
theorem qgQ {s:Str} (h: ∀c∈s,c≠47) (q:Rat):slA (s++tl q)=s.length:=by
 unfold tl
 by_cases c:q.den=1
 ·rw[if_pos c,YQ]
  exact qg1 h
 rw[if_neg c]
 exact(qiS s _ h).1
theorem qej (z:Int): ∀c∈Lib.itoa z,c≠47:=by
 by_cases h:z<0
 ·rw[yg h]
  intro c hc
  rcases List.mem_cons.1 hc with e|e
  ·rw[e];decide
  exact qnk (qaB _) c e
 rw[zK h]
 exact qnk (qaB _)
theorem qpD {s t:Str} (h:0<s.length):sgn (s++t)=sgn s:=by
 unfold sgn
 rw[Yf h]
theorem qnX (z:Int):0<(Lib.itoa z).length:=by
 by_cases h:z<0
 ·rw[yg h];simp
 rw[zK h];exact qfK _
theorem qjS (q:Rat):sgn (T q)=decide (q.num<0):=by rw[qmj,qpD (qnX _),qhN]
theorem qj8 (q:Rat):bdy (T q)=Lib.decDigits q.num.natAbs++tl q:=by
 unfold bdy
 rw[qjS,qmj]
 by_cases h:q.num<0
 ·rw[decide_eq_true h,if_pos rfl,yg h]
  rfl
 rw[decide_eq_false h,if_neg (by simp),zK h]
theorem T_inj {p q:Rat} (h:T p=T q):p=q:=by
 have u:=congrArg slA h
 have e1:slA (T p)=(Lib.itoa p.num).length:=qgQ (qej _) p
 have e2:slA (T q)=(Lib.itoa q.num).length:=qgQ (qej _) q
 rw[e1,e2]at u
 rw[qmj,qmj]at h
 obtain⟨h2,j⟩:=List.append_inj h u
 have n1:p.num=q.num:=by rw[<-qcJ p.num,h2,qcJ]
 have n2:p.den=q.den:=by
  unfold tl at j
  by_cases c:p.den=1
  ·by_cases d:q.den=1
   ·rw[c,d]
   rw[if_pos c,if_neg d]at j;cases j
  by_cases d:q.den=1
  ·rw[if_neg c,if_pos d]at j;cases j
  rw[if_neg c,if_neg d]at j
  injection j with _ j
  exact qkW j
 exact Rat.ext n1 n2
theorem ql1: ∀{s:Str},slA s<s.length->s=s.take (slA s)++47::s.drop (slA s+1)
 |[],h=>by simp at h
 |c::s,h=>by
  rw[slA]at h⊢
  by_cases e:c=47
  ·rw[if_pos e,e]
   rfl
  rw[if_neg e,Yr]at h
  rw[if_neg e,List.take_succ_cons,List.drop_succ_cons,List.cons_append,<-ql1 (show slA s<s.length by omega)]
theorem qpz (s:Str):s=if sgn s=true then 45::bdy s else bdy s:=by
 unfold bdy
 cases h:sgn s with
 |false=>rw[if_neg (by simp),if_neg (by simp)]
 |true=>
  rw[if_pos rfl,if_pos rfl]
  cases s with
  |nil=>cases h
  |cons c t=>
   have e:=of_decide_eq_true h
   simp only[Yj]at e
   rw[Ye e]
   rfl
theorem qn3 {s:Str} (h:chk s=0): ∃q:Rat,s=T q/\(Lib.decDigits q.num.natAbs).length<=600/\(Lib.decDigits q.den).length<=600:=by
 have hk:=qfH (bdy s)
 have lt:((bdy s).take (slA (bdy s))).length=slA (bdy s):=by rw[Ym];omega
 have hs:=qpz s
 have hsp:=@ql1 (bdy s)
 unfold chk at h
 by_cases h1:okF s=false\/qhr s=true
 ·rw[if_pos h1]at h;cases h
 rw[if_neg h1]at h
 by_cases h2:600<((bdy s).take (slA (bdy s))).length\/600<((bdy s).drop (slA (bdy s)+1)).length
 ·rw[if_pos h2]at h;cases h
 rw[if_neg h2]at h
 by_cases h3:slA (bdy s)<(bdy s).length/\Nat.gcd (qO 0 ((bdy s).take (slA (bdy s)))) (qO 0 ((bdy s).drop (slA (bdy s)+1)))≠1
 ·rw[if_pos h3]at h;cases h
 have ho:okF s=true:=by cases e:okF s with|true=>rfl|false=>exact absurd (.inl e) h1
 have hb:qhr s=false:=by cases e:qhr s with|false=>rfl|true=>exact absurd (.inr e) h1
 obtain⟨u,hng⟩:=of_decide_eq_true ho
 have en:=u.eq
 obtain⟨z,hz1,hz2⟩: ∃z:Int,z.natAbs=qO 0 ((bdy s).take (slA (bdy s)))/\(z<0↔sgn s=true):=by
  cases e:sgn s with
  |false=>exact⟨((qO 0 ((bdy s).take (slA (bdy s))):Nat):Int),by omega,by simp⟩
  |true=>
   have:=qfm u fun c=>hng ⟨e,c⟩
   exact⟨-((qO 0 ((bdy s).take (slA (bdy s))):Nat):Int),by omega,by simp;omega⟩
 have hT: ∀t:Str,bdy s=(bdy s).take (slA (bdy s))++t->s=Lib.itoa z++t:=by
  intro t ht
  rw[hs]
  by_cases c:z<0
  ·rw[if_pos (hz2.1 c),yg c,hz1,<-en,List.cons_append,<-ht]
  rw[if_neg fun e=>c (hz2.2 e),zK c,hz1,<-en,<-ht]
 by_cases c:slA (bdy s)<(bdy s).length
 ·have j:Dec ((bdy s).drop (slA (bdy s)+1))/\(bdy s).drop (slA (bdy s)+1)≠[48]/\(bdy s).drop (slA (bdy s)+1)≠[49]:=Classical.byContradiction fun hc=>of_decide_eq_false hb ⟨c,hc⟩
  have ed:=j.1.eq
  have hd0:=qfm j.1 j.2.1
  have hd1:qO 0 ((bdy s).drop (slA (bdy s)+1))≠1:=fun e=>by
   rw[e,ja (by decide)]at ed
   exact j.2.2 ed
  have hg:Nat.gcd z.natAbs (qO 0 ((bdy s).drop (slA (bdy s)+1)))=1:=by
   rw[hz1]
   exact Classical.byContradiction fun e=>h3 ⟨c,e⟩
  refine⟨⟨z,qO 0 ((bdy s).drop (slA (bdy s)+1)),by omega,hg⟩,?_,?_,?_⟩
  ·have:=hT _ (hsp c)
   unfold T
   rw[if_neg hd1]
   show s=Lib.itoa z++47::Lib.decDigits (qO 0 ((bdy s).drop (slA (bdy s)+1)))
   rw[<-ed]
   exact this
  ·show(Lib.decDigits z.natAbs).length<=600
   rw[hz1,<-en]
   omega
  show(Lib.decDigits (qO 0 ((bdy s).drop (slA (bdy s)+1)))).length<=600
  rw[<-ed]
  omega
 refine⟨(z:Rat),?_,?_,?_⟩
 ·have:=hT [] (by rw[YQ,List.take_of_length_le (by omega)])
  unfold T
  rw[Rat.den_intCast,if_pos rfl,Rat.num_intCast]
  exact this
 ·rw[Rat.num_intCast,hz1,<-en]
  omega
 rw[Rat.den_intCast,ja (by decide)]
 simp
end Go.Av
end
section
namespace Go.Av
def Sml (q:Rat) (k:Nat):Prop:=(Lib.decDigits q.num.natAbs).length<=k/\(Lib.decDigits q.den).length<=k
theorem qgk (z:Int):(Lib.itoa z).length<=(Lib.decDigits z.natAbs).length+1:=by
 by_cases h:z<0
 ·rw[yg h];simp
 rw[zK h];omega
theorem qfu (q:Rat) (h:q.den≠1):slA (T q)<(T q).length/\(T q).take (slA (T q))=Lib.itoa q.num/\(T q).drop (slA (T q)+1)=Lib.decDigits q.den:=by
 have e:slA (T q)=(Lib.itoa q.num).length:=qgQ (qej _) q
 have j:T q=Lib.itoa q.num++47::Lib.decDigits q.den:=by unfold T;rw[if_neg h]
 rw[e,j]
 refine⟨by rw[Yq,Yr];omega,?_,?_⟩
 ·rw[List.take_append_of_le_length (Nat.le_refl _),List.take_of_length_le (Nat.le_refl _)]
 rw[List.drop_append,List.drop_of_length_le (by omega),show(Lib.itoa q.num).length+1-(Lib.itoa q.num).length=1 by omega]
 rfl
theorem qeu (q:Rat) (h:q.den=1):T q=Lib.itoa q.num/\slA (T q)=(T q).length:=by
 have j:T q=Lib.itoa q.num:=by unfold T;rw[if_pos h,YQ]
 refine⟨j,?_⟩
 rw[j]
 exact qg1 (qej _)
theorem qcT {q:Rat} {k:Nat} (h:Sml q k):(T q).length<=2*k+2:=by
 have h1:=qgk q.num
 have j:=h.1
 have u:=h.2
 unfold T
 rw[Yq]
 split
 ·simp;omega
 rw[Yr];omega
theorem qpp {N:Nat} (hN:600000<N) {q:Rat} (h:Sml q 9000): ∃f,qb6 N (T q)=some f/\IsF f q:=by
 have hl:=qcT h
 have h1:=h.1
 have h2:=h.2
 unfold qb6
 rw[qoQ (by omega),ZB]
 obtain⟨r1,e1,i1⟩:=qgB hN (s:=Lib.itoa q.num) (by rw[qcg];exact qaB _) (by rw[qcg];omega)
 rw[qcJ]at i1
 by_cases c:q.den=1
 ·obtain⟨t1,t2⟩:=qeu q c
  rw[if_neg (show¬slA (T q)<(T q).length by omega)]
  obtain⟨f,e2,j⟩:=qe1 i1
  rw[if_pos (by rfl),t1,e1,ZB,e2,ZB]
  refine⟨f,rfl,?_⟩
  have:(q.num:Rat)=q:=Rat.ext (by simp) (by simp[c])
  rw[this]at j
  exact j
 obtain⟨t1,t2,t3⟩:=qfu q c
 rw[if_pos t1]
 have u:=qaB q.den
 obtain⟨r2,e2,j⟩:=qgB hN (s:=Lib.decDigits q.den) (by rw[(qaZ u).2];exact u) (by rw[(qaZ u).2];omega)
 rw[qcj u,qbA]at j
 rw[if_neg (by simp),t2,t3,e1,ZB,e2,ZB]
 exact⟨⟨r1,r2⟩,rfl,i1,j⟩
theorem qbT {N:Nat} (hN:600000<N) {q:Rat} (h:Sml q 4000):z8 N (T q)=some (rI q.num,rI (q.den:Int)):=by
 have hl:=qcT h
 have h1:=h.1
 have h2:=h.2
 by_cases c:q.den=1
 ·obtain⟨u,j⟩:=qeu q c
  unfold z8
  rw[qbu (by omega) (by omega),ZB,j,if_pos rfl,u,qfy (by omega) (by rw[qcg];exact qaB _) (by rw[qcg];omega),ZB,qqn (by omega),ZB,qcJ,c]
  rfl
 obtain⟨u,j,t3⟩:=qfu q c
 have hd:=qaB q.den
 rw[qis hN (by omega) u (by rw[j,qcg];exact qaB _) (by rw[t3,(qaZ hd).2];exact hd),j,t3,qcJ,qcj hd,qbA]
end Go.Av
end
section
namespace Go.Av
theorem rI_w (z:Int):(rI z).w=dg E9 (z.natAbs:Int):=rfl
theorem qmz {n:Nat} (h:0<n):(if((dg E9 (n:Int)).length:Int)=1 then(idx (dg E9 (n:Int)) 0).bind fun x15=>some (decide (x15=1))else some false:Option Bool)=some (decide (n=1)):=by
 have vv:=jh E1 (show(0:Int)<=(n:Int)by omega)
 by_cases h4:n=1
 ·rw[show(n:Int)=1 by omega,qk5,if_pos (by simp),qbr,h4]
  rfl
 rw[decide_eq_false h4]
 by_cases h5:(dg E9 (n:Int)).length=1
 ·obtain⟨x,u⟩:=List.length_eq_one_iff.1 h5
  rw[u,zg,kC,Int.mul_zero,Int.add_zero]at vv
  have j:x≠1:=by omega
  rw[u,if_pos (by simp),qbr]
  simp only[Yj,ZB,decide_eq_false j]
 rw[if_neg (by omega)]
theorem zJ.abs {z:Int} {n:Nat} (h:zJ z n):zJ (z.natAbs:Int) n:=by
 unfold zJ at h⊢
 rw[Int.natAbs_natCast]
 exact h
theorem zJ.le {a b:Int} {n:Nat} (h:(a.natAbs:Int)<=(b.natAbs:Int)) (k:zJ b n):zJ a n:=Int.lt_of_le_of_lt h k
theorem zJ.itoaLen {z:Int} {n:Nat} (h:zJ z n) (hn:0<n):(Lib.itoa z).length<=9*n+1:=by
 have j:z.natAbs<10^(9*n):=by
  have h:(z.natAbs:Int)<E9^n:=h
  rw[qgW]at h
  exact Int.ofNat_lt.1 h
 have u:=(yH (show 0<9*n by omega)).2 j
 have h4:=qgk z
 omega
theorem qjh {N:Nat} (u:60000<N) {x y:Int} (h:0<=x) (j:0<y) {B:Nat} (hB:B<=8000) (fx:zJ x B):zT N (dg E9 x) (dg E9 y)=some (dg E9 (x/y),dg E9 (x%y)):=by
 have l:=fx.len
 rw[show(x.natAbs:Int)=x by omega]at l
 rw[qcZ u (zy E1 h) (zy E1 (by omega)) (by omega) (by rw[jh E1 (by omega)];exact j),jh E1 h,jh E1 (by omega)]
theorem den_pos (q:Rat):0<q.den:=Nat.pos_of_ne_zero q.den_nz
theorem qhK {a b:Int} (h:b≠0):(b.sign*a).natAbs=a.natAbs:=by rw[Int.natAbs_mul,Int.natAbs_sign_of_ne_zero h,Nat.one_mul]
theorem qlK (a b:Int):Int.gcd (a.natAbs:Int) (b.natAbs:Int)=Int.gcd b a:=by
 rw[Int.gcd_comm]
 rfl
theorem qda {N:Nat} (hN:600000<N) {B:Nat} (j:0<B) (hB:B<=8000) {a b:Int} (fa:zJ a B) (u:zJ b B) (hb:b≠0):jZ N (rI a) (rI b)=some (T (Rat.divInt a b)):=by
 have hg:0<Int.gcd b a:=Int.gcd_pos_of_ne_zero_left _ hb
 have ea:=qhK (a:=a) hb
 have S:(if(rI b).neg=true then(yV N (rI a)).bind fun r7=>(yV N (rI b)).bind fun r8=>some (r7.neg,r7.w,r8.neg,r8.w)else some ((rI a).neg,(rI a).w,(rI b).neg,(rI b).w):Option (Bool×(List Int)×Bool×(List Int)))=some (decide (b.sign*a<0),dg E9 (a.natAbs:Int),false,dg E9 (b.natAbs:Int)):=by
  by_cases h:b<0
  ·rw[if_pos (show(rI b).neg=true from decide_eq_true h),qky (by omega) (fa.mono (by omega)),ZB,qky (by omega) (u.mono (by omega)),ZB,Int.sign_eq_neg_one_of_neg h,Int.neg_mul,Int.one_mul]
   show some (decide (-a<0),dg E9 (((-a).natAbs:Nat):Int),decide (-b<0),dg E9 (((-b).natAbs:Nat):Int))=_
   rw[decide_eq_false (show¬ -b<0 by omega),Int.natAbs_neg,Int.natAbs_neg]
  rw[if_neg (show¬(rI b).neg=true from fun c=>h (of_decide_eq_true c)),Int.sign_eq_one_of_pos (by omega),Int.one_mul]
  show some (decide (a<0),dg E9 ((a.natAbs:Nat):Int),decide (b<0),dg E9 ((b.natAbs:Nat):Int))=_
  rw[decide_eq_false h]
 have en:(Rat.divInt a b).num=b.sign*a/(Int.gcd b a:Int):=Rat.num_divInt ..
 have ed:(b.natAbs:Int)/(Int.gcd b a:Int)=((Rat.divInt a b).den:Int):=by rw[Rat.den_divInt,if_neg hb,Int.natCast_ediv]
 have hd:=den_pos (Rat.divInt a b)
 have dvd:(Int.gcd b a:Int)∣b.sign*a:=Int.dvd_mul_of_dvd_right (Int.gcd_dvd_right ..)
 have fn:zJ (Rat.divInt a b).num B:=by
  rw[en]
  exact zJ.le (Int.le_trans (jg _ (by omega)) (by rw[ea];exact Int.le_refl _)) fa
 have fd:zJ ((Rat.divInt a b).den:Int) B:=by
  rw[<-ed]
  exact zJ.le (Int.le_trans (jg _ (by omega)) (Int.le_refl _)) u.abs
 have vn:(if decide (b.sign*a<0)=true then-dv E9 (dg E9 ((a.natAbs:Int)/(Int.gcd b a:Int)))else dv E9 (dg E9 ((a.natAbs:Int)/(Int.gcd b a:Int))))=(Rat.divInt a b).num:=by
  have p0:0<=(a.natAbs:Int)/(Int.gcd b a:Int):=Int.ediv_nonneg (by omega) (by omega)
  rw[jh E1 p0,en]
  by_cases c:b.sign*a<0
  ·rw[if_pos (decide_eq_true c),show(a.natAbs:Int)= -(b.sign*a)by omega,Int.neg_ediv_of_dvd dvd,Int.neg_neg]
  rw[if_neg (fun h=>c (of_decide_eq_true h)),show(a.natAbs:Int)=b.sign*a by omega]
 unfold jZ
 rw[S,ZB]
 simp only
 rw[qiu hN (by omega) (by omega) (fa.abs.mono hB) (u.abs.mono hB),ZB,qlK,qjh (by omega) (by omega) (by omega) hB fa.abs,ZB,qjh (by omega) (by omega) (by omega) hB u.abs,ZB]
 simp only
 have p0:0<=(a.natAbs:Int)/(Int.gcd b a:Int):=Int.ediv_nonneg (by omega) (by omega)
 have ln:(dg E9 ((a.natAbs:Int)/(Int.gcd b a:Int))).length<=B:=by
  have:=(zJ.le (Int.le_trans (jg _ (by omega)) (Int.le_refl _)) fa.abs:zJ ((a.natAbs:Int)/(Int.gcd b a:Int)) B).len
  rw[show(((a.natAbs:Int)/(Int.gcd b a:Int)).natAbs:Int)=(a.natAbs:Int)/(Int.gcd b a:Int)by omega]at this
  exact this
 have ld:(dg E9 ((Rat.divInt a b).den:Int)).length<=B:=by
  have:=fd.len
  rw[Int.natAbs_natCast]at this
  exact this
 rw[vQ _ (zy E1 p0).1 (by omega) (by omega),ZB,vn,qgj (by omega) (fn.mono (by omega)),ZB,ed,qmz hd,ZB]
 have l1:=fn.itoaLen j
 have l2:=fd.itoaLen j
 unfold T
 by_cases c:(Rat.divInt a b).den=1
 ·rw[if_pos (decide_eq_true c),if_pos c,YQ]
 rw[if_neg (fun h=>c (of_decide_eq_true h)),if_neg c,qbg (by simp;omega),ZB,vQ _ (zy E1 (by omega)).1 (by omega) (by omega),ZB,if_neg (by simp),jh E1 (by omega),qgj (by omega) (fd.mono (by omega)),ZB,qbg (by simp;omega),ZB,qek,Yz]
 rfl
theorem qpM {a b:Int} (h:0<=a) (j:0<b):qd1 .i64 a b=some (a%b):=by
 unfold qd1
 rw[if_neg (by omega),Int.tmod_eq_emod_of_nonneg h]
theorem qpK {a b:Int} (h:0<b) (h1: -4000000000000000000<=a) (u:a<=4000000000000000000) (j:b∣a):qca .i64 a b=some (a/b):=by
 have:=jg a h
 unfold qca
 rw[if_neg (by omega),Int.tdiv_eq_ediv_of_dvd j]
 show some (w64 _)=_
 rw[qj (by omega) (by omega)]
theorem qlD: ∀(k K:Nat) (a b:Int),0<=a->0<=b->b<2^k->2*k+2<=K->jG K a b=some (Int.gcd a b:Int)
 |k,0,a,b,_,_,_,hK=>by omega
 |k,K+1,a,b,ha,hb,hk,hK=>by
  have na:(a.natAbs:Int)=a:=by omega
  have nb:(b.natAbs:Int)=b:=by omega
  rcases(show b=0\/0<b by omega)with h0|h0
  ·rw[h0,jG,if_neg (by omega),Int.gcd_zero,na]
  match k,hk,hK with
  |0,hk,hK=>simp at hk;omega
  |k+1,hk,hK=>
   have j:=Int.emod_nonneg a (show b≠0 by omega)
   have m1:=Int.emod_lt_of_pos a h0
   rw[jG,if_pos (by omega),qpM ha h0,ZB,qcY ha hb]
   match K,hK with
   |0,hK=>omega
   |K+1,hK=>
    rcases(show a%b=0\/0<a%b by omega)with g0|g0
    ·rw[g0,jG,if_neg (by omega),Int.gcd_zero,nb]
    have u:=Int.emod_nonneg b (show a%b≠0 by omega)
    have n1:=Int.emod_lt_of_pos b g0
    have h:b%(a%b)<2^k:=by
     have d1:=Int.mul_ediv_add_emod b (a%b)
     have d2:1<=b/(a%b):=by
      rw[Int.le_ediv_iff_mul_le g0]
      omega
     have d3:a%b*1<=a%b*(b/(a%b)):=Yc d2 (by omega)
     rw[Int.pow_succ]at hk
     omega
    rw[jG,if_pos (by omega),qpM hb g0,ZB,qcY hb j]
    exact qlD k K (a%b) (b%(a%b)) j u h (by omega)
theorem qpx {N:Nat} (hN:200<N) {a b:Int} (u:0<=a) (j:0<=b) (h:b<9223372036854775808):qcO N a b=some (Int.gcd a b:Int):=by
 unfold qcO
 rw[qlD 63 N a b u j h (by omega),ZB]
theorem rabs {z:Int} (h: -9223372036854775807<=z) (j:z<=9223372036854775807):(if w64 (0-z)>z then w64 (0-z)else z)=(z.natAbs:Int):=by
 rw[qj (by omega) (by omega)]
 split<;>omega
theorem qpL {n:Nat} (h:n<=4000000000000000000):(Lib.decDigits n).length<=19:=(yH (by decide)).2 (by omega)
theorem qou {N:Nat} (hN:1000<N) {a b:Int} (a1: -4000000000000000000<=a) (a2:a<=4000000000000000000) (b1: -4000000000000000000<=b) (b2:b<=4000000000000000000) (hb:b≠0):qcR N a b=some (T (Rat.divInt a b)):=by
 have hg:0<Int.gcd b a:=Int.gcd_pos_of_ne_zero_left _ hb
 have ea:=qhK (a:=a) hb
 have S:(if b<0 then some (w64 (0-a),w64 (0-b))else some (a,b):Option (Int×Int))=some (b.sign*a,(b.natAbs:Int)):=by
  by_cases h:b<0
  ·rw[if_pos h,qj (by omega) (by omega),qj (by omega) (by omega),Int.sign_eq_neg_one_of_neg h,show(-1:Int)*a=0-a by omega,show(b.natAbs:Int)=0-b by omega]
  rw[if_neg h,Int.sign_eq_one_of_pos (by omega),Int.one_mul,show(b.natAbs:Int)=b by omega]
 have en:(Rat.divInt a b).num=b.sign*a/(Int.gcd b a:Int):=Rat.num_divInt ..
 have ed:(b.natAbs:Int)/(Int.gcd b a:Int)=((Rat.divInt a b).den:Int):=by rw[Rat.den_divInt,if_neg hb,Int.natCast_ediv]
 have hd:=den_pos (Rat.divInt a b)
 have u:(Int.gcd b a:Int)∣b.sign*a:=Int.dvd_mul_of_dvd_right (Int.gcd_dvd_right ..)
 have j:(Int.gcd b a:Int)∣(b.natAbs:Int):=by
  rw[Int.dvd_natAbs]
  exact Int.gcd_dvd_left ..
 have n1:=jg (b.sign*a) (show(0:Int)<(Int.gcd b a:Int)by omega)
 have n2:=jg (b.natAbs:Int) (show(0:Int)<(Int.gcd b a:Int)by omega)
 rw[<-en,ea]at n1
 rw[ed,Int.natAbs_natCast,Int.natAbs_natCast]at n2
 unfold qcR
 rw[if_neg (show¬a< -4000000000000000000 by omega),if_neg (show¬a>4000000000000000000 by omega),if_neg (show¬b< -4000000000000000000 by omega),decide_eq_false (show¬b>4000000000000000000 by omega),ZB,if_neg (by simp),S,ZB]
 simp only
 rw[rabs (by omega) (by omega),ea,qpx (by omega) (by omega) (by omega) (by omega),ZB,qlK,qpK (by omega) (by omega) (by omega) u,ZB,qpK (by omega) (by omega) (by omega) j,ZB,<-en,ed,rabs (by omega) (by omega),qgM (by omega) (by omega),qgM (by omega) (by omega)]
 generalize Rat.divInt a b=q at*
 have l1:=qpL (n:=q.num.natAbs) (by omega)
 have l2:=qpL (n:=q.den) (by omega)
 have S2:((if q.num<0 then some [45]else some []:Option Str).bind fun s17=>(some (Lib.decDigits q.num.natAbs)).bind fun r20=>(cat s17 r20).bind fun s21=>(if(q.den:Int)>1 then(cat s21 [47]).bind fun s25=>(some (Lib.decDigits q.den)).bind fun r26=>(cat s25 r26).bind fun s27=>some s27 else some s21:Option Str).bind fun s22=>some s22)=some (T q):=by
  have li:(Lib.itoa q.num).length<=20:=by have:=qgk q.num;omega
  have I:((if q.num<0 then some [45]else some []:Option Str).bind fun s17=>(some (Lib.decDigits q.num.natAbs)).bind fun r20=>(cat s17 r20).bind fun s21=>(if(q.den:Int)>1 then(cat s21 [47]).bind fun s25=>(some (Lib.decDigits q.den)).bind fun r26=>(cat s25 r26).bind fun s27=>some s27 else some s21:Option Str).bind fun s22=>some s22)=((if(q.den:Int)>1 then(cat (Lib.itoa q.num) [47]).bind fun s25=>(some (Lib.decDigits q.den)).bind fun r26=>(cat s25 r26).bind fun s27=>some s27 else some (Lib.itoa q.num):Option Str).bind fun s22=>some s22):=by
   by_cases c:q.num<0
   ·rw[if_pos c,ZB,ZB,qbg (by simp;omega),ZB,yg c]
    rfl
   rw[if_neg c,ZB,ZB,qbg (by simp;omega),ZB,zK c]
   rfl
  rw[I]
  unfold T
  by_cases c:q.den=1
  ·rw[if_neg (by omega),if_pos c,ZB,YQ]
  rw[if_pos (by omega),if_neg c,qbg (by simp;omega),ZB,ZB,qbg (by simp;omega),ZB,ZB,Yz]
  rfl
 exact S2
end Go.Av
end
section
namespace Go.Av
theorem Sml.mono {q:Rat} {m n:Nat} (h:Sml q m) (j:m<=n):Sml q n:=⟨Nat.le_trans h.1 j,Nat.le_trans h.2 j⟩
theorem qbl {q:Rat} {k n:Nat} (h:Sml q k) (j:0<k) (u:k<=9*n):zJ q.num n:=qiX (p:=k) (Int.ofNat_lt.2 ((yH j).1 h.1)) u
theorem qbM {q:Rat} {k n:Nat} (h:Sml q k) (j:0<k) (u:k<=9*n):zJ (q.den:Int) n:=qiX (p:=k) (by rw[Int.natAbs_natCast];exact Int.ofNat_lt.2 ((yH j).1 h.2)) u
theorem qn2 {q:Rat} {k n:Nat} (h:Sml q k) (j:0<k) (u:k<=19*n):jV q n:=⟨qfs (p:=k) (Int.ofNat_lt.2 ((yH j).1 h.1)) u,qfs (p:=k) (by rw[Int.natAbs_natCast];exact Int.ofNat_lt.2 ((yH j).1 h.2)) u⟩
theorem qlI {z:Int} {n:Nat} (h:zJ z n) (j:0<n):(Lib.decDigits z.natAbs).length<=9*n:=by
 refine(yH (by omega)).2 ?_
 have h:(z.natAbs:Int)<E9^n:=h
 rw[qgW]at h
 exact Int.ofNat_lt.1 h
theorem qhy {q:Rat} {n:Nat} (h1:zJ q.num n) (u:zJ (q.den:Int) n) (j:0<n):Sml q (9*n):=by
 have h:=qlI u j
 rw[Int.natAbs_natCast]at h
 exact⟨qlI h1 j,h⟩
theorem qf6 {a b:Int} {n:Nat} (h:b≠0) (fa:zJ a n) (j:zJ b n):zJ (Rat.divInt a b).num n/\zJ ((Rat.divInt a b).den:Int) n:=by
 have u:0<Int.gcd b a:=Int.gcd_pos_of_ne_zero_left _ h
 constructor
 ·rw[Rat.num_divInt]
  exact zJ.le (Int.le_trans (jg _ (by omega)) (by rw[qhK h];exact Int.le_refl _)) fa
 rw[Rat.den_divInt,if_neg h,Int.natCast_ediv]
 exact zJ.le (Int.le_trans (jg _ (by omega)) (Int.le_refl _)) j.abs
theorem xx {a b:Int} {m n:Nat} (h:zJ a m) (j:zJ b n):zJ (a*b) (m+n):=by
 unfold zJ at*
 rw[Int.natAbs_mul,Int.natCast_mul,Int.pow_add]
 have h1:(a.natAbs:Int)*(b.natAbs:Int)<=(a.natAbs:Int)*E9^n:=Yc (Int.le_of_lt j) (by omega)
 have u:(a.natAbs:Int)*E9^n<E9^m*E9^n:=YH h (pow_pos E0 n)
 omega
theorem qjC {a b:Int} {n:Nat} (u:zJ a n) (h:zJ b n):zJ (a+b) (n+1):=by
 unfold zJ at*
 rw[Int.pow_succ]
 have j:=pow_pos E0 n
 have:((a+b).natAbs:Int)<=(a.natAbs:Int)+(b.natAbs:Int):=by omega
 unfold E9 at*
 omega
theorem qgO {q:Rat} (h:Sml q 600):qk7 q=false:=by
 have j:=h.1
 have u:=h.2
 unfold qk7 lng
 rw[Int.natAbs_natCast,decide_eq_false (by omega),decide_eq_false (by omega)]
 rfl
theorem qnn (s:Str):xg s=some (if s=[48]then 0 else if sgn s=true then-1 else 1):=by
 unfold xg
 by_cases c:s=[48]
 ·rw[if_pos (by simp[c]),if_pos c]
 rw[if_neg (by simp[c]),qft,ZB,if_neg c]
 cases sgn s<;>rfl
theorem itoa0:Lib.itoa 0=[48]:=by
 rw[zK (by decide),show(0:Int).natAbs=0 from rfl,ja (by decide)]
 rfl
theorem T0:T 0=[48]:=by
 rw[(qeu 0 rfl).1]
 exact itoa0
theorem qop {q:Rat}:T q=[48]↔q=0:=by
 constructor
 ·intro h
  exact T_inj (h.trans T0.symm)
 intro h
 rw[h]
 exact T0
theorem qiP (q:Rat):xg (T q)=some (if q.num<0 then-1 else if q.num=0 then 0 else 1):=by
 rw[qnn,qjS]
 by_cases c:q=0
 ·rw[if_pos (qop.2 c),c]
  rfl
 rw[if_neg (fun h=>c (qop.1 h)),if_neg (show¬q.num=0 from fun h=>c (Rat.num_eq_zero.1 h))]
 by_cases d:q.num<0
 ·rw[decide_eq_true d,if_pos rfl,if_pos d]
 rw[decide_eq_false d,if_neg (by simp),if_neg d]
theorem qqi (q:Rat):tl (-q)=tl q:=by
 unfold tl
 rw[Rat.neg_den]
theorem qpR {N:Nat} {q:Rat} (h:(T q).length<=100000):qbS (T q)=some (T (-q)):=by
 unfold qbS
 rw[qiP,ZB]
 have e:T (-q)=Lib.itoa (-q.num)++tl q:=by rw[qmj,qqi,Rat.neg_num]
 by_cases c:q.num<0
 ·have hs:sgn (T q)=true:=by rw[qjS];exact decide_eq_true c
  have j:(T q).drop 1=bdy (T q):=by unfold bdy;rw[if_pos hs]
  have u:=qjo hs
  rw[if_pos c,if_pos (by decide),show(1:Int)=((1:Nat):Int)from rfl,xY u,ZB,j,qj8,e,zK (by omega),Int.natAbs_neg]
 rw[if_neg c,if_neg (by split<;>decide),ZB]
 by_cases d:q.num=0
 ·rw[if_pos d,if_pos rfl,Rat.num_eq_zero.1 d]
  rfl
 rw[if_neg d,if_neg (by decide),qbg (by simp;omega),ZB,e,yg (by omega),Int.natAbs_neg,qmj,zK c]
 rfl
theorem qgR {N:Nat} (hN:100000<N) {q:Rat} {k:Nat} (h:Sml q k) (hk:k<=9000):jT N (T q)=some (0,0,false)\/(jT N (T q)=some (q.num,(q.den:Int),true)/\q.num.natAbs<1000000000/\q.den<1000000000):=by
 have hl:=qcT h
 have hb:=qfh (T q)
 have eb:=qj8 q
 have es:slA (Lib.decDigits q.num.natAbs++tl q)=(Lib.decDigits q.num.natAbs).length:=qgQ (qnk (qaB _)) q
 have u:(Lib.decDigits q.num.natAbs++tl q).length=(Lib.decDigits q.num.natAbs).length+(tl q).length:=Yq
 rw[eb]at hb
 unfold jT
 by_cases c:((T q).length:Int)>20
 ·left
  rw[if_pos c]
 rw[if_neg c,qft,ZB,qlc,ZB,eb,qbu (by omega) (by omega),ZB,es,qjS]
 by_cases c1:(Lib.decDigits q.num.natAbs).length>9
 ·left
  rw[if_pos (by omega),ZB,if_pos rfl]
 rw[if_neg (by omega),qj (by omega) (by omega)]
 by_cases c2:(tl q).length>10
 ·left
  rw[decide_eq_true (by omega),ZB,if_pos rfl]
 right
 rw[decide_eq_false (by omega),ZB,if_neg (by simp),yI (by omega),ZB,List.take_left',qfb (by omega) (qaB _) (by omega),ZB,qbA]
 ·have hn:q.num.natAbs<1000000000:=(yH (show 0<9 by decide)).1 (by omega)
  have sg:(if decide (q.num<0)=true then some (w64 (0-(q.num.natAbs:Int)))else some (q.num.natAbs:Int):Option Int)=some q.num:=by
   by_cases d:q.num<0
   ·rw[if_pos (decide_eq_true d),qj (by omega) (by omega)]
    congr 1
    omega
   rw[if_neg (fun h=>d (of_decide_eq_true h))]
   congr 1
   omega
  by_cases d:q.den=1
  ·have j:tl q=[]:=by unfold tl;rw[if_pos d]
   rw[j]at u
   rw[List.length_nil]at u
   rw[j,if_neg (by omega),ZB,sg,ZB,d]
   exact⟨rfl,hn,by decide⟩
  have j:tl q=47::Lib.decDigits q.den:=by unfold tl;rw[if_neg d]
  rw[j,Yr]at u c2
  have hd:q.den<1000000000:=(yH (show 0<9 by decide)).1 (by omega)
  rw[j,if_pos (by omega),zV (by omega),xY (by omega),ZB,List.drop_append,List.drop_of_length_le (by omega),show(Lib.decDigits q.num.natAbs).length+1-(Lib.decDigits q.num.natAbs).length=1 by omega,List.nil_append,List.drop_succ_cons,YR,qfb (by omega) (qaB _) (by omega),ZB,ZB,sg,ZB,qbA]
  exact⟨rfl,hn,hd⟩
 rfl
theorem qlZ {N:Nat} (hN:100000<N) {p q:Rat} {k:Nat} (hk:k<=9000) (hp:Sml p k) (hq:Sml q k) {Fq:(Int×Int×Bool)->(Int×Int×Bool)->Option Str} {h:Option Str} {t:Str}
 (h1:p.num.natAbs<1000000000->p.den<1000000000->q.num.natAbs<1000000000->q.den<1000000000->Fq (p.num,(p.den:Int),true) (q.num,(q.den:Int),true)=some t) (h2:h=some t):
 ((jT N (T p)).bind fun r1=>(jT N (T q)).bind fun r2=>(if r1.2.2=true then some r2.2.2 else some false:Option Bool).bind fun b4=>if b4=true then(Fq r1 r2).bind fun r7=>some r7 else h)=some t:=by
 rcases qgR hN hp hk with u|⟨u,a1,a2⟩
 ·rcases qgR hN hq hk with j|⟨j,b1,b2⟩
  ·rw[u,ZB,j,ZB]
   exact h2
  rw[u,ZB,j,ZB]
  exact h2
 rcases qgR hN hq hk with j|⟨j,b1,b2⟩
 ·rw[u,ZB,j,ZB]
  exact h2
 rw[u,ZB,j,ZB]
 show((Fq (p.num,(p.den:Int),true) (q.num,(q.den:Int),true)).bind fun r7=>some r7)=some t
 rw[h1 a1 a2 b1 b2,ZB]
theorem qov {a b:Int} (j:a.natAbs<1000000000) (u:b.natAbs<1000000000): -1000000000000000000<=a*b/\a*b<=1000000000000000000:=by
 have h:(a*b).natAbs<=1000000000*1000000000:=by
  rw[Int.natAbs_mul]
  exact Nat.mul_le_mul (by omega) (by omega)
 omega
theorem qlh {N:Nat} (hN:600000<N) {p q:Rat} {k:Nat} (h:0<k) (hk:k<=4000) (hp:Sml p k) (hq:Sml q k):qbR N (T p) (T q)=some (T (p+q)):=by
 unfold qbR
 obtain⟨n,hn⟩: ∃n:Nat,n=500:=⟨_,rfl⟩
 have p1:=qbl (n:=n) hp h (by omega)
 have j:=qbM (n:=n) hp h (by omega)
 have q1:=qbl (n:=n) hq h (by omega)
 have u:=qbM (n:=n) hq h (by omega)
 refine qlZ (N:=N) (by omega) (show k<=9000 by omega) hp hq (fun a1 a2 b1 b2=>?_) ?_
 ·have m1:=qov a1 (show((q.den:Int)).natAbs<1000000000 by omega)
  have m2:=qov b1 (show((p.den:Int)).natAbs<1000000000 by omega)
  have m3:=qov (show((p.den:Int)).natAbs<1000000000 by omega) (show((q.den:Int)).natAbs<1000000000 by omega)
  have:=qb2 p q
  simp only
  rw[qj (n:=p.num*(q.den:Int)) (by omega) (by omega),qj (n:=q.num*(p.den:Int)) (by omega) (by omega),qj (n:=(p.den:Int)*(q.den:Int)) (by omega) (by omega),qj (by omega) (by omega),qou (by omega) (by omega) (by omega) (by omega) (by omega) (qb2 p q),<-qb4]
 rw[qbT hN (hp.mono (by omega)),ZB,qbT hN (hq.mono (by omega)),ZB]
 simp only
 rw[qdR (by omega) (p1.mono (by omega)) (u.mono (by omega)),ZB,qdR (by omega) (q1.mono (by omega)) (j.mono (by omega)),ZB,qpa (by omega) ((xx p1 u).mono (by omega)) ((xx q1 j).mono (by omega)),ZB,qdR (by omega) (j.mono (by omega)) (u.mono (by omega)),ZB,qda hN (B:=n+n+1) (by omega) (by omega) (qjC (xx p1 u) (xx q1 j)) ((xx j u).mono (by omega)) (qb2 p q),ZB,<-qb4]
theorem qlv {N:Nat} (hN:600000<N) {p q:Rat} {k:Nat} (h:0<k) (hk:k<=4000) (j:Sml p k) (u:Sml q k):qbV N (T p) (T q)=some (T (p*q)):=by
 unfold qbV
 obtain⟨n,hn⟩: ∃n:Nat,n=500:=⟨_,rfl⟩
 have p1:=qbl (n:=n) j h (by omega)
 have p2:=qbM (n:=n) j h (by omega)
 have q1:=qbl (n:=n) u h (by omega)
 have q2:=qbM (n:=n) u h (by omega)
 refine qlZ (N:=N) (by omega) (show k<=9000 by omega) j u (fun a1 a2 b1 b2=>?_) ?_
 ·have m1:=qov a1 b1
  have m3:=qov (show((p.den:Int)).natAbs<1000000000 by omega) (show((q.den:Int)).natAbs<1000000000 by omega)
  simp only
  rw[qj (n:=p.num*q.num) (by omega) (by omega),qj (n:=(p.den:Int)*(q.den:Int)) (by omega) (by omega),qou (by omega) (by omega) (by omega) (by omega) (by omega) (qb2 p q),<-qb9]
 rw[qbT hN (j.mono (by omega)),ZB,qbT hN (u.mono (by omega)),ZB]
 simp only
 rw[qdR (by omega) (p1.mono (by omega)) (q1.mono (by omega)),ZB,qdR (by omega) (p2.mono (by omega)) (q2.mono (by omega)),ZB,qda hN (B:=n+n) (by omega) (by omega) (xx p1 q1) (xx p2 q2) (qb2 p q),ZB,<-qb9]
theorem qjj {p q:Rat} {n:Nat} (hn:0<n) (j:Sml p (9*n)) (hq:Sml q (9*n)):Sml (p+q) (9*(n+n+1)):=by
 have p1:=qbl (n:=n) j (by omega) (by omega)
 have h:=qbM (n:=n) j (by omega) (by omega)
 have q1:=qbl (n:=n) hq (by omega) (by omega)
 have u:=qbM (n:=n) hq (by omega) (by omega)
 rw[qb4]
 obtain⟨f1,f2⟩:=qf6 (qb2 p q) (qjC (xx p1 u) (xx q1 h)) ((xx h u).mono (show n+n<=n+n+1 by omega))
 exact qhy f1 f2 (by omega)
theorem qlG {p q:Rat} {n:Nat} (hn:0<n) (h:Sml p (9*n)) (j:Sml q (9*n)):Sml (p*q) (9*(n+n)):=by
 have p1:=qbl (n:=n) h (by omega) (by omega)
 have u:=qbM (n:=n) h (by omega) (by omega)
 have q1:=qbl (n:=n) j (by omega) (by omega)
 have q2:=qbM (n:=n) j (by omega) (by omega)
 rw[qb9]
 obtain⟨f1,f2⟩:=qf6 (qb2 p q) (xx p1 q1) (xx u q2)
 exact qhy f1 f2 (by omega)
theorem qgm {p:Rat} {k:Nat} (h:Sml p k):Sml (-p) k:=by
 unfold Sml
 rw[Rat.neg_num,Rat.neg_den,Int.natAbs_neg]
 exact h
theorem ql7 {p:Rat} {k:Nat} (h:Sml p k) (u:p≠0):Sml p⁻¹ k:=by
 have j:p.num≠0:=fun c=>u (Rat.num_eq_zero.1 c)
 unfold Sml
 rw[Rat.num_inv,Rat.den_inv,if_neg j,Int.natAbs_mul,Int.natAbs_sign_of_ne_zero j,Nat.one_mul,Int.natAbs_natCast]
 exact⟨h.2,h.1⟩
theorem qgF {N:Nat} (hN:600000<N) {p q:Rat} {k:Nat} (h:0<k) (u:k<=4000) (hp:Sml p k) (j:Sml q k):qai N (T p) (T q)=some (T (p-q)):=by
 have hl:=qcT j
 unfold qai
 rw[qpR (N:=N) (by omega),ZB,qlh hN h u hp (qgm j),ZB,Rat.sub_eq_add_neg]
theorem qi9 {N:Nat} (hN:600000<N) {p q:Rat} {k:Nat} (j:0<k) (u:k<=4000) (hp:Sml p k) (hq:Sml q k):qag N (T p) (T q)=some (if p<q then-1 else if p=q then 0 else 1):=by
 unfold qag
 rw[qgF hN j u hp hq,ZB,qiP,ZB]
 have a1:((p-q).num<0)=(p<q):=by
  apply propext
  rw[<-Rat.not_le,Rat.le_iff_sub_nonneg q p,<-Rat.num_nonneg]
  omega
 have a2:((p-q).num=0)=(p=q):=by
  apply propext
  rw[Rat.num_eq_zero]
  constructor
  ·intro h
   have:p-q+q=p:=Rat.sub_add_cancel
   rw[h,Rat.zero_add]at this
   exact this.symm
  intro h
  rw[h,Rat.sub_self]
 simp only[a1,a2]
theorem qpE {N:Nat} (u:600000<N) {p:Rat} {k:Nat} (h:0<k) (hk:k<=4000) (j:Sml p k) (h0:p≠0):yK N (T p)=some (T p⁻¹):=by
 obtain⟨n,hn⟩: ∃n:Nat,n=500:=⟨_,rfl⟩
 have p1:=qbl (n:=n) j h (by omega)
 have p2:=qbM (n:=n) j h (by omega)
 unfold yK
 rw[qbT u (j.mono (by omega)),ZB]
 simp only
 rw[qda u (B:=n) (by omega) (by omega) p2 p1 (fun c=>h0 (Rat.num_eq_zero.1 c)),ZB,<-Rat.inv_def]
theorem qlt {N:Nat} (u:600000<N) {p q:Rat} {k:Nat} (h:0<k) (j:k<=4000) (hp:Sml p k) (hq:Sml q k) (h0:q≠0):qbU N (T p) (T q)=some (T (p/q)):=by
 unfold qbU
 rw[qpE u h j hq h0,ZB,qlv u h j hp (ql7 hq h0),ZB,<-Rat.div_def]
end Go.Av
end
section
namespace Go.Av
def res (q:Rat):Str×Int:=if qk7 q=true then([],4)else(T q,0)
section ops
variable {N:Nat} (hN:600000<N)
include hN
variable {p q:Rat} (hp:Sml p 600) (hq:Sml q 600) (cp:chk (T p)=0) (cq:chk (T q)=0)
include hp hq cp cq
end ops
end Go.Av
end
