/-
  The reference's digits to the base 10^9: zeros off the end, comparison, sums, differences, products, division by a digit.
-/
import Derived.Test.YtbjpmhdicbgjkaaGreatDoorNuPa
noncomputable section
section
namespace Go.Av
set_option linter.unusedVariables false
set_option linter.unusedSimpArgs false
set_option maxRecDepth 100000
abbrev E9:Int:=1000000000
theorem E1:(1:Int)<E9:=by decide
theorem E0:(0:Int)<E9:=by decide
theorem qhJ {w:List Int} (hl:w.length<=100000): ∀(K m:Nat),m<=w.length->m<K->(∀(i:Nat) x,m<=i->w[i]? =some x->x=0)->
 ∃m':Nat,vz K (w.take m)=some (w.take m')/\m'<=w.length/\(∀x,0<m'->w[m'-1]? =some x->x≠0)/\ ∀(i:Nat) x,m'<=i->w[i]? =some x->x=0
 |0,m,h,hK,_=>by omega
 |K+1,m,h,hK,hz=>by
  have el:(w.take m).length=m:=by rw[List.length_take];omega
  rw[vz,el]
  by_cases h0:0<m
  ·have hm:m-1<w.length:=by omega
   have e1:(w.take m)[m-1]? =some w[m-1]:=by rw[List.getElem?_take,if_pos (by omega),List.getElem?_eq_getElem hm]
   rw[if_pos (by omega),qhi (by omega) h0,qx,e1,ZB,ZB]
   by_cases c:w[m-1]=0
   ·rw[decide_eq_true c,if_pos rfl,yl (by omega),ZB,List.take_take,Nat.min_eq_left (by omega)]
    refine qhJ hl K (m-1) (by omega) (by omega) fun i x hi hx=>?_
    rcases Nat.lt_or_ge i m with h1|h1
    ·have e:i=m-1:=by omega
     subst e
     rw[List.getElem?_eq_getElem hm]at hx
     rw[<-Option.some.inj hx]
     exact c
    exact hz i x h1 hx
   rw[decide_eq_false c,if_neg (by simp)]
   refine⟨m,rfl,h,fun x _ hx=>?_,hz⟩
   rw[List.getElem?_eq_getElem hm]at hx
   rw[<-Option.some.inj hx]
   exact c
  rw[if_neg (by omega),ZB,if_neg (by simp)]
  exact⟨m,rfl,h,fun x h1=>by omega,hz⟩
theorem qbu {N:Nat} {w:List Int} (hw:Dg E9 w) (hl:w.length<=100000) (hN:w.length<N):vE N w=some (dg E9 (dv E9 w)):=by
 unfold vE
 obtain⟨m,e,h1,h2,h3⟩:=qhJ hl N w.length (Nat.le_refl _) hN (fun i x hi hx=>by rw[List.getElem?_eq_none hi]at hx;cases hx)
 rw[List.take_of_length_le (Nat.le_refl _)]at e
 rw[e,ZB,qjH E1 hw h1 h2 h3]
def rI (z:Int):qL:=⟨decide (z<0),dg E9 z.natAbs⟩
theorem qbk {N:Nat} (neg:Bool) {w:List Int} (hw:Dg E9 w) (hl:w.length<=100000) (hN:w.length<N):zX N neg w=some (rI (if neg=true then-dv E9 w else dv E9 w)):=by
 have h0:=qz E0 hw
 have hn:=qfU E1 h0
 unfold zX
 rw[qbu hw hl hN,ZB]
 have hlen:0<(dg E9 (dv E9 w)).length↔0<dv E9 w:=by
  rw[List.length_pos_iff]
  constructor
  ·intro c
   have:dv E9 w≠0:=fun e=>c (hn.2 e)
   omega
  intro c e
  have:=hn.1 e
  omega
 cases neg with
 |true=>
  rw[if_pos rfl,if_pos rfl,ZB]
  unfold rI
  rw[Int.natAbs_neg,show(dv E9 w).natAbs=dv E9 w by omega]
  congr 2
  exact decide_eq_decide.2 (by omega)
 |false=>
  rw[if_neg (by simp),if_neg (by simp),ZB]
  unfold rI
  rw[show((dv E9 w).natAbs:Int)=dv E9 w by omega,decide_eq_false (by omega)]
theorem qcB {a b:List Int} (ha:Can E9 a) (hb:Can E9 b) (h:a.length<b.length):dv E9 a<dv E9 b:=by
 obtain⟨n,hn⟩: ∃n,b.length=n+1:=⟨b.length-1,by omega⟩
 have h1:=vL E0 ha.1
 have h2:=hb.low E1 hn
 have h3:=j6 (show(1:Int)<=E9 by decide) (show a.length<=n by omega)
 omega
theorem qj1 {a b:List Int} (ha:Dg E9 a) (hl:a.length=b.length) (hb:Dg E9 b) {k:Nat} (hk:k<a.length) (he:a.drop (k+1)=b.drop (k+1)) (h:a[k]<b[k]'(by omega)):dv E9 a<dv E9 b:=by
 have e1:=vO E9 a (k+1) (by omega)
 have e2:=vO E9 b (k+1) (by omega)
 rw[qm E9 a k hk]at e1
 rw[qm E9 b k (by omega)]at e2
 have l1:=vL E0 (ha.take k)
 have l2:=qz E0 (hb.take k)
 rw[List.length_take,Nat.min_eq_left (by omega)]at l1
 have l3:E9^k*(a[k]+1)<=E9^k*b[k]:=Int.mul_le_mul_of_nonneg_left (by omega) (Int.le_of_lt (pow_pos E0 k))
 rw[Int.mul_add,Int.mul_one]at l3
 rw[he]at e1
 omega
theorem qjr {a b:List Int} (ha:Dg E9 a) (hb:Dg E9 b) (hl:a.length=b.length) (hal:a.length<=100000): ∀(K k:Nat),k<=a.length->k<K->a.drop k=b.drop k->
 qO a b K ((k:Int)-1)=some (if dv E9 a<dv E9 b then .inr (-1)else if dv E9 a=dv E9 b then .inl ()else .inr 1)
 |0,k,h,hK,_=>by omega
 |K+1,0,h,hK,he=>by
  rw[List.drop_zero,List.drop_zero]at he
  rw[qO,if_neg (by omega),he,if_neg (by omega),if_pos rfl]
 |K+1,k+1,h,hK,he=>by
  have hka:k<a.length:=by omega
  have hkb:k<b.length:=by omega
  have ek:((k+1:Nat):Int)-1=(k:Int):=by omega
  rw[ek,qO,if_pos (by omega),qx,List.getElem?_eq_getElem hka,ZB,qx,List.getElem?_eq_getElem hkb,ZB]
  by_cases d:a[k]<b[k]
  ·rw[if_pos d,if_pos (qj1 ha hl hb hka he d)]
  rw[if_neg d]
  by_cases c:a[k]>b[k]
  ·have:=qj1 hb hl.symm ha hkb he.symm c
   rw[if_pos c,if_neg (by omega),if_neg (by omega)]
  rw[if_neg c,qh (by omega) (by omega)]
  refine qjr ha hb hl hal K k (by omega) (by omega) ?_
  rw[List.drop_eq_getElem_cons hka,List.drop_eq_getElem_cons hkb,show a[k]=b[k]by omega,he]
theorem qen {N:Nat} {a b:List Int} (ha:Can E9 a) (hb:Can E9 b) (hal:a.length<=10000) (hN:a.length+1<N):jv N a b=some (if dv E9 a<dv E9 b then-1 else if dv E9 a=dv E9 b then 0 else 1):=by
 unfold jv
 by_cases h:a.length=b.length
 ·have e:=qjr ha.1 hb.1 h (by omega) N a.length (Nat.le_refl _) (by omega) (by rw[List.drop_of_length_le (Nat.le_refl _),List.drop_of_length_le (by omega)])
  rw[if_neg (by simp[h]),qh (by omega) (by omega),e,ZB]
  by_cases c:dv E9 a<dv E9 b
  ·rw[if_pos c,if_pos c]
  rw[if_neg c,if_neg c]
  by_cases d:dv E9 a=dv E9 b
  ·rw[if_pos d,if_pos d]
  rw[if_neg d,if_neg d]
 rw[if_pos (by simp;omega)]
 by_cases c:a.length<b.length
 ·rw[if_pos (by omega),if_pos (qcB ha hb c)]
 have:=qcB hb ha (by omega)
 rw[if_neg (by omega),if_neg (by omega),if_neg (by omega)]
theorem qiy {l:List Int} {k:Nat}:dv E9 (l.take (k+1))=dv E9 (l.take k)+E9^k*((l[k]?).getD 0):=by
 by_cases h:k<l.length
 ·rw[qm E9 l k h,List.getElem?_eq_getElem h]
  rfl
 rw[List.take_of_length_le (by omega),List.take_of_length_le (by omega),List.getElem?_eq_none (by omega)]
 simp
theorem qjC {l:List Int} (h:Dg E9 l) (k:Nat):0<=(l[k]?).getD 0/\(l[k]?).getD 0<1000000000:=by
 by_cases hk:k<l.length
 ·rw[List.getElem?_eq_getElem hk]
  exact h.at hk
 rw[List.getElem?_eq_none (by omega)]
 exact⟨Int.le_refl _,by decide⟩
theorem digit_eq (l:List Int) (k:Nat):xB l (k:Int)=some ((l[k]?).getD 0):=by
 unfold xB
 by_cases h:k<l.length
 ·rw[if_pos (by omega),qx,List.getElem?_eq_getElem h]
  rfl
 rw[if_neg (by omega),List.getElem?_eq_none (by omega)]
 rfl
theorem qdW (l:List Int) (x:Int):dv E9 (l++[x])=dv E9 l+E9^l.length*x:=by rw[vH,zb,ky,Int.mul_zero,Int.add_zero]
theorem qjB {a b:List Int} (ha:Dg E9 a) (hb:Dg E9 b) (hal:a.length<=10000) (hbl:b.length<=10000): ∀(K k:Nat) (l:List Int) (c:Int),10002<K+k->k<=10001->l.length=k->Dg E9 l->0<=c->c<=1->(c=1->k<=a.length\/k<=b.length)->dv E9 l+E9^k*c=dv E9 (a.take k)+dv E9 (b.take k)->
 ∃l',kN a b K l c (k:Int)=some l'/\Dg E9 l'/\l'.length<=10002/\dv E9 l'=dv E9 a+dv E9 b
 |0,k,l,c,hK,hk,_,_,_,_,_,_=>by omega
 |K+1,k,l,c,hK,hk,hl,hd,c0,c1,hc,e=>by
  rw[kN]
  have cond:(if(k:Int)<(a.length:Int)then some true else if(k:Int)<(b.length:Int)then some true else some (decide (c>0)):Option Bool)=some (decide (k<a.length\/k<b.length\/0<c)):=by
   by_cases h1:k<a.length
   ·rw[if_pos (by omega),decide_eq_true (.inl h1)]
   rw[if_neg (by omega)]
   by_cases h2:k<b.length
   ·rw[if_pos (by omega),decide_eq_true (.inr (.inl h2))]
   rw[if_neg (by omega)]
   congr 1
   exact decide_eq_decide.2 (by omega)
  rw[cond,ZB]
  by_cases h:k<a.length\/k<b.length\/0<c
  ·have xa:=qjC ha k
   have xb:=qjC hb k
   rw[decide_eq_true h,if_pos rfl,digit_eq,ZB,digit_eq,ZB]
   generalize hx:(a[k]?).getD 0=x at*
   generalize hy:(b[k]?).getD 0=y at*
   rw[qh (n:=x+y) (by omega) (by omega),qh (n:=x+y+c) (by omega) (by omega),Int.tmod_eq_emod_of_nonneg (by omega),Int.tdiv_eq_ediv_of_nonneg (by omega),qdv (by simp;omega) (by simp;omega),ZB,qh (by omega) (by omega),zT (by omega)]
   have hs:=Int.mul_ediv_add_emod (x+y+c) 1000000000
   have m0:=Int.emod_nonneg (x+y+c) (show(1000000000:Int)≠0 by decide)
   have m1:=Int.emod_lt_of_pos (x+y+c) (show(0:Int)<1000000000 by decide)
   have hk2:k<=10000:=by
    rcases h with h|h|h
    ·omega
    ·omega
    rcases hc (by omega)with h|h<;>omega
   refine qjB ha hb hal hbl K (k+1) _ _ (by omega) (by omega) (by simp[hl]) (hd.append (Dg.cons ⟨m0,m1⟩ Dg.nil)) (by omega) (by omega) (fun hq=>?_) ?_
   ·rcases Nat.lt_or_ge k a.length with g|g
    ·exact .inl g
    rcases Nat.lt_or_ge k b.length with g2|g2
    ·exact .inr g2
    rw[List.getElem?_eq_none g]at hx
    rw[List.getElem?_eq_none g2]at hy
    simp only[Option.getD_none]at hx hy
    omega
   rw[qdW,hl,qiy,qiy,hx,hy,Int.pow_succ,Int.mul_assoc]
   have e2:E9^k*(x+y+c)=E9^k*(E9*((x+y+c)/1000000000))+E9^k*((x+y+c)%1000000000):=by rw[<-Int.mul_add];exact congrArg (E9^k* ·) hs.symm
   rw[Int.mul_add,Int.mul_add]at e2
   omega
  have hc0:c=0:=by omega
  rw[decide_eq_false h,if_neg (by simp)]
  rw[List.take_of_length_le (by omega),List.take_of_length_le (by omega),hc0,Int.mul_zero,Int.add_zero]at e
  exact⟨l,rfl,hd,by omega,e⟩
theorem qgO {N:Nat} {a b:List Int} (ha:Dg E9 a) (hb:Dg E9 b) (hal:a.length<=10000) (hbl:b.length<=10000) (hN:11000<N): ∃l,yn N a b=some l/\Dg E9 l/\l.length<=10002/\dv E9 l=dv E9 a+dv E9 b:=by
 unfold yn
 obtain⟨l,e,h1,h2,h3⟩:=qjB ha hb hal hbl N 0 [] 0 (by omega) (by omega) rfl Dg.nil (by omega) (by omega) (by omega) (by simp[dv])
 have e:kN a b N [] 0 0=some l:=e
 rw[e,ZB]
 exact⟨l,rfl,h1,h2,h3⟩
theorem qm9 {l:List Int} {k:Nat} {v:Int} (hk:k<l.length) (h: ∀(i:Nat) x,k<=i->l[i]? =some x->x=0):dv E9 (l.set k v)=dv E9 l+E9^k*v:=by
 rw[xu E9 l k v hk,h k l[k] (Nat.le_refl _) (List.getElem?_eq_getElem hk),Int.sub_zero]
theorem qfC {n:Nat}: ∀(m:Nat) z,(List.replicate n (0:Int))[m]? =some z->z=0:=fun m z hz=>by
 rw[List.getElem?_replicate]at hz
 split at hz
 ·exact(Option.some.inj hz).symm
 cases hz
theorem qj4 {a b:List Int} (ha:Dg E9 a) (hb:Dg E9 b) (hbl:b.length<=10000) {i:Nat} (hi:i<a.length) (hal:a.length<=10000): ∀(K j:Nat) (l:List Int) (c:Int),j<=b.length->b.length<K+j->i+b.length<=l.length->Dg E9 l->0<=c->c<1000000000->
 ∃l' c',kP a b (i:Int) K l c (j:Int)=some (l',c')/\l'.length=l.length/\Dg E9 l'/\(∀m,i+b.length<=m->l'[m]? =l[m]?)/\0<=c'/\c'<1000000000/\dv E9 l'+E9^(i+b.length)*c'+E9^i*(a[i]*dv E9 (b.take j))=dv E9 l+E9^(i+j)*c+E9^i*(a[i]*dv E9 b)
 |0,j,l,c,h,hK,_,_,_,_=>by omega
 |K+1,j,l,c,h,hK,hl,hd,c0,c1=>by
  rw[kP]
  by_cases hj:j<b.length
  ·have xa:=ha.at hi
   have xb:=hb.at hj
   have hil:i+j<l.length:=by omega
   have xl:=hd.at hil
   have a2:a[i]<1000000000:=xa.2
   have b2:b[j]<1000000000:=xb.2
   have l2:l[i+j]<1000000000:=xl.2
   rw[if_pos (by omega),show(i:Int)+(j:Int)=((i+j:Nat):Int)by omega,qh (n:=((i+j:Nat):Int)) (by omega) (by omega),qx,List.getElem?_eq_getElem hil,ZB,qx,List.getElem?_eq_getElem hi,ZB,qx,List.getElem?_eq_getElem hj,ZB]
   have hp0:0<=a[i]*b[j]:=Int.mul_nonneg xa.1 xb.1
   have hp1:a[i]*b[j]<=999999999*999999999:=Int.mul_le_mul (by omega) (by omega) xb.1 (by omega)
   generalize hp:a[i]*b[j]=p at*
   rw[qh (n:=p) (by omega) (by omega),qh (n:=l[i+j]+p) (by omega) (by omega),qh (n:=l[i+j]+p+c) (by omega) (by omega),Int.tmod_eq_emod_of_nonneg (by omega),Int.tdiv_eq_ediv_of_nonneg (by omega),ve hil,ZB,zT (by omega),qh (by omega) (by omega)]
   have hs:=Int.mul_ediv_add_emod (l[i+j]+p+c) 1000000000
   have m0:=Int.emod_nonneg (l[i+j]+p+c) (show(1000000000:Int)≠0 by decide)
   have m1:=Int.emod_lt_of_pos (l[i+j]+p+c) (show(0:Int)<1000000000 by decide)
   obtain⟨l',c',e1,e2,e3,e4,e5,e6,e7⟩:=qj4 ha hb hbl hi hal K (j+1) (l.set (i+j) ((l[i+j]+p+c)%1000000000)) ((l[i+j]+p+c)/1000000000) (by omega) (by omega) (by rw[List.length_set];exact hl) (hd.set ⟨m0,m1⟩) (by omega) (by omega)
   refine⟨l',c',e1,by rw[e2,List.length_set],e3,fun m hm=>by rw[e4 m hm,List.getElem?_set_ne (by omega)],e5,e6,?_⟩
   rw[xu E9 l (i+j) _ hil,qm E9 b j hj,<-Nat.add_assoc,Int.pow_succ]at e7
   rw[Int.mul_add a[i],<-Int.mul_assoc a[i],Int.mul_comm a[i] (E9^j),Int.mul_assoc (E9^j),hp,Int.mul_add (E9^i),<-Int.mul_assoc (E9^i) (E9^j),<-Int.pow_add]at e7
   have e8:E9^(i+j)*(l[i+j]+p+c)=E9^(i+j)*(E9*((l[i+j]+p+c)/1000000000))+E9^(i+j)*((l[i+j]+p+c)%1000000000):=by rw[<-Int.mul_add];exact congrArg (E9^(i+j)* ·) hs.symm
   rw[Int.mul_assoc (E9^(i+j))]at e7
   rw[Int.mul_add,Int.mul_add]at e8
   rw[Int.mul_sub]at e7
   omega
  rw[if_neg (by omega)]
  have ej:j=b.length:=by omega
  subst ej
  rw[List.take_of_length_le (Nat.le_refl _)]
  exact⟨l,c,rfl,rfl,hd,fun _ _=>rfl,c0,c1,rfl⟩
theorem qjU {N:Nat} {a b:List Int} (ha:Dg E9 a) (hb:Dg E9 b) (hal:a.length<=10000) (hbl:b.length<=10000) (hN:b.length<N): ∀(K i:Nat) (l:List Int),i<=a.length->a.length<K+i->l.length=a.length+b.length->Dg E9 l->(∀(m:Nat) z,i+b.length<=m->l[m]? =some z->z=0)->dv E9 l=dv E9 (a.take i)*dv E9 b->
 ∃l',kS N a b K l (i:Int)=some l'/\l'.length=a.length+b.length/\Dg E9 l'/\dv E9 l'=dv E9 a*dv E9 b
 |0,i,l,h,hK,_,_,_,_=>by omega
 |K+1,i,l,h,hK,hl,hd,hz,e=>by
  rw[kS]
  by_cases hi:i<a.length
  ·obtain⟨l1,c,e1,e2,e3,e4,e5,e6,e7⟩:=qj4 ha hb hbl hi hal N 0 l 0 (by omega) (by omega) (by omega) hd (by omega) (by decide)
   have e1:kP a b (i:Int) N l 0 0=some (l1,c):=e1
   have hib:i+b.length<l1.length:=by omega
   have hz1: ∀(m:Nat) z,i+b.length<=m->l1[m]? =some z->z=0:=fun m z hm hx=>hz m z hm (by rw[<-e4 m hm];exact hx)
   have h0:l1[i+b.length]=0:=hz1 _ _ (Nat.le_refl _) (List.getElem?_eq_getElem hib)
   rw[if_pos (by omega),e1,ZB]
   simp only
   rw[show(i:Int)+(b.length:Int)=((i+b.length:Nat):Int)by omega,qh (by omega) (by omega),qx,List.getElem?_eq_getElem hib,ZB,ve hib,ZB,h0,Int.zero_add,qh (n:=c) (by omega) (by omega),zT (by omega)]
   refine qjU ha hb hal hbl hN K (i+1) _ (by omega) (by omega) (by rw[List.length_set,e2,hl]) (e3.set ⟨e5,e6⟩) (fun m z hm hx=>qdN hz1 m z (by omega) hx) ?_
   rw[qm9 hib hz1,qm E9 a i hi,Int.add_mul,<-e,Int.mul_assoc]
   rw[List.take_zero,ky,Int.mul_zero,Int.mul_zero]at e7
   omega
  rw[if_neg (by omega)]
  have ei:i=a.length:=by omega
  subst ei
  rw[List.take_of_length_le (Nat.le_refl _)]at e
  exact⟨l,rfl,hl,hd,e⟩
theorem qdS {N:Nat} {a b:List Int} (ha:Dg E9 a) (hb:Dg E9 b) (hal:a.length<=10000) (hbl:b.length<=10000) (hN:a.length+b.length<N):jV N a b=some (dg E9 (dv E9 a*dv E9 b)):=by
 unfold jV
 rw[show(a.length:Int)+(b.length:Int)=((a.length+b.length:Nat):Int)by omega,qh (by omega) (by omega),xL (by omega),ZB]
 obtain⟨l,e,h1,h2,h3⟩:=qjU ha hb hal hbl (N:=N) (by omega) N 0 (List.replicate (a.length+b.length) 0) (by omega) (by omega) (by simp) (Dg.zeros E0 _) (fun m z _ h=>qfC m z h) (by rw[yh];simp[dv])
 have e:kS N a b N (List.replicate (a.length+b.length) 0) 0=some l:=e
 rw[e,ZB,qbu h2 (by omega) (by omega),ZB,h3]
theorem qfG (l:List Int) {i:Nat} (h:i<l.length):dv E9 (l.drop i)=l[i]+E9*dv E9 (l.drop (i+1)):=by
 rw[List.drop_eq_getElem_cons h,zb]
theorem qhA {l:List Int} {k:Nat} {v:Int} (hk:k<l.length) (h: ∀(i:Nat) x,i<=k->l[i]? =some x->x=0):dv E9 (l.set k v)=dv E9 l+E9^k*v:=by
 rw[xu E9 l k v hk,h k l[k] (Nat.le_refl _) (List.getElem?_eq_getElem hk),Int.sub_zero]
theorem qj5 {a:List Int} (ha:Dg E9 a) (hal:a.length<=20000) {d:Int} (d0:0<d) (d1:d<1000000000): ∀(K i:Nat) (l:List Int) (r:Int),i<=a.length->i<K->l.length=a.length->Dg E9 l->(∀(m:Nat) x,m<i->l[m]? =some x->x=0)->dv E9 l=E9^i*(dv E9 (a.drop i)/d)->r=dv E9 (a.drop i)%d->
 ∃l',zk a d K l r ((i:Int)-1)=some (l',dv E9 a%d)/\l'.length=a.length/\Dg E9 l'/\dv E9 l'=dv E9 a/d
 |0,i,l,r,h,hK,_,_,_,_,_=>by omega
 |K+1,0,l,r,h,hK,hl,hd,hz,e,er=>by
  rw[List.drop_zero]at e er
  rw[zk,if_neg (by omega),er]
  exact⟨l,rfl,hl,hd,by rw[e];simp⟩
 |K+1,i+1,l,r,h,hK,hl,hd,hz,e,er=>by
  have hi:i<a.length:=by omega
  have hil:i<l.length:=by omega
  have ax:=ha.at hi
  have ax2:a[i]<1000000000:=ax.2
  have r0:0<=r:=by rw[er];exact Int.emod_nonneg _ (by omega)
  have r1:r<d:=by rw[er];exact Int.emod_lt_of_pos _ d0
  have ei:((i+1:Nat):Int)-1=(i:Int):=by omega
  have hr1:r*1000000000<=999999998*1000000000:=Int.mul_le_mul_of_nonneg_right (by omega) (by omega)
  have q0:0<=(r*1000000000+a[i])/d:=Int.ediv_nonneg (by omega) (by omega)
  have q1:(r*1000000000+a[i])/d<1000000000:=by
   rw[Int.ediv_lt_iff_lt_mul d0]
   have:(r+1)*1000000000<=d*1000000000:=Int.mul_le_mul_of_nonneg_right (by omega) (by omega)
   rw[Int.mul_comm 1000000000]
   omega
  have hq:qaO .i64 (r*1000000000+a[i]) d=some ((r*1000000000+a[i])/d):=by
   unfold qaO
   rw[if_neg (by omega),Int.tdiv_eq_ediv_of_nonneg (by omega)]
   show some (w64 _)=_
   rw[qh (by omega) (by omega)]
  have hm:qci .i64 (r*1000000000+a[i]) d=some ((r*1000000000+a[i])%d):=by
   unfold qci
   rw[if_neg (by omega),Int.tmod_eq_emod_of_nonneg (by omega)]
  rw[zk,ei,if_pos (by omega),qx,List.getElem?_eq_getElem hi,ZB,qh (n:=r*1000000000) (by omega) (by omega),qh (n:=r*1000000000+a[i]) (by omega) (by omega),hq,ZB,qx,List.getElem?_eq_getElem hil,ZB,ve hil,ZB,hm,ZB,qh (by omega) (by omega)]
  have ed:dv E9 (a.drop i)=r*1000000000+a[i]+d*(dv E9 (a.drop (i+1))/d*1000000000):=by
   have h1:=Int.mul_ediv_add_emod (dv E9 (a.drop (i+1))) d
   rw[<-er]at h1
   rw[qfG a hi,<-Int.mul_assoc]
   have e9:E9*dv E9 (a.drop (i+1))=1000000000*dv E9 (a.drop (i+1)):=rfl
   rw[e9]
   generalize d*(dv E9 (a.drop (i+1))/d)=m at*
   omega
  refine qj5 ha hal d0 d1 K i _ _ (by omega) (by omega) (by rw[List.length_set];exact hl) (hd.set ⟨q0,q1⟩) (fun m x hm hx=>?_) ?_ ?_
  ·rw[List.getElem?_set_ne (by omega)]at hx
   exact hz m x (by omega) hx
  ·rw[qhA hil (fun m x hm hx=>hz m x (by omega) hx),e,ed,Int.add_mul_ediv_left _ _ (by omega),Int.pow_succ,Int.mul_assoc,<-Int.mul_add]
   congr 1
   have e9:E9*(dv E9 (a.drop (i+1))/d)=1000000000*(dv E9 (a.drop (i+1))/d):=rfl
   rw[e9]
   omega
  rw[ed,Int.add_mul_emod_self_left]
theorem qeu {N:Nat} {a:List Int} (ha:Dg E9 a) (hal:a.length<=20000) (hN:a.length<N) {d:Int} (d0:0<d) (d1:d<1000000000):vK N a d=some (dg E9 (dv E9 a/d),dv E9 a%d):=by
 unfold vK
 rw[xL (by omega),ZB,qh (by omega) (by omega)]
 obtain⟨l,e,h1,h2,h3⟩:=qj5 ha hal d0 d1 N a.length (List.replicate a.length 0) 0 (Nat.le_refl _) (by omega) (by simp) (Dg.zeros E0 _) (fun m x _ hx=>qfC m x hx) (by rw[yh,List.drop_of_length_le (Nat.le_refl _),ky];simp) (by rw[List.drop_of_length_le (Nat.le_refl _),ky];simp)
 rw[e,ZB]
 simp only
 rw[qbu h2 (by omega) (by omega),ZB,h3]
end Go.Av
end
section
namespace Go.Av
set_option linter.unusedVariables false
set_option linter.unusedSimpArgs false
set_option maxRecDepth 100000
theorem e9m (x:Int):E9*x=1000000000*x:=rfl
theorem qas {p u t:List Int} {i:Nat} (hi:i<u.length):idx (p++(u++t)) ((i+p.length:Nat):Int)=some u[i]:=by
 rw[qx,List.getElem?_append_right (by omega),Nat.add_sub_cancel,List.getElem?_append_left hi,List.getElem?_eq_getElem hi]
theorem qcL {p u t:List Int} {i:Nat} (hi:i<u.length) (x:Int):put (p++(u++t)) ((i+p.length:Nat):Int) x=some (p++(u.set i x++t)):=by
 rw[ve (by simp;omega)]
 congr 1
 rw[List.set_append_right _ _ (by omega),Nat.add_sub_cancel,List.set_append_left _ _ hi]
theorem qf6 {i j:Nat} (hi:i<=100000) (hj:j<=100000):w64 ((i:Int)+(j:Int))=((i+j:Nat):Int):=by rw[qh (by omega) (by omega)];omega
theorem qgi {p u t v:List Int} {k:Nat} (hv:Dg E9 v) (hvl:v.length=k+2) (hk:k<=10000) (hu:Dg E9 u) (hul:u.length=k+3) (hpl:p.length<=50000) {T v1 v2 u2 Q:Int} (e1:v[k+1]'(by omega)=v1) (e2:v[k]'(by omega)=v2) (e3:u[k]'(by omega)=u2) (hT:T<=v1*1000000000+999999999) (hQ:Q*(v1*1000000000+v2)<=T*1000000000+u2) (hQ0:0<=Q) (hQ1:Q<1000000000) (hn:1<=v1): ∀(K:Nat) (q r:Int),Q<=q->q<=4000000000->0<=r->r<1000000000->r=T-q*v1->1000000000<=r+K*v1->
 ∃q',(jh (p++(u++t)) v (p.length:Int) K r q=some (.inl q')\/jh (p++(u++t)) v (p.length:Int) K r q=some (.inr q'))/\Q<=q'/\q'<1000000000/\q'*(v1*1000000000+v2)<=T*1000000000+u2
 |0,q,r,h1,h2,h3,h4,h6,h7=>by simp at h7;omega
 |K+1,q,r,h1,h2,h3,h4,h6,h7=>by
  have a1:=hv.at (show k+1<v.length by omega)
  have a2:=hv.at (show k<v.length by omega)
  have a3:=hu.at (show k<u.length by omega)
  rw[e1]at a1
  rw[e2]at a2
  rw[e3]at a3
  have b1:v1<1000000000:=a1.2
  have b2:v2<1000000000:=a2.2
  have b3:u2<1000000000:=a3.2
  have hq0:0<=q:=by omega
  have hp0:0<=q*v2:=Int.mul_nonneg hq0 a2.1
  have ed: ∀q:Int,q*(v1*1000000000+v2)=q*v1*1000000000+q*v2:=fun q=>by rw[Int.mul_add,Int.mul_assoc]
  have ek:w64 ((v.length:Int)-2)=(k:Int):=by rw[qh (by omega) (by omega)];omega
  have ek1:w64 ((v.length:Int)-1)=((k+1:Nat):Int):=by rw[qh (by omega) (by omega)];omega
  have eku:w64 (w64 ((p.length:Int)+(v.length:Int))-2)=((k+p.length:Nat):Int):=by
   rw[qf6 (by omega) (by omega),qh (by omega) (by omega)]
   omega
  have cond:(if q>=1000000000 then some true else(idx v (w64 ((v.length:Int)-2))).bind fun x12=>(idx (p++(u++t)) (w64 ((w64 ((p.length:Int)+(v.length:Int)))-2))).bind fun x13=>some (decide ((w64 (q*x12))>(w64 ((w64 (r*1000000000))+x13)))):Option Bool)=some (decide (q>=1000000000\/q*v2>r*1000000000+u2)):=by
   by_cases c:q>=1000000000
   ·rw[if_pos c,decide_eq_true (.inl c)]
   have hp1:q*v2<=999999999*999999999:=Int.mul_le_mul (by omega) (by omega) a2.1 (by omega)
   rw[if_neg c,ek,qx,List.getElem?_eq_getElem (show k<v.length by omega),e2,ZB,eku,qas (show k<u.length by omega),e3,ZB,qh (n:=q*v2) (by omega) (by omega),qh (n:=r*1000000000) (by omega) (by omega),qh (by omega) (by omega)]
   congr 1
   exact decide_eq_decide.2 (by omega)
  rw[jh,cond,ZB]
  by_cases c:q>=1000000000\/q*v2>r*1000000000+u2
  ·have hm1:(q-1)*v1=q*v1-v1:=by rw[Int.sub_mul,Int.one_mul]
   have hlt:Q<=q-1:=by
    rcases Int.lt_or_le Q q with h|h
    ·omega
    exfalso
    have e:q=Q:=by omega
    subst e
    rw[ed]at hQ
    rcases c with c|c<;>omega
   rw[decide_eq_true c,if_pos rfl,ek1,qx,List.getElem?_eq_getElem (show k+1<v.length by omega),e1,ZB,qh (n:=r+v1) (by omega) (by omega),qh (n:=q-1) (by omega) (by omega)]
   by_cases d:r+v1>=1000000000
   ·rw[if_pos d]
    have hq1:q-1<1000000000:=by
     rcases Int.lt_or_le (q-1) 1000000000 with h|h
     ·exact h
     have:v1*1000000000<=(q-1)*v1:=by rw[Int.mul_comm];exact Int.mul_le_mul_of_nonneg_right h (by omega)
     omega
    have hp1:(q-1)*v2<=999999999*999999999:=Int.mul_le_mul (by omega) (by omega) a2.1 (by omega)
    refine⟨q-1,.inr rfl,hlt,hq1,?_⟩
    rw[ed]
    omega
   rw[if_neg d]
   have eK:((K+1:Nat):Int)*v1=K*v1+v1:=by rw[Int.natCast_add,Int.add_mul];simp
   exact qgi hv hvl hk hu hul hpl e1 e2 e3 hT hQ hQ0 hQ1 hn K (q-1) _ hlt (by omega) (by omega) (by omega) (by rw[hm1];omega) (by omega)
  rw[decide_eq_false c,if_neg (by simp)]
  refine⟨q,.inl rfl,h1,by omega,?_⟩
  rw[ed]
  omega
theorem qhH {v:List Int} (hv:Dg E9 v) (hvl:v.length<=10002) {q:Int} (hq:0<=q/\q<1000000000) {p t:List Int} (hpl:p.length<=50000): ∀(K i:Nat) (u:List Int) (b:Int),i<=v.length->v.length<K+i->u.length=v.length+1->Dg E9 u->0<=b->b<=1000000000->
 ∃u' b',qK v (p.length:Int) q K (p++(u++t)) b (i:Int)=some (p++(u'++t),b')/\u'.length=v.length+1/\Dg E9 u'/\u'[v.length]? =u[v.length]? /\0<=b'/\b'<=1000000000/\dv E9 u'+q*dv E9 v=dv E9 u+q*dv E9 (v.take i)-E9^i*b+E9^v.length*b'
 |0,i,u,b,h,hK,_,_,_,_=>by omega
 |K+1,i,u,b,h,hK,hul,hu,b0,b1=>by
  rw[qK]
  by_cases hi:i<v.length
  ·have av:=hv.at hi
   have hiu:i<u.length:=by omega
   have au:=hu.at hiu
   have av2:v[i]<1000000000:=av.2
   have au2:u[i]<1000000000:=au.2
   have hp0:0<=q*v[i]:=Int.mul_nonneg hq.1 av.1
   have hp1:q*v[i]<=999999999*999999999:=Int.mul_le_mul (by omega) (by omega) av.1 (by omega)
   rw[if_pos (by omega),qx,List.getElem?_eq_getElem hi,ZB,qf6 (by omega) (by omega),qas hiu,ZB]
   generalize hp:q*v[i]=x at*
   rw[qh (n:=x) (by omega) (by omega),qh (n:=x+b) (by omega) (by omega),Int.tmod_eq_emod_of_nonneg (by omega),Int.tdiv_eq_ediv_of_nonneg (by omega),qh (n:=u[i]-(x+b)%1000000000) (by omega) (by omega)]
   have hxc:=Int.mul_ediv_add_emod (x+b) 1000000000
   have step: ∀(un b2 d:Int),(0<=un/\un<1000000000)->(0<=d/\d<=1)->b2=(x+b)/1000000000+d->un=u[i]-(x+b)%1000000000+1000000000*d->
    ∃u' b',qK v (p.length:Int) q K (p++(u.set i un++t)) b2 ((i+1:Nat):Int)=some (p++(u'++t),b')/\u'.length=v.length+1/\Dg E9 u'/\u'[v.length]? =u[v.length]? /\0<=b'/\b'<=1000000000/\dv E9 u'+q*dv E9 v=dv E9 u+q*dv E9 (v.take i)-E9^i*b+E9^v.length*b':=by
    intro un b2 d hun hd eb eun
    obtain⟨u',b',f1,f2,f3,f4,f5,f6,f9⟩:=qhH hv hvl hq hpl K (i+1) (u.set i un) b2 (by omega) (by omega) (by rw[List.length_set];exact hul) (hu.set hun) (by omega) (by omega)
    refine⟨u',b',f1,f2,f3,by rw[f4,List.getElem?_set_ne (by omega)],f5,f6,?_⟩
    rw[f9,xu E9 u i un hiu,qm E9 v i hi,Int.mul_add q,<-Int.mul_assoc q,Int.mul_comm q (E9^i),Int.mul_assoc (E9^i) q,hp,Int.pow_succ,Int.mul_assoc (E9^i) E9]
    have e5:E9^i*(un-u[i])+E9^i*x-E9^i*(E9*b2)= -(E9^i*b):=by
     rw[<-Int.mul_add,<-Int.mul_sub,<-Int.mul_neg]
     congr 1
     rw[e9m]
     omega
    omega
   by_cases c:u[i]-(x+b)%1000000000<0
   ·rw[if_pos c,qh (n:=(x+b)/1000000000) (by omega) (by omega),qh (n:=(x+b)/1000000000+1) (by omega) (by omega),qh (n:=u[i]-(x+b)%1000000000+1000000000) (by omega) (by omega),ZB]
    simp only
    rw[qcL hiu,ZB,zT (by omega)]
    exact step _ _ 1 (by omega) (by omega) rfl (by omega)
   rw[if_neg c,qh (n:=(x+b)/1000000000) (by omega) (by omega),ZB]
   simp only
   rw[qcL hiu,ZB,zT (by omega)]
   exact step _ _ 0 (by omega) (by omega) (by omega) (by omega)
  rw[if_neg (by omega)]
  have ei:i=v.length:=by omega
  subst ei
  rw[List.take_of_length_le (Nat.le_refl _)]
  exact⟨u,b,rfl,hul,hu,rfl,b0,b1,by omega⟩
theorem qh7 {v:List Int} (hv:Dg E9 v) (hvl:v.length<=10002) {q:Int} (hq:0<q/\q<1000000000) {p t:List Int} (hpl:p.length<=50000): ∀(K i:Nat) (u:List Int) (y c:Int),i<=v.length->v.length<K+i->u.length=v.length->Dg E9 u->0<=c->c<=1->
 ∃u' c',qW v (p.length:Int) q K (p++(u++[y]++t)) c (i:Int)=some (p++(u'++[y]++t),q-1,c')/\u'.length=v.length/\Dg E9 u'/\0<=c'/\c'<=1/\dv E9 u'+E9^v.length*c'=dv E9 u+dv E9 v-dv E9 (v.take i)+E9^i*c
 |0,i,u,y,c,h,hK,_,_,_,_=>by omega
 |K+1,i,u,y,c,h,hK,hul,hu,c0,c1=>by
  rw[qW]
  by_cases hi:i<v.length
  ·have av:=hv.at hi
   have hiu:i<u.length:=by omega
   have hiu2:i<(u++[y]).length:=by simp;omega
   have au:=hu.at hiu
   have av2:v[i]<1000000000:=av.2
   have au2:u[i]<1000000000:=au.2
   have eg:(u++[y])[i]=u[i]:=List.getElem_append_left hiu
   rw[if_pos (by omega),qf6 (by omega) (by omega),qas hiu2,eg,ZB,qx,List.getElem?_eq_getElem hi,ZB,qh (n:=u[i]+v[i]) (by omega) (by omega),qh (n:=u[i]+v[i]+c) (by omega) (by omega),Int.tmod_eq_emod_of_nonneg (by omega),Int.tdiv_eq_ediv_of_nonneg (by omega),qcL hiu2,ZB,List.set_append_left _ _ hiu,qh (n:=(u[i]+v[i]+c)/1000000000) (by omega) (by omega),zT (by omega)]
   have hs:=Int.mul_ediv_add_emod (u[i]+v[i]+c) 1000000000
   have m0:=Int.emod_nonneg (u[i]+v[i]+c) (show(1000000000:Int)≠0 by decide)
   have m1:=Int.emod_lt_of_pos (u[i]+v[i]+c) (show(0:Int)<1000000000 by decide)
   have k0:0<=(u[i]+v[i]+c)/1000000000/\(u[i]+v[i]+c)/1000000000<=1:=by omega
   generalize (u[i]+v[i]+c)/1000000000=c2 at*
   generalize (u[i]+v[i]+c)%1000000000=un at*
   obtain⟨u',c',f1,f2,f3,f5,f6,f7⟩:=qh7 hv hvl hq hpl K (i+1) (u.set i un) y c2 (by omega) (by omega) (by rw[List.length_set];exact hul) (hu.set ⟨m0,m1⟩) k0.1 k0.2
   refine⟨u',c',f1,f2,f3,f5,f6,?_⟩
   rw[f7,xu E9 u i un hiu,qm E9 v i hi,Int.pow_succ,Int.mul_assoc (E9^i) E9]
   have e5:E9^i*(un-u[i])-E9^i*v[i]+E9^i*(E9*c2)=E9^i*c:=by
    rw[<-Int.mul_sub,<-Int.mul_add]
    congr 1
    rw[e9m]
    omega
   omega
  rw[if_neg (by omega),qh (by omega) (by omega)]
  have ei:i=v.length:=by omega
  subst ei
  rw[List.take_of_length_le (Nat.le_refl _)]
  exact⟨u,c,rfl,hul,hu,c0,c1,by omega⟩
theorem qg3 {P ulo vlo T3 V2 U V Q q v1 v2:Int} (hP:0<P) (eU:U=ulo+P*T3) (eV:V=vlo+P*V2) (hu:0<=ulo/\ulo<P) (hv:0<=vlo/\vlo<P) (e2:V2=v1*1000000000+v2) (h1:1<=v1) (h2:0<=v2) (hU:0<=U) (eQ:Q=U/V):0<V/\Q*V2<=T3/\(0<=q->q<1000000000->q*V2<=T3->q<=Q+1):=by
 have hPW:P*1000000000<=P*V2:=Int.mul_le_mul_of_nonneg_left (by omega) (by omega)
 have hV:0<V:=by omega
 have q0:0<=Q:=by rw[eQ];exact Int.ediv_nonneg hU (by omega)
 have q1:Q*V<=U:=by rw[eQ];exact Int.ediv_mul_le U (by omega)
 have q2:U<(Q+1)*V:=by
  rw[eQ]
  exact Int.lt_ediv_add_one_mul_self U hV
 refine⟨hV,?_,fun a b c=>?_⟩
 ·rcases Int.lt_or_le T3 (Q*V2)with h|h
  ·exfalso
   have a1:P*(T3+1)<=P*(Q*V2):=Int.mul_le_mul_of_nonneg_left (by omega) (by omega)
   have a2:P*(Q*V2)<=Q*V:=by
    rw[eV,Int.mul_add]
    have:P*(Q*V2)=Q*(P*V2):=by rw[<-Int.mul_assoc,Int.mul_comm P Q,Int.mul_assoc]
    have:=Int.mul_nonneg q0 hv.1
    omega
   rw[Int.mul_add,Int.mul_one]at a1
   omega
  exact h
 have a1:q*V=q*vlo+P*(q*V2):=by
  rw[eV,Int.mul_add]
  congr 1
  rw[<-Int.mul_assoc,Int.mul_comm q P,Int.mul_assoc]
 have a2:P*(q*V2)<=P*T3:=Int.mul_le_mul_of_nonneg_left c (by omega)
 have a3:q*vlo<=999999999*P:=Int.mul_le_mul (by omega) (by omega) hv.1 (by omega)
 have a4:q*V<(Q+2)*V:=by
  rw[Int.add_mul]
  rw[Int.add_mul]at q2
  omega
 have:=Int.lt_of_mul_lt_mul_right a4 (by omega)
 omega
set_option maxHeartbeats 1000000 in
theorem qmA {N:Nat} (hN:11000<N) {p u t v:List Int} {k:Nat} (hv:Dg E9 v) (hvl:v.length=k+2) (hk:k<=9000) (hu:Dg E9 u) (hul:u.length=k+3) (hpl:p.length<=50000) (hn:1000000<=v[k+1]'(by omega)) (hlt:dv E9 u<1000000000*dv E9 v):
 ∃u',u'.length=k+3/\Dg E9 u'/\dv E9 u'=dv E9 u%dv E9 v/\((yN N (p++(u++t)) v (p.length:Int)).bind fun r25=>
 (qK v (p.length:Int) r25 N (p++(u++t)) 0 0).bind fun(l29,n30)=>
 (idx l29 (w64 ((p.length:Int)+(v.length:Int)))).bind fun x40=>
 (put l29 (w64 ((p.length:Int)+(v.length:Int))) (w64 (x40-n30))).bind fun l41=>
 (idx l41 (w64 ((p.length:Int)+(v.length:Int)))).bind fun x42=>
 ((if x42<0 then
 (qW v (p.length:Int) r25 N l41 0 0).bind fun(l50,n51,n52)=>
 (idx l50 (w64 ((p.length:Int)+(v.length:Int)))).bind fun x58=>
 (put l50 (w64 ((p.length:Int)+(v.length:Int))) (w64 (x58+n52))).bind fun l59=>
 some (l59,n51)
 else
 some (l41,r25):Option ((List Int)×Int))))=some (p++(u'++t),dv E9 u/dv E9 v):=by
 have a1:=hv.at (show k+1<v.length by omega)
 have a2:=hv.at (show k<v.length by omega)
 have b0:=hu.at (show k+2<u.length by omega)
 have b1:=hu.at (show k+1<u.length by omega)
 have b2:=hu.at (show k<u.length by omega)
 have eV:dv E9 v=dv E9 (v.take k)+E9^k*(v[k+1]*1000000000+v[k]):=by
  have e1:=qm E9 v (k+1) (by omega)
  have e2:=qm E9 v k (by omega)
  have p1:E9^(k+1)=E9^k*E9:=Int.pow_succ _ _
  rw[List.take_of_length_le (by omega),e2,p1]at e1
  rw[e1,show v[k+1]*1000000000+v[k]=v[k]+E9*v[k+1]by rw[e9m];omega,Int.mul_add]
  simp only[Int.mul_assoc]
  omega
 have eU:dv E9 u=dv E9 (u.take k)+E9^k*((u[k+2]*1000000000+u[k+1])*1000000000+u[k]):=by
  have e0:=qm E9 u (k+2) (by omega)
  have e1:=qm E9 u (k+1) (by omega)
  have e2:=qm E9 u k (by omega)
  have p1:E9^(k+1)=E9^k*E9:=Int.pow_succ _ _
  have p2:E9^(k+2)=E9^k*E9*E9:=by rw[<-p1];exact Int.pow_succ _ _
  rw[List.take_of_length_le (by omega),e1,e2,p2,p1]at e0
  have e3:(u[k+2]*1000000000+u[k+1])*1000000000+u[k]=u[k]+E9*u[k+1]+E9*(E9*u[k+2]):=by
   have h1:E9*u[k+1]=1000000000*u[k+1]:=rfl
   have h2:E9*(E9*u[k+2])=1000000000*(1000000000*u[k+2]):=rfl
   omega
  rw[e0,e3,Int.mul_add,Int.mul_add]
  simp only[Int.mul_assoc]
  omega
 have vlo0:=qz E0 (hv.take k)
 have vlo1:=vL E0 (hv.take k)
 have ulo0:=qz E0 (hu.take k)
 have ulo1:=vL E0 (hu.take k)
 rw[List.length_take,Nat.min_eq_left (by omega)]at vlo1 ulo1
 have U0:=qz E0 hu
 have hP:=pow_pos E0 k
 have DF:=fun q=>qg3 (q:=q) hP eU eV ⟨ulo0,ulo1⟩ ⟨vlo0,vlo1⟩ rfl (by omega) a2.1 U0 rfl
 have V0:=(DF 0).1
 have hQ0:0<=dv E9 u/dv E9 v:=Int.ediv_nonneg U0 (by omega)
 have hQ1:dv E9 u/dv E9 v<1000000000:=by rw[Int.ediv_lt_iff_lt_mul V0];exact hlt
 have hQ2:=(DF 0).2.1
 have hmod:dv E9 u%dv E9 v=dv E9 u-dv E9 u/dv E9 v*dv E9 v:=by rw[Int.emod_def,Int.mul_comm]
 have hm0:=Int.emod_nonneg (dv E9 u) (show dv E9 v≠0 by omega)
 have hm1:=Int.emod_lt_of_pos (dv E9 u) V0
 generalize hQ:dv E9 u/dv E9 v=Q at*
 have c1:v[k+1]<1000000000:=a1.2
 have c2:v[k]<1000000000:=a2.2
 have d0:u[k+2]<1000000000:=b0.2
 have d1:u[k+1]<1000000000:=b1.2
 have d2:u[k]<1000000000:=b2.2
 have hle:u[k+2]<=v[k+1]:=by
  rcases Int.lt_or_le v[k+1] u[k+2]with g|g
  ·exfalso
   have g1:E9^k*((v[k+1]*1000000000+v[k]+1)*1000000000)<=E9^k*((u[k+2]*1000000000+u[k+1])*1000000000+u[k]):=Int.mul_le_mul_of_nonneg_left (by omega) (by omega)
   rw[<-Int.mul_assoc,Int.mul_add (E9^k) _ 1]at g1
   omega
  exact g
 have G: ∃q',yN N (p++(u++t)) v (p.length:Int)=some q'/\Q<=q'/\q'<1000000000/\q'*(v[k+1]*1000000000+v[k])<=(u[k+2]*1000000000+u[k+1])*1000000000+u[k]:=by
  have ek:w64 ((v.length:Int)-1)=((k+1:Nat):Int):=by rw[qh (by omega) (by omega)];omega
  have ek2:w64 ((p.length:Int)+(v.length:Int))=((k+2+p.length:Nat):Int):=by rw[qf6 (by omega) (by omega)];congr 1;omega
  have ek1:w64 (((k+2+p.length:Nat):Int)-1)=((k+1+p.length:Nat):Int):=by rw[qh (by omega) (by omega)];omega
  have e1:=Int.mul_ediv_add_emod (u[k+2]*1000000000+u[k+1]) v[k+1]
  have e2:=Int.emod_nonneg (u[k+2]*1000000000+u[k+1]) (show v[k+1]≠0 by omega)
  have e3:=Int.emod_lt_of_pos (u[k+2]*1000000000+u[k+1]) (show 0<v[k+1]by omega)
  have e4:(u[k+2]*1000000000+u[k+1])/v[k+1]<=1000001000:=by
   have:(u[k+2]*1000000000+u[k+1])/v[k+1]<1000001001:=by
    rw[Int.ediv_lt_iff_lt_mul (by omega)]
    omega
   omega
  have e5:Q<=(u[k+2]*1000000000+u[k+1])/v[k+1]:=by
   rw[Int.le_ediv_iff_mul_le (by omega)]
   have e:Q*(v[k+1]*1000000000+v[k])=Q*v[k+1]*1000000000+Q*v[k]:=by rw[Int.mul_add,Int.mul_assoc]
   have:=Int.mul_nonneg hQ0 a2.1
   omega
  have hq:qaO .i64 (u[k+2]*1000000000+u[k+1]) v[k+1]=some ((u[k+2]*1000000000+u[k+1])/v[k+1]):=by
   unfold qaO
   rw[if_neg (by omega),Int.tdiv_eq_ediv_of_nonneg (by omega)]
   show some (w64 _)=_
   rw[qh (by omega) (by omega)]
  have hm:qci .i64 (u[k+2]*1000000000+u[k+1]) v[k+1]=some ((u[k+2]*1000000000+u[k+1])%v[k+1]):=by
   unfold qci
   rw[if_neg (by omega),Int.tmod_eq_emod_of_nonneg (by omega)]
  have hKv:(1000000000:Int)<=(u[k+2]*1000000000+u[k+1])%v[k+1]+N*v[k+1]:=by
   have:(1000:Int)*v[k+1]<=N*v[k+1]:=Int.mul_le_mul_of_nonneg_right (by omega) (by omega)
   omega
  obtain⟨q',g1,g2,g3,g4⟩:=qgi (p:=p) (t:=t) hv hvl (by omega) hu hul hpl rfl rfl rfl (T:=u[k+2]*1000000000+u[k+1]) (by omega) hQ2 hQ0 hQ1 (by omega) N _ _ e5 (by omega) e2 (by omega) (by rw[Int.mul_comm (_/_)];omega) hKv
  refine⟨q',?_,g2,g3,g4⟩
  unfold yN
  rw[ek2,ek1,ek,qas (show k+2<u.length by omega),ZB,qas (show k+1<u.length by omega),ZB,qx,List.getElem?_eq_getElem (show k+1<v.length by omega),ZB,qh (n:=u[k+2]*1000000000) (by omega) (by omega),qh (n:=u[k+2]*1000000000+u[k+1]) (by omega) (by omega),hq,ZB,hm,ZB]
  rcases g1 with g1|g1<;>rw[g1]<;>rfl
 obtain⟨q',g1,f2,f3,f4⟩:=G
 have hle2:=(DF q').2.2 (by omega) f3 f4
 obtain⟨w,b',m1,m2,m3,m4,m5,m6,m9⟩:=qhH hv (by omega) (q:=q') ⟨by omega,f3⟩ (p:=p) (t:=t) hpl N 0 u 0 (by omega) (by omega) (by omega) hu (by omega) (by omega)
 have m1:qK v (p.length:Int) q' N (p++(u++t)) 0 0=some (p++(w++t),b'):=m1
 have hkw:k+2<w.length:=by omega
 have ew:w[k+2]=u[k+2]:=by
  rw[hvl,List.getElem?_eq_getElem hkw,List.getElem?_eq_getElem (show k+2<u.length by omega)]at m4
  exact Option.some.inj m4
 have wsp:w=w.take (k+2)++[w[k+2]]:=by
  have:=List.take_succ_eq_append_getElem hkw
  rw[List.take_of_length_le (by omega)]at this
  exact this
 have wl:(w.take (k+2)).length=k+2:=by rw[List.length_take];omega
 have wd:=m3.take (k+2)
 have wv:dv E9 w=dv E9 (w.take (k+2))+E9^(k+2)*w[k+2]:=by
  have:=qm E9 w (k+2) hkw
  rw[List.take_of_length_le (by omega)]at this
  exact this
 have lo0:=qz E0 wd
 have lo1:=vL E0 wd
 rw[wl]at lo1
 rw[List.take_zero,ky,Int.mul_zero,hvl]at m9
 simp only[Int.pow_zero]at m9
 have hVk:dv E9 v<E9^(k+2):=by have:=vL E0 hv;rw[hvl]at this;exact this
 have hPk:=pow_pos E0 (k+2)
 have ek2:w64 ((p.length:Int)+(v.length:Int))=((k+2+p.length:Nat):Int):=by rw[qf6 (by omega) (by omega)];congr 1;omega
 have eset:w.set (k+2) (u[k+2]-b')=w.take (k+2)++[u[k+2]-b']:=by
  rw[List.set_eq_take_append_cons_drop,if_pos hkw,List.drop_of_length_le (by omega)]
 have hks:k+2<(w.set (k+2) (u[k+2]-b')).length:=by rw[List.length_set];exact hkw
 have tot:dv E9 (w.take (k+2))+E9^(k+2)*(u[k+2]-b')=dv E9 u-q'*dv E9 v:=by
  rw[Int.mul_sub,<-ew]
  omega
 rw[g1,ZB,m1,ZB]
 simp only
 rw[ek2,qas hkw,ZB,ew,qh (n:=u[k+2]-b') (by omega) (by omega),qcL hkw,ZB,qas hks,List.getElem_set_self,ZB]
 by_cases hq:q'=Q
 ·have hy:u[k+2]-b'=0:=by
   subst hq
   have h1: ¬(1<=u[k+2]-b'):=fun h=>by
    have:=Int.mul_le_mul_of_nonneg_left h (Int.le_of_lt hPk)
    omega
   have h2: ¬(u[k+2]-b'<= -1):=fun h=>by
    have:=Int.mul_le_mul_of_nonneg_left h (Int.le_of_lt hPk)
    omega
   omega
  rw[if_neg (by omega),eset,hy,hq]
  rw[hy,Int.mul_zero,Int.add_zero,hq]at tot
  refine⟨w.take (k+2)++[0],by simp;omega,wd.append (Dg.cons ⟨by omega,by decide⟩ Dg.nil),?_,rfl⟩
  rw[qdW,Int.mul_zero,Int.add_zero]
  omega
 have hq1:q'=Q+1:=by omega
 have hqm:q'*dv E9 v=Q*dv E9 v+dv E9 v:=by rw[hq1,Int.add_mul,Int.one_mul]
 have hy:u[k+2]-b'<0:=by
  rcases Int.lt_or_le (u[k+2]-b') 0 with h|h
  ·exact h
  have:=Int.mul_nonneg (Int.le_of_lt hPk) h
  omega
 obtain⟨u3,c3,a1',a2',a3',a5',a6',a7'⟩:=qh7 hv (by omega) (q:=q') ⟨by omega,f3⟩ (p:=p) (t:=t) hpl N 0 (w.take (k+2)) (u[k+2]-b') 0 (by omega) (by omega) (by omega) wd (by omega) (by omega)
 have a1':qW v (p.length:Int) q' N (p++(w.take (k+2)++[u[k+2]-b']++t)) 0 0=some (p++(u3++[u[k+2]-b']++t),q'-1,c3):=a1'
 rw[List.take_zero,ky,hvl]at a7'
 simp only[Int.pow_zero]at a7'
 have l0:=qz E0 a3'
 have l1:=vL E0 a3'
 rw[a2',hvl]at l1
 have hyc:u[k+2]-b'+c3=0:=by
  have e1:dv E9 u3+E9^(k+2)*(u[k+2]-b'+c3)=dv E9 u-Q*dv E9 v:=by
   rw[Int.mul_add]
   omega
  have h1: ¬(1<=u[k+2]-b'+c3):=fun h=>by
   have:=Int.mul_le_mul_of_nonneg_left h (Int.le_of_lt hPk)
   omega
  have h2: ¬(u[k+2]-b'+c3<= -1):=fun h=>by
   have:=Int.mul_le_mul_of_nonneg_left h (Int.le_of_lt hPk)
   omega
  omega
 have hk3:k+2<(u3++[u[k+2]-b']).length:=by simp;omega
 have eg:(u3++[u[k+2]-b'])[k+2]=u[k+2]-b':=by
  rw[List.getElem_append_right (by omega)]
  simp
 have es:(u3++[u[k+2]-b']).set (k+2) 0=u3++[0]:=by
  rw[List.set_append_right _ _ (by omega),show k+2-u3.length=0 by omega]
  rfl
 rw[if_pos hy,eset,a1',ZB]
 simp only
 rw[qas hk3,eg,ZB,hyc,show w64 (0:Int)=0 from rfl,qcL hk3,ZB,es,hq1,Int.add_sub_cancel]
 refine⟨u3++[0],by simp;omega,a3'.append (Dg.cons ⟨by omega,by decide⟩ Dg.nil),?_,rfl⟩
 rw[qdW,Int.mul_zero,Int.add_zero]
 have e1:dv E9 u3+E9^(k+2)*(u[k+2]-b'+c3)=dv E9 u-Q*dv E9 v:=by
  rw[Int.mul_add]
  omega
 rw[hyc,Int.mul_zero,Int.add_zero]at e1
 omega
end Go.Av
end
section
namespace Go.Av
set_option linter.unusedVariables false
set_option linter.unusedSimpArgs false
set_option maxRecDepth 100000
theorem qb4 {l:List Int} (h:Dg E9 l) {n:Nat} (hl:dv E9 l<E9^n):dv E9 (l.drop n)=0:=by
 by_cases hn:n<=l.length
 ·have e:=vO E9 l n hn
  have h1:=qz E0 (h.take n)
  have h2:=qz E0 (h.drop n)
  rcases Int.lt_or_le 0 (dv E9 (l.drop n))with c|c
  ·have:=Int.mul_le_mul_of_nonneg_left (show 1<=dv E9 (l.drop n)by omega) (Int.le_of_lt (pow_pos E0 n))
   omega
  omega
 rw[List.drop_of_length_le (by omega),ky]
theorem qig {N:Nat} (hN:11000<N) {v:List Int} {k:Nat} (hv:Dg E9 v) (hvl:v.length=k+2) (hk:k<=9000) (hn:1000000<=v[k+1]'(by omega)) {A:Int} {m:Nat} (hm:m<=9000): ∀(K i:Nat) (l qs:List Int),i<=m+1->i<K->l.length=m+k+3->qs.length=m+1->Dg E9 l->Dg E9 qs->(∀(j:Nat) x,j<i->qs[j]? =some x->x=0)->dv E9 (l.drop i)<dv E9 v->dv E9 l+dv E9 v*dv E9 qs=A->
 ∃l' qs',kT N v K l qs ((i:Int)-1)=some (l',qs')/\l'.length=m+k+3/\qs'.length=m+1/\Dg E9 l'/\Dg E9 qs'/\dv E9 l'<dv E9 v/\dv E9 l'+dv E9 v*dv E9 qs'=A
 |0,i,l,qs,h,hK,_,_,_,_,_,_,_=>by omega
 |K+1,0,l,qs,h,hK,hl,hql,hd,hqd,hz,hlt,e=>by
  rw[kT,if_neg (by omega)]
  exact⟨l,qs,rfl,hl,hql,hd,hqd,hlt,e⟩
 |K+1,i+1,l,qs,h,hK,hl,hql,hd,hqd,hz,hlt,e=>by
  have hil:i<l.length:=by omega
  have hiq:i<qs.length:=by omega
  have ei:((i+1:Nat):Int)-1=(i:Int):=by omega
  have V1:=vL E0 hv
  rw[hvl]at V1
  have V0:0<dv E9 v:=by
   have:=qz E0 (hd.drop (i+1))
   omega
  have lp:(l.take i).length=i:=by rw[List.length_take];omega
  have lu:((l.drop i).take (k+3)).length=k+3:=by rw[List.length_take,List.length_drop];omega
  have el:l=l.take i++((l.drop i).take (k+3)++(l.drop i).drop (k+3)):=by rw[List.take_append_drop,List.take_append_drop]
  have hu:=(hd.drop i).take (k+3)
  have ht:dv E9 ((l.drop i).drop (k+3))=0:=by
   have:=qb4 (hd.drop (i+1)) (n:=k+2) (by omega)
   rw[List.drop_drop]at this⊢
   rw[show i+(k+3)=i+1+(k+2)by omega]
   exact this
  have eu:dv E9 ((l.drop i).take (k+3))=dv E9 (l.drop i):=by
   have:=vH E9 ((l.drop i).take (k+3)) ((l.drop i).drop (k+3))
   rw[List.take_append_drop,ht,Int.mul_zero,Int.add_zero]at this
   exact this.symm
  have hUlt:dv E9 ((l.drop i).take (k+3))<1000000000*dv E9 v:=by
   rw[eu,qfG l hil]
   have:=(hd.at hil).2
   have h1:E9*(dv E9 (l.drop (i+1))+1)<=E9*dv E9 v:=Int.mul_le_mul_of_nonneg_left (by omega) (by decide)
   rw[Int.mul_add,Int.mul_one]at h1
   have h2:E9*dv E9 v=1000000000*dv E9 v:=rfl
   omega
  obtain⟨u',s2,s3,s4,s1⟩:=qmA hN (p:=l.take i) (t:=(l.drop i).drop (k+3)) hv hvl hk hu lu (by omega) hn hUlt
  rw[lp,<-el]at s1
  rw[kT,ei,if_pos (by omega)]
  have hU0:=qz E0 hu
  have Q0:0<=dv E9 ((l.drop i).take (k+3))/dv E9 v:=Int.ediv_nonneg hU0 (by omega)
  have Q1:dv E9 ((l.drop i).take (k+3))/dv E9 v<E9:=by rw[Int.ediv_lt_iff_lt_mul V0];exact hUlt
  have hR:=Int.emod_lt_of_pos (dv E9 ((l.drop i).take (k+3))) V0
  have hdm:=Int.mul_ediv_add_emod (dv E9 ((l.drop i).take (k+3))) (dv E9 v)
  have hdrop:(l.take i++(u'++(l.drop i).drop (k+3))).drop i=u'++(l.drop i).drop (k+3):=by
   rw[List.drop_append_of_le_length (by omega),List.drop_of_length_le (by omega),List.nil_append]
  have hdn:dv E9 (u'++(l.drop i).drop (k+3))=dv E9 u':=by rw[vH,ht,Int.mul_zero,Int.add_zero]
  have main:=qig hN hv hvl hk hn (A:=A) hm K i (l.take i++(u'++(l.drop i).drop (k+3))) (qs.set i (dv E9 ((l.drop i).take (k+3))/dv E9 v)) (by omega) (by omega) (by rw[List.length_append,List.length_append,lp,s2,List.length_drop,List.length_drop];omega) (by rw[List.length_set];exact hql) ((hd.take i).append (s3.append ((hd.drop i).drop _))) (hqd.set ⟨Q0,Q1⟩) (fun j x hj hx=>by
   rw[List.getElem?_set_ne (by omega)]at hx
   exact hz j x (by omega) hx) (by rw[hdrop,hdn,s4];exact hR) (by
   rw[qhA hiq (fun j x hj hx=>hz j x (by omega) hx),vH,lp,hdn,s4,Int.mul_add]
   have e1:=vO E9 l i (by omega)
   rw[<-eu]at e1
   have e2:E9^i*dv E9 ((l.drop i).take (k+3))=E9^i*(dv E9 v*(dv E9 ((l.drop i).take (k+3))/dv E9 v))+E9^i*(dv E9 ((l.drop i).take (k+3))%dv E9 v):=by rw[<-Int.mul_add,hdm]
   have e3:dv E9 v*(E9^i*(dv E9 ((l.drop i).take (k+3))/dv E9 v))=E9^i*(dv E9 v*(dv E9 ((l.drop i).take (k+3))/dv E9 v)):=Int.mul_left_comm _ _ _
   rw[e3]
   omega)
  obtain⟨l',qs',g1,g2⟩:=main
  refine⟨l',qs',?_,g2⟩
  rw[<-g1]
  generalize hw:yN N l v (i:Int)=og at s1⊢
  cases og with
  |none=>cases s1
  |some r25=>
   simp only[ZB]at s1⊢
   generalize qK v (i:Int) r25 N l 0 0=o2 at s1⊢
   cases o2 with
   |none=>cases s1
   |some p2=>
    obtain⟨l29,n30⟩:=p2
    simp only[ZB]at s1⊢
    generalize idx l29 (w64 ((i:Int)+(v.length:Int)))=o3 at s1⊢
    cases o3 with
    |none=>cases s1
    |some x40=>
     simp only[ZB]at s1⊢
     generalize put l29 (w64 ((i:Int)+(v.length:Int))) (w64 (x40-n30))=o4 at s1⊢
     cases o4 with
     |none=>cases s1
     |some l41=>
      simp only[ZB]at s1⊢
      generalize idx l41 (w64 ((i:Int)+(v.length:Int)))=o5 at s1⊢
      cases o5 with
      |none=>cases s1
      |some x42=>
       simp only[ZB]at s1⊢
       refine(congrArg (fun z=>Option.bind z _) s1).trans ?_
       rw[ZB]
       simp only
       rw[qx,List.getElem?_eq_getElem hiq,ZB,ve hiq,ZB,qh (by omega) (by omega)]
theorem qlE {a:List Int} (hal:a.length<=50000): ∀(K:Nat) (l:List Int),a.length+1<K+l.length->l.length<=a.length+1->zx a K l=some (l++List.replicate (a.length+1-l.length) 0)
 |0,l,h,h2=>by omega
 |K+1,l,h,h2=>by
  rw[zx,zT (by omega)]
  by_cases c:l.length<a.length+1
  ·rw[if_pos (by omega),qdv (by simp;omega) (by simp;omega),ZB,qlE hal K (l++[0]) (by simp;omega) (by simp;omega),List.append_assoc,List.length_append,List.length_singleton]
   rw[show a.length+1-l.length=a.length+1-(l.length+1)+1 by omega,List.replicate_succ]
   rfl
  rw[if_neg (by omega),show a.length+1-l.length=0 by omega]
  simp
theorem qbD {N:Nat} (hN:60000<N) {a b:List Int} (ha:Can E9 a) (hb:Can E9 b) (hal:a.length<=8000) (hb0:0<dv E9 b):zw N a b=some (dg E9 (dv E9 a/dv E9 b),dg E9 (dv E9 a%dv E9 b)):=by
 have A0:=qz E0 ha.1
 unfold zw
 rw[qen ha hb (by omega) (by omega),ZB]
 by_cases h:dv E9 a<dv E9 b
 ·rw[if_pos h,if_pos (by omega),Int.ediv_eq_zero_of_lt A0 h,Int.emod_eq_of_lt A0 h,qbT,qlu E1 ha]
 have hlen:b.length<=a.length:=by
  rcases Nat.lt_or_ge a.length b.length with c|c
  ·have:=qcB ha hb c;omega
  exact c
 have hb1:0<b.length:=by
  rcases Nat.eq_zero_or_pos b.length with c|c
  ·rw[List.length_eq_zero_iff.1 c,ky]at hb0;omega
  exact c
 have hge: ¬((if dv E9 a<dv E9 b then-1 else if dv E9 a=dv E9 b then(0:Int)else 1)<0):=by
  rw[if_neg h]
  split<;>omega
 rw[if_neg hge]
 by_cases hone:b.length=1
 ·obtain⟨d,rfl⟩:=List.length_eq_one_iff.1 hone
  have ed:dv E9 [d]=d:=by rw[zb,ky];omega
  rw[ed]at hb0⊢
  have hd:d<1000000000:=hb.1.head.2
  have m0:=Int.emod_nonneg (dv E9 a) (show d≠0 by omega)
  have m1:=Int.emod_lt_of_pos (dv E9 a) hb0
  rw[if_pos (by simp),qbj]
  simp only[List.getElem?_cons_zero,ZB]
  rw[qeu ha.1 (by omega) (by omega) hb0 hd,ZB]
  simp only
  rw[qbu (Dg.cons ⟨m0,Int.lt_trans m1 hd⟩ Dg.nil) (by simp) (by simp;omega),ZB,zb,ky,Int.mul_zero,Int.add_zero]
 obtain⟨k,hk⟩: ∃k,b.length=k+2:=⟨b.length-2,by omega⟩
 obtain⟨m,hm⟩: ∃m,a.length=m+k+2:=⟨a.length-(k+2),by omega⟩
 have hkb:k+1<b.length:=by omega
 have at1:=hb.1.at hkb
 have at2:b[k+1]<1000000000:=at1.2
 have at0:b[k+1]≠0:=hb.2 _ (by rw[List.getLast?_eq_getElem?,hk];exact List.getElem?_eq_getElem hkb)
 have hPk:=pow_pos E0 (k+1)
 rw[if_neg (by omega),show w64 ((b.length:Int)-1)=((k+1:Nat):Int)by rw[qh (by omega) (by omega)];omega,qx,List.getElem?_eq_getElem hkb,ZB,qh (n:=b[k+1]+1) (by omega) (by omega)]
 have hq:qaO .i64 1000000000 (b[k+1]+1)=some (1000000000/(b[k+1]+1)):=by
  unfold qaO
  have:(1000000000:Int)/(b[k+1]+1)<=1000000000:=Int.ediv_le_self _ (by omega)
  have:0<=(1000000000:Int)/(b[k+1]+1):=Int.ediv_nonneg (by omega) (by omega)
  rw[if_neg (by omega),Int.tdiv_eq_ediv_of_nonneg (by omega)]
  show some (w64 _)=_
  rw[qh (by omega) (by omega)]
 rw[hq,ZB]
 have f1:=Int.mul_ediv_add_emod 1000000000 (b[k+1]+1)
 have f2:=Int.emod_lt_of_pos 1000000000 (show 0<b[k+1]+1 by omega)
 have f3:=Int.emod_nonneg 1000000000 (show b[k+1]+1≠0 by omega)
 have f0:1<=(1000000000:Int)/(b[k+1]+1):=by
  rw[Int.le_ediv_iff_mul_le (by omega)]
  omega
 have f5:(1000000000:Int)/(b[k+1]+1)<=500000000:=by
  have:(1000000000:Int)/(b[k+1]+1)<500000001:=by
   rw[Int.ediv_lt_iff_lt_mul (by omega)]
   omega
  omega
 generalize hf:(1000000000:Int)/(b[k+1]+1)=f at*
 have f4:250000000<=b[k+1]*f:=by
  rw[Int.add_mul,Int.one_mul]at f1
  have:f<=b[k+1]*f:=by
   have:=Int.mul_le_mul_of_nonneg_right (show 1<=b[k+1]by omega) (show 0<=f by omega)
   omega
  have:b[k+1]<=b[k+1]*f:=by
   have:=Int.mul_le_mul_of_nonneg_left (show 1<=f by omega) (show 0<=b[k+1]by omega)
   omega
  omega
 have fd:Dg E9 [f]:=Dg.cons ⟨by omega,show f<1000000000 by omega⟩ Dg.nil
 have fv:dv E9 [f]=f:=by rw[zb,ky];omega
 have hf0:0<f:=by omega
 rw[qdS hb.1 fd (by omega) (by simp) (by simp;omega),ZB,qdS ha.1 fd (by omega) (by simp) (by simp;omega),ZB,fv]
 have V0:0<dv E9 b*f:=Int.mul_pos hb0 hf0
 have ebs:dv E9 b=dv E9 (b.take (k+1))+E9^(k+1)*b[k+1]:=by
  have:=qm E9 b (k+1) hkb
  rw[List.take_of_length_le (by omega)]at this
  exact this
 have blo0:=qz E0 (hb.1.take (k+1))
 have blo1:=vL E0 (hb.1.take (k+1))
 rw[List.length_take,Nat.min_eq_left (by omega)]at blo1
 have Vlow:E9^(k+1)*250000000<=dv E9 b*f:=by
  have h1:=Int.mul_le_mul_of_nonneg_left f4 (Int.le_of_lt hPk)
  rw[ebs,Int.add_mul,Int.mul_assoc]
  have:=Int.mul_nonneg blo0 (Int.le_of_lt hf0)
  omega
 have Vhigh:dv E9 b*f<E9^(k+2):=by
  have h1:(dv E9 b)*f<E9^(k+1)*((b[k+1]+1)*f):=by
   rw[<-Int.mul_assoc]
   refine Int.mul_lt_mul_of_pos_right ?_ hf0
   rw[ebs,Int.mul_add,Int.mul_one]
   omega
  have h3:E9^(k+1)*((b[k+1]+1)*f)<=E9^(k+1)*1000000000:=Int.mul_le_mul_of_nonneg_left (by omega) (Int.le_of_lt hPk)
  rw[Int.pow_succ]
  exact Int.lt_of_lt_of_le h1 h3
 have U0:0<=dv E9 a*f:=Int.mul_nonneg A0 (Int.le_of_lt hf0)
 have cu:=zA E1 U0
 have euu:=jw E1 U0
 have hA:=vL E0 ha.1
 have lu:(dg E9 (dv E9 a*f)).length<=a.length+1:=by
  refine(qco E1 U0).2 ?_
  rw[Int.pow_succ]
  have h1:dv E9 a*f<E9^a.length*f:=Int.mul_lt_mul_of_pos_right hA hf0
  have h2:E9^a.length*f<=E9^a.length*E9:=Int.mul_le_mul_of_nonneg_left (show f<=1000000000 by omega) (Int.le_of_lt (pow_pos E0 _))
  omega
 generalize hua:dg E9 (dv E9 a*f)=ua at*
 rw[qdv (by simp;omega) (by simp;omega),ZB,List.nil_append,qlE (by omega) N ua (by omega) lu,ZB]
 have lU:(ua++List.replicate (a.length+1-ua.length) 0).length=m+k+3:=by simp;omega
 have dU:Dg E9 (ua++List.replicate (a.length+1-ua.length) 0):=cu.1.append (Dg.zeros E0 _)
 have vU:dv E9 (ua++List.replicate (a.length+1-ua.length) 0)=dv E9 a*f:=by rw[vH,yh,Int.mul_zero,Int.add_zero,euu]
 generalize ua++List.replicate (a.length+1-ua.length) 0=U at*
 have cv:=zA E1 (Int.le_of_lt V0)
 have evv:=jw E1 (Int.le_of_lt V0)
 have lv:(dg E9 (dv E9 b*f)).length=k+2:=by
  have h1:=(qco E1 (Int.le_of_lt V0) (n:=k+2)).2 Vhigh
  have h2:=(not_congr (qco E1 (Int.le_of_lt V0) (n:=k+1))).2 (by
   have:E9^(k+1)*1<=E9^(k+1)*250000000:=Int.mul_le_mul_of_nonneg_left (by omega) (Int.le_of_lt hPk)
   omega)
  omega
 generalize hvv:dg E9 (dv E9 b*f)=v at*
 have hkv:k+1<v.length:=by omega
 have hn:1000000<=v[k+1]:=by
  have e:=qm E9 v (k+1) hkv
  rw[List.take_of_length_le (by omega),evv]at e
  have h1:=vL E0 (cv.1.take (k+1))
  rw[List.length_take,Nat.min_eq_left (by omega)]at h1
  have h2:E9^(k+1)*250000000<E9^(k+1)*(v[k+1]+1):=by rw[Int.mul_add,Int.mul_one];omega
  have:=Int.lt_of_mul_lt_mul_left h2 (Int.le_of_lt hPk)
  omega
 have htop:dv E9 (U.drop (m+1))<dv E9 v:=by
  rw[evv]
  have e:=vO E9 U (m+1) (by omega)
  have h1:=qz E0 (dU.take (m+1))
  have h2:dv E9 U<E9^(m+1)*(E9^(k+1)*f):=by
   rw[vU,<-Int.mul_assoc,<-Int.pow_add,show m+1+(k+1)=a.length by omega]
   exact Int.mul_lt_mul_of_pos_right hA hf0
  have hPm:=pow_pos E0 (m+1)
  have h3:E9^(m+1)*dv E9 (U.drop (m+1))<E9^(m+1)*(E9^(k+1)*f):=by omega
  have h4:=Int.lt_of_mul_lt_mul_left h3 (Int.le_of_lt hPm)
  have h5:E9^(k+1)*f<=E9^(k+1)*(b[k+1]*f):=by
   refine Int.mul_le_mul_of_nonneg_left ?_ (Int.le_of_lt hPk)
   have:=Int.mul_le_mul_of_nonneg_right (show 1<=b[k+1]by omega) (show 0<=f by omega)
   omega
  have h6:E9^(k+1)*(b[k+1]*f)<=dv E9 b*f:=by
   rw[<-Int.mul_assoc]
   exact Int.mul_le_mul_of_nonneg_right (by omega) (Int.le_of_lt hf0)
  omega
 rw[show w64 ((U.length:Int)-(v.length:Int))=((m+1:Nat):Int)by rw[qh (by omega) (by omega)];omega,xL (by omega),ZB,show w64 (((m+1:Nat):Int)-1)=((m+1:Nat):Int)-1 from qh (by omega) (by omega)]
 obtain⟨l,qs,g1,g2,g3,g4,g5,g6,g7⟩:=qig (N:=N) (by omega) cv.1 lv (by omega) hn (A:=dv E9 U) (m:=m) (by omega) N (m+1) U (List.replicate (m+1) 0) (Nat.le_refl _) (by omega) lU (by simp) dU (Dg.zeros E0 _) (fun j x _ hx=>qfC j x hx) htop (by rw[yh,Int.mul_zero,Int.add_zero])
 rw[g1,ZB]
 simp only
 rw[vU]at g7
 rw[evv]at g6 g7
 have hl0:=qz E0 g4
 have eq:dv E9 qs=dv E9 a/dv E9 b:=by
  rw[<-Int.mul_ediv_mul_of_pos_left (dv E9 a) (dv E9 b) hf0,<-g7,Int.add_mul_ediv_left _ _ (by omega),Int.ediv_eq_zero_of_lt hl0 g6,Int.zero_add]
 have er:dv E9 l=dv E9 a%dv E9 b*f:=by
  have:(dv E9 a*f)%(dv E9 b*f)=dv E9 l:=by rw[<-g7,Int.add_mul_emod_self_left,Int.emod_eq_of_lt hl0 g6]
  rw[<-this,Int.mul_comm (dv E9 a),Int.mul_comm (dv E9 b),Int.mul_emod_mul_of_pos _ _ hf0,Int.mul_comm]
 have hzl:dv E9 (l.drop (k+2))=0:=qb4 g4 (by omega)
 have etk:dv E9 (l.take (k+2))=dv E9 l:=by
  have:=vO E9 l (k+2) (by omega)
  rw[hzl,Int.mul_zero,Int.add_zero]at this
  exact this.symm
 have m0:0<=dv E9 a%dv E9 b:=Int.emod_nonneg _ (by omega)
 have r0:0<=dv E9 a%dv E9 b*f:=Int.mul_nonneg m0 (Int.le_of_lt hf0)
 rw[lv,yl (by omega),ZB,qbu (g4.take _) (by rw[List.length_take];omega) (by rw[List.length_take];omega),ZB,etk,er,qbj]
 simp only[List.getElem?_cons_zero,ZB]
 have lr:(dg E9 (dv E9 a%dv E9 b*f)).length<=20000:=by
  have h1:(dg E9 (dv E9 a%dv E9 b*f)).length<=k+2:=(qco E1 r0).2 (by omega)
  omega
 rw[qeu (zA E1 r0).1 lr (by omega) hf0 (by omega),ZB,jw E1 r0,Int.mul_ediv_cancel _ (by omega),qbu g5 (by omega) (by omega),ZB,eq]
abbrev jH (z:Int) (n:Nat):Prop:=(z.natAbs:Int)<E9^n
theorem jH.len {z:Int} {n:Nat} (h:jH z n):(dg E9 z.natAbs).length<=n:=(qco E1 (by omega)).2 h
theorem jH.mono {z:Int} {m n:Nat} (h:jH z m) (hn:m<=n):jH z n:=Int.lt_of_lt_of_le h (j6 (by decide) hn)
theorem qn2 (z:Int):Can E9 (rI z).w/\dv E9 (rI z).w=(z.natAbs:Int):=⟨zA E1 (by omega),jw E1 (by omega)⟩
theorem qcp {x y:Int} (hx:0<=x) (h:x<=y): ∀n:Nat,0<=x^n/\x^n<=y^n
 |0=>by simp
 |n+1=>by
  have ih:=qcp hx h n
  rw[Int.pow_succ,Int.pow_succ]
  exact⟨Int.mul_nonneg ih.1 hx,Int.mul_le_mul ih.2 h hx (Int.le_trans ih.1 ih.2)⟩
theorem qfH {N:Nat} (hN:60000<N) (B:Nat) (hB:B<=8000): ∀(k K:Nat) (a b:Int),0<=a->0<=b->b<2^k->2*k+2<=K->jH a B->jH b B->kg N K (dg E9 a) (dg E9 b)=some (dg E9 (Int.gcd a b:Int))
 |k,0,a,b,_,_,_,hK,_,_=>by omega
 |k,K+1,a,b,ha,hb,hk,hK,fa,fb=>by
  have na:(a.natAbs:Int)=a:=by omega
  have nb:(b.natAbs:Int)=b:=by omega
  have done:b=0->kg N (K+1) (dg E9 a) (dg E9 b)=some (dg E9 (Int.gcd a b:Int)):=by
   intro h0
   subst h0
   rw[kg,qbT,if_neg (by simp),Int.gcd_zero,na]
  rcases(show b=0\/0<b by omega)with h0|h0
  ·exact done h0
  match k,hk,hK with
  |0,hk,hK=>simp at hk;omega
  |k+1,hk,hK=>
   have m0:=Int.emod_nonneg a (show b≠0 by omega)
   have m1:=Int.emod_lt_of_pos a h0
   have la:=fa.len
   have lb:=fb.len
   rw[na]at la
   rw[nb]at lb
   have lpos:0<(dg E9 b).length:=by
    rw[List.length_pos_iff]
    intro c
    have:=(qfU E1 hb).1 c
    omega
   have fr:jH (a%b) B:=by unfold jH at fb⊢;omega
   rw[kg,if_pos (by omega),qbD hN (zA E1 ha) (zA E1 hb) (by omega) (by rw[jw E1 hb];exact h0),ZB,jw E1 ha,jw E1 hb]
   simp only
   rw[qbv ha hb]
   match K,hK with
   |0,hK=>omega
   |K+1,hK=>
    rcases(show a%b=0\/0<a%b by omega)with g0|g0
    ·rw[g0,kg,qbT,if_neg (by simp),Int.gcd_zero,nb]
    have lr:=fr.len
    rw[show((a%b).natAbs:Int)=a%b by omega]at lr
    have lpos2:0<(dg E9 (a%b)).length:=by
     rw[List.length_pos_iff]
     intro c
     have:=(qfU E1 m0).1 c
     omega
    have n0:=Int.emod_nonneg b (show a%b≠0 by omega)
    have n1:=Int.emod_lt_of_pos b g0
    rw[kg,if_pos (by omega),qbD hN (zA E1 hb) (zA E1 m0) (by omega) (by rw[jw E1 m0];exact g0),ZB,jw E1 hb,jw E1 m0]
    have hhalf:b%(a%b)<2^k:=by
     have d1:=Int.mul_ediv_add_emod b (a%b)
     have d2:1<=b/(a%b):=by
      rw[Int.le_ediv_iff_mul_le g0]
      omega
     have d3:a%b*1<=a%b*(b/(a%b)):=Int.mul_le_mul_of_nonneg_left d2 (by omega)
     rw[Int.pow_succ]at hk
     omega
    simp only
    rw[qbv hb m0]
    exact qfH hN B hB k K (a%b) (b%(a%b)) m0 n0 hhalf (by omega) fr (by unfold jH at fr⊢;omega)
theorem qkm {N:Nat} (hN:600000<N) {a b:Int} (ha:0<=a) (hb:0<=b) (fa:jH a 8000) (fb:jH b 8000):yU N (dg E9 a) (dg E9 b)=some (dg E9 (Int.gcd a b:Int)):=by
 have h2:b<2^(30*8000):=by
  have e:(2:Int)^(30*8000)=1073741824^8000:=by rw[Int.pow_mul,show(2:Int)^30=1073741824 from rfl]
  rw[e]
  have:E9^8000<=(1073741824:Int)^8000:=(qcp (by decide) (by decide) _).2
  unfold jH at fb
  omega
 unfold yU
 rw[qfH (by omega) 8000 (Nat.le_refl _) (30*8000) N a b ha hb h2 (by omega) fa fb,ZB]
end Go.Av
end
section
namespace Go.Av
set_option linter.unusedVariables false
set_option linter.unusedSimpArgs false
set_option maxRecDepth 100000
def jG (c:UInt8):Bool:=decide (48<=c.toNat)&&decide (c.toNat<=57)
def qJ (n:Nat) (s:List UInt8):Nat:=s.foldl (fun a c=>a*10+(c.toNat-48)) n
theorem qaY (n:Nat):qJ n []=n:=List.foldl_nil
theorem qac (n:Nat) (c:UInt8) (s:List UInt8):qJ n (c::s)=qJ (n*10+(c.toNat-48)) s:=by
 unfold qJ
 rw[List.foldl_cons]
theorem qcX (s:List UInt8): ∀n:Nat,s.all jG=true->qJ n s<(n+1)*10^s.length:=by
 induction s with
 |nil=>
  intro n _
  rw[List.length_nil,Nat.pow_zero,Nat.mul_one,qaY]
  exact Nat.lt_succ_self n
 |cons c s ih=>
  intro n h
  rw[List.all_cons,Bool.and_eq_true]at h
  have h1:=ih (n*10+(c.toNat-48)) h.2
  have hd:c.toNat-48<=9:=by
   have:=h.1
   simp[jG]at this
   omega
  have h2:n*10+(c.toNat-48)+1<=(n+1)*10:=by omega
  rw[qac,List.length_cons,Nat.pow_succ,Nat.mul_comm (10^s.length) 10,<-Nat.mul_assoc]
  exact Nat.lt_of_lt_of_le h1 (Nat.mul_le_mul_right _ h2)
theorem ne48 {c:UInt8} (h: ¬c=48): ¬((c.toNat:Int)=48):=fun e=>h (UInt8.toNat_inj.1 (show c.toNat=48 from by omega))
theorem qkX (c:UInt8):([48,49,50,51,52,53,54,55,56,57]:Str).contains c=jG c:=by
 rw[Bool.eq_iff_iff]
 simp only[List.contains_cons,List.contains_nil,Bool.or_eq_true,beq_iff_eq,jG,Bool.and_eq_true,decide_eq_true_eq,<-UInt8.toNat_inj,Bool.or_false]
 simp only[show(48:UInt8).toNat=48 from rfl,show(49:UInt8).toNat=49 from rfl,show(50:UInt8).toNat=50 from rfl,show(51:UInt8).toNat=51 from rfl,show(52:UInt8).toNat=52 from rfl,show(53:UInt8).toNat=53 from rfl,show(54:UInt8).toNat=54 from rfl,show(55:UInt8).toNat=55 from rfl,show(56:UInt8).toNat=56 from rfl,show(57:UInt8).toNat=57 from rfl]
 omega
theorem qbi {α:Type} {p:α->Bool}: ∀{l:List α},l.dropWhile p=[]↔l.all p=true
 |[]=>by simp
 |x::l=>by
  rw[List.dropWhile_cons,List.all_cons]
  by_cases h:p x=true
  ·rw[if_pos h,h,Bool.true_and];exact qbi
  rw[if_neg h];simp[h]
theorem qkg {s:Str}:(Lib.trimS s [48,49,50,51,52,53,54,55,56,57]==[])=s.all jG:=by
 have e:(fun c=>([48,49,50,51,52,53,54,55,56,57]:Str).contains c)=jG:=funext qkX
 unfold Lib.trimS Lib.trimLeftS Lib.trimRightS
 rw[e]
 rw[Bool.eq_iff_iff,beq_iff_eq,qbi,List.all_reverse]
 constructor
 ·intro h
  have h2: ∀x∈s.reverse.takeWhile jG++s.reverse.dropWhile jG,jG x=true:=by
   intro x hx
   rcases List.mem_append.1 hx with hx|hx
   ·exact List.all_eq_true.1 List.all_takeWhile x hx
   exact List.all_eq_true.1 h x hx
  rw[List.takeWhile_append_dropWhile]at h2
  exact List.all_eq_true.2 fun x hx=>h2 x (by simpa using hx)
 intro h
 have:s.reverse.dropWhile jG=[]:=qbi.2 (by rw[List.all_reverse];exact h)
 rw[this]
 rfl
theorem qf0: ∀(s:Str) (n:Nat),s.all jG=true->Lib.decFrom n s=some (qJ n s)
 |[],n,_=>rfl
 |c::s,n,h=>by
  rw[List.all_cons,Bool.and_eq_true]at h
  unfold Lib.decFrom
  rw[qac]
  have h1:48<=c.toNat/\c.toNat<=57:=by simpa[jG]using h.1
  have e:Lib.digitVal c=some (c.toNat-48):=by unfold Lib.digitVal;rw[if_pos h1]
  rw[e]
  exact qf0 s _ h.2
theorem qhU {s:Str} (h0:1<=s.length) (h:s.all jG=true):Lib.atoi s=some ((qJ 0 s:Nat):Int):=by
 cases s with
 |nil=>simp at h0
 |cons c s=>
  have hc:jG c=true:=by rw[List.all_cons,Bool.and_eq_true]at h;exact h.1
  have h1:48<=c.toNat/\c.toNat<=57:=by simpa[jG]using hc
  unfold Lib.atoi Lib.decNat
  have n1: ¬(c==45)=true:=fun e=>by rw[beq_iff_eq.1 e]at h1;simp at h1
  have n2: ¬(c==43)=true:=fun e=>by rw[beq_iff_eq.1 e]at h1;simp at h1
  simp only
  rw[if_neg n1,if_neg n2,if_neg (by simp),qf0 _ _ h]
  rfl
theorem qk7 (s:List UInt8): ∀n:Nat,qJ n s=n*10^s.length+qJ 0 s:=by
 induction s with
 |nil=>intro n;rw[qaY,qaY];simp
 |cons c s ih=>
  intro n
  rw[qac,qac,ih,ih (0*10+_),List.length_cons,Nat.pow_succ,Nat.zero_mul,Nat.zero_add,Nat.add_mul]
  rw[Nat.mul_assoc,Nat.mul_comm 10,<-Nat.add_assoc]
theorem qcr (s t:List UInt8):qJ 0 (s++t)=qJ 0 s*10^t.length+qJ 0 t:=by
 have:qJ 0 (s++t)=qJ (qJ 0 s) t:=by unfold qJ;rw[List.foldl_append]
 rw[this,qk7]
theorem qd5 (s:List UInt8) (c:UInt8):qJ 0 (s++[c])=qJ 0 s*10+(c.toNat-48):=by
 rw[qcr]
 simp[qac,qaY]
def dch (n:Nat):UInt8:=UInt8.ofNat (48+n)
theorem qeR {n:Nat} (h:n<10):(dch n).toNat=48+n:=by
 unfold dch
 rw[UInt8.toNat_ofNat']
 omega
theorem qjK {n:Nat} (h:n<10):jG (dch n)=true:=by
 unfold jG
 rw[qeR h,Bool.and_eq_true,decide_eq_true_eq,decide_eq_true_eq]
 omega
theorem qjT {c:UInt8} (h:jG c=true):c=dch (c.toNat-48)/\c.toNat-48<10:=by
 unfold jG at h
 rw[Bool.and_eq_true,decide_eq_true_eq,decide_eq_true_eq]at h
 refine⟨?_,by omega⟩
 rw[<-UInt8.toNat_inj,qeR (by omega)]
 omega
def qb7:Nat->Nat->Str
 |0,_=>[]
 |k+1,n=>qb7 k (n/10)++[dch (n%10)]
theorem qfl: ∀k n,(qb7 k n).length=k
 |0,n=>rfl
 |k+1,n=>by rw[qb7,List.length_append,qfl];rfl
theorem jK {n:Nat} (h:n<10):Lib.decDigits n=[dch n]:=by rw[Lib.decDigits,dif_pos h];rfl
theorem qd3 {n:Nat} (h: ¬n<10):Lib.decDigits n=Lib.decDigits (n/10)++[dch (n%10)]:=by rw[Lib.decDigits,dif_neg h];rfl
theorem qfq: ∀(k n:Nat),0<n/10^k->Lib.decDigits n=Lib.decDigits (n/10^k)++qb7 k (n%10^k)
 |0,n,_=>by simp[qb7]
 |k+1,n,h=>by
  have e1:n/10^(k+1)=n/10/10^k:=by rw[Nat.pow_succ,Nat.mul_comm,Nat.div_div_eq_div_mul]
  have hp:0<10^k:=Nat.pow_pos (by decide)
  have h10: ¬n<10:=fun c=>by
   rw[e1,Nat.div_eq_of_lt c,Nat.zero_div]at h
   omega
  have e2:n%10^(k+1)/10=n/10%10^k:=by rw[Nat.pow_succ,Nat.mul_comm,Nat.mod_mul_right_div_self]
  have e3:n%10^(k+1)%10=n%10:=Nat.mod_mod_of_dvd _ ⟨10^k,by rw[Nat.pow_succ,Nat.mul_comm]⟩
  rw[qd3 h10,qfq k (n/10) (by rw[<-e1];exact h),qb7,e2,e3,e1,List.append_assoc]
theorem qbY (n:Nat):(Lib.decDigits n).all jG=true:=by
 induction n using Nat.strongRecOn with
 |_ n ih=>
  by_cases h:n<10
  ·rw[jK h,List.all_cons,qjK h];rfl
  rw[qd3 h,List.all_append,ih _ (by omega),List.all_cons,qjK (by omega)];rfl
theorem qhh (n:Nat):qJ 0 (Lib.decDigits n)=n:=by
 induction n using Nat.strongRecOn with
 |_ n ih=>
  by_cases h:n<10
  ·rw[jK h,qac,qaY,qeR h];omega
  rw[qd3 h,qd5,ih _ (by omega),qeR (by omega)];omega
theorem qhc (n:Nat):0<(Lib.decDigits n).length:=by rw[Lib.decDigits_length];exact Lib.nDigits_pos n
theorem xI {n k:Nat} (hk:0<k):(Lib.decDigits n).length<=k↔n<10^k:=by
 constructor
 ·intro h
  have:=qcX (Lib.decDigits n) 0 (qbY n)
  rw[qhh]at this
  have h2:(10:Nat)^(Lib.decDigits n).length<=10^k:=Nat.pow_le_pow_right (by omega) h
  omega
 intro h
 rcases Nat.lt_or_ge k (Lib.decDigits n).length with c|c
 ·exfalso
  rw[Lib.decDigits_length]at c
  obtain⟨m,hm⟩: ∃m,Lib.nDigits n=m+2:=⟨Lib.nDigits n-2,by omega⟩
  have hlow: ∀(n m:Nat),Lib.nDigits n=m+2->10^(m+1)<=n:=by
   intro n
   induction n using Nat.strongRecOn with
   |_ n ih=>
    intro m hm
    by_cases h:n<10
    ·rw[Lib.nDigits_small h]at hm;omega
    rw[Lib.nDigits_big h]at hm
    cases m with
    |zero=>simp;omega
    |succ m=>
     have:=ih (n/10) (by omega) m (by omega)
     rw[Nat.pow_succ]
     omega
  have:=hlow n m hm
  have h2:(10:Nat)^k<=10^(m+1):=Nat.pow_le_pow_right (by omega) (by omega)
  omega
 exact c
def Dec (s:Str):Prop:=0<s.length/\s.all jG=true/\(s[0]? =some 48->s=[48])
instance (s:Str):Decidable (Dec s):=by unfold Dec;infer_instance
theorem qjF {c:UInt8} (h:jG c=true):Dec [c]:=⟨by simp,by simp[h],fun e=>by simp at e;rw[e]⟩
theorem qmc: ∀(k:Nat) (s:Str),s.length<=k->Dec s->s=Lib.decDigits (qJ 0 s)
 |0,s,h,hd=>by have:=hd.1;omega
 |k+1,s,h,hd=>by
  rcases List.eq_nil_or_concat s with e|⟨t,c,e⟩
  ·rw[e]at hd;exact absurd hd.1 (by simp)
  rw[List.concat_eq_append]at e
  subst e
  have ha:=hd.2.1
  rw[List.all_append,Bool.and_eq_true,List.all_cons,List.all_nil,Bool.and_true]at ha
  obtain⟨ec,hc⟩:=qjT ha.2
  by_cases ht:t=[]
  ·subst ht
   rw[List.nil_append,qac,qaY,Nat.zero_mul,Nat.zero_add,jK hc,<-ec]
  have htl:0<t.length:=List.length_pos_iff.2 ht
  have h0:t[0]? ≠some 48:=fun e=>by
   have:=hd.2.2 (by rw[List.getElem?_append_left htl];exact e)
   have:=congrArg List.length this
   rw[List.length_append,List.length_singleton,List.length_singleton]at this
   omega
  have hD:Dec t:=⟨htl,ha.1,fun e=>absurd e h0⟩
  have ih:=qmc k t (by simp at h;omega) hD
  have hv:qJ 0 t≠0:=fun e=>by
   rw[e]at ih
   exact h0 (by rw[ih,jK (by decide)];rfl)
  rw[qd5,qd3 (by omega),show(qJ 0 t*10+(c.toNat-48))/10=qJ 0 t by omega,show(qJ 0 t*10+(c.toNat-48))%10=c.toNat-48 by omega,<-ih,<-ec]
theorem Dec.eq {s:Str} (h:Dec s):s=Lib.decDigits (qJ 0 s):=qmc s.length s (Nat.le_refl _) h
end Go.Av
end
section
namespace Go.Av
set_option linter.unusedVariables false
set_option linter.unusedSimpArgs false
set_option maxRecDepth 100000
theorem qbd {a b:Str} (h:a.length+b.length<=1000000000):cat a b=some (a++b):=by
 unfold cat
 rw[if_pos (by omega)]
theorem dcut {d:Nat} (h:d<10):cut ([48,49,50,51,52,53,54,55,56,57]:Str) (d:Int) (w64 ((d:Int)+1))=some [dch d]:=by
 rw[zT (by omega)]
 rcases(show d=0\/d=1\/d=2\/d=3\/d=4\/d=5\/d=6\/d=7\/d=8\/d=9 by omega)with e|e|e|e|e|e|e|e|e|e<;>subst e<;>decide
theorem tm10 (n:Nat):(n:Int).tmod 10=((n%10:Nat):Int):=by rw[Int.tmod_eq_emod_of_nonneg (by omega)];omega
theorem td10 (n:Nat):(n:Int).tdiv 10=((n/10:Nat):Int):=by rw[Int.tdiv_eq_ediv_of_nonneg (by omega)];omega
theorem qeg {least:Int} {K n:Nat} {s:Str} (hn:n<9223372036854775808) (hs:s.length<=1000) (h:0<n\/(s.length:Int)<least):qH least (K+1) (n:Int) s=qH least K ((n/10:Nat):Int) (dch (n%10)::s):=by
 have cond:(if(n:Int)>0 then some true else some (decide ((s.length:Int)<least)):Option Bool)=some true:=by
  by_cases c:(n:Int)>0
  ·rw[if_pos c]
  rw[if_neg c,decide_eq_true (by omega)]
 rw[qH,cond,ZB,if_pos rfl,tm10,td10,dcut (by omega),ZB,qbd (by simp;omega),ZB,qh (by omega) (by omega)]
 rfl
theorem qei {least:Int} {K:Nat} {s:Str} (h: ¬(s.length:Int)<least):qH least (K+1) 0 s=some s:=by
 rw[qH,if_neg (by omega),decide_eq_false h,ZB,if_neg (by simp)]
theorem qht: ∀(k K n:Nat) (s:Str),n<10^k->s.length+k=9->k<K->qH 9 K (n:Int) s=some (qb7 k n++s)
 |k,0,n,s,_,_,h=>by omega
 |0,K+1,n,s,hn,hs,h=>by
  simp at hn
  subst hn
  exact qei (by omega)
 |k+1,K+1,n,s,hn,hs,h=>by
  have h9:(10:Nat)^(k+1)<=10^9:=Nat.pow_le_pow_right (by omega) (by omega)
  rw[Nat.pow_succ]at hn
  rw[qeg (by rw[Nat.pow_succ]at h9;omega) (by omega) (.inr (by omega)),qht k K (n/10) _ (by omega) (by simp;omega) (by omega),qb7,List.append_assoc]
  rfl
theorem qiA: ∀(k K n:Nat) (s:Str),0<n->n<10^k->n<9223372036854775808->s.length+k<=900->k<K->qH 1 K (n:Int) s=some (Lib.decDigits n++s)
 |k,0,n,s,_,_,_,_,h=>by omega
 |0,K+1,n,s,h0,hn,_,hs,h=>by simp at hn;omega
 |k+1,K+1,n,s,h0,hn,h63,hs,h=>by
  rw[Nat.pow_succ]at hn
  rw[qeg h63 (by omega) (.inl h0)]
  by_cases c:n<10
  ·obtain⟨K2,rfl⟩: ∃K2,K=K2+1:=⟨K-1,by omega⟩
   rw[show n/10=0 by omega,jK c,show n%10=n by omega]
   exact qei (by simp;omega)
  rw[qiA k K (n/10) _ (by omega) (by omega) (by omega) (by simp;omega) (by omega),qd3 c,List.append_assoc]
  rfl
theorem qli {N n:Nat} (hN:100<N) (h:n<1000000000):kW N (n:Int) 9=some (qb7 9 n):=by
 unfold kW
 rw[qht 9 N n [] h rfl (by omega),ZB,List.append_nil]
theorem qe1 {N n:Nat} (hN:100<N) (h:n<9223372036854775808):kW N (n:Int) 1=some (Lib.decDigits n):=by
 unfold kW
 rcases Nat.eq_zero_or_pos n with e|e
 ·subst e
  obtain⟨K,rfl⟩: ∃K,N=K+1+1:=⟨N-2,by omega⟩
  have h1:=qeg (least:=1) (K:=K+1) (n:=0) (s:=[]) (by omega) (by simp) (.inr (by simp))
  rw[h1,Nat.zero_div]
  have h2:=qei (least:=1) (K:=K) (s:=[dch (0%10)]) (by simp)
  have h2:qH 1 (K+1) ((0:Nat):Int) [dch (0%10)]=_:=h2
  rw[h2,ZB,jK (by decide)]
 rw[qiA 19 N n [] e (by omega) h (by simp) (by omega),ZB,List.append_nil]
theorem qfj: ∀k:Nat,E9^k=((10^(9*k):Nat):Int)
 |0=>rfl
 |k+1=>by
  rw[Int.pow_succ,qfj k,Nat.mul_succ,Nat.pow_add,Int.natCast_mul]
  rfl
def nv (w:List Int):Nat:=(dv E9 w).toNat
theorem qha {w:List Int} (h:Dg E9 w):(nv w:Int)=dv E9 w:=by
 have:=qz E0 h
 unfold nv
 omega
theorem nv_lt {w:List Int} (h:Dg E9 w):nv w<10^(9*w.length):=by
 have h1:=vL E0 h
 rw[qfj,<-qha h]at h1
 omega
theorem qgD {w:List Int} (h:Dg E9 w):(Lib.decDigits (nv w)).length<=9*w.length+1:=by
 refine(xI (by omega)).2 ?_
 have:=nv_lt h
 rw[Nat.pow_succ]
 omega
theorem qjl {w:List Int} (h:Dg E9 w) {i:Nat} (hi:i<w.length):nv (w.drop i)=w[i].toNat+1000000000*nv (w.drop (i+1)):=by
 have h1:=qha (h.drop i)
 have h2:=qha (h.drop (i+1))
 have h3:=(h.at hi).1
 rw[qfG w hi]at h1
 have h4:E9*dv E9 (w.drop (i+1))=1000000000*dv E9 (w.drop (i+1)):=rfl
 omega
theorem qhZ {N:Nat} (hN:100<N) {a:qL} (ha:Dg E9 a.w) (hal:a.w.length<=100000): ∀(K i:Nat),i<=a.w.length->i<K->0<nv (a.w.drop i)->jE N a K (Lib.decDigits (nv (a.w.drop i))) ((i:Int)-1)=some (Lib.decDigits (nv a.w))
 |0,i,_,h,_=>by omega
 |K+1,0,_,_,_=>by
  rw[jE,if_neg (by omega),List.drop_zero]
 |K+1,i+1,hi,h,hp=>by
  have hil:i<a.w.length:=by omega
  have ax:=ha.at hil
  have ax2:a.w[i]<1000000000:=ax.2
  have ei:((i+1:Nat):Int)-1=(i:Int):=by omega
  have ed:a.w[i]=(a.w[i].toNat:Int):=by omega
  have el:=qjl ha hil
  have ll:=qgD (ha.drop (i+1))
  rw[List.length_drop]at ll
  rw[jE,ei,if_pos (by omega),qx,List.getElem?_eq_getElem hil,ZB]
  have e9:kW N a.w[i] 9=some (qb7 9 a.w[i].toNat):=by
   conv=>lhs;rw[ed]
   exact qli hN (by omega)
  rw[e9,ZB,qbd (by rw[qfl];omega),ZB,qh (by omega) (by omega)]
  have e10:Lib.decDigits (nv (a.w.drop (i+1)))++qb7 9 a.w[i].toNat=Lib.decDigits (nv (a.w.drop i)):=by
   have h9:(10:Nat)^9=1000000000:=rfl
   have q:nv (a.w.drop i)/10^9=nv (a.w.drop (i+1)):=by rw[h9];omega
   have r:nv (a.w.drop i)%10^9=a.w[i].toNat:=by rw[h9];omega
   rw[qfq 9 (nv (a.w.drop i)) (by rw[q];exact hp),q,r]
  rw[e10]
  exact qhZ hN ha hal K i (by omega) (by omega) (by omega)
theorem yu {z:Int} (h:z<0):Lib.itoa z=45::Lib.decDigits z.natAbs:=by unfold Lib.itoa;rw[if_pos h]
theorem jk {z:Int} (h: ¬z<0):Lib.itoa z=Lib.decDigits z.natAbs:=by
 unfold Lib.itoa
 rw[if_neg h,show z.toNat=z.natAbs by omega]
theorem qnj {N:Nat} (hN:60000<N) {z:Int} (h:jH z 50000):xz N (rI z)=some (Lib.itoa z):=by
 obtain⟨c,e⟩:=qn2 z
 have l:(rI z).w.length<=50000:=h.len
 have en:nv (rI z).w=z.natAbs:=by unfold nv;rw[e];omega
 have ng:(rI z).neg=decide (z<0):=rfl
 unfold xz
 by_cases h0:(rI z).w.length=0
 ·have hz:z=0:=by
   rw[List.length_eq_zero_iff.1 h0,ky]at e
   omega
  rw[if_pos (by omega),hz]
  have:Lib.itoa 0=[48]:=by rw[jk (by decide)];exact jK (by decide)
  rw[this]
 have hk:(rI z).w.length-1<(rI z).w.length:=by omega
 have ax:=c.1.at hk
 have ax2:(rI z).w[(rI z).w.length-1]<1000000000:=ax.2
 have an:(rI z).w[(rI z).w.length-1]≠0:=c.2 _ (by rw[List.getLast?_eq_getElem?];exact List.getElem?_eq_getElem hk)
 have ed:(rI z).w[(rI z).w.length-1]=((rI z).w[(rI z).w.length-1].toNat:Int):=by omega
 have e1:nv ((rI z).w.drop ((rI z).w.length-1))=(rI z).w[(rI z).w.length-1].toNat:=by
  rw[qjl c.1 hk,List.drop_of_length_le (by omega)]
  rfl
 have e2:kW N (rI z).w[(rI z).w.length-1] 1=some (Lib.decDigits (nv ((rI z).w.drop ((rI z).w.length-1)))):=by
  conv=>lhs;rw[ed]
  rw[e1]
  exact qe1 (by omega) (by omega)
 have e3:=qhZ (N:=N) (by omega) c.1 (by omega) N ((rI z).w.length-1) (by omega) (by omega) (by rw[e1];omega)
 have ll:=qgD c.1
 rw[if_neg (by omega),qhi (by omega) (by omega),qx,List.getElem?_eq_getElem hk,ZB,e2,ZB,show w64 (((rI z).w.length:Int)-2)=(((rI z).w.length-1:Nat):Int)-1 by rw[qh (by omega) (by omega)];omega,e3,ZB,ng]
 by_cases hz:z<0
 ·rw[decide_eq_true hz,if_pos rfl,qbd (by simp;omega),ZB,yu hz,en]
  rfl
 rw[decide_eq_false hz,if_neg (by simp),jk hz,en]
theorem qii {s:Str} (hd:s.all jG=true) (hl:s.length<=18): ∀(K i:Nat),i<=s.length->s.length<K+i->jc s K ((qJ 0 (s.take i):Nat):Int) (i:Int)=some ((qJ 0 s:Nat):Int)
 |0,i,h,hK=>by omega
 |K+1,i,h,hK=>by
  rw[jc]
  by_cases hi:i<s.length
  ·have ht:s.take (i+1)=s.take i++[s[i]]:=List.take_succ_eq_append_getElem hi
   have hc:jG s[i]=true:=List.all_eq_true.1 hd _ (List.getElem_mem hi)
   obtain⟨_,hc2⟩:=qjT hc
   have hc1:48<=s[i].toNat:=by
    unfold jG at hc
    rw[Bool.and_eq_true,decide_eq_true_eq]at hc
    exact hc.1
   have hv:=qcX (s.take i) 0 (List.all_eq_true.2 fun x hx=>List.all_eq_true.1 hd x (List.mem_of_mem_take hx))
   have hp:(10:Nat)^(s.take i).length<=10^17:=Nat.pow_le_pow_right (by omega) (by rw[List.length_take];omega)
   have hp2:(10:Nat)^17=100000000000000000:=rfl
   rw[if_pos (by omega),qx,List.getElem?_eq_getElem hi,ZB,qh (n:=10*((qJ 0 (s.take i):Nat):Int)) (by omega) (by omega),qh (n:=(s[i].toNat:Int)) (by omega) (by omega),qh (n:=10*((qJ 0 (s.take i):Nat):Int)+(s[i].toNat:Int)) (by omega) (by omega),qh (by omega) (by omega),zT (by omega)]
   have e:10*((qJ 0 (s.take i):Nat):Int)+(s[i].toNat:Int)-48=((qJ 0 (s.take (i+1)):Nat):Int):=by rw[ht,qd5];omega
   rw[e]
   exact qii hd hl K (i+1) (by omega) (by omega)
  rw[if_neg (by omega),List.take_of_length_le (by omega)]
theorem qhE {N:Nat} (hN:100<N) {s:Str} (hd:s.all jG=true) (hl:s.length<=18):xC N s=some ((qJ 0 s:Nat):Int):=by
 have e:=qii hd hl N 0 (by omega) (by omega)
 have e:jc s N 0 0=_:=e
 unfold xC
 rw[e,ZB]
theorem qfV {s:Str} (h:s.all jG=true) (k:Nat):(s.take k).all jG=true:=List.all_eq_true.2 fun x hx=>List.all_eq_true.1 h x (List.mem_of_mem_take hx)
theorem qfz {s:Str} (h:s.all jG=true) (k:Nat):(s.drop k).all jG=true:=List.all_eq_true.2 fun x hx=>List.all_eq_true.1 h x (List.mem_of_mem_drop hx)
theorem qiw {N:Nat} (hN:100<N): ∀(K:Nat) (l:List Int) (s:Str),s.all jG=true->l.length+s.length<=90000->s.length<K->Dg E9 l->
 ∃l' s',jN N K l s=some (l',s')/\s'.length<=9/\s'.all jG=true/\Dg E9 l'/\l'.length<=90000/\dv E9 l'+E9^l'.length*(qJ 0 s':Nat)=dv E9 l+E9^l.length*(qJ 0 s:Nat)
 |0,l,s,_,_,h,_=>by omega
 |K+1,l,s,hd,hl,h,hg=>by
  rw[jN]
  by_cases c:s.length>9
  ·have lu:(s.drop (s.length-9)).length=9:=by rw[List.length_drop];omega
   have hv:=qhE (N:=N) hN (qfz hd (s.length-9)) (by omega)
   have hv2:=qcX _ 0 (qfz hd (s.length-9))
   rw[lu]at hv2
   rw[if_pos (by omega),show w64 ((s.length:Int)-9)=((s.length-9:Nat):Int)by rw[qh (by omega) (by omega)];omega,xg (by omega),ZB,hv,ZB,qdv (by simp;omega) (by simp;omega),ZB,yl (by omega),ZB]
   obtain⟨l',s',f1,f2,f3,f4,f5,f6⟩:=qiw hN K (l++[((qJ 0 (s.drop (s.length-9)):Nat):Int)]) (s.take (s.length-9)) (qfV hd _) (by simp;omega) (by rw[List.length_take];omega) (hg.append (Dg.cons ⟨by omega,show((qJ 0 (s.drop (s.length-9)):Nat):Int)<1000000000 by omega⟩ Dg.nil))
   refine⟨l',s',f1,f2,f3,f4,f5,?_⟩
   rw[f6,qdW,List.length_append,List.length_singleton,Int.pow_succ,Int.mul_assoc]
   have e:qJ 0 s=qJ 0 (s.take (s.length-9))*1000000000+qJ 0 (s.drop (s.length-9)):=by
    have:=qcr (s.take (s.length-9)) (s.drop (s.length-9))
    rw[List.take_append_drop,lu]at this
    exact this
   have e2:((qJ 0 s:Nat):Int)=((qJ 0 (s.drop (s.length-9)):Nat):Int)+E9*((qJ 0 (s.take (s.length-9)):Nat):Int):=by
    have h4:E9*((qJ 0 (s.take (s.length-9)):Nat):Int)=1000000000*((qJ 0 (s.take (s.length-9)):Nat):Int):=rfl
    omega
   rw[e2,Int.mul_add]
   omega
  rw[if_neg (by omega)]
  exact⟨l,s,rfl,by omega,hd,hg,by omega,rfl⟩
def sgn (s:Str):Bool:=decide (s[0]? =some 45)
def bdy (s:Str):Str:=if sgn s=true then s.drop 1 else s
theorem qeJ (s:Str):(if(s.length:Int)>0 then(idx s 0).bind fun c=>some (decide ((c.toNat:Int)=45))else some false:Option Bool)=some (sgn s):=by
 unfold sgn
 cases s with
 |nil=>rfl
 |cons c t=>
  rw[if_pos (by simp),qbj]
  have e:((c.toNat:Int)=45)↔(some c=some (45:UInt8)):=⟨fun h=>congrArg some (UInt8.toNat_inj.1 (show c.toNat=45 by omega)),fun h=>by rw[Option.some.inj h];rfl⟩
  simp only[List.getElem?_cons_zero,ZB]
  congr 1
  exact decide_eq_decide.2 e
theorem qlw (s:Str):(if sgn s=true then(cut s 1 (s.length:Int)).bind fun x=>some x else some s:Option Str)=some (bdy s):=by
 unfold bdy
 cases h:sgn s with
 |false=>rw[if_neg (by simp),if_neg (by simp)]
 |true=>
  have hl:1<=s.length:=by
   cases s with
   |nil=>simp[sgn]at h
   |cons=>simp
  have:=xg hl
  have e:cut s 1 (s.length:Int)=some (s.drop 1):=this
  rw[if_pos rfl,if_pos rfl,e,ZB]
def qg8 (s:Str):Int:=if sgn s=true then-((qJ 0 (bdy s):Nat):Int)else((qJ 0 (bdy s):Nat):Int)
theorem qfM {N:Nat} (hN:100000<N) {s:Str} (hd:(bdy s).all jG=true) (hl:(bdy s).length<=80000):yE N s=some (rI (qg8 s)):=by
 unfold yE
 rw[qeJ,ZB,qlw,ZB]
 obtain⟨l,t,f1,f2,f3,f4,f5,f6⟩:=qiw (N:=N) (by omega) N [] (bdy s) hd (by simp;omega) (by omega) Dg.nil
 have hv:=qhE (N:=N) (by omega) f3 (by omega)
 have hv2:=qcX _ 0 f3
 have hp:(10:Nat)^t.length<=10^9:=Nat.pow_le_pow_right (by omega) f2
 rw[f1,ZB]
 simp only
 have hg:=f4.append (r:=[((qJ 0 t:Nat):Int)]) (Dg.cons ⟨by omega,show((qJ 0 t:Nat):Int)<1000000000 by omega⟩ Dg.nil)
 rw[hv,ZB,qdv (by simp;omega) (by simp;omega),ZB,qbk _ hg (by simp;omega) (by simp;omega),ZB,qdW,f6]
 simp only[ky,List.length_nil,Int.pow_zero,Int.one_mul,Int.zero_add]
 rfl
theorem qf5 (z:Int):sgn (Lib.itoa z)=decide (z<0):=by
 unfold sgn
 by_cases h:z<0
 ·rw[yu h,decide_eq_true h];rfl
 rw[jk h,decide_eq_false h]
 refine decide_eq_false fun e=>?_
 have hm:(45:UInt8)∈Lib.decDigits z.natAbs:=List.mem_of_getElem? e
 have:=List.all_eq_true.1 (qbY z.natAbs) _ hm
 exact absurd this (by decide)
theorem qak (z:Int):bdy (Lib.itoa z)=Lib.decDigits z.natAbs:=by
 unfold bdy
 rw[qf5]
 by_cases h:z<0
 ·rw[decide_eq_true h,if_pos rfl,yu h];rfl
 rw[decide_eq_false h,if_neg (by simp),jk h]
theorem qcO (z:Int):qg8 (Lib.itoa z)=z:=by
 unfold qg8
 rw[qf5,qak,qhh]
 by_cases h:z<0
 ·rw[decide_eq_true h,if_pos rfl];omega
 rw[decide_eq_false h,if_neg (by simp)];omega
def slA:Str->Nat
 |[]=>0
 |c::s=>if c=47 then 0 else slA s+1
theorem qej: ∀s:Str,slA s<=s.length
 |[]=>Nat.le_refl _
 |c::s=>by
  rw[slA,List.length_cons]
  have:=qej s
  split<;>omega
theorem qh4 {s:Str} (hl:s.length<=1000000): ∀(K i:Nat),i<=s.length->s.length<K+i->ja s K (i:Int)=some (if i+slA (s.drop i)<s.length then .inr ((i+slA (s.drop i):Nat):Int)else .inl ())
 |0,i,h,hK=>by omega
 |K+1,i,h,hK=>by
  rw[ja]
  by_cases hi:i<s.length
  ·have hd:s.drop i=s[i]::s.drop (i+1):=List.drop_eq_getElem_cons hi
   rw[if_pos (by omega),qx,List.getElem?_eq_getElem hi,ZB,hd,slA]
   by_cases c:s[i]=47
   ·rw[if_pos c,if_pos (by rw[c];rfl),Nat.add_zero,if_pos hi]
   rw[if_neg c,if_neg (fun e=>c (UInt8.toNat_inj.1 (show s[i].toNat=47 by omega))),zT (by omega),qh4 hl K (i+1) (by omega) (by omega),show i+1+slA (s.drop (i+1))=i+(slA (s.drop (i+1))+1)by omega]
  rw[if_neg (by omega),List.drop_of_length_le (by omega),if_neg (by omega)]
theorem qcH {N:Nat} {s:Str} (hl:s.length<=1000000) (hN:s.length<N):jY N s=some (slA s:Int):=by
 have e:=qh4 hl N 0 (by omega) (by omega)
 have e:ja s N 0=_:=e
 have h:=qej s
 unfold jY
 rw[e,List.drop_zero,Nat.zero_add]
 by_cases c:slA s<s.length
 ·rw[if_pos c];rfl
 rw[if_neg c]
 have:slA s=s.length:=by omega
 rw[this]
 rfl
theorem qhe: ∀(s t:Str),(∀c∈s,c≠47)->slA (s++47::t)=s.length/\slA s=s.length
 |[],t,_=>⟨by simp[slA],rfl⟩
 |c::s,t,h=>by
  have h1:=qhe s t fun x hx=>h x (List.mem_cons_of_mem _ hx)
  rw[List.cons_append,slA,slA,if_neg (h c (List.mem_cons_self ..)),if_neg (h c (List.mem_cons_self ..)),h1.1,h1.2]
  exact⟨rfl,rfl⟩
end Go.Av
end
section
namespace Go.Av
set_option linter.unusedVariables false
set_option linter.unusedSimpArgs false
set_option maxRecDepth 100000
theorem and1 {n:Nat} (h:n<4611686018427387904):qy .i64 (n:Int) 1=((n%2:Nat):Int):=by
 show IntKind.wrap .i64 _=_
 have e:(BitVec.ofInt IntKind.i64.bits (n:Int)&&&BitVec.ofInt IntKind.i64.bits 1).toNat=n%2:=by
  rw[BitVec.toNat_and]
  show(BitVec.ofInt 64 (n:Int)).toNat&&&(BitVec.ofInt 64 1).toNat=_
  rw[qaH (by omega) (by omega),qaH (by omega) (by omega)]
  exact Nat.and_one_is_mod n
 rw[e]
 show w64 _=_
 exact qh (by omega) (by omega)
theorem shr1 (n:Nat):qo .i64 (n:Int) 1=((n/2:Nat):Int):=by
 show(n:Int).fdiv 2=_
 rw[Int.fdiv_eq_ediv_of_nonneg _ (by decide)]
 omega
theorem qlR {N:Nat} (hN:11000<N): ∀(K n:Nat) (b acc:qj) (x y:Int) (mb ma:Nat),n<100000->n<K->IsZ b x->IsZ acc y->Fit x mb->Fit y ma->ma+mb*n<=3900->
 ∃r,jd N K b.s b.w acc.s acc.w (n:Int)=some (r.s,r.w)/\IsZ r (y*x^n)
 |0,n,_,_,_,_,_,_,_,h,_,_,_,_,_=>by omega
 |K+1,n,b,acc,x,y,mb,ma,hn,hK,hb,hacc,fx,fy,hm=>by
  rw[jd]
  by_cases h0:n=0
  ·subst h0
   rw[if_neg (by omega)]
   exact⟨acc,rfl,by simpa using hacc⟩
  have hmb:mb<=mb*n:=Nat.le_mul_of_pos_right _ (by omega)
  obtain⟨m,r,hr,hmr⟩: ∃m r,r<2/\n=2*m+r:=⟨n/2,n%2,by omega,by omega⟩
  have emb:mb*n=mb*m+mb*m+mb*r:=by rw[hmr,Nat.mul_add,<-Nat.mul_assoc,Nat.mul_comm mb 2,Nat.two_mul,Nat.add_mul]
  have S1: ∃(a2:qj) (m2:Nat),(if(qy .i64 (n:Int) 1)=1 then(zl N (⟨acc.s,acc.w⟩:qj) (⟨b.s,b.w⟩:qj)).bind fun r20=>some (r20.s,r20.w)else some (acc.s,acc.w):Option (Int×(List Int)))=some (a2.s,a2.w)/\IsZ a2 (y*x^r)/\Fit (y*x^r) m2/\m2=ma+mb*r:=by
   rw[and1 (by omega),show n%2=r by omega]
   rcases(show r=0\/r=1 by omega)with e|e<;>subst e
   ·rw[if_neg (by simp)]
    exact⟨acc,ma,rfl,by simpa using hacc,by simpa using fy,by simp⟩
   obtain⟨p,e1,h1⟩:=qi5 hN hacc hb (fy.mono (by omega)) (fx.mono (by omega))
   have e1:zl N (⟨acc.s,acc.w⟩:qj) (⟨b.s,b.w⟩:qj)=some p:=e1
   rw[if_pos (by simp),e1,ZB]
   exact⟨p,ma+mb,rfl,by rw[Int.pow_one];exact h1,by rw[Int.pow_one];exact qjQ fy fx,by simp⟩
  obtain⟨a2,m2,e1,h1,f1,em2⟩:=S1
  have S2: ∃(b2:qj) (x2:Int) (m3:Nat),(if(n:Int)>1 then(zl N (⟨b.s,b.w⟩:qj) (⟨b.s,b.w⟩:qj)).bind fun r22=>some (r22.s,r22.w,a2.s,a2.w)else some (b.s,b.w,a2.s,a2.w):Option (Int×(List Int)×Int×(List Int)))=some (b2.s,b2.w,a2.s,a2.w)/\IsZ b2 x2/\Fit x2 m3/\m3*m=mb*m+mb*m/\x2^m=(x*x)^m:=by
   by_cases c:(n:Int)>1
   ·have hm1:1<=m:=by omega
    have h3:mb<=mb*m:=Nat.le_mul_of_pos_right _ hm1
    obtain⟨p,e2,h2⟩:=qi5 hN hb hb (fx.mono (by omega)) (fx.mono (by omega))
    have e2:zl N (⟨b.s,b.w⟩:qj) (⟨b.s,b.w⟩:qj)=some p:=e2
    rw[if_pos c,e2,ZB]
    exact⟨p,x*x,mb+mb,rfl,h2,qjQ fx fx,Nat.add_mul _ _ _,rfl⟩
   have hm0:m=0:=by omega
   subst hm0
   rw[if_neg c]
   exact⟨b,x,mb,rfl,hb,fx,by simp,by simp⟩
  obtain⟨b2,x2,m3,e2,h2,f2,em3,ex⟩:=S2
  have S:((if(qy .i64 (n:Int) 1)=1 then(zl N (⟨acc.s,acc.w⟩:qj) (⟨b.s,b.w⟩:qj)).bind fun r20=>some (r20.s,r20.w)else some (acc.s,acc.w):Option (Int×(List Int)))).bind (fun(n16,l17)=>
   if(n:Int)>1 then(zl N (⟨b.s,b.w⟩:qj) (⟨b.s,b.w⟩:qj)).bind fun r22=>some (r22.s,r22.w,n16,l17)else some (b.s,b.w,n16,l17))=some (b2.s,b2.w,a2.s,a2.w):=by
   rw[e1,ZB]
   exact e2
  obtain⟨r',e3,h3⟩:=qlR hN K m b2 a2 x2 (y*x^r) m3 m2 (by omega) (by omega) h2 h1 f2 f1 (by omega)
  rw[if_pos (by omega),S,ZB]
  simp only
  rw[shr1,show n/2=m by omega]
  refine⟨r',e3,?_⟩
  have hx2:x*x=x^2:=by rw[Int.pow_succ,Int.pow_succ,Int.pow_zero,Int.one_mul]
  rw[ex,Int.mul_assoc,hx2,<-Int.pow_mul,<-Int.pow_add,show r+2*m=n by omega]at h3
  exact h3
theorem qnU {N:Nat} (hN:110000<N) {b:qj} {x:Int} {n mb:Nat} (hn:n<100000) (hb:IsZ b x) (fx:Fit x mb) (hm:1+mb*n<=3900): ∃r,qai N b (n:Int)=some r/\IsZ r (x^n):=by
 obtain⟨r,e,h⟩:=qlR (N:=N) (by omega) N n b ⟨1,[]⟩ x 1 mb 1 hn (by omega) hb (IsZ.small (by decide) (by decide)) fx (F1 (by omega)) hm
 have e:jd N N b.s b.w 1 [] (n:Int)=some (r.s,r.w):=e
 unfold qai
 rw[qex,ZB]
 simp only
 rw[e,ZB]
 exact⟨r,rfl,by rw[Int.one_mul]at h;exact h⟩
theorem qdC {z:Int} {p n:Nat} (h:(z.natAbs:Int)<((10^p:Nat):Int)) (hp:p<=19*n):Fit z n:=by
 have h1:(10:Nat)^p<=10^(19*n):=Nat.pow_le_pow_right (by omega) hp
 have h2:((10^(19*n):Nat):Int)<=W^n:=by
  rw[Nat.pow_mul]
  have:=(qcp (x:=10000000000000000000) (y:=W) (by decide) (by decide) n).2
  rw[Int.natCast_pow]
  exact this
 unfold Fit
 omega
theorem qaW (s:Str):strings_HasPrefix s [45]=some (sgn s):=by
 unfold strings_HasPrefix stringslite_HasPrefix sgn
 cases s with
 |nil=>rfl
 |cons c t=>
  rw[if_pos (by simp;omega)]
  have e:cut (c::t) 0 (([45]:Str).length:Int)=some [c]:=yl (l:=c::t) (k:=1) (by simp)
  rw[e]
  simp only[ZB,List.getElem?_cons_zero]
  congr 1
  rw[Bool.eq_iff_iff,beq_iff_eq,decide_eq_true_eq]
  constructor
  ·intro h;injection h with h;rw[h]
  intro h;rw[Option.some.inj h]
theorem qjy {s:Str} (h:sgn s=true):1<=s.length:=by
 cases s with
 |nil=>simp[sgn]at h
 |cons=>simp
theorem qdg (s:Str):strings_TrimPrefix s [45]=some (bdy s):=by
 unfold strings_TrimPrefix stringslite_TrimPrefix
 have e:stringslite_HasPrefix s [45]=some (sgn s):=by
  have:=qaW s
  unfold strings_HasPrefix at this
  cases h:stringslite_HasPrefix s [45]with
  |none=>rw[h]at this;cases this
  |some b=>rw[h]at this;exact this
 rw[e,ZB]
 unfold bdy
 cases h:sgn s with
 |false=>rw[if_neg (by simp),if_neg (by simp),ZB]
 |true=>
  have e2:cut s (([45]:Str).length:Int) (s.length:Int)=some (s.drop 1):=xg (qjy h)
  rw[if_pos rfl,if_pos rfl,e2,ZB,ZB]
theorem qhn (s:Str):strings_CutPrefix s [45]=some (bdy s,sgn s):=by
 unfold strings_CutPrefix stringslite_CutPrefix
 have e:stringslite_HasPrefix s [45]=some (sgn s):=by
  have:=qaW s
  unfold strings_HasPrefix at this
  cases h:stringslite_HasPrefix s [45]with
  |none=>rw[h]at this;cases this
  |some b=>rw[h]at this;exact this
 rw[e,ZB]
 unfold bdy
 cases h:sgn s with
 |false=>rw[if_pos (by simp),if_neg (by simp),ZB]
 |true=>
  have e2:cut s (([45]:Str).length:Int) (s.length:Int)=some (s.drop 1):=xg (qjy h)
  rw[if_neg (by simp),if_pos rfl,e2,ZB,ZB]
theorem qjS {N:Nat} (hN:600000<N): ∀(K:Nat) (x:qj) (y:Int) (s:Str) (p:Nat),IsZ x y->0<=y->y<((10^p:Nat):Int)->p+s.length<=19000->s.all jG=true->s.length<K->
 ∃r,vT N K x.s x.w s=some (r.s,r.w)/\IsZ r (y*((10^s.length:Nat):Int)+(qJ 0 s:Nat))
 |0,_,_,_,_,_,_,_,_,_,h=>by omega
 |K+1,x,y,s,p,hx,y0,y1,hp,hd,hK=>by
  rw[vT]
  by_cases h0:s.length=0
  ·rw[if_neg (by omega)]
   have:s=[]:=List.length_eq_zero_iff.1 h0
   subst this
   exact⟨x,rfl,by simpa[qaY]using hx⟩
  rw[if_pos (by omega)]
  obtain⟨g,hg,hg0,hgl,hg18⟩: ∃g:Nat,(if(s.length:Int)<18 then(s.length:Int)else 18)=(g:Int)/\0<g/\g<=s.length/\g<=18:=by
   by_cases c:(s.length:Int)<18
   ·exact⟨s.length,by rw[if_pos c],by omega,by omega,by omega⟩
   exact⟨18,by rw[if_neg c];rfl,by omega,by omega,by omega⟩
  have lt:(s.take g).length=g:=by rw[List.length_take];omega
  have ea:=qhU (s:=s.take g) (by omega) (qfV hd g)
  have et:qhC (s.take g)=some (((qJ 0 (s.take g):Nat):Int),()):=by
   unfold qhC
   rw[if_pos (by omega),ea]
   rfl
  have hv:=qcX (s.take g) 0 (qfV hd g)
  rw[lt]at hv
  have hp18:(10:Nat)^g<=10^18:=Nat.pow_le_pow_right (by omega) hg18
  have h18:(10:Nat)^18=1000000000000000000:=rfl
  rw[hg,yl hgl,ZB,et,ZB,qex,ZB]
  obtain⟨r1,e1,h1⟩:=qnU (N:=N) (by omega) (b:=⟨10,[]⟩) (x:=10) (n:=g) (mb:=1) (by omega) (IsZ.small (by decide) (by decide)) (qdC (p:=2) (by decide) (by omega)) (by omega)
  have ep:(10:Int)^g=((10^g:Nat):Int):=by rw[Int.natCast_pow];rfl
  rw[ep]at h1
  have fg:Fit ((10^g:Nat):Int) 1000:=qdC (p:=19) (by
   rw[Int.natAbs_natCast]
   have h19:(10:Nat)^19=10000000000000000000:=rfl
   omega) (by omega)
  have fy:Fit y 1000:=qdC (p:=p) (by omega) (by omega)
  have hpos:0<10^g:=Nat.pow_pos (by decide)
  have yg0:0<=y*((10^g:Nat):Int):=Int.mul_nonneg y0 (by omega)
  have yg1:(y+1)*((10^g:Nat):Int)<=((10^(p+g):Nat):Int):=by
   rw[Nat.pow_add,Int.natCast_mul]
   exact Int.mul_le_mul_of_nonneg_right (by omega) (by omega)
  rw[Int.add_mul,Int.one_mul]at yg1
  obtain⟨r2,e2,h2⟩:=qi5 (N:=N) (by omega) hx h1 (fy.mono (by omega)) (fg.mono (by omega))
  have e2:zl N (⟨x.s,x.w⟩:qj) r1=some r2:=e2
  have hd2:IsZ ⟨((qJ 0 (s.take g):Nat):Int),[]⟩ ((qJ 0 (s.take g):Nat):Int):=IsZ.small (by omega) (by omega)
  obtain⟨r3,e3,h3⟩:=qiX (N:=N) (by omega) h2 hd2 (qdC (p:=p+g) (by omega) (by omega)) (qdC (p:=19) (by
   rw[Int.natAbs_natCast]
   have h19:(10:Nat)^19=10000000000000000000:=rfl
   omega) (by omega))
  rw[e1,ZB,e2,ZB,qex,ZB,e3,ZB,xg hgl,ZB]
  have ld:(s.drop g).length=s.length-g:=by rw[List.length_drop]
  obtain⟨r,e4,h4⟩:=qjS hN K r3 _ (s.drop g) (p+g) h3 (by omega) (by omega) (by omega) (qfz hd g) (by omega)
  refine⟨r,e4,?_⟩
  have e5:=qcr (s.take g) (s.drop g)
  rw[List.take_append_drop]at e5
  have e6:(10:Nat)^s.length=10^g*10^(s.drop g).length:=by rw[<-Nat.pow_add,ld];congr 1;omega
  rw[e5,e6]
  rw[Int.add_mul]at h4
  rw[Int.natCast_mul,Int.natCast_add,Int.natCast_mul,<-Int.mul_assoc,<-Int.add_assoc]
  exact h4
theorem qeG {N:Nat} (hN:600000<N) {s:Str} (hd:(bdy s).all jG=true) (hl:(bdy s).length<=19000): ∃r,xP N s=some r/\IsZ r (qg8 s):=by
 obtain⟨r,e,h⟩:=qjS hN N ⟨0,[]⟩ 0 (bdy s) 0 (IsZ.small (by decide) (by decide)) (by omega) (by decide) (by omega) hd (by omega)
 have e:vT N N 0 [] (bdy s)=some (r.s,r.w):=e
 rw[Int.zero_mul,Int.zero_add]at h
 unfold xP
 rw[qaW,ZB,qdg,ZB,e,ZB]
 unfold qg8
 cases hs:sgn s with
 |false=>
  rw[if_neg (by simp)]
  exact⟨r,rfl,by simpa using h⟩
 |true=>
  obtain⟨r2,e2,h2⟩:=qfP h
  have e2:zh (⟨r.s,r.w⟩:qj)=some r2:=e2
  simp only[if_true]
  rw[e2]
  exact⟨r2,rfl,h2⟩
end Go.Av
end
section
namespace Go.Av
set_option linter.unusedVariables false
set_option linter.unusedSimpArgs false
set_option maxRecDepth 100000
theorem qjP: ∀n:Nat,Lib.repeatL [48] n=List.replicate n 48
 |0=>rfl
 |n+1=>by rw[Lib.repeatL,qjP,List.replicate_succ];rfl
theorem qgv: ∀k:Nat,qb7 k 0=List.replicate k 48
 |0=>rfl
 |k+1=>by
  rw[qb7,Nat.zero_div,qgv k,List.replicate_succ']
  rfl
theorem qhW: ∀(k n:Nat),n<10^(k+1)->qb7 (k+1) n=List.replicate (k+1-(Lib.decDigits n).length) 48++Lib.decDigits n
 |0,n,h=>by
  have h:n<10:=by simpa using h
  rw[jK h,qb7,qb7,Nat.mod_eq_of_lt h]
  rfl
 |k+1,n,h=>by
  rw[qb7]
  by_cases c:n<10
  ·rw[jK c,Nat.div_eq_of_lt c,qgv,Nat.mod_eq_of_lt c]
   rfl
  rw[Nat.pow_succ]at h
  rw[qhW k (n/10) (by omega),qd3 c,List.append_assoc,List.length_append,List.length_singleton,show k+1+1-((Lib.decDigits (n/10)).length+1)=k+1-(Lib.decDigits (n/10)).length by omega]
theorem qgH (n:Nat):Lib.itoa (n:Int)=Lib.decDigits n:=by rw[jk (by omega),Int.natAbs_natCast]
theorem qk0 {r:Nat} (h:r<1000000000000000000) (c: ¬r=0):dg W (r:Int)=[(r:Int)]:=by
 rw[qg4 (by omega) (by unfold W;omega)]
theorem qlQ {r:Nat} (h:r<1000000000000000000):qfA (r:Int) 10=some (Lib.decDigits r):=by
 unfold qfA
 rw[if_pos ⟨by omega,by omega,rfl⟩,qgH]
theorem ql4:(if((dg W ((0:Nat):Int)).length:Int)>0 then(idx (dg W ((0:Nat):Int)) 0).bind fun x13=>(qfA x13 10).bind fun r14=>some r14 else some [48]:Option Str)=some (Lib.decDigits 0):=by
 rw[show((0:Nat):Int)=0 from rfl,qbT,if_neg (by simp),jK (by decide)]
 rfl
theorem qnb {r:Nat} (h:r<1000000000000000000):(if((dg W (r:Int)).length:Int)>0 then(idx (dg W (r:Int)) 0).bind fun x13=>(qfA x13 10).bind fun r14=>some r14 else some [48]:Option Str)=some (Lib.decDigits r):=by
 by_cases c:r=0
 ·rw[c]
  exact ql4
 rw[qk0 h c,if_pos (show((([(r:Int)]:List Int).length:Nat):Int)>0 from by rw[List.length_singleton];decide),qbj,List.getElem?_cons_zero,ZB,qlQ h]
 rfl
theorem p18:(10:Nat)^18=1000000000000000000:=rfl
theorem qnq {q r:Nat} (h:r<1000000000000000000): ∃t:Str,(if((dg W (q:Int)).length:Int)>0 then(qcS [48] (w64 (18-((Lib.decDigits r).length:Int)))).bind fun r18=>(cat r18 (Lib.decDigits r)).bind fun s19=>some s19 else some (Lib.decDigits r):Option Str)=some t/\0<t.length/\Lib.decDigits (1000000000000000000*q+r)=(if q=0 then[]else Lib.decDigits q)++t:=by
 have hr:r<10^18:=by rw[p18];exact h
 have lD:(Lib.decDigits r).length<=18:=(xI (by decide)).2 hr
 have lD0:=qhc r
 by_cases c:q=0
 ·subst c
  rw[show((0:Nat):Int)=0 from rfl,qbT,if_neg (by simp),if_pos rfl,Nat.mul_zero,Nat.zero_add]
  exact⟨_,rfl,lD0,rfl⟩
 have hne:dg W (q:Int)≠[]:=fun e=>by have:=(qfU W1 (by omega)).1 e;omega
 have hlen:0<(dg W (q:Int)).length:=List.length_pos_iff.2 hne
 have et:qcS [48] (w64 (18-((Lib.decDigits r).length:Int)))=some (List.replicate (18-(Lib.decDigits r).length) 48):=by
  rw[qh (by omega) (by omega)]
  unfold qcS
  rw[if_pos ⟨by omega,by omega,by simp;omega⟩,qjP]
  congr 2
  omega
 have hp:=qhW 17 r hr
 have hl:(qb7 (17+1) r).length=18:=qfl _ _
 have hs:=qfq 18 (1000000000000000000*q+r)
 rw[p18,Nat.mul_add_div (by omega),Nat.div_eq_of_lt h,Nat.add_zero,Nat.mul_add_mod,Nat.mod_eq_of_lt h]at hs
 rw[if_pos (by omega),et,ZB,qbd (by simp;omega),ZB,<-hp,if_neg c]
 exact⟨_,rfl,by omega,hs (by omega)⟩
theorem qnG {N:Nat} (hN:600000<N) (B:Nat) (hB:B<=3900) (K:Nat): ∀(k m:Nat) (l:List Str),m<10^(18*k)->k<K->k+l.length<=100000->Fit (m:Int) B->(∀t∈l,0<t.length)->
 ∃l',zG N K l (dg W (m:Int))=some l'/\(∀t∈l',0<t.length)/\l'.length<=k+l.length/\l'.reverse.flatten=(if m=0 then[]else Lib.decDigits m)++l.reverse.flatten:=by
 induction K with
 |zero=>intro k m l _ h;omega
 |succ K ih=>
  intro k m l hm hK hl fm hp
  rw[zG]
  by_cases h0:m=0
  ·subst h0
   rw[show((0:Nat):Int)=0 from rfl,qbT,if_neg (by simp),if_pos rfl]
   exact⟨l,rfl,hp,by omega,rfl⟩
  obtain⟨j,hj⟩: ∃j,k=j+1:=⟨k-1,by
   rcases Nat.eq_zero_or_pos k with e|e
   ·subst e;simp at hm;omega
   omega⟩
  rw[hj]at hm hK hl
  have hm0:(0:Int)<=(m:Int):=by omega
  have hne:dg W (m:Int)≠[]:=fun e=>by have:=(qfU W1 hm0).1 e;omega
  have hlen:0<(dg W (m:Int)).length:=List.length_pos_iff.2 hne
  have ln:(dg W (m:Int)).length<=3900:=Nat.le_trans fm.len hB
  have cB:Can W [1000000000000000000]:=by
   have:=zA W1 (show(0:Int)<=1000000000000000000 by decide)
   rw[qg4 (by decide) (by decide)]at this
   exact this
  have vB:dv W [1000000000000000000]=1000000000000000000:=by rw[zb,ky,Int.mul_zero,Int.add_zero]
  have ed:=qgy (N:=N) (by omega) (zA W1 hm0) cB (by omega) (by rw[vB];decide)
  rw[vB,jw W1 hm0]at ed
  obtain⟨q,r,hq,hr⟩: ∃q r,m=1000000000000000000*q+r/\r<1000000000000000000:=⟨m/1000000000000000000,m%1000000000000000000,by omega,by omega⟩
  have eq:(m:Int)/1000000000000000000=(q:Int):=by omega
  have er:(m:Int)%1000000000000000000=(r:Int):=by omega
  rw[eq,er]at ed
  obtain⟨t,et,t0,eD⟩:=qnq (q:=q) hr
  rw[<-hq]at eD
  rw[if_pos (by omega),ed,ZB]
  simp only
  rw[qnb hr,ZB,et,ZB,qdv (by simp;omega) (by simp;omega),ZB]
  have hk:q<10^(18*j):=by
   rw[Nat.mul_succ,Nat.pow_add,p18,Nat.mul_comm]at hm
   refine Nat.lt_of_mul_lt_mul_left (a:=1000000000000000000) ?_
   omega
  obtain⟨l',f1,f2,f3,f4⟩:=ih j q (l++[t]) hk (by omega) (by simp;omega) (qbc (by omega) fm) (fun u hu=>by
   rcases List.mem_append.1 hu with hu|hu
   ·exact hp u hu
   rw[List.mem_singleton.1 hu];exact t0)
  refine⟨l',f1,f2,by simp at f3;omega,?_⟩
  rw[f4,if_neg h0,eD,List.reverse_append,List.flatten_append,List.append_assoc]
  simp
def byN (s:Str):List Int:=s.map fun x=>(x.toNat:Int)
theorem qeU (s:Str):(byN s).length=s.length:=by unfold byN;rw[List.length_map]
theorem qlI {l:List Str} (hp: ∀t∈l,0<t.length) (hl:l.length<=100000): ∀(K i:Nat) (o:Option (List Int)),i<=l.length->i<K->(hof o).length+(l.take i).flatten.length<=1000000000->
 ∃o',kC l K o.isSome o ((i:Int)-1)=some (o'.isSome,o')/\hof o'=hof o++byN (l.take i).reverse.flatten
 |0,i,o,_,h,_=>by omega
 |K+1,0,o,hi,h,hb=>by
  rw[kC,if_neg (by omega)]
  exact⟨o,rfl,by simp[byN]⟩
 |K+1,i+1,o,hi,h,hb=>by
  have hil:i<l.length:=by omega
  have ei:((i+1:Nat):Int)-1=(i:Int):=by omega
  have ht:l.take (i+1)=l.take i++[l[i]]:=List.take_succ_eq_append_getElem hil
  have h1:=hp l[i] (List.getElem_mem hil)
  rw[ht,List.flatten_append,List.length_append]at hb
  simp only[List.flatten_cons,List.flatten_nil,List.append_nil]at hb
  have ew:bWr o.isSome o l[i]=some (hof o++byN l[i]):=by
   unfold bWr
   rw[if_pos ⟨rfl,by omega,h1⟩]
   rfl
  rw[kC,ei,if_pos (by omega),qx,List.getElem?_eq_getElem hil,ZB,ew,ZB,qh (by omega) (by omega)]
  obtain⟨o',f1,f2⟩:=qlI hp hl K i (some (hof o++byN l[i])) (by omega) (by omega) (by
   show(hof o++byN l[i]).length+_<=_
   rw[List.length_append,qeU];omega)
  refine⟨o',f1,?_⟩
  rw[f2,ht,List.reverse_append,List.flatten_append]
  show hof o++byN l[i]++_=_
  rw[List.append_assoc]
  unfold byN
  simp
theorem qlp (s:Str):(byN s).map (fun n=>UInt8.ofNat n.toNat)=s:=by
 unfold byN
 rw[List.map_map]
 conv=>rhs;rw[<-List.map_id s]
 refine List.map_congr_left fun x _=>?_
 show UInt8.ofNat ((x.toNat:Int)).toNat=x
 rw[Int.toNat_natCast,UInt8.ofNat_toNat]
theorem qng (s:Str):(byN s).all (fun n=>decide (0<=n)&&decide (n<256))=true:=by
 unfold byN
 rw[List.all_map,List.all_eq_true]
 intro x _
 have:x.toNat<256:=x.toNat_lt
 simp
 omega
theorem qgS: ∀l:List Str,l.reverse.flatten.length=l.flatten.length:=fun l=>by
 rw[List.length_flatten,List.length_flatten,List.map_reverse,List.sum_reverse]
theorem qcR {N:Nat} (hN:600000<N) {x:qj} {z:Int} (h:IsZ x z) (fz:Fit z 3900):jg N x=some (Lib.itoa z):=by
 unfold jg
 cases e:x.w.isEmpty with
 |true=>
  obtain⟨h1,h2,h3⟩:=h.emp e
  rw[if_pos rfl,h1]
  unfold qjV
  rw[if_pos ⟨h2,h3⟩,ZB]
 |false=>
  have hz:z.natAbs≠0:=by
   rcases h with⟨hw,_⟩|⟨_,_,h1,_⟩
   ·rw[hw]at e;cases e
   omega
  obtain⟨B8,hB8⟩: ∃B8:Nat,B8=8000:=⟨_,rfl⟩
  have pw:((10^(18*B8):Nat):Int)=(1000000000000000000:Int)^B8:=by
   rw[Nat.pow_mul,Int.natCast_pow]
   rfl
  have hm:z.natAbs<10^(18*B8):=by
   have h1:W^3900<=(1000000000000000000:Int)^B8:=by
    have a1:(1000000000000000000:Int)^B8=((1000000000000000000:Int)^2)^4000:=by rw[<-Int.pow_mul,hB8]
    have a2:W^4000<=((1000000000000000000:Int)^2)^4000:=(qcp (by decide) (by decide) 4000).2
    have a3:W^3900<=W^4000:=j6 (by decide) (by decide)
    rw[a1]
    exact Int.le_trans a3 a2
   rw[<-pw]at h1
   unfold Fit at fz
   omega
  obtain⟨l,f1,f2,f3,f4⟩:=qnG hN 3900 (Nat.le_refl _) N B8 z.natAbs [] hm (by omega) (by simp;omega) (by unfold Fit;rw[Int.natAbs_natCast];exact fz) (fun t ht=>by cases ht)
  rw[if_neg hz]at f4
  simp only[List.reverse_nil,List.flatten_nil,List.append_nil,List.length_nil,Nat.add_zero]at f3 f4
  have lD:(Lib.decDigits z.natAbs).length<=18*B8:=(xI (by omega)).2 hm
  have lf:l.flatten.length<=18*B8:=by rw[<-qgS,f4];exact lD
  have lpos:=qhc z.natAbs
  rw[if_neg (by simp),parts_eq h,ZB]
  simp only
  rw[f1,ZB]
  have el:w64 ((l.length:Int)-1)=(l.length:Int)-1:=qh (by omega) (by omega)
  have fin: ∀(o:Option (List Int)) (pre:Str),hof o=byN pre->pre.length<=10->((kC l N o.isSome o (w64 ((l.length:Int)-1))).bind fun(ok30,o31)=>(qkA ok30 o31).bind fun t38=>some t38)=some (pre++Lib.decDigits z.natAbs):=by
   intro o pre ho hpre
   obtain⟨o',g1,g2⟩:=qlI f2 (by omega) N l.length o (Nat.le_refl _) (by omega) (by rw[ho,qeU,List.take_of_length_le (Nat.le_refl _)];omega)
   rw[List.take_of_length_le (Nat.le_refl _),f4,ho]at g2
   have g3:hof o'=byN (pre++Lib.decDigits z.natAbs):=by
    rw[g2]
    unfold byN
    rw[List.map_append]
   have hs:o'.isSome=true:=by
    cases o' with
    |none=>
     have:=congrArg List.length g3
     rw[qeU,List.length_append]at this
     simp at this
     omega
    |some q=>rfl
   rw[el,g1,ZB]
   simp only
   unfold qkA
   rw[if_pos ⟨hs,by rw[g3,qeU,List.length_append];omega,by rw[g3];exact qng _⟩,g3,qlp,ZB]
  by_cases c:z<0
  ·have eb:bWr false (none:Option (List Int)) [45]=some [45]:=rfl
   rw[decide_eq_true c,if_pos rfl,eb,ZB,ZB]
   simp only
   have:=fin (some [45]) [45] rfl (by simp)
   rw[yu c]
   exact this
  rw[decide_eq_false c,if_neg (by simp),ZB]
  simp only
  have:=fin none [] rfl (by simp)
  rw[jk c]
  exact this
end Go.Av
end
section
namespace Go.Av
set_option linter.unusedVariables false
set_option linter.unusedSimpArgs false
set_option maxRecDepth 100000
theorem qnf {x:qj} {z:Int} (h:IsZ x z) (fz:Fit z 3900): ∃b:Nat,xK x=some (b:Int)/\(z.natAbs:Int)<2^b:=by
 unfold xK
 rw[parts_eq h,ZB]
 simp only
 have hz:(0:Int)<=(z.natAbs:Int):=by omega
 have cc:=zA W1 hz
 have vv:=jw W1 hz
 have ll:=fz.len
 generalize dg W (z.natAbs:Int)=w at*
 by_cases h0:w.length=0
 ·rw[if_pos (by omega)]
  rw[List.length_eq_zero_iff.1 h0,ky]at vv
  exact⟨0,rfl,by rw[<-vv];decide⟩
 have hk:w.length-1<w.length:=by omega
 have ax:=cc.1.at hk
 obtain⟨l,e,hl⟩:=qib ax.1 ax.2
 have hl0:0<=l/\l<=64:=by
  rcases hl with⟨_,h⟩|⟨h1,h2,_⟩<;>omega
 have hl2:w[w.length-1]<2^l.toNat:=by
  rcases hl with⟨h1,h2⟩|⟨_,_,_,h⟩
  ·rw[h1,h2];decide
  exact h
 rw[if_neg (by omega),qhi (by omega) (by omega),qx,List.getElem?_eq_getElem hk,ZB,e,ZB,qh (n:=64*((w.length-1:Nat):Int)) (by omega) (by omega),qh (by omega) (by omega)]
 refine⟨64*(w.length-1)+l.toNat,by congr 1;omega,?_⟩
 have e1:=qm W w (w.length-1) hk
 rw[List.take_of_length_le (by omega),vv]at e1
 have h1:=vL W0 (cc.1.take (w.length-1))
 rw[List.length_take,Nat.min_eq_left (by omega)]at h1
 have e2:(2:Int)^(64*(w.length-1)+l.toNat)=W^(w.length-1)*2^l.toNat:=by
  rw[Int.pow_add,Int.pow_mul]
  rfl
 have h2:W^(w.length-1)*(w[w.length-1]+1)<=W^(w.length-1)*2^l.toNat:=Int.mul_le_mul_of_nonneg_left (by omega) (Int.le_of_lt (pow_pos W0 _))
 rw[Int.mul_add,Int.mul_one]at h2
 rw[e2]
 omega
theorem pow8: ∀n:Nat,(8:Int)^(n+1)<((10^(n+1):Nat):Int)
 |0=>by decide
 |n+1=>by
  have ih:=pow8 n
  have a1:=pow_pos (show(0:Int)<8 by decide) (n+1)
  rw[Int.pow_succ,Nat.pow_succ,Int.natCast_mul]
  omega
theorem qnZ (n:Nat):(2:Int)^(3*n)=(8:Int)^n:=by
 rw[Int.pow_mul]
 rfl
theorem qmW {n m:Nat} (hm:m=3*(n+1)):(2:Int)^m<((10^(n+1):Nat):Int):=by
 rw[hm,qnZ]
 exact pow8 n
def lng (z:Int):Bool:=decide (600<(Lib.decDigits z.natAbs).length)
theorem qju {N:Nat} (hN:600000<N) {x:qj} {z:Int} (h:IsZ x z) (fz:Fit z 3900):qbl N x=some (lng z):=by
 obtain⟨b,e,hb⟩:=qnf h fz
 unfold qbl
 rw[e,ZB]
 by_cases c:(b:Int)>1800
 ·rw[if_pos c,qcR hN h fz,ZB,qdg,qak,ZB,ZB]
  congr 1
  exact decide_eq_decide.2 (by omega)
 rw[if_neg c,ZB]
 congr 1
 obtain⟨m,hm⟩: ∃m:Nat,m=3*(599+1):=⟨_,rfl⟩
 have h1:(2:Int)^b<=2^m:=j6 (by decide) (by omega)
 have h2:=qmW hm
 have h3:z.natAbs<10^(599+1):=by omega
 have:=(xI (n:=z.natAbs) (k:=599+1) (by decide)).2 h3
 unfold lng
 rw[decide_eq_false (by omega)]
def qhF (q:Rat):Bool:=lng q.num||lng q.den
theorem qma {N:Nat} (hN:600000<N) {f:jQ} {q:Rat} (h:IsF f q) (fq:qgc q 3900):yQ N f=some (qhF q):=by
 unfold yQ qhF
 rw[qju hN h.1 fq.1,ZB]
 cases lng q.num with
 |true=>rw[if_pos rfl,ZB,Bool.true_or]
 |false=>rw[if_neg (by simp),qju hN h.2 fq.2,ZB,ZB,Bool.false_or]
def T (q:Rat):Str:=Lib.itoa q.num++(if q.den=1 then[]else 47::Lib.decDigits q.den)
theorem Fit.itoaLen {z:Int} (h:Fit z 3900):(Lib.itoa z).length<=200001:=by
 have h1:(Lib.decDigits z.natAbs).length<=20*10000:=by
  refine(xI (by decide)).2 ?_
  obtain⟨B,hB⟩: ∃B:Nat,B=10000:=⟨_,rfl⟩
  rw[<-hB]
  have h2:W^3900<=W^B:=j6 (by decide) (by omega)
  have h3:W^B<=(100000000000000000000:Int)^B:=(qcp (by decide) (by decide) B).2
  have h4:((10^(20*B):Nat):Int)=(100000000000000000000:Int)^B:=by
   rw[Nat.pow_mul,Int.natCast_pow]
   rfl
  unfold Fit at h
  generalize W^3900=p at*
  omega
 by_cases c:z<0
 ·rw[yu c,List.length_cons];omega
 rw[jk c];omega
theorem qnl {N:Nat} (hN:600000<N) {f:jQ} {q:Rat} (h:IsF f q) (fq:qgc q 3900):xc N f=some (T q):=by
 unfold xc T
 rw[qjc h,ZB]
 by_cases c:q.den=1
 ·rw[decide_eq_true c,if_pos rfl,qcR hN h.1 fq.1,ZB,if_pos c,List.append_nil]
 have l1:=Fit.itoaLen fq.1
 have l2:=Fit.itoaLen fq.2
 rw[decide_eq_false c,if_neg (by simp),qcR hN h.1 fq.1,ZB,qbd (by simp;omega),ZB,qcR hN h.2 fq.2,ZB,qbd (by simp;omega),ZB,if_neg c,qgH,List.append_assoc]
 rfl
theorem qgk {N:Nat} (hN:600000<N) {f:jQ} {q:Rat} (h:IsF f q) (fq:qgc q 3900):yo N f=some (if qhF q=true then([],4)else(T q,0)):=by
 unfold yo
 rw[qma hN h fq,ZB]
 cases qhF q with
 |true=>rfl
 |false=>rw[if_neg (by simp),qnl hN h fq,ZB,if_neg (by simp)]
theorem qnp {α:Type} {b:Bool} {x y:α}:zf b x y=if b=true then x else y:=by cases b<;>rfl
theorem qil: ∀(s:Str) (j:Nat),qf9 47 s j=if slA s<s.length then((j+slA s:Nat):Int)else-1
 |[],j=>rfl
 |c::s,j=>by
  show zf (Nat.beq c.toNat 47) (Int.ofNat j) (qf9 47 s (j+1))=_
  rw[qnp,qil s (j+1),slA,List.length_cons]
  by_cases h:c=47
  ·subst h
   rw[if_pos (by decide),if_pos rfl,if_pos (by omega)]
   rfl
  have h2:c.toNat≠47:=fun e=>h (UInt8.toNat_inj.1 (by rw[e];rfl))
  rw[if_neg (by rw[qa3 h2];simp),if_neg h]
  by_cases c2:slA s<s.length
  ·rw[if_pos c2,if_pos (by omega)]
   congr 1
   omega
  rw[if_neg c2,if_neg (by omega)]
theorem qmz {s:Str}:stringslite_Index s [47]=some (qf9 47 s 0):=by
 unfold stringslite_Index stringslite_IndexByte qhf
 have h0: ¬(([47]:Str).length:Int)=0:=by simp
 have h1:(([47]:Str).length:Int)=1:=by simp
 rw[if_neg h0]
 simp only[ZB]
 by_cases hs:(([47]:Str)==s)=true
 ·have:s=[47]:=(beq_iff_eq.1 hs).symm
  subst this
  rfl
 rw[if_neg hs,if_pos h1,qbj,show([47]:Str)[0]? =some 47 from rfl,ZB,if_pos (by decide)]
 rfl
theorem ql0 {s:Str} (hl:s.length<=1000000):strings_Cut s [47]=some (if slA s<s.length then(s.take (slA s),s.drop (slA s+1),true)else(s,[],false)):=by
 have h:=qej s
 unfold strings_Cut stringslite_Cut
 rw[qmz,qil,ZB]
 by_cases c:slA s<s.length
 ·rw[if_pos c,if_pos (by omega),if_pos c,Nat.zero_add,yl h,ZB,show w64 ((slA s:Int)+(([47]:Str).length:Int))=((slA s+1:Nat):Int)from zT (by omega),xg (by omega),ZB,ZB]
 rw[if_neg c,if_neg (by omega),if_neg c,ZB]
theorem qdZ {s:Str} (hl:s.length<=1000000):zU s=some (decide (Dec s)):=by
 have hT:qin s [48,49,50,51,52,53,54,55,56,57]=some (Lib.trimS s [48,49,50,51,52,53,54,55,56,57]):=by
  unfold qin
  rw[if_pos ⟨hl,by decide,by decide⟩]
 unfold zU
 rw[hT]
 simp only[ZB,qkg]
 cases s with
 |nil=>rfl
 |cons c t=>
  rw[if_pos (by rfl),qbj]
  simp only[List.getElem?_cons_zero,ZB]
  cases hd:(c::t).all jG with
  |false=>
   rw[if_neg (by simp),ZB,decide_eq_false fun h=>by rw[h.2.1]at hd;cases hd]
  |true=>
   rw[if_pos rfl]
   by_cases h:c=48
   ·subst h
    rw[if_neg (by decide),ZB]
    congr 1
    rw[Bool.eq_iff_iff,beq_iff_eq,decide_eq_true_eq]
    exact⟨fun e=>by rw[e];exact qjF (by decide),fun h=>h.2.2 rfl⟩
   rw[if_pos (by simp[ne48 h]),ZB,decide_eq_true (show Dec (c::t)from⟨by simp,hd,fun e=>absurd (Option.some.inj e) h⟩)]
theorem qfc {s:Str} (hl:s.length<=1000000): ∀(K i:Nat),i<=s.length->s.length<K+i->zJ s K (i:Int)=some (if(s.drop i).all jG=true then .inl ()else .inr false)
 |0,i,h,hK=>by omega
 |K+1,i,h,hK=>by
  rw[zJ]
  by_cases hi:i<s.length
  ·have hd:s.drop i=s[i]::s.drop (i+1):=List.drop_eq_getElem_cons hi
   rw[if_pos (by omega),qx,List.getElem?_eq_getElem hi,ZB,hd,List.all_cons]
   generalize s[i]=c
   have e:(if(c.toNat:Int)<48 then some true else some (decide ((c.toNat:Int)>57)):Option Bool)=some (!jG c):=by
    by_cases h1:(c.toNat:Int)<48
    ·rw[if_pos h1]
     congr 1
     unfold jG
     rw[decide_eq_false (by omega)]
     rfl
    rw[if_neg h1]
    congr 1
    unfold jG
    rw[decide_eq_true (p:=48<=c.toNat) (by omega),Bool.true_and,<-decide_not]
    exact decide_eq_decide.2 (by omega)
   rw[e,ZB]
   cases hc:jG c with
   |true=>rw[if_neg (by simp),zT (by omega),qfc hl K (i+1) (by omega) (by omega),Bool.true_and]
   |false=>rw[if_pos (by simp),Bool.false_and,if_neg (by simp)]
  rw[if_neg (by omega),List.drop_of_length_le (by omega)]
  rfl
theorem qfy {N:Nat} {s:Str} (hl:s.length<=1000000) (hN:s.length<N):zF N s=some (decide (Dec s)):=by
 have e:=qfc hl N 0 (by omega) (by omega)
 have e:zJ s N 0=_:=e
 have ed:xR N s=some (s.all jG):=by
  unfold xR
  rw[e,List.drop_zero]
  cases s.all jG<;>rfl
 unfold zF
 cases s with
 |nil=>rfl
 |cons c t=>
  rw[if_neg (by simp;omega)]
  by_cases h1:((c::t).length:Int)>1
  ·rw[if_pos h1,qbj]
   simp only[List.getElem?_cons_zero,ZB]
   by_cases h:c=48
   ·subst h
    rw[if_pos (by decide),decide_eq_false fun hD=>?_]
    have:=congrArg List.length (hD.2.2 rfl)
    rw[List.length_singleton]at this
    omega
   rw[if_neg (by simp[ne48 h]),ed,ZB]
   congr 1
   rw[Bool.eq_iff_iff,decide_eq_true_eq]
   exact⟨fun hd=>⟨by simp,hd,fun e=>absurd (Option.some.inj e) h⟩,fun hD=>hD.2.1⟩
  rw[if_neg h1,ZB,if_neg (by simp),ed,ZB]
  have ht:t=[]:=List.length_eq_zero_iff.1 (by simp at h1;omega)
  subst ht
  congr 1
  rw[Bool.eq_iff_iff,decide_eq_true_eq]
  exact⟨fun hd=>qjF (by simpa using hd),fun hD=>hD.2.1⟩
end Go.Av
end
section
namespace Go.Av
set_option linter.unusedVariables false
set_option linter.unusedSimpArgs false
set_option maxRecDepth 100000
theorem qiL {z:Int} {p n:Nat} (h:(z.natAbs:Int)<((10^p:Nat):Int)) (hp:p<=9*n):jH z n:=by
 have h1:(10:Nat)^p<=10^(9*n):=Nat.pow_le_pow_right (by omega) hp
 unfold jH
 rw[qfj]
 omega
theorem qjA {N:Nat} (hN:10<N) (a b:Int):vg N [a,b]=some (if a=0 then b else a):=by
 obtain⟨K,rfl⟩: ∃K,N=K+1+1+1:=⟨N-3,by omega⟩
 unfold vg
 by_cases ha:a=0
 ·by_cases hb:b=0
  ·subst ha;subst hb
   rfl
  have h1:za [a,b] (K+1+1+1) 0=some (.inr b):=by
   rw[za,if_pos (by simp),qbj]
   simp only[List.getElem?_cons_zero,ZB]
   rw[if_neg (by simp[ha]),za,show w64 ((0:Int)+1)=1 from rfl,if_pos (by simp),idx_1]
   simp only[List.getElem?_cons_succ,List.getElem?_cons_zero,ZB]
   rw[if_pos (by simp[hb])]
  rw[h1,if_pos ha]
  rfl
 have h1:za [a,b] (K+1+1+1) 0=some (.inr a):=by
  rw[za,if_pos (by simp),qbj]
  simp only[List.getElem?_cons_zero,ZB]
  rw[if_pos (by simp[ha])]
 rw[h1,if_neg ha]
 rfl
def okF (s:Str):Bool:=decide (Dec ((bdy s).take (slA (bdy s)))/\ ¬(sgn s=true/\(bdy s).take (slA (bdy s))=[48]))
def qgP (s:Str):Bool:=decide (slA (bdy s)<(bdy s).length/\ ¬(Dec ((bdy s).drop (slA (bdy s)+1))/\(bdy s).drop (slA (bdy s)+1)≠[48]/\(bdy s).drop (slA (bdy s)+1)≠[49]))
def chk (s:Str):Int:=
 if okF s=false\/qgP s=true then 1
 else if 600<((bdy s).take (slA (bdy s))).length\/600<((bdy s).drop (slA (bdy s)+1)).length then 4
 else if slA (bdy s)<(bdy s).length/\Nat.gcd (qJ 0 ((bdy s).take (slA (bdy s)))) (qJ 0 ((bdy s).drop (slA (bdy s)+1)))≠1 then 1
 else 0
theorem qag {s:Str} (h:s.all jG=true):sgn s=false/\bdy s=s:=by
 have e:sgn s=false:=decide_eq_false fun e=>by
  have hm:(45:UInt8)∈s:=List.mem_of_getElem? e
  exact absurd (List.all_eq_true.1 h _ hm) (by decide)
 exact⟨e,by unfold bdy;rw[e];rfl⟩
theorem qbs {s:Str} (h:s.all jG=true):qg8 s=(qJ 0 s:Nat):=by
 obtain⟨h1,h2⟩:=qag h
 unfold qg8
 rw[h1,h2]
 rfl
theorem qeP (s:Str):(bdy s).length<=s.length:=by
 unfold bdy
 split
 ·rw[List.length_drop];omega
 exact Nat.le_refl _
theorem qcT {s:Str} {k:Nat} (h:Dec s) (hk:s.length<=k):((qJ 0 s:Nat):Int).natAbs<10^k:=by
 have h1:=qcX s 0 h.2.1
 have h2:(10:Nat)^s.length<=10^k:=Nat.pow_le_pow_right (by omega) hk
 omega
theorem qdP {s:Str} (h:Dec s) (h0:s≠[48]):0<qJ 0 s:=by
 rcases Nat.eq_zero_or_pos (qJ 0 s)with e|e
 ·have:=h.eq
  rw[e,jK (by decide)]at this
  exact absurd this h0
 exact e
theorem qgC {N:Nat} (hN:600000<N) {s:Str} (hl:s.length<=10000):xE N s=some (chk s):=by
 have hb:=qeP s
 have hk:=qej (bdy s)
 have lt:((bdy s).take (slA (bdy s))).length=slA (bdy s):=by rw[List.length_take];omega
 have ld:((bdy s).drop (slA (bdy s)+1)).length=(bdy s).length-(slA (bdy s)+1):=by rw[List.length_drop]
 unfold xE
 rw[qhn,ZB]
 simp only
 have C:strings_Cut (bdy s) [47]=some ((bdy s).take (slA (bdy s)),(bdy s).drop (slA (bdy s)+1),decide (slA (bdy s)<(bdy s).length)):=by
  rw[ql0 (by omega)]
  by_cases c:slA (bdy s)<(bdy s).length
  ·rw[if_pos c,decide_eq_true c]
  rw[if_neg c,decide_eq_false c,List.take_of_length_le (by omega),List.drop_of_length_le (by omega)]
 rw[C,ZB]
 unfold chk okF qgP
 generalize hn:(bdy s).take (slA (bdy s))=n at*
 generalize hd:(bdy s).drop (slA (bdy s)+1)=d at*
 generalize slA (bdy s)=k at*
 generalize (bdy s).length=m at*
 simp only
 rw[qdZ (by omega),ZB]
 have B6:(if decide (Dec n)=true then if(!sgn s)=true then some true else some (!(n==[48]))else some false:Option Bool)=some (decide (Dec n/\ ¬(sgn s=true/\n=[48]))):=by
  by_cases h1:Dec n
  ·cases h2:sgn s with
   |false=>simp[h1]
   |true=>
    by_cases h3:n=[48]<;>simp[h1,h3]
  simp[h1]
 rw[B6,ZB]
 generalize hf:decide (Dec n/\ ¬(sgn s=true/\n=[48]))=ok at*
 have B8:(if decide (k<m)=true then(if ok=true then(zU d).bind fun r12=>if r12=true then if(!(d==[48]))=true then some (!(d==[49]))else some false else some false else some false:Option Bool).bind fun b15=>some b15 else some ok:Option Bool)=some (ok&&!decide (k<m/\ ¬(Dec d/\d≠[48]/\d≠[49]))):=by
  by_cases h1:k<m
  ·cases ok with
   |false=>simp[h1]
   |true=>
    rw[qdZ (by omega)]
    by_cases h2:Dec d
    ·by_cases h3:d=[48]
     ·simp[h1,h2,h3]
     by_cases h4:d=[49]<;>simp[h1,h2,h3,h4]
    simp[h1,h2]
  simp[h1]
 rw[B8,ZB]
 generalize hg:decide (k<m/\ ¬(Dec d/\d≠[48]/\d≠[49]))=bd at*
 have B:((kV (!(ok&&!bd)) 1).bind fun r17=>if(n.length:Int)>600 then(kV true 4).bind fun r19=>(vg N ([r17,r19]:List Int)).bind fun r20=>some (r17,r19,r20)else(kV (decide ((d.length:Int)>600)) 4).bind fun r21=>(vg N ([r17,r21]:List Int)).bind fun r22=>some (r17,r21,r22):Option (Int×Int×Int))=some (if ok=false\/bd=true then 1 else 0,if 600<n.length\/600<d.length then 4 else 0,if ok=false\/bd=true then 1 else if 600<n.length\/600<d.length then 4 else 0):=by
  have w1:kV (!(ok&&!bd)) 1=some (if ok=false\/bd=true then 1 else 0):=by
   unfold kV
   cases ok<;>cases bd<;>rfl
  rw[w1,ZB]
  by_cases c:(n.length:Int)>600
  ·rw[if_pos c,show kV true 4=some 4 from rfl,ZB,qjA (by omega),ZB,if_pos (show 600<n.length\/600<d.length from .inl (by omega))]
   by_cases c2:ok=false\/bd=true
   ·simp only[if_pos c2];rfl
   simp only[if_neg c2];rfl
  have w2:kV (decide ((d.length:Int)>600)) 4=some (if 600<n.length\/600<d.length then 4 else 0):=by
   unfold kV
   by_cases c2:(d.length:Int)>600
   ·rw[decide_eq_true c2,if_pos rfl,if_pos (.inr (by omega))]
   rw[decide_eq_false c2,if_neg (by simp),if_neg (by omega)]
  rw[if_neg c,w2,ZB,qjA (by omega),ZB]
  by_cases c2:ok=false\/bd=true
  ·simp only[if_pos c2];rfl
  simp only[if_neg c2];rfl
 rw[B,ZB]
 simp only
 by_cases c1:ok=false\/bd=true
 ·simp only[if_pos c1];rfl
 simp only[if_neg c1]
 by_cases c2:600<n.length\/600<d.length
 ·simp only[if_pos c2];rfl
 simp only[if_neg c2]
 rw[if_neg (show¬((!decide True)=true)by decide)]
 have ho:ok=true:=by cases ok<;>simp at c1⊢
 have hbd:bd=false:=by cases bd<;>simp at c1⊢
 have hDn:=(of_decide_eq_true (hf.trans ho)).1
 by_cases c3:k<m
 ·have hDd:Dec d/\d≠[48]/\d≠[49]:=Classical.byContradiction fun hc=>of_decide_eq_false (hg.trans hbd) ⟨c3,hc⟩
  obtain⟨r1,e1,h1⟩:=qeG hN (s:=n) (by rw[(qag hDn.2.1).2];exact hDn.2.1) (by rw[(qag hDn.2.1).2];omega)
  obtain⟨r2,e2,h2⟩:=qeG hN (s:=d) (by rw[(qag hDd.1.2.1).2];exact hDd.1.2.1) (by rw[(qag hDd.1.2.1).2];omega)
  rw[qbs hDn.2.1]at h1
  rw[qbs hDd.1.2.1]at h2
  have f1:Fit ((qJ 0 n:Nat):Int) 40:=qdC (p:=600) (by have:=qcT hDn (k:=600) (by omega);omega) (by omega)
  have f2:Fit ((qJ 0 d:Nat):Int) 40:=qdC (p:=600) (by have:=qcT hDd.1 (k:=600) (by omega);omega) (by omega)
  obtain⟨g,e3,h3⟩:=qmE hN h1 h2 (f1.mono (by omega)) (f2.mono (by omega))
  have eg:Int.gcd ((qJ 0 n:Nat):Int) ((qJ 0 d:Nat):Int)=Nat.gcd (qJ 0 n) (qJ 0 d):=rfl
  rw[eg]at h3
  have hgp:0<Nat.gcd (qJ 0 n) (qJ 0 d):=Nat.gcd_pos_of_pos_right _ (qdP hDd.1 hDd.2.1)
  have fg:Fit ((Nat.gcd (qJ 0 n) (qJ 0 d):Nat):Int) 40:=qbc (by
   have:=Nat.le_of_dvd (qdP hDd.1 hDd.2.1) (Nat.gcd_dvd_right (qJ 0 n) (qJ 0 d))
   omega) f2
  have e4:=qn7 (N:=N) (by omega) h3 (IsZ.small (z:=1) (by decide) (by decide)) (fg.mono (by omega)) (F1 (by omega))
  rw[decide_eq_true c3,if_pos rfl,e1,ZB,e2,ZB,e3,ZB,qex,ZB,e4,ZB,ZB]
  unfold kV
  by_cases c4:Nat.gcd (qJ 0 n) (qJ 0 d)=1
  ·rw[if_neg (show¬((Nat.gcd (qJ 0 n) (qJ 0 d):Nat):Int)<1 by omega),if_pos (show((Nat.gcd (qJ 0 n) (qJ 0 d):Nat):Int)=1 by omega),if_neg (show¬(k<m/\Nat.gcd (qJ 0 n) (qJ 0 d)≠1)from fun h=>h.2 c4)]
   rfl
  have: ¬((Nat.gcd (qJ 0 n) (qJ 0 d):Nat):Int)<1:=by omega
  rw[if_neg this,if_neg (show¬(((Nat.gcd (qJ 0 n) (qJ 0 d):Nat):Int)=1)by omega),if_pos (show k<m/\Nat.gcd (qJ 0 n) (qJ 0 d)≠1 from⟨c3,c4⟩)]
  rfl
 rw[decide_eq_false c3,if_neg (by simp),ZB,if_neg (by omega)]
 rfl
end Go.Av
end
section
namespace Go.Av
set_option linter.unusedVariables false
set_option linter.unusedSimpArgs false
set_option maxRecDepth 100000
theorem qk8:dg E9 1=[1]:=qg4 (by decide) (by decide)
theorem qnJ {N:Nat} (hN:100<N):yH N 1=some (rI 1):=by
 obtain⟨K,rfl⟩: ∃K,N=K+1+1:=⟨N-2,by omega⟩
 have h:jf (K+1+1) [] 1=some [1]:=by
  rw[jf,if_pos (by decide),if_neg (by decide),ZB,qdv (by simp) (by simp),ZB,show w64 ((1:Int).tdiv 1000000000)=0 from rfl,jf,if_neg (by decide)]
  rfl
 unfold yH
 rw[h,ZB,decide_eq_false (by decide),qbk false (w:=[1]) (Dg.cons ⟨by decide,by decide⟩ Dg.nil) (by simp) (by simp),ZB]
 rfl
theorem qgK {N:Nat} (hN:600000<N) {s:Str} (hl:s.length<=10000) (hk:slA s<s.length) (h1:(bdy (s.take (slA s))).all jG=true) (h2:(bdy (s.drop (slA s+1))).all jG=true):vR N s=some (rI (qg8 (s.take (slA s))),rI (qg8 (s.drop (slA s+1)))):=by
 have b1:=qeP (s.take (slA s))
 have b2:=qeP (s.drop (slA s+1))
 rw[List.length_take]at b1
 rw[List.length_drop]at b2
 unfold vR
 rw[qcH (by omega) (by omega),ZB,if_neg (by omega),yl (by omega),ZB,qfM (by omega) h1 (by omega),ZB,zT (by omega),xg (by omega),ZB,qfM (by omega) h2 (by omega),ZB]
theorem qgG {N:Nat} (hN:600000<N) {s:Str} (hl:s.length<=10000):qap N s=some (chk s):=by
 have hb:=qeP s
 have hk:=qej (bdy s)
 have lt:((bdy s).take (slA (bdy s))).length=slA (bdy s):=by rw[List.length_take];omega
 have ld:((bdy s).drop (slA (bdy s)+1)).length=(bdy s).length-(slA (bdy s)+1):=by rw[List.length_drop]
 unfold qap
 rw[qeJ,ZB,qlw,ZB,qcH (by omega) (by omega),ZB,yl hk,ZB,qfy (by omega) (by omega),ZB]
 have I:Dec ((bdy s).take (slA (bdy s)))->((idx s 0).bind fun c13=>if(c13.toNat:Int)=45 then(some ((bdy s).take (slA (bdy s)))).bind fun s15=>some (s15==[48])else some false:Option Bool)=some (sgn s&&((bdy s).take (slA (bdy s))==[48])):=by
  intro hD
  have h1:=hD.1
  have hs:=qeJ s
  rw[if_pos (by omega)]at hs
  rw[qbj]at hs⊢
  cases e:s[0]? with
  |none=>rw[e]at hs;cases hs
  |some c=>
   rw[e,ZB]at hs
   rw[ZB,<-Option.some.inj hs]
   by_cases c2:(c.toNat:Int)=45
   ·rw[if_pos c2,decide_eq_true c2,ZB,Bool.true_and]
   rw[if_neg c2,decide_eq_false c2,Bool.false_and]
 have S16:(if(!decide (Dec ((bdy s).take (slA (bdy s)))))=true then some true else(idx s 0).bind fun c13=>if(c13.toNat:Int)=45 then(some ((bdy s).take (slA (bdy s)))).bind fun s15=>some (s15==[48])else some false:Option Bool)=some (!okF s):=by
  unfold okF
  by_cases hD:Dec ((bdy s).take (slA (bdy s)))
  ·rw[if_neg (by simp[hD]),I hD]
   congr 1
   rw[Bool.eq_iff_iff]
   simp[hD]
  rw[if_pos (by simp[hD])]
  simp[hD]
 rw[S16,ZB]
 have S26:(if(slA (bdy s):Int)<((bdy s).length:Int)then(cut (bdy s) (w64 ((slA (bdy s):Int)+1)) ((bdy s).length:Int)).bind fun s20=>(zF N s20).bind fun r21=>if(!r21)=true then some true else(cut (bdy s) (w64 ((slA (bdy s):Int)+1)) ((bdy s).length:Int)).bind fun s23=>if(s23==[48])=true then some true else(cut (bdy s) (w64 ((slA (bdy s):Int)+1)) ((bdy s).length:Int)).bind fun s25=>some (s25==[49])else some false:Option Bool)=some (qgP s):=by
  unfold qgP
  by_cases c:slA (bdy s)<(bdy s).length
  ·rw[if_pos (by omega),zT (by omega),xg (by omega),ZB,qfy (by omega) (by omega),ZB]
   by_cases hD:Dec ((bdy s).drop (slA (bdy s)+1))
   ·rw[if_neg (by simp[hD]),ZB]
    by_cases h3:(bdy s).drop (slA (bdy s)+1)=[48]
    ·rw[if_pos (by simp[h3])]
     simp[c,h3]
    rw[if_neg (by simp[h3]),ZB]
    congr 1
    rw[Bool.eq_iff_iff]
    simp[c,h3,hD]
   rw[if_pos (by simp[hD])]
   simp[c,hD]
  rw[if_neg (by omega)]
  simp[c]
 have S30:(if(slA (bdy s):Int)>600 then some true else some (decide ((w64 ((w64 (((bdy s).length:Int)-(slA (bdy s):Int)))-1))>600)):Option Bool)=some (decide (600<((bdy s).take (slA (bdy s))).length\/600<((bdy s).drop (slA (bdy s)+1)).length)):=by
  rw[lt,ld]
  by_cases c:(slA (bdy s):Int)>600
  ·rw[if_pos c,decide_eq_true (.inl (by omega))]
  rw[if_neg c,qh (n:=((bdy s).length:Int)-(slA (bdy s):Int)) (by omega) (by omega),qh (by omega) (by omega)]
  congr 1
  exact decide_eq_decide.2 (by omega)
 unfold chk
 by_cases h1:okF s=true
 ·rw[h1,if_neg (by simp),S26,ZB]
  by_cases h2:qgP s=true
  ·rw[h2,if_pos rfl,if_pos (.inr rfl)]
  have h2':qgP s=false:=by simpa using h2
  rw[h2',if_neg (by simp),S30,ZB,if_neg (show¬(true=false\/false=true)by simp)]
  by_cases h3:600<((bdy s).take (slA (bdy s))).length\/600<((bdy s).drop (slA (bdy s)+1)).length
  ·rw[decide_eq_true h3,if_pos rfl,if_pos h3]
  rw[decide_eq_false h3,if_neg (by simp),if_neg h3]
  by_cases c:slA (bdy s)<(bdy s).length
  ·have hDn:=(of_decide_eq_true h1).1
   have hDd:Dec ((bdy s).drop (slA (bdy s)+1))/\(bdy s).drop (slA (bdy s)+1)≠[48]/\(bdy s).drop (slA (bdy s)+1)≠[49]:=Classical.byContradiction fun hc=>of_decide_eq_false h2' ⟨c,hc⟩
   have ep:=qgK hN (s:=bdy s) (by omega) c (by rw[(qag hDn.2.1).2];exact hDn.2.1) (by rw[(qag hDd.1.2.1).2];exact hDd.1.2.1)
   rw[qbs hDn.2.1,qbs hDd.1.2.1]at ep
   rw[if_pos (by omega),ep,ZB]
   simp only
   have v1:=qcT hDn (k:=600) (by omega)
   have v2:=qcT hDd.1 (k:=600) (by omega)
   have v3:=qdP hDd.1 hDd.2.1
   generalize qJ 0 ((bdy s).take (slA (bdy s)))=n at*
   generalize qJ 0 ((bdy s).drop (slA (bdy s)+1))=d at*
   have f1:jH ((n:Nat):Int) 8000:=(qiL (p:=600) (n:=70) (by omega) (by omega)).mono (by omega)
   have f2:jH ((d:Nat):Int) 8000:=(qiL (p:=600) (n:=70) (by omega) (by omega)).mono (by omega)
   have e1:(rI ((n:Nat):Int)).w=dg E9 ((n:Nat):Int):=by
    show dg E9 (((n:Nat):Int).natAbs:Int)=_
    rw[Int.natAbs_natCast]
   have e2:(rI ((d:Nat):Int)).w=dg E9 ((d:Nat):Int):=by
    show dg E9 (((d:Nat):Int).natAbs:Int)=_
    rw[Int.natAbs_natCast]
   have ec:=qkm (N:=N) hN (a:=((n:Nat):Int)) (b:=((d:Nat):Int)) (by omega) (by omega) f1 f2
   have eg:Int.gcd ((n:Nat):Int) ((d:Nat):Int)=Nat.gcd n d:=rfl
   rw[eg]at ec
   rw[e1,e2,ec,ZB]
   have hg:0<Nat.gcd n d:=Nat.gcd_pos_of_pos_right _ v3
   have cc:=zA E1 (show(0:Int)<=((Nat.gcd n d:Nat):Int)by omega)
   have vv:=jw E1 (show(0:Int)<=((Nat.gcd n d:Nat):Int)by omega)
   by_cases h4:Nat.gcd n d=1
   ·have:dg E9 ((Nat.gcd n d:Nat):Int)=[1]:=by rw[show((Nat.gcd n d:Nat):Int)=1 by omega];exact qk8
    rw[this,if_neg (by simp),qbj,if_neg (fun h=>h.2 h4)]
    rfl
   rw[if_pos (show slA (bdy s)<(bdy s).length/\Nat.gcd n d≠1 from⟨c,h4⟩)]
   by_cases h5:(dg E9 ((Nat.gcd n d:Nat):Int)).length=1
   ·obtain⟨x,hx⟩:=List.length_eq_one_iff.1 h5
    rw[hx,zb,ky,Int.mul_zero,Int.add_zero]at vv
    have hx1:x≠1:=by omega
    rw[hx,if_neg (by simp),qbj]
    simp only[List.getElem?_cons_zero,ZB,decide_eq_false hx1]
    rfl
   rw[if_pos (by simp;omega)]
   rfl
  rw[if_neg (by omega),if_neg (by omega)]
  rfl
 have h1':okF s=false:=by simpa using h1
 rw[h1',if_pos (by simp),if_pos (.inl rfl)]
end Go.Av
end
section
namespace Go.Av
set_option linter.unusedVariables false
set_option linter.unusedSimpArgs false
set_option maxRecDepth 100000
def tl (q:Rat):Str:=if q.den=1 then[]else 47::Lib.decDigits q.den
theorem no47 {s:Str} (h:s.all jG=true): ∀c∈s,c≠47:=fun c hc e=>by
 have:=List.all_eq_true.1 h c hc
 rw[e]at this
 exact absurd this (by decide)
theorem qhK: ∀{s:Str},(∀c∈s,c≠47)->slA s=s.length:=fun {s} h=>(qhe s [] h).2
theorem qon {s:Str} (h: ∀c∈s,c≠47) (q:Rat):slA (s++tl q)=s.length:=by
 unfold tl
 by_cases c:q.den=1
 ·rw[if_pos c,List.append_nil]
  exact qhK h
 rw[if_neg c]
 exact(qhe s _ h).1
theorem qgt (z:Int): ∀c∈Lib.itoa z,c≠47:=by
 by_cases h:z<0
 ·rw[yu h]
  intro c hc
  rcases List.mem_cons.1 hc with e|e
  ·rw[e];decide
  exact no47 (qbY _) c e
 rw[jk h]
 exact no47 (qbY _)
theorem qmx (z:Int):0<(Lib.itoa z).length:=by
 by_cases h:z<0
 ·rw[yu h];simp
 rw[jk h];exact qhc _
theorem qj9: ∀{s:Str},slA s<s.length->s=s.take (slA s)++47::s.drop (slA s+1)
 |[],h=>by simp at h
 |c::s,h=>by
  rw[slA]at h⊢
  by_cases e:c=47
  ·rw[if_pos e,e]
   rfl
  rw[if_neg e,List.length_cons]at h
  rw[if_neg e,List.take_succ_cons,List.drop_succ_cons,List.cons_append,<-qj9 (show slA s<s.length by omega)]
theorem qmZ (s:Str):s=if sgn s=true then 45::bdy s else bdy s:=by
 unfold bdy
 cases h:sgn s with
 |false=>rw[if_neg (by simp),if_neg (by simp)]
 |true=>
  rw[if_pos rfl,if_pos rfl]
  cases s with
  |nil=>cases h
  |cons c t=>
   have e:=of_decide_eq_true h
   simp only[List.getElem?_cons_zero]at e
   rw[Option.some.inj e]
   rfl
theorem qlP {s:Str} (h:chk s=0): ∃q:Rat,s=T q/\(Lib.decDigits q.num.natAbs).length<=600/\(Lib.decDigits q.den).length<=600:=by
 have hk:=qej (bdy s)
 have lt:((bdy s).take (slA (bdy s))).length=slA (bdy s):=by rw[List.length_take];omega
 have hs:=qmZ s
 have hsp:=@qj9 (bdy s)
 unfold chk at h
 by_cases h1:okF s=false\/qgP s=true
 ·rw[if_pos h1]at h;cases h
 rw[if_neg h1]at h
 by_cases h2:600<((bdy s).take (slA (bdy s))).length\/600<((bdy s).drop (slA (bdy s)+1)).length
 ·rw[if_pos h2]at h;cases h
 rw[if_neg h2]at h
 by_cases h3:slA (bdy s)<(bdy s).length/\Nat.gcd (qJ 0 ((bdy s).take (slA (bdy s)))) (qJ 0 ((bdy s).drop (slA (bdy s)+1)))≠1
 ·rw[if_pos h3]at h;cases h
 have ho:okF s=true:=by cases e:okF s with|true=>rfl|false=>exact absurd (.inl e) h1
 have hb:qgP s=false:=by cases e:qgP s with|false=>rfl|true=>exact absurd (.inr e) h1
 obtain⟨hDn,hng⟩:=of_decide_eq_true ho
 have en:=hDn.eq
 obtain⟨z,hz1,hz2⟩: ∃z:Int,z.natAbs=qJ 0 ((bdy s).take (slA (bdy s)))/\(z<0↔sgn s=true):=by
  cases e:sgn s with
  |false=>exact⟨((qJ 0 ((bdy s).take (slA (bdy s))):Nat):Int),by omega,by simp⟩
  |true=>
   have:=qdP hDn fun c=>hng ⟨e,c⟩
   exact⟨-((qJ 0 ((bdy s).take (slA (bdy s))):Nat):Int),by omega,by simp;omega⟩
 have hT: ∀t:Str,bdy s=(bdy s).take (slA (bdy s))++t->s=Lib.itoa z++t:=by
  intro t ht
  rw[hs]
  by_cases c:z<0
  ·rw[if_pos (hz2.1 c),yu c,hz1,<-en,List.cons_append,<-ht]
  rw[if_neg fun e=>c (hz2.2 e),jk c,hz1,<-en,<-ht]
 by_cases c:slA (bdy s)<(bdy s).length
 ·have hDd:Dec ((bdy s).drop (slA (bdy s)+1))/\(bdy s).drop (slA (bdy s)+1)≠[48]/\(bdy s).drop (slA (bdy s)+1)≠[49]:=Classical.byContradiction fun hc=>of_decide_eq_false hb ⟨c,hc⟩
  have ed:=hDd.1.eq
  have hd0:=qdP hDd.1 hDd.2.1
  have hd1:qJ 0 ((bdy s).drop (slA (bdy s)+1))≠1:=fun e=>by
   rw[e,jK (by decide)]at ed
   exact hDd.2.2 ed
  have hg:Nat.gcd z.natAbs (qJ 0 ((bdy s).drop (slA (bdy s)+1)))=1:=by
   rw[hz1]
   exact Classical.byContradiction fun e=>h3 ⟨c,e⟩
  refine⟨⟨z,qJ 0 ((bdy s).drop (slA (bdy s)+1)),by omega,hg⟩,?_,?_,?_⟩
  ·have:=hT _ (hsp c)
   unfold T
   rw[if_neg hd1]
   show s=Lib.itoa z++47::Lib.decDigits (qJ 0 ((bdy s).drop (slA (bdy s)+1)))
   rw[<-ed]
   exact this
  ·show(Lib.decDigits z.natAbs).length<=600
   rw[hz1,<-en]
   omega
  show(Lib.decDigits (qJ 0 ((bdy s).drop (slA (bdy s)+1)))).length<=600
  rw[<-ed]
  omega
 refine⟨(z:Rat),?_,?_,?_⟩
 ·have:=hT [] (by rw[List.append_nil,List.take_of_length_le (by omega)])
  unfold T
  rw[Rat.den_intCast,if_pos rfl,Rat.num_intCast]
  exact this
 ·rw[Rat.num_intCast,hz1,<-en]
  omega
 rw[Rat.den_intCast,jK (by decide)]
 simp
end Go.Av
end
section
namespace Go.Av
set_option linter.unusedVariables false
set_option linter.unusedSimpArgs false
set_option maxRecDepth 100000
def Sml (q:Rat) (k:Nat):Prop:=(Lib.decDigits q.num.natAbs).length<=k/\(Lib.decDigits q.den).length<=k
theorem qhj (z:Int):(Lib.itoa z).length<=(Lib.decDigits z.natAbs).length+1:=by
 by_cases h:z<0
 ·rw[yu h];simp
 rw[jk h];omega
theorem qdI (q:Rat) (h:q.den≠1):slA (T q)<(T q).length/\(T q).take (slA (T q))=Lib.itoa q.num/\(T q).drop (slA (T q)+1)=Lib.decDigits q.den:=by
 have e:slA (T q)=(Lib.itoa q.num).length:=qon (qgt _) q
 have ht:T q=Lib.itoa q.num++47::Lib.decDigits q.den:=by unfold T;rw[if_neg h]
 rw[e,ht]
 refine⟨by rw[List.length_append,List.length_cons];omega,?_,?_⟩
 ·rw[List.take_append_of_le_length (Nat.le_refl _),List.take_of_length_le (Nat.le_refl _)]
 rw[List.drop_append,List.drop_of_length_le (by omega),show(Lib.itoa q.num).length+1-(Lib.itoa q.num).length=1 by omega]
 rfl
theorem qdz (q:Rat) (h:q.den=1):T q=Lib.itoa q.num/\slA (T q)=(T q).length:=by
 have ht:T q=Lib.itoa q.num:=by unfold T;rw[if_pos h,List.append_nil]
 refine⟨ht,?_⟩
 rw[ht]
 exact qhK (qgt _)
theorem qir {q:Rat} {k:Nat} (h:Sml q k):(T q).length<=2*k+2:=by
 have h1:=qhj q.num
 have h2:=h.1
 have h3:=h.2
 unfold T
 rw[List.length_append]
 split
 ·simp;omega
 rw[List.length_cons];omega
theorem qne {N:Nat} (hN:600000<N) {q:Rat} (h:Sml q 9000): ∃f,qcs N (T q)=some f/\IsF f q:=by
 have hl:=qir h
 have h1:=h.1
 have h2:=h.2
 unfold qcs
 rw[ql0 (by omega),ZB]
 obtain⟨r1,e1,i1⟩:=qeG hN (s:=Lib.itoa q.num) (by rw[qak];exact qbY _) (by rw[qak];omega)
 rw[qcO]at i1
 by_cases c:q.den=1
 ·obtain⟨t1,t2⟩:=qdz q c
  rw[if_neg (show¬slA (T q)<(T q).length by omega)]
  obtain⟨f,e2,i2⟩:=qif i1
  rw[if_pos (by rfl),t1,e1,ZB,e2,ZB]
  refine⟨f,rfl,?_⟩
  have:(q.num:Rat)=q:=Rat.ext (by simp) (by simp[c])
  rw[this]at i2
  exact i2
 obtain⟨t1,t2,t3⟩:=qdI q c
 rw[if_pos t1]
 have hd:=qbY q.den
 obtain⟨r2,e2,i2⟩:=qeG hN (s:=Lib.decDigits q.den) (by rw[(qag hd).2];exact hd) (by rw[(qag hd).2];omega)
 rw[qbs hd,qhh]at i2
 rw[if_neg (by simp),t2,t3,e1,ZB,e2,ZB]
 exact⟨⟨r1,r2⟩,rfl,i1,i2⟩
theorem qky {N:Nat} (hN:600000<N) {q:Rat} (h:Sml q 4000):vR N (T q)=some (rI q.num,rI (q.den:Int)):=by
 have hl:=qir h
 have h1:=h.1
 have h2:=h.2
 by_cases c:q.den=1
 ·obtain⟨t1,t2⟩:=qdz q c
  unfold vR
  rw[qcH (by omega) (by omega),ZB,t2,if_pos rfl,t1,qfM (by omega) (by rw[qak];exact qbY _) (by rw[qak];omega),ZB,qnJ (by omega),ZB,qcO,c]
  rfl
 obtain⟨t1,t2,t3⟩:=qdI q c
 have hd:=qbY q.den
 rw[qgK hN (by omega) t1 (by rw[t2,qak];exact qbY _) (by rw[t3,(qag hd).2];exact hd),t2,t3,qcO,qbs hd,qhh]
end Go.Av
end
section
namespace Go.Av
set_option linter.unusedVariables false
set_option linter.unusedSimpArgs false
set_option maxRecDepth 100000
theorem rI_w (z:Int):(rI z).w=dg E9 (z.natAbs:Int):=rfl
theorem jH.abs {z:Int} {n:Nat} (h:jH z n):jH (z.natAbs:Int) n:=by
 unfold jH at h⊢
 rw[Int.natAbs_natCast]
 exact h
theorem jH.le {a b:Int} {n:Nat} (h:(a.natAbs:Int)<=(b.natAbs:Int)) (k:jH b n):jH a n:=Int.lt_of_le_of_lt h k
theorem jH.itoaLen {z:Int} {n:Nat} (h:jH z n) (hn:0<n):(Lib.itoa z).length<=9*n+1:=by
 have h2:z.natAbs<10^(9*n):=by
  have h:(z.natAbs:Int)<E9^n:=h
  rw[qfj]at h
  exact Int.ofNat_lt.1 h
 have h3:=(xI (show 0<9*n by omega)).2 h2
 have h4:=qhj z
 omega
theorem qna {N:Nat} (hN:60000<N) {x y:Int} (hx:0<=x) (hy:0<y) {B:Nat} (hB:B<=8000) (fx:jH x B):zw N (dg E9 x) (dg E9 y)=some (dg E9 (x/y),dg E9 (x%y)):=by
 have l:=fx.len
 rw[show(x.natAbs:Int)=x by omega]at l
 rw[qbD hN (zA E1 hx) (zA E1 (by omega)) (by omega) (by rw[jw E1 (by omega)];exact hy),jw E1 hx,jw E1 (by omega)]
theorem den_pos (q:Rat):0<q.den:=Nat.pos_of_ne_zero q.den_nz
theorem qhP {a b:Int} (hb:b≠0):(b.sign*a).natAbs=a.natAbs:=by rw[Int.natAbs_mul,Int.natAbs_sign_of_ne_zero hb,Nat.one_mul]
theorem qm4 (a b:Int):Int.gcd (a.natAbs:Int) (b.natAbs:Int)=Int.gcd b a:=by
 rw[Int.gcd_comm]
 rfl
theorem qnv {a b:Int} (ha:0<=a) (hb:0<b):qci .i64 a b=some (a%b):=by
 unfold qci
 rw[if_neg (by omega),Int.tmod_eq_emod_of_nonneg ha]
theorem qny {a b:Int} (hb:0<b) (h1: -4000000000000000000<=a) (h2:a<=4000000000000000000) (hd:b∣a):qaO .i64 a b=some (a/b):=by
 have:=vD a hb
 unfold qaO
 rw[if_neg (by omega),Int.tdiv_eq_ediv_of_dvd hd]
 show some (w64 _)=_
 rw[qh (by omega) (by omega)]
theorem qjN: ∀(k K:Nat) (a b:Int),0<=a->0<=b->b<2^k->2*k+2<=K->zZ K a b=some (Int.gcd a b:Int)
 |k,0,a,b,_,_,_,hK=>by omega
 |k,K+1,a,b,ha,hb,hk,hK=>by
  have na:(a.natAbs:Int)=a:=by omega
  have nb:(b.natAbs:Int)=b:=by omega
  rcases(show b=0\/0<b by omega)with h0|h0
  ·rw[h0,zZ,if_neg (by omega),Int.gcd_zero,na]
  match k,hk,hK with
  |0,hk,hK=>simp at hk;omega
  |k+1,hk,hK=>
   have m0:=Int.emod_nonneg a (show b≠0 by omega)
   have m1:=Int.emod_lt_of_pos a h0
   rw[zZ,if_pos (by omega),qnv ha h0,ZB,qbv ha hb]
   match K,hK with
   |0,hK=>omega
   |K+1,hK=>
    rcases(show a%b=0\/0<a%b by omega)with g0|g0
    ·rw[g0,zZ,if_neg (by omega),Int.gcd_zero,nb]
    have n0:=Int.emod_nonneg b (show a%b≠0 by omega)
    have n1:=Int.emod_lt_of_pos b g0
    have hhalf:b%(a%b)<2^k:=by
     have d1:=Int.mul_ediv_add_emod b (a%b)
     have d2:1<=b/(a%b):=by
      rw[Int.le_ediv_iff_mul_le g0]
      omega
     have d3:a%b*1<=a%b*(b/(a%b)):=Int.mul_le_mul_of_nonneg_left d2 (by omega)
     rw[Int.pow_succ]at hk
     omega
    rw[zZ,if_pos (by omega),qnv hb g0,ZB,qbv hb m0]
    exact qjN k K (a%b) (b%(a%b)) m0 n0 hhalf (by omega)
theorem qnk {N:Nat} (hN:200<N) {a b:Int} (ha:0<=a) (hb:0<=b) (h:b<9223372036854775808):qby N a b=some (Int.gcd a b:Int):=by
 unfold qby
 rw[qjN 63 N a b ha hb h (by omega),ZB]
theorem rabs {z:Int} (h1: -9223372036854775807<=z) (h2:z<=9223372036854775807):(if w64 (0-z)>z then w64 (0-z)else z)=(z.natAbs:Int):=by
 rw[qh (by omega) (by omega)]
 split<;>omega
theorem qnB {n:Nat} (h:n<=4000000000000000000):(Lib.decDigits n).length<=19:=(xI (by decide)).2 (by omega)
theorem qnT {N:Nat} (hN:1000<N) {a b:Int} (a1: -4000000000000000000<=a) (a2:a<=4000000000000000000) (b1: -4000000000000000000<=b) (b2:b<=4000000000000000000) (hb:b≠0):qbn N a b=some (T (Rat.divInt a b)):=by
 have hg:0<Int.gcd b a:=Int.gcd_pos_of_ne_zero_left _ hb
 have ea:=qhP (a:=a) hb
 have S:(if b<0 then some (w64 (0-a),w64 (0-b))else some (a,b):Option (Int×Int))=some (b.sign*a,(b.natAbs:Int)):=by
  by_cases h:b<0
  ·rw[if_pos h,qh (by omega) (by omega),qh (by omega) (by omega),Int.sign_eq_neg_one_of_neg h,show(-1:Int)*a=0-a by omega,show(b.natAbs:Int)=0-b by omega]
  rw[if_neg h,Int.sign_eq_one_of_pos (by omega),Int.one_mul,show(b.natAbs:Int)=b by omega]
 have en:(Rat.divInt a b).num=b.sign*a/(Int.gcd b a:Int):=Rat.num_divInt ..
 have ed:(b.natAbs:Int)/(Int.gcd b a:Int)=((Rat.divInt a b).den:Int):=by rw[Rat.den_divInt,if_neg hb,Int.natCast_ediv]
 have hd:=den_pos (Rat.divInt a b)
 have dvd:(Int.gcd b a:Int)∣b.sign*a:=Int.dvd_mul_of_dvd_right (Int.gcd_dvd_right ..)
 have dvb:(Int.gcd b a:Int)∣(b.natAbs:Int):=by
  rw[Int.dvd_natAbs]
  exact Int.gcd_dvd_left ..
 have n1:=vD (b.sign*a) (show(0:Int)<(Int.gcd b a:Int)by omega)
 have n2:=vD (b.natAbs:Int) (show(0:Int)<(Int.gcd b a:Int)by omega)
 rw[<-en,ea]at n1
 rw[ed,Int.natAbs_natCast,Int.natAbs_natCast]at n2
 unfold qbn
 rw[if_neg (show¬a< -4000000000000000000 by omega),if_neg (show¬a>4000000000000000000 by omega),if_neg (show¬b< -4000000000000000000 by omega),decide_eq_false (show¬b>4000000000000000000 by omega),ZB,if_neg (by simp),S,ZB]
 simp only
 rw[rabs (by omega) (by omega),ea,qnk (by omega) (by omega) (by omega) (by omega),ZB,qm4,qny (by omega) (by omega) (by omega) dvd,ZB,qny (by omega) (by omega) (by omega) dvb,ZB,<-en,ed,rabs (by omega) (by omega),qe1 (by omega) (by omega),qe1 (by omega) (by omega)]
 generalize Rat.divInt a b=q at*
 have l1:=qnB (n:=q.num.natAbs) (by omega)
 have l2:=qnB (n:=q.den) (by omega)
 have S2:((if q.num<0 then some [45]else some []:Option Str).bind fun s17=>(some (Lib.decDigits q.num.natAbs)).bind fun r20=>(cat s17 r20).bind fun s21=>(if(q.den:Int)>1 then(cat s21 [47]).bind fun s25=>(some (Lib.decDigits q.den)).bind fun r26=>(cat s25 r26).bind fun s27=>some s27 else some s21:Option Str).bind fun s22=>some s22)=some (T q):=by
  have li:(Lib.itoa q.num).length<=20:=by have:=qhj q.num;omega
  have I:((if q.num<0 then some [45]else some []:Option Str).bind fun s17=>(some (Lib.decDigits q.num.natAbs)).bind fun r20=>(cat s17 r20).bind fun s21=>(if(q.den:Int)>1 then(cat s21 [47]).bind fun s25=>(some (Lib.decDigits q.den)).bind fun r26=>(cat s25 r26).bind fun s27=>some s27 else some s21:Option Str).bind fun s22=>some s22)=((if(q.den:Int)>1 then(cat (Lib.itoa q.num) [47]).bind fun s25=>(some (Lib.decDigits q.den)).bind fun r26=>(cat s25 r26).bind fun s27=>some s27 else some (Lib.itoa q.num):Option Str).bind fun s22=>some s22):=by
   by_cases c:q.num<0
   ·rw[if_pos c,ZB,ZB,qbd (by simp;omega),ZB,yu c]
    rfl
   rw[if_neg c,ZB,ZB,qbd (by simp;omega),ZB,jk c]
   rfl
  rw[I]
  unfold T
  by_cases c:q.den=1
  ·rw[if_neg (by omega),if_pos c,ZB,List.append_nil]
  rw[if_pos (by omega),if_neg c,qbd (by simp;omega),ZB,ZB,qbd (by simp;omega),ZB,ZB,List.append_assoc]
  rfl
 exact S2
end Go.Av
end
section
namespace Go.Av
set_option linter.unusedVariables false
set_option linter.unusedSimpArgs false
set_option maxRecDepth 100000
theorem Sml.mono {q:Rat} {m n:Nat} (h:Sml q m) (hn:m<=n):Sml q n:=⟨Nat.le_trans h.1 hn,Nat.le_trans h.2 hn⟩
theorem qm2 {q:Rat} {k n:Nat} (h:Sml q k) (hk:0<k) (hn:k<=9*n):jH q.num n:=qiL (p:=k) (Int.ofNat_lt.2 ((xI hk).1 h.1)) hn
theorem qkS {q:Rat} {k n:Nat} (h:Sml q k) (hk:0<k) (hn:k<=19*n):qgc q n:=⟨qdC (p:=k) (Int.ofNat_lt.2 ((xI hk).1 h.1)) hn,qdC (p:=k) (by rw[Int.natAbs_natCast];exact Int.ofNat_lt.2 ((xI hk).1 h.2)) hn⟩
theorem qj7 {z:Int} {n:Nat} (h:jH z n) (hn:0<n):(Lib.decDigits z.natAbs).length<=9*n:=by
 refine(xI (by omega)).2 ?_
 have h:(z.natAbs:Int)<E9^n:=h
 rw[qfj]at h
 exact Int.ofNat_lt.1 h
theorem qkR {q:Rat} {n:Nat} (h1:jH q.num n) (h2:jH (q.den:Int) n) (hn:0<n):Sml q (9*n):=by
 have h3:=qj7 h2 hn
 rw[Int.natAbs_natCast]at h3
 exact⟨qj7 h1 hn,h3⟩
theorem qhT {a b:Int} {n:Nat} (hb:b≠0) (fa:jH a n) (fb:jH b n):jH (Rat.divInt a b).num n/\jH ((Rat.divInt a b).den:Int) n:=by
 have hg:0<Int.gcd b a:=Int.gcd_pos_of_ne_zero_left _ hb
 constructor
 ·rw[Rat.num_divInt]
  exact jH.le (Int.le_trans (vD _ (by omega)) (by rw[qhP hb];exact Int.le_refl _)) fa
 rw[Rat.den_divInt,if_neg hb,Int.natCast_ediv]
 exact jH.le (Int.le_trans (vD _ (by omega)) (Int.le_refl _)) fb.abs
theorem qlN (s:Str):qaR s=some (if s=[48]then 0 else if sgn s=true then-1 else 1):=by
 unfold qaR
 by_cases c:s=[48]
 ·rw[if_pos (by simp[c]),if_pos c]
 rw[if_neg (by simp[c]),qeJ,ZB,if_neg c]
 cases sgn s<;>rfl
theorem itoa0:Lib.itoa 0=[48]:=by
 rw[jk (by decide),show(0:Int).natAbs=0 from rfl,jK (by decide)]
 rfl
theorem qkD {z:Int}:Lib.itoa z=[48]↔z=0:=by
 constructor
 ·intro h
  have h2:=qcO z
  rw[h]at h2
  exact h2.symm
 intro h
 rw[h]
 exact itoa0
theorem qmL {N:Nat} (hN:100000<N) {q:Rat} {k:Nat} (h:Sml q k) (hk:k<=9000):qam N (T q)=some (if qhF q=true then 4 else 0):=by
 have hl:=qir h
 have hs:=qcH (N:=N) (s:=T q) (by omega) (by omega)
 have hnum:qbx N (T q)=some (Lib.itoa q.num):=by
  unfold qbx
  rw[hs,ZB]
  by_cases c:q.den=1
  ·obtain⟨t1,t2⟩:=qdz q c
   rw[yl (by omega),ZB,t2,List.take_length,t1]
  obtain⟨t1,t2,t3⟩:=qdI q c
  rw[yl (by omega),ZB,t2]
 have habs:qbr (Lib.itoa q.num)=some (Lib.decDigits q.num.natAbs):=by
  have hs:=qf5 q.num
  have hb:=qak q.num
  unfold qbr
  rw[qlN,ZB,hs]
  unfold bdy at hb
  rw[hs]at hb
  by_cases c:q.num<0
  ·rw[if_neg (show¬Lib.itoa q.num=[48]from fun h=>by have:=qkD.1 h;omega),if_pos (decide_eq_true c),if_pos (by decide),show(1:Int)=((1:Nat):Int)from rfl,xg (qmx _),ZB]
   rw[if_pos (decide_eq_true c)]at hb
   rw[hb]
  rw[decide_eq_false c,if_neg (by split<;>simp),jk c]
 have hden:qbt N (T q)=some (Lib.decDigits q.den):=by
  unfold qbt
  rw[hs,ZB]
  by_cases c:q.den=1
  ·obtain⟨t1,t2⟩:=qdz q c
   rw[if_pos (by omega),c,jK (by decide)]
   rfl
  obtain⟨t1,t2,t3⟩:=qdI q c
  rw[if_neg (by omega),zT (by omega),xg (by omega),ZB,t3]
 unfold qam
 rw[hnum,ZB,habs,ZB,hden]
 unfold qhF lng
 rw[Int.natAbs_natCast]
 by_cases c:600<(Lib.decDigits q.num.natAbs).length
 ·rw[if_pos (by omega),decide_eq_true c,Bool.true_or]
  rfl
 rw[if_neg (by omega),decide_eq_false c,Bool.false_or,ZB]
 by_cases d:600<(Lib.decDigits q.den).length
 ·rw[decide_eq_true (by omega),decide_eq_true d]
  rfl
 rw[decide_eq_false (by omega),decide_eq_false d]
 rfl
end Go.Av
end
section
namespace Go.Av
set_option linter.unusedVariables false
set_option linter.unusedSimpArgs false
set_option maxRecDepth 100000
def res (q:Rat):Str×Int:=if qhF q=true then([],4)else(T q,0)
section ops
variable {N:Nat} (hN:600000<N)
include hN
variable {p q:Rat} (hp:Sml p 600) (hq:Sml q 600) (cp:chk (T p)=0) (cq:chk (T q)=0)
include hp hq cp cq
end ops
theorem qjk {N:Nat} {e:Int} (h:e≠0) (w:Str):jU N [] e e w=some true:=by
 unfold jU
 rw[if_neg h,ZB,if_pos (by simp[h]),if_pos (show(([]:Str)==[])=true from rfl),ZB,decide_eq_true rfl]
theorem qia {N:Nat} (hN:100000<N) {r:Rat} {k:Nat} (h:Sml r k) (hk:k<=9000):jU N (res r).1 (res r).2 0 (T r)=some true:=by
 unfold jU res
 rw[if_pos rfl,qmL hN h hk]
 cases qhF r with
 |true=>rfl
 |false=>
  rw[if_neg (by simp),if_neg (by simp)]
  simp
end Go.Av
end
