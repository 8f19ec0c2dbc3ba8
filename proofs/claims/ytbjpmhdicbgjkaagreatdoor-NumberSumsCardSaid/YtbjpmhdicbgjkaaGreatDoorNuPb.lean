/-
  The reference's digits to the base 10^9: zeros off the end, comparison, sums, differences, products, division by a digit.
-/
import Derived.Test.YtbjpmhdicbgjkaaGreatDoorNuPa
noncomputable section
section
namespace Go.Av
set_option linter.unusedVariables false
set_option linter.unusedSimpArgs false
set_option maxRecDepth 100000
abbrev E9:Int:=1000000000
theorem E1:(1:Int)<E9:=by decide
theorem E0:(0:Int)<E9:=by decide
theorem qjp {w:List Int} (hl:w.length≤100000): ∀(K m:Nat),m≤w.length→m<K→(∀(i:Nat) x,m≤i→w[i]? =some x→x=0)→
 ∃m':Nat,vT K (w.take m)=some (w.take m')∧m'≤w.length∧(∀x,0<m'→w[m'-1]? =some x→x≠0)∧ ∀(i:Nat) x,m'≤i→w[i]? =some x→x=0
 |0,m,h,hK,_=>by omega
 |K+1,m,h,hK,hz=>by
  have el:(w.take m).length=m:=by rw[List.length_take];omega
  rw[vT,el]
  by_cases h0:0<m
  ·have hm:m-1<w.length:=by omega
   have e1:(w.take m)[m-1]? =some w[m-1]:=by rw[List.getElem?_take,if_pos (by omega),List.getElem?_eq_getElem hm]
   rw[if_pos (by omega),qh9 (by omega) h0,qw,e1,Option.bind_some,Option.bind_some]
   by_cases c:w[m-1]=0
   ·rw[decide_eq_true c,if_pos rfl,yl (by omega),Option.bind_some,List.take_take,Nat.min_eq_left (by omega)]
    refine qjp hl K (m-1) (by omega) (by omega) fun i x hi hx=>?_
    rcases Nat.lt_or_ge i m with h1|h1
    ·have e:i=m-1:=by omega
     subst e
     rw[List.getElem?_eq_getElem hm]at hx
     rw[←Option.some.inj hx]
     exact c
    ·exact hz i x h1 hx
   ·rw[decide_eq_false c,if_neg (by simp)]
    refine⟨m,rfl,h,fun x _ hx=>?_,hz⟩
    rw[List.getElem?_eq_getElem hm]at hx
    rw[←Option.some.inj hx]
    exact c
  ·rw[if_neg (by omega),Option.bind_some,if_neg (by simp)]
   exact⟨m,rfl,h,fun x h1=>by omega,hz⟩
theorem qbO {N:Nat} {w:List Int} (hw:Dg E9 w) (hl:w.length≤100000) (hN:w.length<N):vo N w=some (dg E9 (dv E9 w)):=by
 unfold vo
 obtain⟨m,e,h1,h2,h3⟩:=qjp hl N w.length (Nat.le_refl _) hN (fun i x hi hx=>by rw[List.getElem?_eq_none hi]at hx;cases hx)
 rw[List.take_of_length_le (Nat.le_refl _)]at e
 rw[e,Option.bind_some,qks E1 hw h1 h2 h3]
def rI (z:Int):qB:=⟨decide (z<0),dg E9 z.natAbs⟩
theorem xC {N:Nat} (neg:Bool) {w:List Int} (hw:Dg E9 w) (hl:w.length≤100000) (hN:w.length<N):zm N neg w=some (rI (if neg=true then-dv E9 w else dv E9 w)):=by
 have h0:=qA E0 hw
 have hn:=qgF E1 h0
 unfold zm
 rw[qbO hw hl hN,Option.bind_some]
 have hlen:0<(dg E9 (dv E9 w)).length↔0<dv E9 w:=by
  rw[List.length_pos_iff]
  constructor
  ·intro c
   have:dv E9 w≠0:=fun e=>c (hn.2 e)
   omega
  ·intro c e
   have:=hn.1 e
   omega
 cases neg with
 |true=>
  rw[if_pos rfl,if_pos rfl,Option.bind_some]
  unfold rI
  rw[Int.natAbs_neg,show(dv E9 w).natAbs=dv E9 w by omega]
  congr 2
  exact decide_eq_decide.2 (by omega)
 |false=>
  rw[if_neg (by simp),if_neg (by simp),Option.bind_some]
  unfold rI
  rw[show((dv E9 w).natAbs:Int)=dv E9 w by omega,decide_eq_false (by omega)]
theorem qbV {a b:List Int} (ha:Can E9 a) (hb:Can E9 b) (h:a.length<b.length):dv E9 a<dv E9 b:=by
 obtain⟨n,hn⟩: ∃n,b.length=n+1:=⟨b.length-1,by omega⟩
 have h1:=vX E0 ha.1
 have h2:=hb.low E1 hn
 have h3:=vP (show(1:Int)≤E9 by decide) (show a.length≤n by omega)
 omega
theorem qlc {a b:List Int} (ha:Dg E9 a) (hl:a.length=b.length) (hb:Dg E9 b) {k:Nat} (hk:k<a.length) (he:a.drop (k+1)=b.drop (k+1)) (h:a[k]<b[k]'(by omega)):dv E9 a<dv E9 b:=by
 have e1:=yc E9 a (k+1) (by omega)
 have e2:=yc E9 b (k+1) (by omega)
 rw[ql E9 a k hk]at e1
 rw[ql E9 b k (by omega)]at e2
 have l1:=vX E0 (ha.take k)
 have l2:=qA E0 (hb.take k)
 rw[List.length_take,Nat.min_eq_left (by omega)]at l1
 have l3:E9^k*(a[k]+1)≤E9^k*b[k]:=Int.mul_le_mul_of_nonneg_left (by omega) (Int.le_of_lt (pow_pos E0 k))
 rw[Int.mul_add,Int.mul_one]at l3
 rw[he]at e1
 omega
theorem qkV {a b:List Int} (ha:Dg E9 a) (hb:Dg E9 b) (hl:a.length=b.length) (hal:a.length≤100000): ∀(K k:Nat),k≤a.length→k<K→a.drop k=b.drop k→
 qV a b K ((k:Int)-1)=some (if dv E9 a<dv E9 b then .inr (-1)else if dv E9 a=dv E9 b then .inl ()else .inr 1)
 |0,k,h,hK,_=>by omega
 |K+1,0,h,hK,he=>by
  rw[List.drop_zero,List.drop_zero]at he
  rw[qV,if_neg (by omega),he,if_neg (by omega),if_pos rfl]
 |K+1,k+1,h,hK,he=>by
  have hka:k<a.length:=by omega
  have hkb:k<b.length:=by omega
  have ek:((k+1:Nat):Int)-1=(k:Int):=by omega
  rw[ek,qV,if_pos (by omega),qw,List.getElem?_eq_getElem hka,Option.bind_some,qw,List.getElem?_eq_getElem hkb,Option.bind_some]
  by_cases d:a[k]<b[k]
  ·rw[if_pos d,if_pos (qlc ha hl hb hka he d)]
  ·rw[if_neg d]
   by_cases c:a[k]>b[k]
   ·have:=qlc hb hl.symm ha hkb he.symm c
    rw[if_pos c,if_neg (by omega),if_neg (by omega)]
   ·rw[if_neg c,qh (by omega) (by omega)]
    refine qkV ha hb hl hal K k (by omega) (by omega) ?_
    rw[List.drop_eq_getElem_cons hka,List.drop_eq_getElem_cons hkb,show a[k]=b[k]by omega,he]
theorem qcu {N:Nat} {a b:List Int} (ha:Can E9 a) (hb:Can E9 b) (hal:a.length≤10000) (hN:a.length+1<N):zR N a b=some (if dv E9 a<dv E9 b then-1 else if dv E9 a=dv E9 b then 0 else 1):=by
 unfold zR
 by_cases h:a.length=b.length
 ·have e:=qkV ha.1 hb.1 h (by omega) N a.length (Nat.le_refl _) (by omega) (by rw[List.drop_of_length_le (Nat.le_refl _),List.drop_of_length_le (by omega)])
  rw[if_neg (by simp[h]),qh (by omega) (by omega),e,Option.bind_some]
  by_cases c:dv E9 a<dv E9 b
  ·rw[if_pos c,if_pos c]
  ·rw[if_neg c,if_neg c]
   by_cases d:dv E9 a=dv E9 b
   ·rw[if_pos d,if_pos d]
   ·rw[if_neg d,if_neg d]
 ·rw[if_pos (by simp;omega)]
  by_cases c:a.length<b.length
  ·rw[if_pos (by omega),if_pos (qbV ha hb c)]
  ·have:=qbV hb ha (by omega)
   rw[if_neg (by omega),if_neg (by omega),if_neg (by omega)]
theorem qgc {l:List Int} {k:Nat}:dv E9 (l.take (k+1))=dv E9 (l.take k)+E9^k*((l[k]?).getD 0):=by
 by_cases h:k<l.length
 ·rw[ql E9 l k h,List.getElem?_eq_getElem h]
  rfl
 ·rw[List.take_of_length_le (by omega),List.take_of_length_le (by omega),List.getElem?_eq_none (by omega)]
  simp
theorem qh5 {l:List Int} (h:Dg E9 l) (k:Nat):0≤(l[k]?).getD 0∧(l[k]?).getD 0<1000000000:=by
 by_cases hk:k<l.length
 ·rw[List.getElem?_eq_getElem hk]
  exact h.at hk
 ·rw[List.getElem?_eq_none (by omega)]
  exact⟨Int.le_refl _,by decide⟩
theorem digit_eq (l:List Int) (k:Nat):xc l (k:Int)=some ((l[k]?).getD 0):=by
 unfold xc
 by_cases h:k<l.length
 ·rw[if_pos (by omega),qw,List.getElem?_eq_getElem h]
  rfl
 ·rw[if_neg (by omega),List.getElem?_eq_none (by omega)]
  rfl
theorem qdW (l:List Int) (x:Int):dv E9 (l++[x])=dv E9 l+E9^l.length*x:=by rw[yu,zb,kC,Int.mul_zero,Int.add_zero]
theorem qkr {a b:List Int} (ha:Dg E9 a) (hb:Dg E9 b) (hal:a.length≤10000) (hbl:b.length≤10000): ∀(K k:Nat) (l:List Int) (c:Int),10002<K+k→k≤10001→l.length=k→Dg E9 l→0≤c→c≤1→(c=1→k≤a.length∨k≤b.length)→dv E9 l+E9^k*c=dv E9 (a.take k)+dv E9 (b.take k)→
 ∃l',zh a b K l c (k:Int)=some l'∧Dg E9 l'∧l'.length≤10002∧dv E9 l'=dv E9 a+dv E9 b
 |0,k,l,c,hK,hk,_,_,_,_,_,_=>by omega
 |K+1,k,l,c,hK,hk,hl,hd,c0,c1,hc,e=>by
  rw[zh]
  have cond:(if(k:Int)<(a.length:Int)then some true else if(k:Int)<(b.length:Int)then some true else some (decide (c>0)):Option Bool)=some (decide (k<a.length∨k<b.length∨0<c)):=by
   by_cases h1:k<a.length
   ·rw[if_pos (by omega),decide_eq_true (.inl h1)]
   ·rw[if_neg (by omega)]
    by_cases h2:k<b.length
    ·rw[if_pos (by omega),decide_eq_true (.inr (.inl h2))]
    ·rw[if_neg (by omega)]
     congr 1
     exact decide_eq_decide.2 (by omega)
  rw[cond,Option.bind_some]
  by_cases h:k<a.length∨k<b.length∨0<c
  ·have xa:=qh5 ha k
   have xb:=qh5 hb k
   rw[decide_eq_true h,if_pos rfl,digit_eq,Option.bind_some,digit_eq,Option.bind_some]
   generalize hx:(a[k]?).getD 0=x at*
   generalize hy:(b[k]?).getD 0=y at*
   rw[qh (n:=x+y) (by omega) (by omega),qh (n:=x+y+c) (by omega) (by omega),Int.tmod_eq_emod_of_nonneg (by omega),Int.tdiv_eq_ediv_of_nonneg (by omega),qcE (by simp;omega) (by simp;omega),Option.bind_some,qh (by omega) (by omega),zL (by omega)]
   have hs:=Int.mul_ediv_add_emod (x+y+c) 1000000000
   have m0:=Int.emod_nonneg (x+y+c) (show(1000000000:Int)≠0 by decide)
   have m1:=Int.emod_lt_of_pos (x+y+c) (show(0:Int)<1000000000 by decide)
   have hk2:k≤10000:=by
    rcases h with h|h|h
    ·omega
    ·omega
    ·rcases hc (by omega)with h|h<;>omega
   refine qkr ha hb hal hbl K (k+1) _ _ (by omega) (by omega) (by simp[hl]) (hd.append (Dg.cons ⟨m0,m1⟩ Dg.nil)) (by omega) (by omega) (fun hq=>?_) ?_
   ·rcases Nat.lt_or_ge k a.length with g|g
    ·exact .inl g
    ·rcases Nat.lt_or_ge k b.length with g2|g2
     ·exact .inr g2
     ·rw[List.getElem?_eq_none g]at hx
      rw[List.getElem?_eq_none g2]at hy
      simp only[Option.getD_none]at hx hy
      omega
   ·rw[qdW,hl,qgc,qgc,hx,hy,Int.pow_succ,Int.mul_assoc]
    have e2:E9^k*(x+y+c)=E9^k*(E9*((x+y+c)/1000000000))+E9^k*((x+y+c)%1000000000):=by rw[←Int.mul_add];exact congrArg (E9^k* ·) hs.symm
    rw[Int.mul_add,Int.mul_add]at e2
    omega
  ·have hc0:c=0:=by omega
   rw[decide_eq_false h,if_neg (by simp)]
   rw[List.take_of_length_le (by omega),List.take_of_length_le (by omega),hc0,Int.mul_zero,Int.add_zero]at e
   exact⟨l,rfl,hd,by omega,e⟩
theorem qh1 {N:Nat} {a b:List Int} (ha:Dg E9 a) (hb:Dg E9 b) (hal:a.length≤10000) (hbl:b.length≤10000) (hN:11000<N): ∃l,yO N a b=some l∧Dg E9 l∧l.length≤10002∧dv E9 l=dv E9 a+dv E9 b:=by
 unfold yO
 obtain⟨l,e,h1,h2,h3⟩:=qkr ha hb hal hbl N 0 [] 0 (by omega) (by omega) rfl Dg.nil (by omega) (by omega) (by omega) (by simp[dv])
 have e:zh a b N [] 0 0=some l:=e
 rw[e,Option.bind_some]
 exact⟨l,rfl,h1,h2,h3⟩
theorem qkD {a b:List Int} (ha:Dg E9 a) (hb:Dg E9 b) (hal:a.length≤10000) (hba:b.length≤a.length): ∀(K k:Nat) (l:List Int) (c:Int),k≤a.length→a.length<K+k→l.length=k→Dg E9 l→0≤c→c≤1→dv E9 l+dv E9 (b.take k)=dv E9 (a.take k)+E9^k*c→
 ∃l' c',ko a b K l c (k:Int)=some l'∧Dg E9 l'∧l'.length=a.length∧0≤c'∧c'≤1∧dv E9 l'+dv E9 b=dv E9 a+E9^a.length*c'
 |0,k,l,c,h,hK,_,_,_,_,_=>by omega
 |K+1,k,l,c,h,hK,hl,hd,c0,c1,e=>by
  rw[ko]
  by_cases hk:k<a.length
  ·have xa:=ha.at hk
   have xb:=qh5 hb k
   have xa2:a[k]<1000000000:=xa.2
   rw[if_pos (by omega),qw,List.getElem?_eq_getElem hk,Option.bind_some,digit_eq,Option.bind_some]
   generalize hy:(b[k]?).getD 0=y at*
   rw[qh (n:=a[k]-y) (by omega) (by omega),qh (n:=a[k]-y-c) (by omega) (by omega)]
   have step: ∀(s d:Int),(0≤s∧s<1000000000)→(0≤d∧d≤1)→s=a[k]-y-c+1000000000*d→ ∃l' c',ko a b K (l++[s]) d ((k+1:Nat):Int)=some l'∧Dg E9 l'∧l'.length=a.length∧0≤c'∧c'≤1∧dv E9 l'+dv E9 b=dv E9 a+E9^a.length*c':=by
    intro s d hs hd2 es
    refine qkD ha hb hal hba K (k+1) _ _ (by omega) (by omega) (by simp[hl]) (hd.append (Dg.cons hs Dg.nil)) hd2.1 hd2.2 ?_
    rw[qdW,hl,qgc,ql E9 a k hk,hy,Int.pow_succ,Int.mul_assoc,es]
    have e2:E9^k*(a[k]-y-c+1000000000*d)=E9^k*a[k]-E9^k*y-E9^k*c+E9^k*(E9*d):=by rw[Int.mul_add,Int.mul_sub,Int.mul_sub]
    omega
   by_cases c2:a[k]-y-c<0
   ·rw[if_pos c2,qh (by omega) (by omega),Option.bind_some]
    simp only
    rw[qcE (by simp;omega) (by simp;omega),Option.bind_some,zL (by omega)]
    exact step _ 1 (by omega) (by omega) (by omega)
   ·rw[if_neg c2,Option.bind_some]
    simp only
    rw[qcE (by simp;omega) (by simp;omega),Option.bind_some,zL (by omega)]
    exact step _ 0 (by omega) (by omega) (by omega)
  ·rw[if_neg (by omega)]
   have ek:k=a.length:=by omega
   subst ek
   rw[List.take_of_length_le (Nat.le_refl _),List.take_of_length_le hba]at e
   exact⟨l,c,rfl,hd,hl,c0,c1,e⟩
theorem qeV {N:Nat} {a b:List Int} (ha:Can E9 a) (hb:Can E9 b) (hal:a.length≤10000) (hN:a.length+2<N) (h:dv E9 b≤dv E9 a):vE N a b=some (dg E9 (dv E9 a-dv E9 b)):=by
 have hba:b.length≤a.length:=by
  rcases Nat.lt_or_ge a.length b.length with c|c
  ·have:=qbV ha hb c;omega
  ·exact c
 unfold vE
 obtain⟨l,c,e,h1,h2,h4,h5,h6⟩:=qkD ha.1 hb.1 hal hba N 0 [] 0 (by omega) (by omega) rfl Dg.nil (by omega) (by omega) (by simp[dv])
 have e:ko a b N [] 0 0=some l:=e
 have l1:=vX E0 h1
 rw[h2]at l1
 have hp:=pow_pos E0 a.length
 have hc:c=0:=by
  rcases(show c=0∨c=1 by omega)with c|c
  ·exact c
  ·subst c;omega
 rw[e,Option.bind_some,qbO h1 (by omega) (by omega),Option.bind_some]
 subst hc
 rw[show dv E9 l=dv E9 a-dv E9 b by omega]
theorem qn3 {l:List Int} {k:Nat} {v:Int} (hk:k<l.length) (h: ∀(i:Nat) x,k≤i→l[i]? =some x→x=0):dv E9 (l.set k v)=dv E9 l+E9^k*v:=by
 rw[qac E9 l k v hk,h k l[k] (Nat.le_refl _) (List.getElem?_eq_getElem hk),Int.sub_zero]
theorem qg0 {n:Nat}: ∀(m:Nat) z,(List.replicate n (0:Int))[m]? =some z→z=0:=fun m z hz=>by
 rw[List.getElem?_replicate]at hz
 split at hz
 ·exact(Option.some.inj hz).symm
 ·cases hz
theorem qlb {a b:List Int} (ha:Dg E9 a) (hb:Dg E9 b) (hbl:b.length≤10000) {i:Nat} (hi:i<a.length) (hal:a.length≤10000): ∀(K j:Nat) (l:List Int) (c:Int),j≤b.length→b.length<K+j→i+b.length≤l.length→Dg E9 l→0≤c→c<1000000000→
 ∃l' c',zi a b (i:Int) K l c (j:Int)=some (l',c')∧l'.length=l.length∧Dg E9 l'∧(∀m,i+b.length≤m→l'[m]? =l[m]?)∧0≤c'∧c'<1000000000∧dv E9 l'+E9^(i+b.length)*c'+E9^i*(a[i]*dv E9 (b.take j))=dv E9 l+E9^(i+j)*c+E9^i*(a[i]*dv E9 b)
 |0,j,l,c,h,hK,_,_,_,_=>by omega
 |K+1,j,l,c,h,hK,hl,hd,c0,c1=>by
  rw[zi]
  by_cases hj:j<b.length
  ·have xa:=ha.at hi
   have xb:=hb.at hj
   have hil:i+j<l.length:=by omega
   have xl:=hd.at hil
   have a2:a[i]<1000000000:=xa.2
   have b2:b[j]<1000000000:=xb.2
   have l2:l[i+j]<1000000000:=xl.2
   rw[if_pos (by omega),show(i:Int)+(j:Int)=((i+j:Nat):Int)by omega,qh (n:=((i+j:Nat):Int)) (by omega) (by omega),qw,List.getElem?_eq_getElem hil,Option.bind_some,qw,List.getElem?_eq_getElem hi,Option.bind_some,qw,List.getElem?_eq_getElem hj,Option.bind_some]
   have hp0:0≤a[i]*b[j]:=Int.mul_nonneg xa.1 xb.1
   have hp1:a[i]*b[j]≤999999999*999999999:=Int.mul_le_mul (by omega) (by omega) xb.1 (by omega)
   generalize hp:a[i]*b[j]=p at*
   rw[qh (n:=p) (by omega) (by omega),qh (n:=l[i+j]+p) (by omega) (by omega),qh (n:=l[i+j]+p+c) (by omega) (by omega),Int.tmod_eq_emod_of_nonneg (by omega),Int.tdiv_eq_ediv_of_nonneg (by omega),vG hil,Option.bind_some,zL (by omega),qh (by omega) (by omega)]
   have hs:=Int.mul_ediv_add_emod (l[i+j]+p+c) 1000000000
   have m0:=Int.emod_nonneg (l[i+j]+p+c) (show(1000000000:Int)≠0 by decide)
   have m1:=Int.emod_lt_of_pos (l[i+j]+p+c) (show(0:Int)<1000000000 by decide)
   obtain⟨l',c',e1,e2,e3,e4,e5,e6,e7⟩:=qlb ha hb hbl hi hal K (j+1) (l.set (i+j) ((l[i+j]+p+c)%1000000000)) ((l[i+j]+p+c)/1000000000) (by omega) (by omega) (by rw[List.length_set];exact hl) (hd.set ⟨m0,m1⟩) (by omega) (by omega)
   refine⟨l',c',e1,by rw[e2,List.length_set],e3,fun m hm=>by rw[e4 m hm,List.getElem?_set_ne (by omega)],e5,e6,?_⟩
   rw[qac E9 l (i+j) _ hil,ql E9 b j hj,←Nat.add_assoc,Int.pow_succ]at e7
   rw[Int.mul_add a[i],←Int.mul_assoc a[i],Int.mul_comm a[i] (E9^j),Int.mul_assoc (E9^j),hp,Int.mul_add (E9^i),←Int.mul_assoc (E9^i) (E9^j),←Int.pow_add]at e7
   have e8:E9^(i+j)*(l[i+j]+p+c)=E9^(i+j)*(E9*((l[i+j]+p+c)/1000000000))+E9^(i+j)*((l[i+j]+p+c)%1000000000):=by rw[←Int.mul_add];exact congrArg (E9^(i+j)* ·) hs.symm
   rw[Int.mul_assoc (E9^(i+j))]at e7
   rw[Int.mul_add,Int.mul_add]at e8
   rw[Int.mul_sub]at e7
   omega
  ·rw[if_neg (by omega)]
   have ej:j=b.length:=by omega
   subst ej
   rw[List.take_of_length_le (Nat.le_refl _)]
   exact⟨l,c,rfl,rfl,hd,fun _ _=>rfl,c0,c1,rfl⟩
theorem qk4 {N:Nat} {a b:List Int} (ha:Dg E9 a) (hb:Dg E9 b) (hal:a.length≤10000) (hbl:b.length≤10000) (hN:b.length<N): ∀(K i:Nat) (l:List Int),i≤a.length→a.length<K+i→l.length=a.length+b.length→Dg E9 l→(∀(m:Nat) z,i+b.length≤m→l[m]? =some z→z=0)→dv E9 l=dv E9 (a.take i)*dv E9 b→
 ∃l',zg N a b K l (i:Int)=some l'∧l'.length=a.length+b.length∧Dg E9 l'∧dv E9 l'=dv E9 a*dv E9 b
 |0,i,l,h,hK,_,_,_,_=>by omega
 |K+1,i,l,h,hK,hl,hd,hz,e=>by
  rw[zg]
  by_cases hi:i<a.length
  ·obtain⟨l1,c,e1,e2,e3,e4,e5,e6,e7⟩:=qlb ha hb hbl hi hal N 0 l 0 (by omega) (by omega) (by omega) hd (by omega) (by decide)
   have e1:zi a b (i:Int) N l 0 0=some (l1,c):=e1
   have hib:i+b.length<l1.length:=by omega
   have hz1: ∀(m:Nat) z,i+b.length≤m→l1[m]? =some z→z=0:=fun m z hm hx=>hz m z hm (by rw[←e4 m hm];exact hx)
   have h0:l1[i+b.length]=0:=hz1 _ _ (Nat.le_refl _) (List.getElem?_eq_getElem hib)
   rw[if_pos (by omega),e1,Option.bind_some]
   simp only
   rw[show(i:Int)+(b.length:Int)=((i+b.length:Nat):Int)by omega,qh (by omega) (by omega),qw,List.getElem?_eq_getElem hib,Option.bind_some,vG hib,Option.bind_some,h0,Int.zero_add,qh (n:=c) (by omega) (by omega),zL (by omega)]
   refine qk4 ha hb hal hbl hN K (i+1) _ (by omega) (by omega) (by rw[List.length_set,e2,hl]) (e3.set ⟨e5,e6⟩) (fun m z hm hx=>qeA hz1 m z (by omega) hx) ?_
   rw[qn3 hib hz1,ql E9 a i hi,Int.add_mul,←e,Int.mul_assoc]
   rw[List.take_zero,kC,Int.mul_zero,Int.mul_zero]at e7
   omega
  ·rw[if_neg (by omega)]
   have ei:i=a.length:=by omega
   subst ei
   rw[List.take_of_length_le (Nat.le_refl _)]at e
   exact⟨l,rfl,hl,hd,e⟩
theorem qcS {N:Nat} {a b:List Int} (ha:Dg E9 a) (hb:Dg E9 b) (hal:a.length≤10000) (hbl:b.length≤10000) (hN:a.length+b.length<N):jN N a b=some (dg E9 (dv E9 a*dv E9 b)):=by
 unfold jN
 rw[show(a.length:Int)+(b.length:Int)=((a.length+b.length:Nat):Int)by omega,qh (by omega) (by omega),qan (by omega),Option.bind_some]
 obtain⟨l,e,h1,h2,h3⟩:=qk4 ha hb hal hbl (N:=N) (by omega) N 0 (List.replicate (a.length+b.length) 0) (by omega) (by omega) (by simp) (Dg.zeros E0 _) (fun m z _ h=>qg0 m z h) (by rw[yM];simp[dv])
 have e:zg N a b N (List.replicate (a.length+b.length) 0) 0=some l:=e
 rw[e,Option.bind_some,qbO h2 (by omega) (by omega),Option.bind_some,h3]
theorem qgk (l:List Int) {i:Nat} (h:i<l.length):dv E9 (l.drop i)=l[i]+E9*dv E9 (l.drop (i+1)):=by
 rw[List.drop_eq_getElem_cons h,zb]
theorem qiO {l:List Int} {k:Nat} {v:Int} (hk:k<l.length) (h: ∀(i:Nat) x,i≤k→l[i]? =some x→x=0):dv E9 (l.set k v)=dv E9 l+E9^k*v:=by
 rw[qac E9 l k v hk,h k l[k] (Nat.le_refl _) (List.getElem?_eq_getElem hk),Int.sub_zero]
theorem qkP {a:List Int} (ha:Dg E9 a) (hal:a.length≤20000) {d:Int} (d0:0<d) (d1:d<1000000000): ∀(K i:Nat) (l:List Int) (r:Int),i≤a.length→i<K→l.length=a.length→Dg E9 l→(∀(m:Nat) x,m<i→l[m]? =some x→x=0)→dv E9 l=E9^i*(dv E9 (a.drop i)/d)→r=dv E9 (a.drop i)%d→
 ∃l',zq a d K l r ((i:Int)-1)=some (l',dv E9 a%d)∧l'.length=a.length∧Dg E9 l'∧dv E9 l'=dv E9 a/d
 |0,i,l,r,h,hK,_,_,_,_,_=>by omega
 |K+1,0,l,r,h,hK,hl,hd,hz,e,er=>by
  rw[List.drop_zero]at e er
  rw[zq,if_neg (by omega),er]
  exact⟨l,rfl,hl,hd,by rw[e];simp⟩
 |K+1,i+1,l,r,h,hK,hl,hd,hz,e,er=>by
  have hi:i<a.length:=by omega
  have hil:i<l.length:=by omega
  have ax:=ha.at hi
  have ax2:a[i]<1000000000:=ax.2
  have r0:0≤r:=by rw[er];exact Int.emod_nonneg _ (by omega)
  have r1:r<d:=by rw[er];exact Int.emod_lt_of_pos _ d0
  have ei:((i+1:Nat):Int)-1=(i:Int):=by omega
  have hr1:r*1000000000≤999999998*1000000000:=Int.mul_le_mul_of_nonneg_right (by omega) (by omega)
  have q0:0≤(r*1000000000+a[i])/d:=Int.ediv_nonneg (by omega) (by omega)
  have q1:(r*1000000000+a[i])/d<1000000000:=by
   rw[Int.ediv_lt_iff_lt_mul d0]
   have:(r+1)*1000000000≤d*1000000000:=Int.mul_le_mul_of_nonneg_right (by omega) (by omega)
   rw[Int.mul_comm 1000000000]
   omega
  have hq:qbK .i64 (r*1000000000+a[i]) d=some ((r*1000000000+a[i])/d):=by
   unfold qbK
   rw[if_neg (by omega),Int.tdiv_eq_ediv_of_nonneg (by omega)]
   show some (w64 _)=_
   rw[qh (by omega) (by omega)]
  have hm:qdu .i64 (r*1000000000+a[i]) d=some ((r*1000000000+a[i])%d):=by
   unfold qdu
   rw[if_neg (by omega),Int.tmod_eq_emod_of_nonneg (by omega)]
  rw[zq,ei,if_pos (by omega),qw,List.getElem?_eq_getElem hi,Option.bind_some,qh (n:=r*1000000000) (by omega) (by omega),qh (n:=r*1000000000+a[i]) (by omega) (by omega),hq,Option.bind_some,qw,List.getElem?_eq_getElem hil,Option.bind_some,vG hil,Option.bind_some,hm,Option.bind_some,qh (by omega) (by omega)]
  have ed:dv E9 (a.drop i)=r*1000000000+a[i]+d*(dv E9 (a.drop (i+1))/d*1000000000):=by
   have h1:=Int.mul_ediv_add_emod (dv E9 (a.drop (i+1))) d
   rw[←er]at h1
   rw[qgk a hi,←Int.mul_assoc]
   have e9:E9*dv E9 (a.drop (i+1))=1000000000*dv E9 (a.drop (i+1)):=rfl
   rw[e9]
   generalize d*(dv E9 (a.drop (i+1))/d)=m at*
   omega
  refine qkP ha hal d0 d1 K i _ _ (by omega) (by omega) (by rw[List.length_set];exact hl) (hd.set ⟨q0,q1⟩) (fun m x hm hx=>?_) ?_ ?_
  ·rw[List.getElem?_set_ne (by omega)]at hx
   exact hz m x (by omega) hx
  ·rw[qiO hil (fun m x hm hx=>hz m x (by omega) hx),e,ed,Int.add_mul_ediv_left _ _ (by omega),Int.pow_succ,Int.mul_assoc,←Int.mul_add]
   congr 1
   have e9:E9*(dv E9 (a.drop (i+1))/d)=1000000000*(dv E9 (a.drop (i+1))/d):=rfl
   rw[e9]
   omega
  ·rw[ed,Int.add_mul_emod_self_left]
theorem qfq {N:Nat} {a:List Int} (ha:Dg E9 a) (hal:a.length≤20000) (hN:a.length<N) {d:Int} (d0:0<d) (d1:d<1000000000):vZ N a d=some (dg E9 (dv E9 a/d),dv E9 a%d):=by
 unfold vZ
 rw[qan (by omega),Option.bind_some,qh (by omega) (by omega)]
 obtain⟨l,e,h1,h2,h3⟩:=qkP ha hal d0 d1 N a.length (List.replicate a.length 0) 0 (Nat.le_refl _) (by omega) (by simp) (Dg.zeros E0 _) (fun m x _ hx=>qg0 m x hx) (by rw[yM,List.drop_of_length_le (Nat.le_refl _),kC];simp) (by rw[List.drop_of_length_le (Nat.le_refl _),kC];simp)
 rw[e,Option.bind_some]
 simp only
 rw[qbO h2 (by omega) (by omega),Option.bind_some,h3]
end Go.Av
end
section
namespace Go.Av
set_option linter.unusedVariables false
set_option linter.unusedSimpArgs false
set_option maxRecDepth 100000
theorem e9m (x:Int):E9*x=1000000000*x:=rfl
theorem qa6 {p u t:List Int} {i:Nat} (hi:i<u.length):idx (p++(u++t)) ((i+p.length:Nat):Int)=some u[i]:=by
 rw[qw,List.getElem?_append_right (by omega),Nat.add_sub_cancel,List.getElem?_append_left hi,List.getElem?_eq_getElem hi]
theorem qdj {p u t:List Int} {i:Nat} (hi:i<u.length) (x:Int):put (p++(u++t)) ((i+p.length:Nat):Int) x=some (p++(u.set i x++t)):=by
 rw[vG (by simp;omega)]
 congr 1
 rw[List.set_append_right _ _ (by omega),Nat.add_sub_cancel,List.set_append_left _ _ hi]
theorem qgR {i j:Nat} (hi:i≤100000) (hj:j≤100000):w64 ((i:Int)+(j:Int))=((i+j:Nat):Int):=by rw[qh (by omega) (by omega)];omega
theorem qhQ {p u t v:List Int} {k:Nat} (hv:Dg E9 v) (hvl:v.length=k+2) (hk:k≤10000) (hu:Dg E9 u) (hul:u.length=k+3) (hpl:p.length≤50000) {T v1 v2 u2 Q:Int} (e1:v[k+1]'(by omega)=v1) (e2:v[k]'(by omega)=v2) (e3:u[k]'(by omega)=u2) (hT:T≤v1*1000000000+999999999) (hQ:Q*(v1*1000000000+v2)≤T*1000000000+u2) (hQ0:0≤Q) (hQ1:Q<1000000000) (hn:1≤v1): ∀(K:Nat) (q r:Int),Q≤q→q≤4000000000→0≤r→r<1000000000→r=T-q*v1→1000000000≤r+K*v1→
 ∃q',(jw (p++(u++t)) v (p.length:Int) K r q=some (.inl q')∨jw (p++(u++t)) v (p.length:Int) K r q=some (.inr q'))∧Q≤q'∧q'<1000000000∧q'*(v1*1000000000+v2)≤T*1000000000+u2
 |0,q,r,h1,h2,h3,h4,h6,h7=>by simp at h7;omega
 |K+1,q,r,h1,h2,h3,h4,h6,h7=>by
  have a1:=hv.at (show k+1<v.length by omega)
  have a2:=hv.at (show k<v.length by omega)
  have a3:=hu.at (show k<u.length by omega)
  rw[e1]at a1
  rw[e2]at a2
  rw[e3]at a3
  have b1:v1<1000000000:=a1.2
  have b2:v2<1000000000:=a2.2
  have b3:u2<1000000000:=a3.2
  have hq0:0≤q:=by omega
  have hp0:0≤q*v2:=Int.mul_nonneg hq0 a2.1
  have ed: ∀q:Int,q*(v1*1000000000+v2)=q*v1*1000000000+q*v2:=fun q=>by rw[Int.mul_add,Int.mul_assoc]
  have ek:w64 ((v.length:Int)-2)=(k:Int):=by rw[qh (by omega) (by omega)];omega
  have ek1:w64 ((v.length:Int)-1)=((k+1:Nat):Int):=by rw[qh (by omega) (by omega)];omega
  have eku:w64 (w64 ((p.length:Int)+(v.length:Int))-2)=((k+p.length:Nat):Int):=by
   rw[qgR (by omega) (by omega),qh (by omega) (by omega)]
   omega
  have cond:(if q≥1000000000 then some true else(idx v (w64 ((v.length:Int)-2))).bind fun x12=>(idx (p++(u++t)) (w64 ((w64 ((p.length:Int)+(v.length:Int)))-2))).bind fun x13=>some (decide ((w64 (q*x12))>(w64 ((w64 (r*1000000000))+x13)))):Option Bool)=some (decide (q≥1000000000∨q*v2>r*1000000000+u2)):=by
   by_cases c:q≥1000000000
   ·rw[if_pos c,decide_eq_true (.inl c)]
   ·have hp1:q*v2≤999999999*999999999:=Int.mul_le_mul (by omega) (by omega) a2.1 (by omega)
    rw[if_neg c,ek,qw,List.getElem?_eq_getElem (show k<v.length by omega),e2,Option.bind_some,eku,qa6 (show k<u.length by omega),e3,Option.bind_some,qh (n:=q*v2) (by omega) (by omega),qh (n:=r*1000000000) (by omega) (by omega),qh (by omega) (by omega)]
    congr 1
    exact decide_eq_decide.2 (by omega)
  rw[jw,cond,Option.bind_some]
  by_cases c:q≥1000000000∨q*v2>r*1000000000+u2
  ·have hm1:(q-1)*v1=q*v1-v1:=by rw[Int.sub_mul,Int.one_mul]
   have hlt:Q≤q-1:=by
    rcases Int.lt_or_le Q q with h|h
    ·omega
    ·exfalso
     have e:q=Q:=by omega
     subst e
     rw[ed]at hQ
     rcases c with c|c<;>omega
   rw[decide_eq_true c,if_pos rfl,ek1,qw,List.getElem?_eq_getElem (show k+1<v.length by omega),e1,Option.bind_some,qh (n:=r+v1) (by omega) (by omega),qh (n:=q-1) (by omega) (by omega)]
   by_cases d:r+v1≥1000000000
   ·rw[if_pos d]
    have hq1:q-1<1000000000:=by
     rcases Int.lt_or_le (q-1) 1000000000 with h|h
     ·exact h
     ·have:v1*1000000000≤(q-1)*v1:=by rw[Int.mul_comm];exact Int.mul_le_mul_of_nonneg_right h (by omega)
      omega
    have hp1:(q-1)*v2≤999999999*999999999:=Int.mul_le_mul (by omega) (by omega) a2.1 (by omega)
    refine⟨q-1,.inr rfl,hlt,hq1,?_⟩
    rw[ed]
    omega
   ·rw[if_neg d]
    have eK:((K+1:Nat):Int)*v1=K*v1+v1:=by rw[Int.natCast_add,Int.add_mul];simp
    exact qhQ hv hvl hk hu hul hpl e1 e2 e3 hT hQ hQ0 hQ1 hn K (q-1) _ hlt (by omega) (by omega) (by omega) (by rw[hm1];omega) (by omega)
  ·rw[decide_eq_false c,if_neg (by simp)]
   refine⟨q,.inl rfl,h1,by omega,?_⟩
   rw[ed]
   omega
theorem qi8 {v:List Int} (hv:Dg E9 v) (hvl:v.length≤10002) {q:Int} (hq:0≤q∧q<1000000000) {p t:List Int} (hpl:p.length≤50000): ∀(K i:Nat) (u:List Int) (b:Int),i≤v.length→v.length<K+i→u.length=v.length+1→Dg E9 u→0≤b→b≤1000000000→
 ∃u' b',qP v (p.length:Int) q K (p++(u++t)) b (i:Int)=some (p++(u'++t),b')∧u'.length=v.length+1∧Dg E9 u'∧u'[v.length]? =u[v.length]? ∧0≤b'∧b'≤1000000000∧dv E9 u'+q*dv E9 v=dv E9 u+q*dv E9 (v.take i)-E9^i*b+E9^v.length*b'
 |0,i,u,b,h,hK,_,_,_,_=>by omega
 |K+1,i,u,b,h,hK,hul,hu,b0,b1=>by
  rw[qP]
  by_cases hi:i<v.length
  ·have av:=hv.at hi
   have hiu:i<u.length:=by omega
   have au:=hu.at hiu
   have av2:v[i]<1000000000:=av.2
   have au2:u[i]<1000000000:=au.2
   have hp0:0≤q*v[i]:=Int.mul_nonneg hq.1 av.1
   have hp1:q*v[i]≤999999999*999999999:=Int.mul_le_mul (by omega) (by omega) av.1 (by omega)
   rw[if_pos (by omega),qw,List.getElem?_eq_getElem hi,Option.bind_some,qgR (by omega) (by omega),qa6 hiu,Option.bind_some]
   generalize hp:q*v[i]=x at*
   rw[qh (n:=x) (by omega) (by omega),qh (n:=x+b) (by omega) (by omega),Int.tmod_eq_emod_of_nonneg (by omega),Int.tdiv_eq_ediv_of_nonneg (by omega),qh (n:=u[i]-(x+b)%1000000000) (by omega) (by omega)]
   have hxc:=Int.mul_ediv_add_emod (x+b) 1000000000
   have step: ∀(un b2 d:Int),(0≤un∧un<1000000000)→(0≤d∧d≤1)→b2=(x+b)/1000000000+d→un=u[i]-(x+b)%1000000000+1000000000*d→
    ∃u' b',qP v (p.length:Int) q K (p++(u.set i un++t)) b2 ((i+1:Nat):Int)=some (p++(u'++t),b')∧u'.length=v.length+1∧Dg E9 u'∧u'[v.length]? =u[v.length]? ∧0≤b'∧b'≤1000000000∧dv E9 u'+q*dv E9 v=dv E9 u+q*dv E9 (v.take i)-E9^i*b+E9^v.length*b':=by
    intro un b2 d hun hd eb eun
    obtain⟨u',b',f1,f2,f3,f4,f5,f6,f9⟩:=qi8 hv hvl hq hpl K (i+1) (u.set i un) b2 (by omega) (by omega) (by rw[List.length_set];exact hul) (hu.set hun) (by omega) (by omega)
    refine⟨u',b',f1,f2,f3,by rw[f4,List.getElem?_set_ne (by omega)],f5,f6,?_⟩
    rw[f9,qac E9 u i un hiu,ql E9 v i hi,Int.mul_add q,←Int.mul_assoc q,Int.mul_comm q (E9^i),Int.mul_assoc (E9^i) q,hp,Int.pow_succ,Int.mul_assoc (E9^i) E9]
    have e5:E9^i*(un-u[i])+E9^i*x-E9^i*(E9*b2)= -(E9^i*b):=by
     rw[←Int.mul_add,←Int.mul_sub,←Int.mul_neg]
     congr 1
     rw[e9m]
     omega
    omega
   by_cases c:u[i]-(x+b)%1000000000<0
   ·rw[if_pos c,qh (n:=(x+b)/1000000000) (by omega) (by omega),qh (n:=(x+b)/1000000000+1) (by omega) (by omega),qh (n:=u[i]-(x+b)%1000000000+1000000000) (by omega) (by omega),Option.bind_some]
    simp only
    rw[qdj hiu,Option.bind_some,zL (by omega)]
    exact step _ _ 1 (by omega) (by omega) rfl (by omega)
   ·rw[if_neg c,qh (n:=(x+b)/1000000000) (by omega) (by omega),Option.bind_some]
    simp only
    rw[qdj hiu,Option.bind_some,zL (by omega)]
    exact step _ _ 0 (by omega) (by omega) (by omega) (by omega)
  ·rw[if_neg (by omega)]
   have ei:i=v.length:=by omega
   subst ei
   rw[List.take_of_length_le (Nat.le_refl _)]
   exact⟨u,b,rfl,hul,hu,rfl,b0,b1,by omega⟩
theorem qiY {v:List Int} (hv:Dg E9 v) (hvl:v.length≤10002) {q:Int} (hq:0<q∧q<1000000000) {p t:List Int} (hpl:p.length≤50000): ∀(K i:Nat) (u:List Int) (y c:Int),i≤v.length→v.length<K+i→u.length=v.length→Dg E9 u→0≤c→c≤1→
 ∃u' c',kr v (p.length:Int) q K (p++(u++[y]++t)) c (i:Int)=some (p++(u'++[y]++t),q-1,c')∧u'.length=v.length∧Dg E9 u'∧0≤c'∧c'≤1∧dv E9 u'+E9^v.length*c'=dv E9 u+dv E9 v-dv E9 (v.take i)+E9^i*c
 |0,i,u,y,c,h,hK,_,_,_,_=>by omega
 |K+1,i,u,y,c,h,hK,hul,hu,c0,c1=>by
  rw[kr]
  by_cases hi:i<v.length
  ·have av:=hv.at hi
   have hiu:i<u.length:=by omega
   have hiu2:i<(u++[y]).length:=by simp;omega
   have au:=hu.at hiu
   have av2:v[i]<1000000000:=av.2
   have au2:u[i]<1000000000:=au.2
   have eg:(u++[y])[i]=u[i]:=List.getElem_append_left hiu
   rw[if_pos (by omega),qgR (by omega) (by omega),qa6 hiu2,eg,Option.bind_some,qw,List.getElem?_eq_getElem hi,Option.bind_some,qh (n:=u[i]+v[i]) (by omega) (by omega),qh (n:=u[i]+v[i]+c) (by omega) (by omega),Int.tmod_eq_emod_of_nonneg (by omega),Int.tdiv_eq_ediv_of_nonneg (by omega),qdj hiu2,Option.bind_some,List.set_append_left _ _ hiu,qh (n:=(u[i]+v[i]+c)/1000000000) (by omega) (by omega),zL (by omega)]
   have hs:=Int.mul_ediv_add_emod (u[i]+v[i]+c) 1000000000
   have m0:=Int.emod_nonneg (u[i]+v[i]+c) (show(1000000000:Int)≠0 by decide)
   have m1:=Int.emod_lt_of_pos (u[i]+v[i]+c) (show(0:Int)<1000000000 by decide)
   have k0:0≤(u[i]+v[i]+c)/1000000000∧(u[i]+v[i]+c)/1000000000≤1:=by omega
   generalize (u[i]+v[i]+c)/1000000000=c2 at*
   generalize (u[i]+v[i]+c)%1000000000=un at*
   obtain⟨u',c',f1,f2,f3,f5,f6,f7⟩:=qiY hv hvl hq hpl K (i+1) (u.set i un) y c2 (by omega) (by omega) (by rw[List.length_set];exact hul) (hu.set ⟨m0,m1⟩) k0.1 k0.2
   refine⟨u',c',f1,f2,f3,f5,f6,?_⟩
   rw[f7,qac E9 u i un hiu,ql E9 v i hi,Int.pow_succ,Int.mul_assoc (E9^i) E9]
   have e5:E9^i*(un-u[i])-E9^i*v[i]+E9^i*(E9*c2)=E9^i*c:=by
    rw[←Int.mul_sub,←Int.mul_add]
    congr 1
    rw[e9m]
    omega
   omega
  ·rw[if_neg (by omega),qh (by omega) (by omega)]
   have ei:i=v.length:=by omega
   subst ei
   rw[List.take_of_length_le (Nat.le_refl _)]
   exact⟨u,c,rfl,hul,hu,c0,c1,by omega⟩
theorem qil {P ulo vlo T3 V2 U V Q q v1 v2:Int} (hP:0<P) (eU:U=ulo+P*T3) (eV:V=vlo+P*V2) (hu:0≤ulo∧ulo<P) (hv:0≤vlo∧vlo<P) (e2:V2=v1*1000000000+v2) (h1:1≤v1) (h2:0≤v2) (hU:0≤U) (eQ:Q=U/V):0<V∧Q*V2≤T3∧(0≤q→q<1000000000→q*V2≤T3→q≤Q+1):=by
 have hPW:P*1000000000≤P*V2:=Int.mul_le_mul_of_nonneg_left (by omega) (by omega)
 have hV:0<V:=by omega
 have q0:0≤Q:=by rw[eQ];exact Int.ediv_nonneg hU (by omega)
 have q1:Q*V≤U:=by rw[eQ];exact Int.ediv_mul_le U (by omega)
 have q2:U<(Q+1)*V:=by
  rw[eQ]
  exact Int.lt_ediv_add_one_mul_self U hV
 refine⟨hV,?_,fun a b c=>?_⟩
 ·rcases Int.lt_or_le T3 (Q*V2)with h|h
  ·exfalso
   have a1:P*(T3+1)≤P*(Q*V2):=Int.mul_le_mul_of_nonneg_left (by omega) (by omega)
   have a2:P*(Q*V2)≤Q*V:=by
    rw[eV,Int.mul_add]
    have:P*(Q*V2)=Q*(P*V2):=by rw[←Int.mul_assoc,Int.mul_comm P Q,Int.mul_assoc]
    have:=Int.mul_nonneg q0 hv.1
    omega
   rw[Int.mul_add,Int.mul_one]at a1
   omega
  ·exact h
 ·have a1:q*V=q*vlo+P*(q*V2):=by
   rw[eV,Int.mul_add]
   congr 1
   rw[←Int.mul_assoc,Int.mul_comm q P,Int.mul_assoc]
  have a2:P*(q*V2)≤P*T3:=Int.mul_le_mul_of_nonneg_left c (by omega)
  have a3:q*vlo≤999999999*P:=Int.mul_le_mul (by omega) (by omega) hv.1 (by omega)
  have a4:q*V<(Q+2)*V:=by
   rw[Int.add_mul]
   rw[Int.add_mul]at q2
   omega
  have:=Int.lt_of_mul_lt_mul_right a4 (by omega)
  omega
set_option maxHeartbeats 1000000 in
theorem ql6 {N:Nat} (hN:11000<N) {p u t v:List Int} {k:Nat} (hv:Dg E9 v) (hvl:v.length=k+2) (hk:k≤9000) (hu:Dg E9 u) (hul:u.length=k+3) (hpl:p.length≤50000) (hn:1000000≤v[k+1]'(by omega)) (hlt:dv E9 u<1000000000*dv E9 v):
 ∃u',u'.length=k+3∧Dg E9 u'∧dv E9 u'=dv E9 u%dv E9 v∧((xn N (p++(u++t)) v (p.length:Int)).bind fun r25=>
 (qP v (p.length:Int) r25 N (p++(u++t)) 0 0).bind fun(l29,n30)=>
 (idx l29 (w64 ((p.length:Int)+(v.length:Int)))).bind fun x40=>
 (put l29 (w64 ((p.length:Int)+(v.length:Int))) (w64 (x40-n30))).bind fun l41=>
 (idx l41 (w64 ((p.length:Int)+(v.length:Int)))).bind fun x42=>
 ((if x42<0 then
 (kr v (p.length:Int) r25 N l41 0 0).bind fun(l50,n51,n52)=>
 (idx l50 (w64 ((p.length:Int)+(v.length:Int)))).bind fun x58=>
 (put l50 (w64 ((p.length:Int)+(v.length:Int))) (w64 (x58+n52))).bind fun l59=>
 some (l59,n51)
 else
 some (l41,r25):Option ((List Int)×Int))))=some (p++(u'++t),dv E9 u/dv E9 v):=by
 have a1:=hv.at (show k+1<v.length by omega)
 have a2:=hv.at (show k<v.length by omega)
 have b0:=hu.at (show k+2<u.length by omega)
 have b1:=hu.at (show k+1<u.length by omega)
 have b2:=hu.at (show k<u.length by omega)
 have eV:dv E9 v=dv E9 (v.take k)+E9^k*(v[k+1]*1000000000+v[k]):=by
  have e1:=ql E9 v (k+1) (by omega)
  have e2:=ql E9 v k (by omega)
  have p1:E9^(k+1)=E9^k*E9:=Int.pow_succ _ _
  rw[List.take_of_length_le (by omega),e2,p1]at e1
  rw[e1,show v[k+1]*1000000000+v[k]=v[k]+E9*v[k+1]by rw[e9m];omega,Int.mul_add]
  simp only[Int.mul_assoc]
  omega
 have eU:dv E9 u=dv E9 (u.take k)+E9^k*((u[k+2]*1000000000+u[k+1])*1000000000+u[k]):=by
  have e0:=ql E9 u (k+2) (by omega)
  have e1:=ql E9 u (k+1) (by omega)
  have e2:=ql E9 u k (by omega)
  have p1:E9^(k+1)=E9^k*E9:=Int.pow_succ _ _
  have p2:E9^(k+2)=E9^k*E9*E9:=by rw[←p1];exact Int.pow_succ _ _
  rw[List.take_of_length_le (by omega),e1,e2,p2,p1]at e0
  have e3:(u[k+2]*1000000000+u[k+1])*1000000000+u[k]=u[k]+E9*u[k+1]+E9*(E9*u[k+2]):=by
   have h1:E9*u[k+1]=1000000000*u[k+1]:=rfl
   have h2:E9*(E9*u[k+2])=1000000000*(1000000000*u[k+2]):=rfl
   omega
  rw[e0,e3,Int.mul_add,Int.mul_add]
  simp only[Int.mul_assoc]
  omega
 have vlo0:=qA E0 (hv.take k)
 have vlo1:=vX E0 (hv.take k)
 have ulo0:=qA E0 (hu.take k)
 have ulo1:=vX E0 (hu.take k)
 rw[List.length_take,Nat.min_eq_left (by omega)]at vlo1 ulo1
 have U0:=qA E0 hu
 have hP:=pow_pos E0 k
 have DF:=fun q=>qil (q:=q) hP eU eV ⟨ulo0,ulo1⟩ ⟨vlo0,vlo1⟩ rfl (by omega) a2.1 U0 rfl
 have V0:=(DF 0).1
 have hQ0:0≤dv E9 u/dv E9 v:=Int.ediv_nonneg U0 (by omega)
 have hQ1:dv E9 u/dv E9 v<1000000000:=by rw[Int.ediv_lt_iff_lt_mul V0];exact hlt
 have hQ2:=(DF 0).2.1
 have hmod:dv E9 u%dv E9 v=dv E9 u-dv E9 u/dv E9 v*dv E9 v:=by rw[Int.emod_def,Int.mul_comm]
 have hm0:=Int.emod_nonneg (dv E9 u) (show dv E9 v≠0 by omega)
 have hm1:=Int.emod_lt_of_pos (dv E9 u) V0
 generalize hQ:dv E9 u/dv E9 v=Q at*
 have c1:v[k+1]<1000000000:=a1.2
 have c2:v[k]<1000000000:=a2.2
 have d0:u[k+2]<1000000000:=b0.2
 have d1:u[k+1]<1000000000:=b1.2
 have d2:u[k]<1000000000:=b2.2
 have hle:u[k+2]≤v[k+1]:=by
  rcases Int.lt_or_le v[k+1] u[k+2]with g|g
  ·exfalso
   have g1:E9^k*((v[k+1]*1000000000+v[k]+1)*1000000000)≤E9^k*((u[k+2]*1000000000+u[k+1])*1000000000+u[k]):=Int.mul_le_mul_of_nonneg_left (by omega) (by omega)
   rw[←Int.mul_assoc,Int.mul_add (E9^k) _ 1]at g1
   omega
  ·exact g
 have G: ∃q',xn N (p++(u++t)) v (p.length:Int)=some q'∧Q≤q'∧q'<1000000000∧q'*(v[k+1]*1000000000+v[k])≤(u[k+2]*1000000000+u[k+1])*1000000000+u[k]:=by
  have ek:w64 ((v.length:Int)-1)=((k+1:Nat):Int):=by rw[qh (by omega) (by omega)];omega
  have ek2:w64 ((p.length:Int)+(v.length:Int))=((k+2+p.length:Nat):Int):=by rw[qgR (by omega) (by omega)];congr 1;omega
  have ek1:w64 (((k+2+p.length:Nat):Int)-1)=((k+1+p.length:Nat):Int):=by rw[qh (by omega) (by omega)];omega
  have e1:=Int.mul_ediv_add_emod (u[k+2]*1000000000+u[k+1]) v[k+1]
  have e2:=Int.emod_nonneg (u[k+2]*1000000000+u[k+1]) (show v[k+1]≠0 by omega)
  have e3:=Int.emod_lt_of_pos (u[k+2]*1000000000+u[k+1]) (show 0<v[k+1]by omega)
  have e4:(u[k+2]*1000000000+u[k+1])/v[k+1]≤1000001000:=by
   have:(u[k+2]*1000000000+u[k+1])/v[k+1]<1000001001:=by
    rw[Int.ediv_lt_iff_lt_mul (by omega)]
    omega
   omega
  have e5:Q≤(u[k+2]*1000000000+u[k+1])/v[k+1]:=by
   rw[Int.le_ediv_iff_mul_le (by omega)]
   have e:Q*(v[k+1]*1000000000+v[k])=Q*v[k+1]*1000000000+Q*v[k]:=by rw[Int.mul_add,Int.mul_assoc]
   have:=Int.mul_nonneg hQ0 a2.1
   omega
  have hq:qbK .i64 (u[k+2]*1000000000+u[k+1]) v[k+1]=some ((u[k+2]*1000000000+u[k+1])/v[k+1]):=by
   unfold qbK
   rw[if_neg (by omega),Int.tdiv_eq_ediv_of_nonneg (by omega)]
   show some (w64 _)=_
   rw[qh (by omega) (by omega)]
  have hm:qdu .i64 (u[k+2]*1000000000+u[k+1]) v[k+1]=some ((u[k+2]*1000000000+u[k+1])%v[k+1]):=by
   unfold qdu
   rw[if_neg (by omega),Int.tmod_eq_emod_of_nonneg (by omega)]
  have hKv:(1000000000:Int)≤(u[k+2]*1000000000+u[k+1])%v[k+1]+N*v[k+1]:=by
   have:(1000:Int)*v[k+1]≤N*v[k+1]:=Int.mul_le_mul_of_nonneg_right (by omega) (by omega)
   omega
  obtain⟨q',g1,g2,g3,g4⟩:=qhQ (p:=p) (t:=t) hv hvl (by omega) hu hul hpl rfl rfl rfl (T:=u[k+2]*1000000000+u[k+1]) (by omega) hQ2 hQ0 hQ1 (by omega) N _ _ e5 (by omega) e2 (by omega) (by rw[Int.mul_comm (_/_)];omega) hKv
  refine⟨q',?_,g2,g3,g4⟩
  unfold xn
  rw[ek2,ek1,ek,qa6 (show k+2<u.length by omega),Option.bind_some,qa6 (show k+1<u.length by omega),Option.bind_some,qw,List.getElem?_eq_getElem (show k+1<v.length by omega),Option.bind_some,qh (n:=u[k+2]*1000000000) (by omega) (by omega),qh (n:=u[k+2]*1000000000+u[k+1]) (by omega) (by omega),hq,Option.bind_some,hm,Option.bind_some]
  rcases g1 with g1|g1<;>rw[g1]<;>rfl
 obtain⟨q',g1,f2,f3,f4⟩:=G
 have hle2:=(DF q').2.2 (by omega) f3 f4
 obtain⟨w,b',m1,m2,m3,m4,m5,m6,m9⟩:=qi8 hv (by omega) (q:=q') ⟨by omega,f3⟩ (p:=p) (t:=t) hpl N 0 u 0 (by omega) (by omega) (by omega) hu (by omega) (by omega)
 have m1:qP v (p.length:Int) q' N (p++(u++t)) 0 0=some (p++(w++t),b'):=m1
 have hkw:k+2<w.length:=by omega
 have ew:w[k+2]=u[k+2]:=by
  rw[hvl,List.getElem?_eq_getElem hkw,List.getElem?_eq_getElem (show k+2<u.length by omega)]at m4
  exact Option.some.inj m4
 have wsp:w=w.take (k+2)++[w[k+2]]:=by
  have:=List.take_succ_eq_append_getElem hkw
  rw[List.take_of_length_le (by omega)]at this
  exact this
 have wl:(w.take (k+2)).length=k+2:=by rw[List.length_take];omega
 have wd:=m3.take (k+2)
 have wv:dv E9 w=dv E9 (w.take (k+2))+E9^(k+2)*w[k+2]:=by
  have:=ql E9 w (k+2) hkw
  rw[List.take_of_length_le (by omega)]at this
  exact this
 have lo0:=qA E0 wd
 have lo1:=vX E0 wd
 rw[wl]at lo1
 rw[List.take_zero,kC,Int.mul_zero,hvl]at m9
 simp only[Int.pow_zero]at m9
 have hVk:dv E9 v<E9^(k+2):=by have:=vX E0 hv;rw[hvl]at this;exact this
 have hPk:=pow_pos E0 (k+2)
 have ek2:w64 ((p.length:Int)+(v.length:Int))=((k+2+p.length:Nat):Int):=by rw[qgR (by omega) (by omega)];congr 1;omega
 have eset:w.set (k+2) (u[k+2]-b')=w.take (k+2)++[u[k+2]-b']:=by
  rw[List.set_eq_take_append_cons_drop,if_pos hkw,List.drop_of_length_le (by omega)]
 have hks:k+2<(w.set (k+2) (u[k+2]-b')).length:=by rw[List.length_set];exact hkw
 have tot:dv E9 (w.take (k+2))+E9^(k+2)*(u[k+2]-b')=dv E9 u-q'*dv E9 v:=by
  rw[Int.mul_sub,←ew]
  omega
 rw[g1,Option.bind_some,m1,Option.bind_some]
 simp only
 rw[ek2,qa6 hkw,Option.bind_some,ew,qh (n:=u[k+2]-b') (by omega) (by omega),qdj hkw,Option.bind_some,qa6 hks,List.getElem_set_self,Option.bind_some]
 by_cases hq:q'=Q
 ·have hy:u[k+2]-b'=0:=by
   subst hq
   have h1: ¬(1≤u[k+2]-b'):=fun h=>by
    have:=Int.mul_le_mul_of_nonneg_left h (Int.le_of_lt hPk)
    omega
   have h2: ¬(u[k+2]-b'≤ -1):=fun h=>by
    have:=Int.mul_le_mul_of_nonneg_left h (Int.le_of_lt hPk)
    omega
   omega
  rw[if_neg (by omega),eset,hy,hq]
  rw[hy,Int.mul_zero,Int.add_zero,hq]at tot
  refine⟨w.take (k+2)++[0],by simp;omega,wd.append (Dg.cons ⟨by omega,by decide⟩ Dg.nil),?_,rfl⟩
  rw[qdW,Int.mul_zero,Int.add_zero]
  omega
 ·have hq1:q'=Q+1:=by omega
  have hqm:q'*dv E9 v=Q*dv E9 v+dv E9 v:=by rw[hq1,Int.add_mul,Int.one_mul]
  have hy:u[k+2]-b'<0:=by
   rcases Int.lt_or_le (u[k+2]-b') 0 with h|h
   ·exact h
   ·have:=Int.mul_nonneg (Int.le_of_lt hPk) h
    omega
  obtain⟨u3,c3,a1',a2',a3',a5',a6',a7'⟩:=qiY hv (by omega) (q:=q') ⟨by omega,f3⟩ (p:=p) (t:=t) hpl N 0 (w.take (k+2)) (u[k+2]-b') 0 (by omega) (by omega) (by omega) wd (by omega) (by omega)
  have a1':kr v (p.length:Int) q' N (p++(w.take (k+2)++[u[k+2]-b']++t)) 0 0=some (p++(u3++[u[k+2]-b']++t),q'-1,c3):=a1'
  rw[List.take_zero,kC,hvl]at a7'
  simp only[Int.pow_zero]at a7'
  have l0:=qA E0 a3'
  have l1:=vX E0 a3'
  rw[a2',hvl]at l1
  have hyc:u[k+2]-b'+c3=0:=by
   have e1:dv E9 u3+E9^(k+2)*(u[k+2]-b'+c3)=dv E9 u-Q*dv E9 v:=by
    rw[Int.mul_add]
    omega
   have h1: ¬(1≤u[k+2]-b'+c3):=fun h=>by
    have:=Int.mul_le_mul_of_nonneg_left h (Int.le_of_lt hPk)
    omega
   have h2: ¬(u[k+2]-b'+c3≤ -1):=fun h=>by
    have:=Int.mul_le_mul_of_nonneg_left h (Int.le_of_lt hPk)
    omega
   omega
  have hk3:k+2<(u3++[u[k+2]-b']).length:=by simp;omega
  have eg:(u3++[u[k+2]-b'])[k+2]=u[k+2]-b':=by
   rw[List.getElem_append_right (by omega)]
   simp
  have es:(u3++[u[k+2]-b']).set (k+2) 0=u3++[0]:=by
   rw[List.set_append_right _ _ (by omega),show k+2-u3.length=0 by omega]
   rfl
  rw[if_pos hy,eset,a1',Option.bind_some]
  simp only
  rw[qa6 hk3,eg,Option.bind_some,hyc,show w64 (0:Int)=0 from rfl,qdj hk3,Option.bind_some,es,hq1,Int.add_sub_cancel]
  refine⟨u3++[0],by simp;omega,a3'.append (Dg.cons ⟨by omega,by decide⟩ Dg.nil),?_,rfl⟩
  rw[qdW,Int.mul_zero,Int.add_zero]
  have e1:dv E9 u3+E9^(k+2)*(u[k+2]-b'+c3)=dv E9 u-Q*dv E9 v:=by
   rw[Int.mul_add]
   omega
  rw[hyc,Int.mul_zero,Int.add_zero]at e1
  omega
end Go.Av
end
section
namespace Go.Av
set_option linter.unusedVariables false
set_option linter.unusedSimpArgs false
set_option maxRecDepth 100000
theorem qcX {l:List Int} (h:Dg E9 l) {n:Nat} (hl:dv E9 l<E9^n):dv E9 (l.drop n)=0:=by
 by_cases hn:n≤l.length
 ·have e:=yc E9 l n hn
  have h1:=qA E0 (h.take n)
  have h2:=qA E0 (h.drop n)
  rcases Int.lt_or_le 0 (dv E9 (l.drop n))with c|c
  ·have:=Int.mul_le_mul_of_nonneg_left (show 1≤dv E9 (l.drop n)by omega) (Int.le_of_lt (pow_pos E0 n))
   omega
  ·omega
 ·rw[List.drop_of_length_le (by omega),kC]
theorem qjE {N:Nat} (hN:11000<N) {v:List Int} {k:Nat} (hv:Dg E9 v) (hvl:v.length=k+2) (hk:k≤9000) (hn:1000000≤v[k+1]'(by omega)) {A:Int} {m:Nat} (hm:m≤9000): ∀(K i:Nat) (l qs:List Int),i≤m+1→i<K→l.length=m+k+3→qs.length=m+1→Dg E9 l→Dg E9 qs→(∀(j:Nat) x,j<i→qs[j]? =some x→x=0)→dv E9 (l.drop i)<dv E9 v→dv E9 l+dv E9 v*dv E9 qs=A→
 ∃l' qs',zf N v K l qs ((i:Int)-1)=some (l',qs')∧l'.length=m+k+3∧qs'.length=m+1∧Dg E9 l'∧Dg E9 qs'∧dv E9 l'<dv E9 v∧dv E9 l'+dv E9 v*dv E9 qs'=A
 |0,i,l,qs,h,hK,_,_,_,_,_,_,_=>by omega
 |K+1,0,l,qs,h,hK,hl,hql,hd,hqd,hz,hlt,e=>by
  rw[zf,if_neg (by omega)]
  exact⟨l,qs,rfl,hl,hql,hd,hqd,hlt,e⟩
 |K+1,i+1,l,qs,h,hK,hl,hql,hd,hqd,hz,hlt,e=>by
  have hil:i<l.length:=by omega
  have hiq:i<qs.length:=by omega
  have ei:((i+1:Nat):Int)-1=(i:Int):=by omega
  have V1:=vX E0 hv
  rw[hvl]at V1
  have V0:0<dv E9 v:=by
   have:=qA E0 (hd.drop (i+1))
   omega
  have lp:(l.take i).length=i:=by rw[List.length_take];omega
  have lu:((l.drop i).take (k+3)).length=k+3:=by rw[List.length_take,List.length_drop];omega
  have el:l=l.take i++((l.drop i).take (k+3)++(l.drop i).drop (k+3)):=by rw[List.take_append_drop,List.take_append_drop]
  have hu:=(hd.drop i).take (k+3)
  have ht:dv E9 ((l.drop i).drop (k+3))=0:=by
   have:=qcX (hd.drop (i+1)) (n:=k+2) (by omega)
   rw[List.drop_drop]at this⊢
   rw[show i+(k+3)=i+1+(k+2)by omega]
   exact this
  have eu:dv E9 ((l.drop i).take (k+3))=dv E9 (l.drop i):=by
   have:=yu E9 ((l.drop i).take (k+3)) ((l.drop i).drop (k+3))
   rw[List.take_append_drop,ht,Int.mul_zero,Int.add_zero]at this
   exact this.symm
  have hUlt:dv E9 ((l.drop i).take (k+3))<1000000000*dv E9 v:=by
   rw[eu,qgk l hil]
   have:=(hd.at hil).2
   have h1:E9*(dv E9 (l.drop (i+1))+1)≤E9*dv E9 v:=Int.mul_le_mul_of_nonneg_left (by omega) (by decide)
   rw[Int.mul_add,Int.mul_one]at h1
   have h2:E9*dv E9 v=1000000000*dv E9 v:=rfl
   omega
  obtain⟨u',s2,s3,s4,s1⟩:=ql6 hN (p:=l.take i) (t:=(l.drop i).drop (k+3)) hv hvl hk hu lu (by omega) hn hUlt
  rw[lp,←el]at s1
  rw[zf,ei,if_pos (by omega)]
  have hU0:=qA E0 hu
  have Q0:0≤dv E9 ((l.drop i).take (k+3))/dv E9 v:=Int.ediv_nonneg hU0 (by omega)
  have Q1:dv E9 ((l.drop i).take (k+3))/dv E9 v<E9:=by rw[Int.ediv_lt_iff_lt_mul V0];exact hUlt
  have hR:=Int.emod_lt_of_pos (dv E9 ((l.drop i).take (k+3))) V0
  have hdm:=Int.mul_ediv_add_emod (dv E9 ((l.drop i).take (k+3))) (dv E9 v)
  have hdrop:(l.take i++(u'++(l.drop i).drop (k+3))).drop i=u'++(l.drop i).drop (k+3):=by
   rw[List.drop_append_of_le_length (by omega),List.drop_of_length_le (by omega),List.nil_append]
  have hdn:dv E9 (u'++(l.drop i).drop (k+3))=dv E9 u':=by rw[yu,ht,Int.mul_zero,Int.add_zero]
  have main:=qjE hN hv hvl hk hn (A:=A) hm K i (l.take i++(u'++(l.drop i).drop (k+3))) (qs.set i (dv E9 ((l.drop i).take (k+3))/dv E9 v)) (by omega) (by omega) (by rw[List.length_append,List.length_append,lp,s2,List.length_drop,List.length_drop];omega) (by rw[List.length_set];exact hql) ((hd.take i).append (s3.append ((hd.drop i).drop _))) (hqd.set ⟨Q0,Q1⟩) (fun j x hj hx=>by
   rw[List.getElem?_set_ne (by omega)]at hx
   exact hz j x (by omega) hx) (by rw[hdrop,hdn,s4];exact hR) (by
   rw[qiO hiq (fun j x hj hx=>hz j x (by omega) hx),yu,lp,hdn,s4,Int.mul_add]
   have e1:=yc E9 l i (by omega)
   rw[←eu]at e1
   have e2:E9^i*dv E9 ((l.drop i).take (k+3))=E9^i*(dv E9 v*(dv E9 ((l.drop i).take (k+3))/dv E9 v))+E9^i*(dv E9 ((l.drop i).take (k+3))%dv E9 v):=by rw[←Int.mul_add,hdm]
   have e3:dv E9 v*(E9^i*(dv E9 ((l.drop i).take (k+3))/dv E9 v))=E9^i*(dv E9 v*(dv E9 ((l.drop i).take (k+3))/dv E9 v)):=Int.mul_left_comm _ _ _
   rw[e3]
   omega)
  obtain⟨l',qs',g1,g2⟩:=main
  refine⟨l',qs',?_,g2⟩
  rw[←g1]
  generalize hw:xn N l v (i:Int)=og at s1⊢
  cases og with
  |none=>cases s1
  |some r25=>
   simp only[Option.bind_some]at s1⊢
   generalize qP v (i:Int) r25 N l 0 0=o2 at s1⊢
   cases o2 with
   |none=>cases s1
   |some p2=>
    obtain⟨l29,n30⟩:=p2
    simp only[Option.bind_some]at s1⊢
    generalize idx l29 (w64 ((i:Int)+(v.length:Int)))=o3 at s1⊢
    cases o3 with
    |none=>cases s1
    |some x40=>
     simp only[Option.bind_some]at s1⊢
     generalize put l29 (w64 ((i:Int)+(v.length:Int))) (w64 (x40-n30))=o4 at s1⊢
     cases o4 with
     |none=>cases s1
     |some l41=>
      simp only[Option.bind_some]at s1⊢
      generalize idx l41 (w64 ((i:Int)+(v.length:Int)))=o5 at s1⊢
      cases o5 with
      |none=>cases s1
      |some x42=>
       simp only[Option.bind_some]at s1⊢
       refine(congrArg (fun z=>Option.bind z _) s1).trans ?_
       rw[Option.bind_some]
       simp only
       rw[qw,List.getElem?_eq_getElem hiq,Option.bind_some,vG hiq,Option.bind_some,qh (by omega) (by omega)]
theorem qml {a:List Int} (hal:a.length≤50000): ∀(K:Nat) (l:List Int),a.length+1<K+l.length→l.length≤a.length+1→zD a K l=some (l++List.replicate (a.length+1-l.length) 0)
 |0,l,h,h2=>by omega
 |K+1,l,h,h2=>by
  rw[zD,zL (by omega)]
  by_cases c:l.length<a.length+1
  ·rw[if_pos (by omega),qcE (by simp;omega) (by simp;omega),Option.bind_some,qml hal K (l++[0]) (by simp;omega) (by simp;omega),List.append_assoc,List.length_append,List.length_singleton]
   rw[show a.length+1-l.length=a.length+1-(l.length+1)+1 by omega,List.replicate_succ]
   rfl
  ·rw[if_neg (by omega),show a.length+1-l.length=0 by omega]
   simp
theorem qcC {N:Nat} (hN:60000<N) {a b:List Int} (ha:Can E9 a) (hb:Can E9 b) (hal:a.length≤8000) (hb0:0<dv E9 b):zU N a b=some (dg E9 (dv E9 a/dv E9 b),dg E9 (dv E9 a%dv E9 b)):=by
 have A0:=qA E0 ha.1
 unfold zU
 rw[qcu ha hb (by omega) (by omega),Option.bind_some]
 by_cases h:dv E9 a<dv E9 b
 ·rw[if_pos h,if_pos (by omega),Int.ediv_eq_zero_of_lt A0 h,Int.emod_eq_of_lt A0 h,qcN,qnm E1 ha]
 have hlen:b.length≤a.length:=by
  rcases Nat.lt_or_ge a.length b.length with c|c
  ·have:=qbV ha hb c;omega
  ·exact c
 have hb1:0<b.length:=by
  rcases Nat.eq_zero_or_pos b.length with c|c
  ·rw[List.length_eq_zero_iff.1 c,kC]at hb0;omega
  ·exact c
 have hge: ¬((if dv E9 a<dv E9 b then-1 else if dv E9 a=dv E9 b then(0:Int)else 1)<0):=by
  rw[if_neg h]
  split<;>omega
 rw[if_neg hge]
 by_cases hone:b.length=1
 ·obtain⟨d,rfl⟩:=List.length_eq_one_iff.1 hone
  have ed:dv E9 [d]=d:=by rw[zb,kC];omega
  rw[ed]at hb0⊢
  have hd:d<1000000000:=hb.1.head.2
  have m0:=Int.emod_nonneg (dv E9 a) (show d≠0 by omega)
  have m1:=Int.emod_lt_of_pos (dv E9 a) hb0
  rw[if_pos (by simp),qa2]
  simp only[List.getElem?_cons_zero,Option.bind_some]
  rw[qfq ha.1 (by omega) (by omega) hb0 hd,Option.bind_some]
  simp only
  rw[qbO (Dg.cons ⟨m0,Int.lt_trans m1 hd⟩ Dg.nil) (by simp) (by simp;omega),Option.bind_some,zb,kC,Int.mul_zero,Int.add_zero]
 ·obtain⟨k,hk⟩: ∃k,b.length=k+2:=⟨b.length-2,by omega⟩
  obtain⟨m,hm⟩: ∃m,a.length=m+k+2:=⟨a.length-(k+2),by omega⟩
  have hkb:k+1<b.length:=by omega
  have at1:=hb.1.at hkb
  have at2:b[k+1]<1000000000:=at1.2
  have at0:b[k+1]≠0:=hb.2 _ (by rw[List.getLast?_eq_getElem?,hk];exact List.getElem?_eq_getElem hkb)
  have hPk:=pow_pos E0 (k+1)
  rw[if_neg (by omega),show w64 ((b.length:Int)-1)=((k+1:Nat):Int)by rw[qh (by omega) (by omega)];omega,qw,List.getElem?_eq_getElem hkb,Option.bind_some,qh (n:=b[k+1]+1) (by omega) (by omega)]
  have hq:qbK .i64 1000000000 (b[k+1]+1)=some (1000000000/(b[k+1]+1)):=by
   unfold qbK
   have:(1000000000:Int)/(b[k+1]+1)≤1000000000:=Int.ediv_le_self _ (by omega)
   have:0≤(1000000000:Int)/(b[k+1]+1):=Int.ediv_nonneg (by omega) (by omega)
   rw[if_neg (by omega),Int.tdiv_eq_ediv_of_nonneg (by omega)]
   show some (w64 _)=_
   rw[qh (by omega) (by omega)]
  rw[hq,Option.bind_some]
  have f1:=Int.mul_ediv_add_emod 1000000000 (b[k+1]+1)
  have f2:=Int.emod_lt_of_pos 1000000000 (show 0<b[k+1]+1 by omega)
  have f3:=Int.emod_nonneg 1000000000 (show b[k+1]+1≠0 by omega)
  have f0:1≤(1000000000:Int)/(b[k+1]+1):=by
   rw[Int.le_ediv_iff_mul_le (by omega)]
   omega
  have f5:(1000000000:Int)/(b[k+1]+1)≤500000000:=by
   have:(1000000000:Int)/(b[k+1]+1)<500000001:=by
    rw[Int.ediv_lt_iff_lt_mul (by omega)]
    omega
   omega
  generalize hf:(1000000000:Int)/(b[k+1]+1)=f at*
  have f4:250000000≤b[k+1]*f:=by
   rw[Int.add_mul,Int.one_mul]at f1
   have:f≤b[k+1]*f:=by
    have:=Int.mul_le_mul_of_nonneg_right (show 1≤b[k+1]by omega) (show 0≤f by omega)
    omega
   have:b[k+1]≤b[k+1]*f:=by
    have:=Int.mul_le_mul_of_nonneg_left (show 1≤f by omega) (show 0≤b[k+1]by omega)
    omega
   omega
  have fd:Dg E9 [f]:=Dg.cons ⟨by omega,show f<1000000000 by omega⟩ Dg.nil
  have fv:dv E9 [f]=f:=by rw[zb,kC];omega
  have hf0:0<f:=by omega
  rw[qcS hb.1 fd (by omega) (by simp) (by simp;omega),Option.bind_some,qcS ha.1 fd (by omega) (by simp) (by simp;omega),Option.bind_some,fv]
  have V0:0<dv E9 b*f:=Int.mul_pos hb0 hf0
  have ebs:dv E9 b=dv E9 (b.take (k+1))+E9^(k+1)*b[k+1]:=by
   have:=ql E9 b (k+1) hkb
   rw[List.take_of_length_le (by omega)]at this
   exact this
  have blo0:=qA E0 (hb.1.take (k+1))
  have blo1:=vX E0 (hb.1.take (k+1))
  rw[List.length_take,Nat.min_eq_left (by omega)]at blo1
  have Vlow:E9^(k+1)*250000000≤dv E9 b*f:=by
   have h1:=Int.mul_le_mul_of_nonneg_left f4 (Int.le_of_lt hPk)
   rw[ebs,Int.add_mul,Int.mul_assoc]
   have:=Int.mul_nonneg blo0 (Int.le_of_lt hf0)
   omega
  have Vhigh:dv E9 b*f<E9^(k+2):=by
   have h1:(dv E9 b)*f<E9^(k+1)*((b[k+1]+1)*f):=by
    rw[←Int.mul_assoc]
    refine Int.mul_lt_mul_of_pos_right ?_ hf0
    rw[ebs,Int.mul_add,Int.mul_one]
    omega
   have h3:E9^(k+1)*((b[k+1]+1)*f)≤E9^(k+1)*1000000000:=Int.mul_le_mul_of_nonneg_left (by omega) (Int.le_of_lt hPk)
   rw[Int.pow_succ]
   exact Int.lt_of_lt_of_le h1 h3
  have U0:0≤dv E9 a*f:=Int.mul_nonneg A0 (Int.le_of_lt hf0)
  have cu:=zF E1 U0
  have euu:=jo E1 U0
  have hA:=vX E0 ha.1
  have lu:(dg E9 (dv E9 a*f)).length≤a.length+1:=by
   refine(qca E1 U0).2 ?_
   rw[Int.pow_succ]
   have h1:dv E9 a*f<E9^a.length*f:=Int.mul_lt_mul_of_pos_right hA hf0
   have h2:E9^a.length*f≤E9^a.length*E9:=Int.mul_le_mul_of_nonneg_left (show f≤1000000000 by omega) (Int.le_of_lt (pow_pos E0 _))
   omega
  generalize hua:dg E9 (dv E9 a*f)=ua at*
  rw[qcE (by simp;omega) (by simp;omega),Option.bind_some,List.nil_append,qml (by omega) N ua (by omega) lu,Option.bind_some]
  have lU:(ua++List.replicate (a.length+1-ua.length) 0).length=m+k+3:=by simp;omega
  have dU:Dg E9 (ua++List.replicate (a.length+1-ua.length) 0):=cu.1.append (Dg.zeros E0 _)
  have vU:dv E9 (ua++List.replicate (a.length+1-ua.length) 0)=dv E9 a*f:=by rw[yu,yM,Int.mul_zero,Int.add_zero,euu]
  generalize ua++List.replicate (a.length+1-ua.length) 0=U at*
  have cv:=zF E1 (Int.le_of_lt V0)
  have evv:=jo E1 (Int.le_of_lt V0)
  have lv:(dg E9 (dv E9 b*f)).length=k+2:=by
   have h1:=(qca E1 (Int.le_of_lt V0) (n:=k+2)).2 Vhigh
   have h2:=(not_congr (qca E1 (Int.le_of_lt V0) (n:=k+1))).2 (by
    have:E9^(k+1)*1≤E9^(k+1)*250000000:=Int.mul_le_mul_of_nonneg_left (by omega) (Int.le_of_lt hPk)
    omega)
   omega
  generalize hvv:dg E9 (dv E9 b*f)=v at*
  have hkv:k+1<v.length:=by omega
  have hn:1000000≤v[k+1]:=by
   have e:=ql E9 v (k+1) hkv
   rw[List.take_of_length_le (by omega),evv]at e
   have h1:=vX E0 (cv.1.take (k+1))
   rw[List.length_take,Nat.min_eq_left (by omega)]at h1
   have h2:E9^(k+1)*250000000<E9^(k+1)*(v[k+1]+1):=by rw[Int.mul_add,Int.mul_one];omega
   have:=Int.lt_of_mul_lt_mul_left h2 (Int.le_of_lt hPk)
   omega
  have htop:dv E9 (U.drop (m+1))<dv E9 v:=by
   rw[evv]
   have e:=yc E9 U (m+1) (by omega)
   have h1:=qA E0 (dU.take (m+1))
   have h2:dv E9 U<E9^(m+1)*(E9^(k+1)*f):=by
    rw[vU,←Int.mul_assoc,←Int.pow_add,show m+1+(k+1)=a.length by omega]
    exact Int.mul_lt_mul_of_pos_right hA hf0
   have hPm:=pow_pos E0 (m+1)
   have h3:E9^(m+1)*dv E9 (U.drop (m+1))<E9^(m+1)*(E9^(k+1)*f):=by omega
   have h4:=Int.lt_of_mul_lt_mul_left h3 (Int.le_of_lt hPm)
   have h5:E9^(k+1)*f≤E9^(k+1)*(b[k+1]*f):=by
    refine Int.mul_le_mul_of_nonneg_left ?_ (Int.le_of_lt hPk)
    have:=Int.mul_le_mul_of_nonneg_right (show 1≤b[k+1]by omega) (show 0≤f by omega)
    omega
   have h6:E9^(k+1)*(b[k+1]*f)≤dv E9 b*f:=by
    rw[←Int.mul_assoc]
    exact Int.mul_le_mul_of_nonneg_right (by omega) (Int.le_of_lt hf0)
   omega
  rw[show w64 ((U.length:Int)-(v.length:Int))=((m+1:Nat):Int)by rw[qh (by omega) (by omega)];omega,qan (by omega),Option.bind_some,show w64 (((m+1:Nat):Int)-1)=((m+1:Nat):Int)-1 from qh (by omega) (by omega)]
  obtain⟨l,qs,g1,g2,g3,g4,g5,g6,g7⟩:=qjE (N:=N) (by omega) cv.1 lv (by omega) hn (A:=dv E9 U) (m:=m) (by omega) N (m+1) U (List.replicate (m+1) 0) (Nat.le_refl _) (by omega) lU (by simp) dU (Dg.zeros E0 _) (fun j x _ hx=>qg0 j x hx) htop (by rw[yM,Int.mul_zero,Int.add_zero])
  rw[g1,Option.bind_some]
  simp only
  rw[vU]at g7
  rw[evv]at g6 g7
  have hl0:=qA E0 g4
  have eq:dv E9 qs=dv E9 a/dv E9 b:=by
   rw[←Int.mul_ediv_mul_of_pos_left (dv E9 a) (dv E9 b) hf0,←g7,Int.add_mul_ediv_left _ _ (by omega),Int.ediv_eq_zero_of_lt hl0 g6,Int.zero_add]
  have er:dv E9 l=dv E9 a%dv E9 b*f:=by
   have:(dv E9 a*f)%(dv E9 b*f)=dv E9 l:=by rw[←g7,Int.add_mul_emod_self_left,Int.emod_eq_of_lt hl0 g6]
   rw[←this,Int.mul_comm (dv E9 a),Int.mul_comm (dv E9 b),Int.mul_emod_mul_of_pos _ _ hf0,Int.mul_comm]
  have hzl:dv E9 (l.drop (k+2))=0:=qcX g4 (by omega)
  have etk:dv E9 (l.take (k+2))=dv E9 l:=by
   have:=yc E9 l (k+2) (by omega)
   rw[hzl,Int.mul_zero,Int.add_zero]at this
   exact this.symm
  have m0:0≤dv E9 a%dv E9 b:=Int.emod_nonneg _ (by omega)
  have r0:0≤dv E9 a%dv E9 b*f:=Int.mul_nonneg m0 (Int.le_of_lt hf0)
  rw[lv,yl (by omega),Option.bind_some,qbO (g4.take _) (by rw[List.length_take];omega) (by rw[List.length_take];omega),Option.bind_some,etk,er,qa2]
  simp only[List.getElem?_cons_zero,Option.bind_some]
  have lr:(dg E9 (dv E9 a%dv E9 b*f)).length≤20000:=by
   have h1:(dg E9 (dv E9 a%dv E9 b*f)).length≤k+2:=(qca E1 r0).2 (by omega)
   omega
  rw[qfq (zF E1 r0).1 lr (by omega) hf0 (by omega),Option.bind_some,jo E1 r0,Int.mul_ediv_cancel _ (by omega),qbO g5 (by omega) (by omega),Option.bind_some,eq]
abbrev zK (z:Int) (n:Nat):Prop:=(z.natAbs:Int)<E9^n
theorem zK.len {z:Int} {n:Nat} (h:zK z n):(dg E9 z.natAbs).length≤n:=(qca E1 (by omega)).2 h
theorem zK.mono {z:Int} {m n:Nat} (h:zK z m) (hn:m≤n):zK z n:=Int.lt_of_lt_of_le h (vP (by decide) hn)
theorem qfj (z:Int):Can E9 (rI z).w∧dv E9 (rI z).w=(z.natAbs:Int):=⟨zF E1 (by omega),jo E1 (by omega)⟩
theorem qje {N:Nat} (hN:60000<N) {z:Int} (h:zK z 50000):yC N (rI z)=some (rI (-z)):=by
 have l:=h.len
 obtain⟨c,e⟩:=qfj z
 unfold yC
 rw[xC _ c.1 (by show(dg E9 z.natAbs).length≤_;omega) (by show(dg E9 z.natAbs).length<_;omega),Option.bind_some,e]
 have:(if(!(rI z).neg)=true then-(z.natAbs:Int)else(z.natAbs:Int))= -z:=by
  show(if(!decide (z<0))=true then-(z.natAbs:Int)else(z.natAbs:Int))= -z
  by_cases hz:z<0
  ·rw[decide_eq_true hz,if_neg (by simp)];omega
  ·rw[decide_eq_false hz,if_pos (by simp)];omega
 rw[this]
theorem qdN {N:Nat} (hN:60000<N) {a b:Int} (ha:zK a 8000) (hb:zK b 8000):vJ N (rI a) (rI b)=some (rI (a*b)):=by
 have la:=ha.len
 have lb:=hb.len
 obtain⟨ca,ea⟩:=qfj a
 obtain⟨cb,eb⟩:=qfj b
 have l1:(rI a).w.length≤8000:=la
 have l2:(rI b).w.length≤8000:=lb
 have hp:0≤(a.natAbs:Int)*(b.natAbs:Int):=Int.mul_nonneg (by omega) (by omega)
 have lp:(dg E9 ((a.natAbs:Int)*(b.natAbs:Int))).length≤16000:=by
  refine(qca E1 hp).2 ?_
  rw[show 16000=8000+8000 from rfl,Int.pow_add]
  have h1:(a.natAbs:Int)*(b.natAbs:Int)≤(a.natAbs:Int)*E9^8000:=Int.mul_le_mul_of_nonneg_left (Int.le_of_lt hb) (by omega)
  have h2:(a.natAbs:Int)*E9^8000<E9^8000*E9^8000:=Int.mul_lt_mul_of_pos_right ha (pow_pos E0 _)
  omega
 unfold vJ
 rw[qcS ca.1 cb.1 (by omega) (by omega) (by omega),Option.bind_some,ea,eb,xC _ (zF E1 hp).1 (by omega) (by omega),Option.bind_some,jo E1 hp]
 congr 2
 have hab:(a.natAbs:Int)*(b.natAbs:Int)=((a*b).natAbs:Int):=by rw[Int.natAbs_mul,Int.natCast_mul]
 rw[hab]
 show(if(!(decide (a<0)==decide (b<0)))=true then _ else _)=_
 by_cases h1:a<0
 ·by_cases h2:b<0
  ·have:=Int.mul_pos_of_neg_of_neg h1 h2
   rw[decide_eq_true h1,decide_eq_true h2,if_neg (by simp)]
   omega
  ·have:=Int.mul_nonpos_of_nonpos_of_nonneg (show a≤0 by omega) (show 0≤b by omega)
   rw[decide_eq_true h1,decide_eq_false h2,if_pos (by simp)]
   omega
 ·by_cases h2:b<0
  ·have:=Int.mul_nonpos_of_nonneg_of_nonpos (show 0≤a by omega) (show b≤0 by omega)
   rw[decide_eq_false h1,decide_eq_true h2,if_pos (by simp)]
   omega
  ·have:=Int.mul_nonneg (show 0≤a by omega) (show 0≤b by omega)
   rw[decide_eq_false h1,decide_eq_false h2,if_neg (by simp)]
   omega
theorem qoo {N:Nat} (hN:60000<N) {a b:Int} (ha:zK a 9000) (hb:zK b 9000):qby N (rI a) (rI b)=some (rI (a+b)):=by
 have la:=ha.len
 have lb:=hb.len
 obtain⟨ca,ea⟩:=qfj a
 obtain⟨cb,eb⟩:=qfj b
 have l1:(rI a).w.length≤9000:=la
 have l2:(rI b).w.length≤9000:=lb
 have lsub: ∀x y:Int,0≤x-y→0≤y→x<E9^9000→(dg E9 (x-y)).length≤9000:=fun x y h h0 h1=>(qca E1 h).2 (by omega)
 unfold qby
 have hneg:((rI a).neg==(rI b).neg)=(decide (a<0)==decide (b<0)):=rfl
 have na:(rI a).neg=decide (a<0):=rfl
 have nb:(rI b).neg=decide (b<0):=rfl
 rw[hneg]
 by_cases hs:(a<0↔b<0)
 ·obtain⟨l,e,d1,d2,d3⟩:=qh1 (N:=N) ca.1 cb.1 (by omega) (by omega) (by omega)
  rw[if_pos (by rw[beq_iff_eq];exact decide_eq_decide.2 hs),e,Option.bind_some,xC _ d1 (by omega) (by omega),Option.bind_some,d3,ea,eb,na]
  congr 2
  simp only[decide_eq_true_eq]
  split<;>omega
 ·rw[if_neg (by rw[beq_iff_eq];exact fun c=>hs (decide_eq_decide.1 c)),qcu ca cb (by omega) (by omega),Option.bind_some,ea,eb]
  by_cases hc:(a.natAbs:Int)<(b.natAbs:Int)
  ·rw[if_pos hc,if_neg (by omega),qeV cb ca (by omega) (by omega) (by omega),Option.bind_some,ea,eb]
   have h0:0≤(b.natAbs:Int)-(a.natAbs:Int):=by omega
   have ll:=lsub _ _ h0 (by omega) hb
   rw[xC _ (zF E1 h0).1 (by omega) (by omega),Option.bind_some,jo E1 h0,nb]
   congr 2
   simp only[decide_eq_true_eq]
   split<;>omega
  ·rw[if_neg hc,if_pos (by split<;>omega),qeV ca cb (by omega) (by omega) (by omega),Option.bind_some,ea,eb]
   have h0:0≤(a.natAbs:Int)-(b.natAbs:Int):=by omega
   have ll:=lsub _ _ h0 (by omega) ha
   rw[xC _ (zF E1 h0).1 (by omega) (by omega),Option.bind_some,jo E1 h0,na]
   congr 2
   simp only[decide_eq_true_eq]
   split<;>omega
theorem qdL {x y:Int} (hx:0≤x) (h:x≤y): ∀n:Nat,0≤x^n∧x^n≤y^n
 |0=>by simp
 |n+1=>by
  have ih:=qdL hx h n
  rw[Int.pow_succ,Int.pow_succ]
  exact⟨Int.mul_nonneg ih.1 hx,Int.mul_le_mul ih.2 h hx (Int.le_trans ih.1 ih.2)⟩
theorem qg2 {N:Nat} (hN:60000<N) (B:Nat) (hB:B≤8000): ∀(k K:Nat) (a b:Int),0≤a→0≤b→b<2^k→2*k+2≤K→zK a B→zK b B→kz N K (dg E9 a) (dg E9 b)=some (dg E9 (Int.gcd a b:Int))
 |k,0,a,b,_,_,_,hK,_,_=>by omega
 |k,K+1,a,b,ha,hb,hk,hK,fa,fb=>by
  have na:(a.natAbs:Int)=a:=by omega
  have nb:(b.natAbs:Int)=b:=by omega
  have done:b=0→kz N (K+1) (dg E9 a) (dg E9 b)=some (dg E9 (Int.gcd a b:Int)):=by
   intro h0
   subst h0
   rw[kz,qcN,if_neg (by simp),Int.gcd_zero,na]
  rcases(show b=0∨0<b by omega)with h0|h0
  ·exact done h0
  ·match k,hk,hK with
   |0,hk,hK=>simp at hk;omega
   |k+1,hk,hK=>
    have m0:=Int.emod_nonneg a (show b≠0 by omega)
    have m1:=Int.emod_lt_of_pos a h0
    have la:=fa.len
    have lb:=fb.len
    rw[na]at la
    rw[nb]at lb
    have lpos:0<(dg E9 b).length:=by
     rw[List.length_pos_iff]
     intro c
     have:=(qgF E1 hb).1 c
     omega
    have fr:zK (a%b) B:=by unfold zK at fb⊢;omega
    rw[kz,if_pos (by omega),qcC hN (zF E1 ha) (zF E1 hb) (by omega) (by rw[jo E1 hb];exact h0),Option.bind_some,jo E1 ha,jo E1 hb]
    simp only
    rw[qcd ha hb]
    match K,hK with
    |0,hK=>omega
    |K+1,hK=>
     rcases(show a%b=0∨0<a%b by omega)with g0|g0
     ·rw[g0,kz,qcN,if_neg (by simp),Int.gcd_zero,nb]
     ·have lr:=fr.len
      rw[show((a%b).natAbs:Int)=a%b by omega]at lr
      have lpos2:0<(dg E9 (a%b)).length:=by
       rw[List.length_pos_iff]
       intro c
       have:=(qgF E1 m0).1 c
       omega
      have n0:=Int.emod_nonneg b (show a%b≠0 by omega)
      have n1:=Int.emod_lt_of_pos b g0
      rw[kz,if_pos (by omega),qcC hN (zF E1 hb) (zF E1 m0) (by omega) (by rw[jo E1 m0];exact g0),Option.bind_some,jo E1 hb,jo E1 m0]
      have hhalf:b%(a%b)<2^k:=by
       have d1:=Int.mul_ediv_add_emod b (a%b)
       have d2:1≤b/(a%b):=by
        rw[Int.le_ediv_iff_mul_le g0]
        omega
       have d3:a%b*1≤a%b*(b/(a%b)):=Int.mul_le_mul_of_nonneg_left d2 (by omega)
       rw[Int.pow_succ]at hk
       omega
      simp only
      rw[qcd hb m0]
      exact qg2 hN B hB k K (a%b) (b%(a%b)) m0 n0 hhalf (by omega) fr (by unfold zK at fr⊢;omega)
theorem qho {N:Nat} (hN:600000<N) {a b:Int} (ha:0≤a) (hb:0≤b) (fa:zK a 8000) (fb:zK b 8000):xE N (dg E9 a) (dg E9 b)=some (dg E9 (Int.gcd a b:Int)):=by
 have h2:b<2^(30*8000):=by
  have e:(2:Int)^(30*8000)=1073741824^8000:=by rw[Int.pow_mul,show(2:Int)^30=1073741824 from rfl]
  rw[e]
  have:E9^8000≤(1073741824:Int)^8000:=(qdL (by decide) (by decide) _).2
  unfold zK at fb
  omega
 unfold xE
 rw[qg2 (by omega) 8000 (Nat.le_refl _) (30*8000) N a b ha hb h2 (by omega) fa fb,Option.bind_some]
end Go.Av
end
section
namespace Go.Av
set_option linter.unusedVariables false
set_option linter.unusedSimpArgs false
set_option maxRecDepth 100000
def jZ (c:UInt8):Bool:=decide (48≤c.toNat)&&decide (c.toNat≤57)
def qM (n:Nat) (s:List UInt8):Nat:=s.foldl (fun a c=>a*10+(c.toNat-48)) n
theorem qbD (n:Nat):qM n []=n:=List.foldl_nil
theorem qaO (n:Nat) (c:UInt8) (s:List UInt8):qM n (c::s)=qM (n*10+(c.toNat-48)) s:=by
 unfold qM
 rw[List.foldl_cons]
theorem qdR (s:List UInt8): ∀n:Nat,s.all jZ=true→qM n s<(n+1)*10^s.length:=by
 induction s with
 |nil=>
  intro n _
  rw[List.length_nil,Nat.pow_zero,Nat.mul_one,qbD]
  exact Nat.lt_succ_self n
 |cons c s ih=>
  intro n h
  rw[List.all_cons,Bool.and_eq_true]at h
  have h1:=ih (n*10+(c.toNat-48)) h.2
  have hd:c.toNat-48≤9:=by
   have:=h.1
   simp[jZ]at this
   omega
  have h2:n*10+(c.toNat-48)+1≤(n+1)*10:=by omega
  rw[qaO,List.length_cons,Nat.pow_succ,Nat.mul_comm (10^s.length) 10,←Nat.mul_assoc]
  exact Nat.lt_of_lt_of_le h1 (Nat.mul_le_mul_right _ h2)
theorem ne48 {c:UInt8} (h: ¬c=48): ¬((c.toNat:Int)=48):=fun e=>h (UInt8.toNat_inj.1 (show c.toNat=48 from by omega))
theorem qnJ (c:UInt8):([48,49,50,51,52,53,54,55,56,57]:Str).contains c=jZ c:=by
 rw[Bool.eq_iff_iff]
 simp only[List.contains_cons,List.contains_nil,Bool.or_eq_true,beq_iff_eq,jZ,Bool.and_eq_true,decide_eq_true_eq,←UInt8.toNat_inj,Bool.or_false]
 simp only[show(48:UInt8).toNat=48 from rfl,show(49:UInt8).toNat=49 from rfl,show(50:UInt8).toNat=50 from rfl,show(51:UInt8).toNat=51 from rfl,show(52:UInt8).toNat=52 from rfl,show(53:UInt8).toNat=53 from rfl,show(54:UInt8).toNat=54 from rfl,show(55:UInt8).toNat=55 from rfl,show(56:UInt8).toNat=56 from rfl,show(57:UInt8).toNat=57 from rfl]
 omega
theorem qb7 {α:Type} {p:α→Bool}: ∀{l:List α},l.dropWhile p=[]↔l.all p=true
 |[]=>by simp
 |x::l=>by
  rw[List.dropWhile_cons,List.all_cons]
  by_cases h:p x=true
  ·rw[if_pos h,h,Bool.true_and];exact qb7
  ·rw[if_neg h];simp[h]
theorem qlM {s:Str}:(Lib.trimS s [48,49,50,51,52,53,54,55,56,57]==[])=s.all jZ:=by
 have e:(fun c=>([48,49,50,51,52,53,54,55,56,57]:Str).contains c)=jZ:=funext qnJ
 unfold Lib.trimS Lib.trimLeftS Lib.trimRightS
 rw[e]
 rw[Bool.eq_iff_iff,beq_iff_eq,qb7,List.all_reverse]
 constructor
 ·intro h
  have h2: ∀x∈s.reverse.takeWhile jZ++s.reverse.dropWhile jZ,jZ x=true:=by
   intro x hx
   rcases List.mem_append.1 hx with hx|hx
   ·exact List.all_eq_true.1 List.all_takeWhile x hx
   ·exact List.all_eq_true.1 h x hx
  rw[List.takeWhile_append_dropWhile]at h2
  exact List.all_eq_true.2 fun x hx=>h2 x (by simpa using hx)
 ·intro h
  have:s.reverse.dropWhile jZ=[]:=qb7.2 (by rw[List.all_reverse];exact h)
  rw[this]
  rfl
theorem qf6: ∀(s:Str) (n:Nat),s.all jZ=true→Lib.decFrom n s=some (qM n s)
 |[],n,_=>rfl
 |c::s,n,h=>by
  rw[List.all_cons,Bool.and_eq_true]at h
  unfold Lib.decFrom
  rw[qaO]
  have h1:48≤c.toNat∧c.toNat≤57:=by simpa[jZ]using h.1
  have e:Lib.digitVal c=some (c.toNat-48):=by unfold Lib.digitVal;rw[if_pos h1]
  rw[e]
  exact qf6 s _ h.2
theorem qjt {s:Str} (h0:1≤s.length) (h:s.all jZ=true):Lib.atoi s=some ((qM 0 s:Nat):Int):=by
 cases s with
 |nil=>simp at h0
 |cons c s=>
  have hc:jZ c=true:=by rw[List.all_cons,Bool.and_eq_true]at h;exact h.1
  have h1:48≤c.toNat∧c.toNat≤57:=by simpa[jZ]using hc
  unfold Lib.atoi Lib.decNat
  have n1: ¬(c==45)=true:=fun e=>by rw[beq_iff_eq.1 e]at h1;simp at h1
  have n2: ¬(c==43)=true:=fun e=>by rw[beq_iff_eq.1 e]at h1;simp at h1
  simp only
  rw[if_neg n1,if_neg n2,if_neg (by simp),qf6 _ _ h]
  rfl
theorem qmD (s:List UInt8): ∀n:Nat,qM n s=n*10^s.length+qM 0 s:=by
 induction s with
 |nil=>intro n;rw[qbD,qbD];simp
 |cons c s ih=>
  intro n
  rw[qaO,qaO,ih,ih (0*10+_),List.length_cons,Nat.pow_succ,Nat.zero_mul,Nat.zero_add,Nat.add_mul]
  rw[Nat.mul_assoc,Nat.mul_comm 10,←Nat.add_assoc]
theorem qdq (s t:List UInt8):qM 0 (s++t)=qM 0 s*10^t.length+qM 0 t:=by
 have:qM 0 (s++t)=qM (qM 0 s) t:=by unfold qM;rw[List.foldl_append]
 rw[this,qmD]
theorem qfa (s:List UInt8) (c:UInt8):qM 0 (s++[c])=qM 0 s*10+(c.toNat-48):=by
 rw[qdq]
 simp[qaO,qbD]
def dch (n:Nat):UInt8:=UInt8.ofNat (48+n)
theorem qfR {n:Nat} (h:n<10):(dch n).toNat=48+n:=by
 unfold dch
 rw[UInt8.toNat_ofNat']
 omega
theorem qk9 {n:Nat} (h:n<10):jZ (dch n)=true:=by
 unfold jZ
 rw[qfR h,Bool.and_eq_true,decide_eq_true_eq,decide_eq_true_eq]
 omega
theorem qkK {c:UInt8} (h:jZ c=true):c=dch (c.toNat-48)∧c.toNat-48<10:=by
 unfold jZ at h
 rw[Bool.and_eq_true,decide_eq_true_eq,decide_eq_true_eq]at h
 refine⟨?_,by omega⟩
 rw[←UInt8.toNat_inj,qfR (by omega)]
 omega
def qda:Nat→Nat→Str
 |0,_=>[]
 |k+1,n=>qda k (n/10)++[dch (n%10)]
theorem qgr: ∀k n,(qda k n).length=k
 |0,n=>rfl
 |k+1,n=>by rw[qda,List.length_append,qgr];rfl
theorem ve {n:Nat} (h:n<10):Lib.decDigits n=[dch n]:=by rw[Lib.decDigits,dif_pos h];rfl
theorem qff {n:Nat} (h: ¬n<10):Lib.decDigits n=Lib.decDigits (n/10)++[dch (n%10)]:=by rw[Lib.decDigits,dif_neg h];rfl
theorem qf5: ∀(k n:Nat),0<n/10^k→Lib.decDigits n=Lib.decDigits (n/10^k)++qda k (n%10^k)
 |0,n,_=>by simp[qda]
 |k+1,n,h=>by
  have e1:n/10^(k+1)=n/10/10^k:=by rw[Nat.pow_succ,Nat.mul_comm,Nat.div_div_eq_div_mul]
  have hp:0<10^k:=Nat.pow_pos (by decide)
  have h10: ¬n<10:=fun c=>by
   rw[e1,Nat.div_eq_of_lt c,Nat.zero_div]at h
   omega
  have e2:n%10^(k+1)/10=n/10%10^k:=by rw[Nat.pow_succ,Nat.mul_comm,Nat.mod_mul_right_div_self]
  have e3:n%10^(k+1)%10=n%10:=Nat.mod_mod_of_dvd _ ⟨10^k,by rw[Nat.pow_succ,Nat.mul_comm]⟩
  rw[qff h10,qf5 k (n/10) (by rw[←e1];exact h),qda,e2,e3,e1,List.append_assoc]
theorem qa9 (n:Nat):(Lib.decDigits n).all jZ=true:=by
 induction n using Nat.strongRecOn with
 |_ n ih=>
  by_cases h:n<10
  ·rw[ve h,List.all_cons,qk9 h];rfl
  ·rw[qff h,List.all_append,ih _ (by omega),List.all_cons,qk9 (by omega)];rfl
theorem qdn (n:Nat):qM 0 (Lib.decDigits n)=n:=by
 induction n using Nat.strongRecOn with
 |_ n ih=>
  by_cases h:n<10
  ·rw[ve h,qaO,qbD,qfR h];omega
  ·rw[qff h,qfa,ih _ (by omega),qfR (by omega)];omega
theorem qj9 (n:Nat):0<(Lib.decDigits n).length:=by rw[Lib.decDigits_length];exact Lib.nDigits_pos n
theorem qoQ {m n:Nat} (h:Lib.decDigits m=Lib.decDigits n):m=n:=by rw[←qdn m,h,qdn]
theorem qaE {n k:Nat} (hk:0<k):(Lib.decDigits n).length≤k↔n<10^k:=by
 constructor
 ·intro h
  have:=qdR (Lib.decDigits n) 0 (qa9 n)
  rw[qdn]at this
  have h2:(10:Nat)^(Lib.decDigits n).length≤10^k:=Nat.pow_le_pow_right (by omega) h
  omega
 ·intro h
  rcases Nat.lt_or_ge k (Lib.decDigits n).length with c|c
  ·exfalso
   rw[Lib.decDigits_length]at c
   obtain⟨m,hm⟩: ∃m,Lib.nDigits n=m+2:=⟨Lib.nDigits n-2,by omega⟩
   have hlow: ∀(n m:Nat),Lib.nDigits n=m+2→10^(m+1)≤n:=by
    intro n
    induction n using Nat.strongRecOn with
    |_ n ih=>
     intro m hm
     by_cases h:n<10
     ·rw[Lib.nDigits_small h]at hm;omega
     ·rw[Lib.nDigits_big h]at hm
      cases m with
      |zero=>simp;omega
      |succ m=>
       have:=ih (n/10) (by omega) m (by omega)
       rw[Nat.pow_succ]
       omega
   have:=hlow n m hm
   have h2:(10:Nat)^k≤10^(m+1):=Nat.pow_le_pow_right (by omega) (by omega)
   omega
  ·exact c
def Dec (s:Str):Prop:=0<s.length∧s.all jZ=true∧(s[0]? =some 48→s=[48])
instance (s:Str):Decidable (Dec s):=by unfold Dec;infer_instance
theorem qll {c:UInt8} (h:jZ c=true):Dec [c]:=⟨by simp,by simp[h],fun e=>by simp at e;rw[e]⟩
theorem qmN: ∀(k:Nat) (s:Str),s.length≤k→Dec s→s=Lib.decDigits (qM 0 s)
 |0,s,h,hd=>by have:=hd.1;omega
 |k+1,s,h,hd=>by
  rcases List.eq_nil_or_concat s with e|⟨t,c,e⟩
  ·rw[e]at hd;exact absurd hd.1 (by simp)
  ·rw[List.concat_eq_append]at e
   subst e
   have ha:=hd.2.1
   rw[List.all_append,Bool.and_eq_true,List.all_cons,List.all_nil,Bool.and_true]at ha
   obtain⟨ec,hc⟩:=qkK ha.2
   by_cases ht:t=[]
   ·subst ht
    rw[List.nil_append,qaO,qbD,Nat.zero_mul,Nat.zero_add,ve hc,←ec]
   ·have htl:0<t.length:=List.length_pos_iff.2 ht
    have h0:t[0]? ≠some 48:=fun e=>by
     have:=hd.2.2 (by rw[List.getElem?_append_left htl];exact e)
     have:=congrArg List.length this
     rw[List.length_append,List.length_singleton,List.length_singleton]at this
     omega
    have hD:Dec t:=⟨htl,ha.1,fun e=>absurd e h0⟩
    have ih:=qmN k t (by simp at h;omega) hD
    have hv:qM 0 t≠0:=fun e=>by
     rw[e]at ih
     exact h0 (by rw[ih,ve (by decide)];rfl)
    rw[qfa,qff (by omega),show(qM 0 t*10+(c.toNat-48))/10=qM 0 t by omega,show(qM 0 t*10+(c.toNat-48))%10=c.toNat-48 by omega,←ih,←ec]
theorem Dec.eq {s:Str} (h:Dec s):s=Lib.decDigits (qM 0 s):=qmN s.length s (Nat.le_refl _) h
end Go.Av
end
section
namespace Go.Av
set_option linter.unusedVariables false
set_option linter.unusedSimpArgs false
set_option maxRecDepth 100000
theorem qaL {a b:Str} (h:a.length+b.length≤1000000000):cat a b=some (a++b):=by
 unfold cat
 rw[if_pos (by omega)]
theorem dcut {d:Nat} (h:d<10):cut ([48,49,50,51,52,53,54,55,56,57]:Str) (d:Int) (w64 ((d:Int)+1))=some [dch d]:=by
 rw[zL (by omega)]
 rcases(show d=0∨d=1∨d=2∨d=3∨d=4∨d=5∨d=6∨d=7∨d=8∨d=9 by omega)with e|e|e|e|e|e|e|e|e|e<;>subst e<;>decide
theorem tm10 (n:Nat):(n:Int).tmod 10=((n%10:Nat):Int):=by rw[Int.tmod_eq_emod_of_nonneg (by omega)];omega
theorem td10 (n:Nat):(n:Int).tdiv 10=((n/10:Nat):Int):=by rw[Int.tdiv_eq_ediv_of_nonneg (by omega)];omega
theorem qe5 {least:Int} {K n:Nat} {s:Str} (hn:n<9223372036854775808) (hs:s.length≤1000) (h:0<n∨(s.length:Int)<least):qK least (K+1) (n:Int) s=qK least K ((n/10:Nat):Int) (dch (n%10)::s):=by
 have cond:(if(n:Int)>0 then some true else some (decide ((s.length:Int)<least)):Option Bool)=some true:=by
  by_cases c:(n:Int)>0
  ·rw[if_pos c]
  ·rw[if_neg c,decide_eq_true (by omega)]
 rw[qK,cond,Option.bind_some,if_pos rfl,tm10,td10,dcut (by omega),Option.bind_some,qaL (by simp;omega),Option.bind_some,qh (by omega) (by omega)]
 rfl
theorem qfk {least:Int} {K:Nat} {s:Str} (h: ¬(s.length:Int)<least):qK least (K+1) 0 s=some s:=by
 rw[qK,if_neg (by omega),decide_eq_false h,Option.bind_some,if_neg (by simp)]
theorem qjb: ∀(k K n:Nat) (s:Str),n<10^k→s.length+k=9→k<K→qK 9 K (n:Int) s=some (qda k n++s)
 |k,0,n,s,_,_,h=>by omega
 |0,K+1,n,s,hn,hs,h=>by
  simp at hn
  subst hn
  exact qfk (by omega)
 |k+1,K+1,n,s,hn,hs,h=>by
  have h9:(10:Nat)^(k+1)≤10^9:=Nat.pow_le_pow_right (by omega) (by omega)
  rw[Nat.pow_succ]at hn
  rw[qe5 (by rw[Nat.pow_succ]at h9;omega) (by omega) (.inr (by omega)),qjb k K (n/10) _ (by omega) (by simp;omega) (by omega),qda,List.append_assoc]
  rfl
theorem qjD: ∀(k K n:Nat) (s:Str),0<n→n<10^k→n<9223372036854775808→s.length+k≤900→k<K→qK 1 K (n:Int) s=some (Lib.decDigits n++s)
 |k,0,n,s,_,_,_,_,h=>by omega
 |0,K+1,n,s,h0,hn,_,hs,h=>by simp at hn;omega
 |k+1,K+1,n,s,h0,hn,h63,hs,h=>by
  rw[Nat.pow_succ]at hn
  rw[qe5 h63 (by omega) (.inl h0)]
  by_cases c:n<10
  ·obtain⟨K2,rfl⟩: ∃K2,K=K2+1:=⟨K-1,by omega⟩
   rw[show n/10=0 by omega,ve c,show n%10=n by omega]
   exact qfk (by simp;omega)
  ·rw[qjD k K (n/10) _ (by omega) (by omega) (by omega) (by simp;omega) (by omega),qff c,List.append_assoc]
   rfl
theorem qmJ {N n:Nat} (hN:100<N) (h:n<1000000000):zk N (n:Int) 9=some (qda 9 n):=by
 unfold zk
 rw[qjb 9 N n [] h rfl (by omega),Option.bind_some,List.append_nil]
theorem qgh {N n:Nat} (hN:100<N) (h:n<9223372036854775808):zk N (n:Int) 1=some (Lib.decDigits n):=by
 unfold zk
 rcases Nat.eq_zero_or_pos n with e|e
 ·subst e
  obtain⟨K,rfl⟩: ∃K,N=K+1+1:=⟨N-2,by omega⟩
  have h1:=qe5 (least:=1) (K:=K+1) (n:=0) (s:=[]) (by omega) (by simp) (.inr (by simp))
  rw[h1,Nat.zero_div]
  have h2:=qfk (least:=1) (K:=K) (s:=[dch (0%10)]) (by simp)
  have h2:qK 1 (K+1) ((0:Nat):Int) [dch (0%10)]=_:=h2
  rw[h2,Option.bind_some,ve (by decide)]
 ·rw[qjD 19 N n [] e (by omega) h (by simp) (by omega),Option.bind_some,List.append_nil]
theorem qg3: ∀k:Nat,E9^k=((10^(9*k):Nat):Int)
 |0=>rfl
 |k+1=>by
  rw[Int.pow_succ,qg3 k,Nat.mul_succ,Nat.pow_add,Int.natCast_mul]
  rfl
def nv (w:List Int):Nat:=(dv E9 w).toNat
theorem qir {w:List Int} (h:Dg E9 w):(nv w:Int)=dv E9 w:=by
 have:=qA E0 h
 unfold nv
 omega
theorem nv_lt {w:List Int} (h:Dg E9 w):nv w<10^(9*w.length):=by
 have h1:=vX E0 h
 rw[qg3,←qir h]at h1
 omega
theorem qhp {w:List Int} (h:Dg E9 w):(Lib.decDigits (nv w)).length≤9*w.length+1:=by
 refine(qaE (by omega)).2 ?_
 have:=nv_lt h
 rw[Nat.pow_succ]
 omega
theorem qky {w:List Int} (h:Dg E9 w) {i:Nat} (hi:i<w.length):nv (w.drop i)=w[i].toNat+1000000000*nv (w.drop (i+1)):=by
 have h1:=qir (h.drop i)
 have h2:=qir (h.drop (i+1))
 have h3:=(h.at hi).1
 rw[qgk w hi]at h1
 have h4:E9*dv E9 (w.drop (i+1))=1000000000*dv E9 (w.drop (i+1)):=rfl
 omega
theorem qja {N:Nat} (hN:100<N) {a:qB} (ha:Dg E9 a.w) (hal:a.w.length≤100000): ∀(K i:Nat),i≤a.w.length→i<K→0<nv (a.w.drop i)→jR N a K (Lib.decDigits (nv (a.w.drop i))) ((i:Int)-1)=some (Lib.decDigits (nv a.w))
 |0,i,_,h,_=>by omega
 |K+1,0,_,_,_=>by
  rw[jR,if_neg (by omega),List.drop_zero]
 |K+1,i+1,hi,h,hp=>by
  have hil:i<a.w.length:=by omega
  have ax:=ha.at hil
  have ax2:a.w[i]<1000000000:=ax.2
  have ei:((i+1:Nat):Int)-1=(i:Int):=by omega
  have ed:a.w[i]=(a.w[i].toNat:Int):=by omega
  have el:=qky ha hil
  have ll:=qhp (ha.drop (i+1))
  rw[List.length_drop]at ll
  rw[jR,ei,if_pos (by omega),qw,List.getElem?_eq_getElem hil,Option.bind_some]
  have e9:zk N a.w[i] 9=some (qda 9 a.w[i].toNat):=by
   conv=>lhs;rw[ed]
   exact qmJ hN (by omega)
  rw[e9,Option.bind_some,qaL (by rw[qgr];omega),Option.bind_some,qh (by omega) (by omega)]
  have e10:Lib.decDigits (nv (a.w.drop (i+1)))++qda 9 a.w[i].toNat=Lib.decDigits (nv (a.w.drop i)):=by
   have h9:(10:Nat)^9=1000000000:=rfl
   have q:nv (a.w.drop i)/10^9=nv (a.w.drop (i+1)):=by rw[h9];omega
   have r:nv (a.w.drop i)%10^9=a.w[i].toNat:=by rw[h9];omega
   rw[qf5 9 (nv (a.w.drop i)) (by rw[q];exact hp),q,r]
  rw[e10]
  exact qja hN ha hal K i (by omega) (by omega) (by omega)
theorem vF {z:Int} (h:z<0):Lib.itoa z=45::Lib.decDigits z.natAbs:=by unfold Lib.itoa;rw[if_pos h]
theorem zH {z:Int} (h: ¬z<0):Lib.itoa z=Lib.decDigits z.natAbs:=by
 unfold Lib.itoa
 rw[if_neg h,show z.toNat=z.natAbs by omega]
theorem qlm {N:Nat} (hN:60000<N) {z:Int} (h:zK z 50000):qaK N (rI z)=some (Lib.itoa z):=by
 obtain⟨c,e⟩:=qfj z
 have l:(rI z).w.length≤50000:=h.len
 have en:nv (rI z).w=z.natAbs:=by unfold nv;rw[e];omega
 have ng:(rI z).neg=decide (z<0):=rfl
 unfold qaK
 by_cases h0:(rI z).w.length=0
 ·have hz:z=0:=by
   rw[List.length_eq_zero_iff.1 h0,kC]at e
   omega
  rw[if_pos (by omega),hz]
  have:Lib.itoa 0=[48]:=by rw[zH (by decide)];exact ve (by decide)
  rw[this]
 ·have hk:(rI z).w.length-1<(rI z).w.length:=by omega
  have ax:=c.1.at hk
  have ax2:(rI z).w[(rI z).w.length-1]<1000000000:=ax.2
  have an:(rI z).w[(rI z).w.length-1]≠0:=c.2 _ (by rw[List.getLast?_eq_getElem?];exact List.getElem?_eq_getElem hk)
  have ed:(rI z).w[(rI z).w.length-1]=((rI z).w[(rI z).w.length-1].toNat:Int):=by omega
  have e1:nv ((rI z).w.drop ((rI z).w.length-1))=(rI z).w[(rI z).w.length-1].toNat:=by
   rw[qky c.1 hk,List.drop_of_length_le (by omega)]
   rfl
  have e2:zk N (rI z).w[(rI z).w.length-1] 1=some (Lib.decDigits (nv ((rI z).w.drop ((rI z).w.length-1)))):=by
   conv=>lhs;rw[ed]
   rw[e1]
   exact qgh (by omega) (by omega)
  have e3:=qja (N:=N) (by omega) c.1 (by omega) N ((rI z).w.length-1) (by omega) (by omega) (by rw[e1];omega)
  have ll:=qhp c.1
  rw[if_neg (by omega),qh9 (by omega) (by omega),qw,List.getElem?_eq_getElem hk,Option.bind_some,e2,Option.bind_some,show w64 (((rI z).w.length:Int)-2)=(((rI z).w.length-1:Nat):Int)-1 by rw[qh (by omega) (by omega)];omega,e3,Option.bind_some,ng]
  by_cases hz:z<0
  ·rw[decide_eq_true hz,if_pos rfl,qaL (by simp;omega),Option.bind_some,vF hz,en]
   rfl
  ·rw[decide_eq_false hz,if_neg (by simp),zH hz,en]
theorem qjB {s:Str} (hd:s.all jZ=true) (hl:s.length≤18): ∀(K i:Nat),i≤s.length→s.length<K+i→jJ s K ((qM 0 (s.take i):Nat):Int) (i:Int)=some ((qM 0 s:Nat):Int)
 |0,i,h,hK=>by omega
 |K+1,i,h,hK=>by
  rw[jJ]
  by_cases hi:i<s.length
  ·have ht:s.take (i+1)=s.take i++[s[i]]:=List.take_succ_eq_append_getElem hi
   have hc:jZ s[i]=true:=List.all_eq_true.1 hd _ (List.getElem_mem hi)
   obtain⟨_,hc2⟩:=qkK hc
   have hc1:48≤s[i].toNat:=by
    unfold jZ at hc
    rw[Bool.and_eq_true,decide_eq_true_eq]at hc
    exact hc.1
   have hv:=qdR (s.take i) 0 (List.all_eq_true.2 fun x hx=>List.all_eq_true.1 hd x (List.mem_of_mem_take hx))
   have hp:(10:Nat)^(s.take i).length≤10^17:=Nat.pow_le_pow_right (by omega) (by rw[List.length_take];omega)
   have hp2:(10:Nat)^17=100000000000000000:=rfl
   rw[if_pos (by omega),qw,List.getElem?_eq_getElem hi,Option.bind_some,qh (n:=10*((qM 0 (s.take i):Nat):Int)) (by omega) (by omega),qh (n:=(s[i].toNat:Int)) (by omega) (by omega),qh (n:=10*((qM 0 (s.take i):Nat):Int)+(s[i].toNat:Int)) (by omega) (by omega),qh (by omega) (by omega),zL (by omega)]
   have e:10*((qM 0 (s.take i):Nat):Int)+(s[i].toNat:Int)-48=((qM 0 (s.take (i+1)):Nat):Int):=by rw[ht,qfa];omega
   rw[e]
   exact qjB hd hl K (i+1) (by omega) (by omega)
  ·rw[if_neg (by omega),List.take_of_length_le (by omega)]
theorem qeY {N:Nat} (hN:100<N) {s:Str} (hd:s.all jZ=true) (hl:s.length≤18):yw N s=some ((qM 0 s:Nat):Int):=by
 have e:=qjB hd hl N 0 (by omega) (by omega)
 have e:jJ s N 0 0=_:=e
 unfold yw
 rw[e,Option.bind_some]
theorem qgJ {s:Str} (h:s.all jZ=true) (k:Nat):(s.take k).all jZ=true:=List.all_eq_true.2 fun x hx=>List.all_eq_true.1 h x (List.mem_of_mem_take hx)
theorem qgx {s:Str} (h:s.all jZ=true) (k:Nat):(s.drop k).all jZ=true:=List.all_eq_true.2 fun x hx=>List.all_eq_true.1 h x (List.mem_of_mem_drop hx)
theorem qiW {N:Nat} (hN:100<N): ∀(K:Nat) (l:List Int) (s:Str),s.all jZ=true→l.length+s.length≤90000→s.length<K→Dg E9 l→
 ∃l' s',j6 N K l s=some (l',s')∧s'.length≤9∧s'.all jZ=true∧Dg E9 l'∧l'.length≤90000∧dv E9 l'+E9^l'.length*(qM 0 s':Nat)=dv E9 l+E9^l.length*(qM 0 s:Nat)
 |0,l,s,_,_,h,_=>by omega
 |K+1,l,s,hd,hl,h,hg=>by
  rw[j6]
  by_cases c:s.length>9
  ·have lu:(s.drop (s.length-9)).length=9:=by rw[List.length_drop];omega
   have hv:=qeY (N:=N) hN (qgx hd (s.length-9)) (by omega)
   have hv2:=qdR _ 0 (qgx hd (s.length-9))
   rw[lu]at hv2
   rw[if_pos (by omega),show w64 ((s.length:Int)-9)=((s.length-9:Nat):Int)by rw[qh (by omega) (by omega)];omega,yN (by omega),Option.bind_some,hv,Option.bind_some,qcE (by simp;omega) (by simp;omega),Option.bind_some,yl (by omega),Option.bind_some]
   obtain⟨l',s',f1,f2,f3,f4,f5,f6⟩:=qiW hN K (l++[((qM 0 (s.drop (s.length-9)):Nat):Int)]) (s.take (s.length-9)) (qgJ hd _) (by simp;omega) (by rw[List.length_take];omega) (hg.append (Dg.cons ⟨by omega,show((qM 0 (s.drop (s.length-9)):Nat):Int)<1000000000 by omega⟩ Dg.nil))
   refine⟨l',s',f1,f2,f3,f4,f5,?_⟩
   rw[f6,qdW,List.length_append,List.length_singleton,Int.pow_succ,Int.mul_assoc]
   have e:qM 0 s=qM 0 (s.take (s.length-9))*1000000000+qM 0 (s.drop (s.length-9)):=by
    have:=qdq (s.take (s.length-9)) (s.drop (s.length-9))
    rw[List.take_append_drop,lu]at this
    exact this
   have e2:((qM 0 s:Nat):Int)=((qM 0 (s.drop (s.length-9)):Nat):Int)+E9*((qM 0 (s.take (s.length-9)):Nat):Int):=by
    have h4:E9*((qM 0 (s.take (s.length-9)):Nat):Int)=1000000000*((qM 0 (s.take (s.length-9)):Nat):Int):=rfl
    omega
   rw[e2,Int.mul_add]
   omega
  ·rw[if_neg (by omega)]
   exact⟨l,s,rfl,by omega,hd,hg,by omega,rfl⟩
def sgn (s:Str):Bool:=decide (s[0]? =some 45)
def bdy (s:Str):Str:=if sgn s=true then s.drop 1 else s
theorem qex (s:Str):(if(s.length:Int)>0 then(idx s 0).bind fun c=>some (decide ((c.toNat:Int)=45))else some false:Option Bool)=some (sgn s):=by
 unfold sgn
 cases s with
 |nil=>rfl
 |cons c t=>
  rw[if_pos (by simp),qa2]
  have e:((c.toNat:Int)=45)↔(some c=some (45:UInt8)):=⟨fun h=>congrArg some (UInt8.toNat_inj.1 (show c.toNat=45 by omega)),fun h=>by rw[Option.some.inj h];rfl⟩
  simp only[List.getElem?_cons_zero,Option.bind_some]
  congr 1
  exact decide_eq_decide.2 e
theorem qkn (s:Str):(if sgn s=true then(cut s 1 (s.length:Int)).bind fun x=>some x else some s:Option Str)=some (bdy s):=by
 unfold bdy
 cases h:sgn s with
 |false=>rw[if_neg (by simp),if_neg (by simp)]
 |true=>
  have hl:1≤s.length:=by
   cases s with
   |nil=>simp[sgn]at h
   |cons=>simp
  have:=yN hl
  have e:cut s 1 (s.length:Int)=some (s.drop 1):=this
  rw[if_pos rfl,if_pos rfl,e,Option.bind_some]
def qit (s:Str):Int:=if sgn s=true then-((qM 0 (bdy s):Nat):Int)else((qM 0 (bdy s):Nat):Int)
theorem qgS {N:Nat} (hN:100000<N) {s:Str} (hd:(bdy s).all jZ=true) (hl:(bdy s).length≤80000):xx N s=some (rI (qit s)):=by
 unfold xx
 rw[qex,Option.bind_some,qkn,Option.bind_some]
 obtain⟨l,t,f1,f2,f3,f4,f5,f6⟩:=qiW (N:=N) (by omega) N [] (bdy s) hd (by simp;omega) (by omega) Dg.nil
 have hv:=qeY (N:=N) (by omega) f3 (by omega)
 have hv2:=qdR _ 0 f3
 have hp:(10:Nat)^t.length≤10^9:=Nat.pow_le_pow_right (by omega) f2
 rw[f1,Option.bind_some]
 simp only
 have hg:=f4.append (r:=[((qM 0 t:Nat):Int)]) (Dg.cons ⟨by omega,show((qM 0 t:Nat):Int)<1000000000 by omega⟩ Dg.nil)
 rw[hv,Option.bind_some,qcE (by simp;omega) (by simp;omega),Option.bind_some,xC _ hg (by simp;omega) (by simp;omega),Option.bind_some,qdW,f6]
 simp only[kC,List.length_nil,Int.pow_zero,Int.one_mul,Int.zero_add]
 rfl
theorem qeI (z:Int):sgn (Lib.itoa z)=decide (z<0):=by
 unfold sgn
 by_cases h:z<0
 ·rw[vF h,decide_eq_true h];rfl
 ·rw[zH h,decide_eq_false h]
  refine decide_eq_false fun e=>?_
  have hm:(45:UInt8)∈Lib.decDigits z.natAbs:=List.mem_of_getElem? e
  have:=List.all_eq_true.1 (qa9 z.natAbs) _ hm
  exact absurd this (by decide)
theorem qa4 (z:Int):bdy (Lib.itoa z)=Lib.decDigits z.natAbs:=by
 unfold bdy
 rw[qeI]
 by_cases h:z<0
 ·rw[decide_eq_true h,if_pos rfl,vF h];rfl
 ·rw[decide_eq_false h,if_neg (by simp),zH h]
theorem qbp (z:Int):qit (Lib.itoa z)=z:=by
 unfold qit
 rw[qeI,qa4,qdn]
 by_cases h:z<0
 ·rw[decide_eq_true h,if_pos rfl];omega
 ·rw[decide_eq_false h,if_neg (by simp)];omega
def slA:Str→Nat
 |[]=>0
 |c::s=>if c=47 then 0 else slA s+1
theorem qe4: ∀s:Str,slA s≤s.length
 |[]=>Nat.le_refl _
 |c::s=>by
  rw[slA,List.length_cons]
  have:=qe4 s
  split<;>omega
theorem qiL {s:Str} (hl:s.length≤1000000): ∀(K i:Nat),i≤s.length→s.length<K+i→jH s K (i:Int)=some (if i+slA (s.drop i)<s.length then .inr ((i+slA (s.drop i):Nat):Int)else .inl ())
 |0,i,h,hK=>by omega
 |K+1,i,h,hK=>by
  rw[jH]
  by_cases hi:i<s.length
  ·have hd:s.drop i=s[i]::s.drop (i+1):=List.drop_eq_getElem_cons hi
   rw[if_pos (by omega),qw,List.getElem?_eq_getElem hi,Option.bind_some,hd,slA]
   by_cases c:s[i]=47
   ·rw[if_pos c,if_pos (by rw[c];rfl),Nat.add_zero,if_pos hi]
   ·rw[if_neg c,if_neg (fun e=>c (UInt8.toNat_inj.1 (show s[i].toNat=47 by omega))),zL (by omega),qiL hl K (i+1) (by omega) (by omega),show i+1+slA (s.drop (i+1))=i+(slA (s.drop (i+1))+1)by omega]
  ·rw[if_neg (by omega),List.drop_of_length_le (by omega),if_neg (by omega)]
theorem qds {N:Nat} {s:Str} (hl:s.length≤1000000) (hN:s.length<N):vI N s=some (slA s:Int):=by
 have e:=qiL hl N 0 (by omega) (by omega)
 have e:jH s N 0=_:=e
 have h:=qe4 s
 unfold vI
 rw[e,List.drop_zero,Nat.zero_add]
 by_cases c:slA s<s.length
 ·rw[if_pos c];rfl
 ·rw[if_neg c]
  have:slA s=s.length:=by omega
  rw[this]
  rfl
theorem qih: ∀(s t:Str),(∀c∈s,c≠47)→slA (s++47::t)=s.length∧slA s=s.length
 |[],t,_=>⟨by simp[slA],rfl⟩
 |c::s,t,h=>by
  have h1:=qih s t fun x hx=>h x (List.mem_cons_of_mem _ hx)
  rw[List.cons_append,slA,slA,if_neg (h c (List.mem_cons_self ..)),if_neg (h c (List.mem_cons_self ..)),h1.1,h1.2]
  exact⟨rfl,rfl⟩
end Go.Av
end
section
namespace Go.Av
set_option linter.unusedVariables false
set_option linter.unusedSimpArgs false
set_option maxRecDepth 100000
theorem and1 {n:Nat} (h:n<4611686018427387904):qy .i64 (n:Int) 1=((n%2:Nat):Int):=by
 show IntKind.wrap .i64 _=_
 have e:(BitVec.ofInt IntKind.i64.bits (n:Int)&&&BitVec.ofInt IntKind.i64.bits 1).toNat=n%2:=by
  rw[BitVec.toNat_and]
  show(BitVec.ofInt 64 (n:Int)).toNat&&&(BitVec.ofInt 64 1).toNat=_
  rw[qbt (by omega) (by omega),qbt (by omega) (by omega)]
  exact Nat.and_one_is_mod n
 rw[e]
 show w64 _=_
 exact qh (by omega) (by omega)
theorem shr1 (n:Nat):qm .i64 (n:Int) 1=((n/2:Nat):Int):=by
 show(n:Int).fdiv 2=_
 rw[Int.fdiv_eq_ediv_of_nonneg _ (by decide)]
 omega
theorem qnp {N:Nat} (hN:11000<N): ∀(K n:Nat) (b acc:qj) (x y:Int) (mb ma:Nat),n<100000→n<K→IsZ b x→IsZ acc y→Fit x mb→Fit y ma→ma+mb*n≤3900→
 ∃r,jD N K b.s b.w acc.s acc.w (n:Int)=some (r.s,r.w)∧IsZ r (y*x^n)
 |0,n,_,_,_,_,_,_,_,h,_,_,_,_,_=>by omega
 |K+1,n,b,acc,x,y,mb,ma,hn,hK,hb,hacc,fx,fy,hm=>by
  rw[jD]
  by_cases h0:n=0
  ·subst h0
   rw[if_neg (by omega)]
   exact⟨acc,rfl,by simpa using hacc⟩
  ·have hmb:mb≤mb*n:=Nat.le_mul_of_pos_right _ (by omega)
   obtain⟨m,r,hr,hmr⟩: ∃m r,r<2∧n=2*m+r:=⟨n/2,n%2,by omega,by omega⟩
   have emb:mb*n=mb*m+mb*m+mb*r:=by rw[hmr,Nat.mul_add,←Nat.mul_assoc,Nat.mul_comm mb 2,Nat.two_mul,Nat.add_mul]
   have S1: ∃(a2:qj) (m2:Nat),(if(qy .i64 (n:Int) 1)=1 then(qC N (⟨acc.s,acc.w⟩:qj) (⟨b.s,b.w⟩:qj)).bind fun r20=>some (r20.s,r20.w)else some (acc.s,acc.w):Option (Int×(List Int)))=some (a2.s,a2.w)∧IsZ a2 (y*x^r)∧Fit (y*x^r) m2∧m2=ma+mb*r:=by
    rw[and1 (by omega),show n%2=r by omega]
    rcases(show r=0∨r=1 by omega)with e|e<;>subst e
    ·rw[if_neg (by simp)]
     exact⟨acc,ma,rfl,by simpa using hacc,by simpa using fy,by simp⟩
    ·obtain⟨p,e1,h1⟩:=qb5 hN hacc hb (fy.mono (by omega)) (fx.mono (by omega))
     have e1:qC N (⟨acc.s,acc.w⟩:qj) (⟨b.s,b.w⟩:qj)=some p:=e1
     rw[if_pos (by simp),e1,Option.bind_some]
     exact⟨p,ma+mb,rfl,by rw[Int.pow_one];exact h1,by rw[Int.pow_one];exact yV fy fx,by simp⟩
   obtain⟨a2,m2,e1,h1,f1,em2⟩:=S1
   have S2: ∃(b2:qj) (x2:Int) (m3:Nat),(if(n:Int)>1 then(qC N (⟨b.s,b.w⟩:qj) (⟨b.s,b.w⟩:qj)).bind fun r22=>some (r22.s,r22.w,a2.s,a2.w)else some (b.s,b.w,a2.s,a2.w):Option (Int×(List Int)×Int×(List Int)))=some (b2.s,b2.w,a2.s,a2.w)∧IsZ b2 x2∧Fit x2 m3∧m3*m=mb*m+mb*m∧x2^m=(x*x)^m:=by
    by_cases c:(n:Int)>1
    ·have hm1:1≤m:=by omega
     have h3:mb≤mb*m:=Nat.le_mul_of_pos_right _ hm1
     obtain⟨p,e2,h2⟩:=qb5 hN hb hb (fx.mono (by omega)) (fx.mono (by omega))
     have e2:qC N (⟨b.s,b.w⟩:qj) (⟨b.s,b.w⟩:qj)=some p:=e2
     rw[if_pos c,e2,Option.bind_some]
     exact⟨p,x*x,mb+mb,rfl,h2,yV fx fx,Nat.add_mul _ _ _,rfl⟩
    ·have hm0:m=0:=by omega
     subst hm0
     rw[if_neg c]
     exact⟨b,x,mb,rfl,hb,fx,by simp,by simp⟩
   obtain⟨b2,x2,m3,e2,h2,f2,em3,ex⟩:=S2
   have S:((if(qy .i64 (n:Int) 1)=1 then(qC N (⟨acc.s,acc.w⟩:qj) (⟨b.s,b.w⟩:qj)).bind fun r20=>some (r20.s,r20.w)else some (acc.s,acc.w):Option (Int×(List Int)))).bind (fun(n16,l17)=>
    if(n:Int)>1 then(qC N (⟨b.s,b.w⟩:qj) (⟨b.s,b.w⟩:qj)).bind fun r22=>some (r22.s,r22.w,n16,l17)else some (b.s,b.w,n16,l17))=some (b2.s,b2.w,a2.s,a2.w):=by
    rw[e1,Option.bind_some]
    exact e2
   obtain⟨r',e3,h3⟩:=qnp hN K m b2 a2 x2 (y*x^r) m3 m2 (by omega) (by omega) h2 h1 f2 f1 (by omega)
   rw[if_pos (by omega),S,Option.bind_some]
   simp only
   rw[shr1,show n/2=m by omega]
   refine⟨r',e3,?_⟩
   have hx2:x*x=x^2:=by rw[Int.pow_succ,Int.pow_succ,Int.pow_zero,Int.one_mul]
   rw[ex,Int.mul_assoc,hx2,←Int.pow_mul,←Int.pow_add,show r+2*m=n by omega]at h3
   exact h3
theorem qo6 {N:Nat} (hN:110000<N) {b:qj} {x:Int} {n mb:Nat} (hn:n<100000) (hb:IsZ b x) (fx:Fit x mb) (hm:1+mb*n≤3900): ∃r,qa1 N b (n:Int)=some r∧IsZ r (x^n):=by
 obtain⟨r,e,h⟩:=qnp (N:=N) (by omega) N n b ⟨1,[]⟩ x 1 mb 1 hn (by omega) hb (IsZ.small (by decide) (by decide)) fx (F1 (by omega)) hm
 have e:jD N N b.s b.w 1 [] (n:Int)=some (r.s,r.w):=e
 unfold qa1
 rw[qhA,Option.bind_some]
 simp only
 rw[e,Option.bind_some]
 exact⟨r,rfl,by rw[Int.one_mul]at h;exact h⟩
theorem qeN {z:Int} {p n:Nat} (h:(z.natAbs:Int)<((10^p:Nat):Int)) (hp:p≤19*n):Fit z n:=by
 have h1:(10:Nat)^p≤10^(19*n):=Nat.pow_le_pow_right (by omega) hp
 have h2:((10^(19*n):Nat):Int)≤W^n:=by
  rw[Nat.pow_mul]
  have:=(qdL (x:=10000000000000000000) (y:=W) (by decide) (by decide) n).2
  rw[Int.natCast_pow]
  exact this
 unfold Fit
 omega
theorem qbH (s:Str):strings_HasPrefix s [45]=some (sgn s):=by
 unfold strings_HasPrefix stringslite_HasPrefix sgn
 cases s with
 |nil=>rfl
 |cons c t=>
  rw[if_pos (by simp;omega)]
  have e:cut (c::t) 0 (([45]:Str).length:Int)=some [c]:=yl (l:=c::t) (k:=1) (by simp)
  rw[e]
  simp only[Option.bind_some,List.getElem?_cons_zero]
  congr 1
  rw[Bool.eq_iff_iff,beq_iff_eq,decide_eq_true_eq]
  constructor
  ·intro h;injection h with h;rw[h]
  ·intro h;rw[Option.some.inj h]
theorem qhY {s:Str} (h:sgn s=true):1≤s.length:=by
 cases s with
 |nil=>simp[sgn]at h
 |cons=>simp
theorem qec (s:Str):strings_TrimPrefix s [45]=some (bdy s):=by
 unfold strings_TrimPrefix stringslite_TrimPrefix
 have e:stringslite_HasPrefix s [45]=some (sgn s):=by
  have:=qbH s
  unfold strings_HasPrefix at this
  cases h:stringslite_HasPrefix s [45]with
  |none=>rw[h]at this;cases this
  |some b=>rw[h]at this;exact this
 rw[e,Option.bind_some]
 unfold bdy
 cases h:sgn s with
 |false=>rw[if_neg (by simp),if_neg (by simp),Option.bind_some]
 |true=>
  have e2:cut s (([45]:Str).length:Int) (s.length:Int)=some (s.drop 1):=yN (qhY h)
  rw[if_pos rfl,if_pos rfl,e2,Option.bind_some,Option.bind_some]
theorem qie (s:Str):strings_CutPrefix s [45]=some (bdy s,sgn s):=by
 unfold strings_CutPrefix stringslite_CutPrefix
 have e:stringslite_HasPrefix s [45]=some (sgn s):=by
  have:=qbH s
  unfold strings_HasPrefix at this
  cases h:stringslite_HasPrefix s [45]with
  |none=>rw[h]at this;cases this
  |some b=>rw[h]at this;exact this
 rw[e,Option.bind_some]
 unfold bdy
 cases h:sgn s with
 |false=>rw[if_pos (by simp),if_neg (by simp),Option.bind_some]
 |true=>
  have e2:cut s (([45]:Str).length:Int) (s.length:Int)=some (s.drop 1):=yN (qhY h)
  rw[if_neg (by simp),if_pos rfl,e2,Option.bind_some,Option.bind_some]
theorem qkQ {N:Nat} (hN:600000<N): ∀(K:Nat) (x:qj) (y:Int) (s:Str) (p:Nat),IsZ x y→0≤y→y<((10^p:Nat):Int)→p+s.length≤19000→s.all jZ=true→s.length<K→
 ∃r,yz N K x.s x.w s=some (r.s,r.w)∧IsZ r (y*((10^s.length:Nat):Int)+(qM 0 s:Nat))
 |0,_,_,_,_,_,_,_,_,_,h=>by omega
 |K+1,x,y,s,p,hx,y0,y1,hp,hd,hK=>by
  rw[yz]
  by_cases h0:s.length=0
  ·rw[if_neg (by omega)]
   have:s=[]:=List.length_eq_zero_iff.1 h0
   subst this
   exact⟨x,rfl,by simpa[qbD]using hx⟩
  ·rw[if_pos (by omega)]
   obtain⟨g,hg,hg0,hgl,hg18⟩: ∃g:Nat,(if(s.length:Int)<18 then(s.length:Int)else 18)=(g:Int)∧0<g∧g≤s.length∧g≤18:=by
    by_cases c:(s.length:Int)<18
    ·exact⟨s.length,by rw[if_pos c],by omega,by omega,by omega⟩
    ·exact⟨18,by rw[if_neg c];rfl,by omega,by omega,by omega⟩
   have lt:(s.take g).length=g:=by rw[List.length_take];omega
   have ea:=qjt (s:=s.take g) (by omega) (qgJ hd g)
   have et:qjz (s.take g)=some (((qM 0 (s.take g):Nat):Int),()):=by
    unfold qjz
    rw[if_pos (by omega),ea]
    rfl
   have hv:=qdR (s.take g) 0 (qgJ hd g)
   rw[lt]at hv
   have hp18:(10:Nat)^g≤10^18:=Nat.pow_le_pow_right (by omega) hg18
   have h18:(10:Nat)^18=1000000000000000000:=rfl
   rw[hg,yl hgl,Option.bind_some,et,Option.bind_some,qhA,Option.bind_some]
   obtain⟨r1,e1,h1⟩:=qo6 (N:=N) (by omega) (b:=⟨10,[]⟩) (x:=10) (n:=g) (mb:=1) (by omega) (IsZ.small (by decide) (by decide)) (qeN (p:=2) (by decide) (by omega)) (by omega)
   have ep:(10:Int)^g=((10^g:Nat):Int):=by rw[Int.natCast_pow];rfl
   rw[ep]at h1
   have fg:Fit ((10^g:Nat):Int) 1000:=qeN (p:=19) (by
    rw[Int.natAbs_natCast]
    have h19:(10:Nat)^19=10000000000000000000:=rfl
    omega) (by omega)
   have fy:Fit y 1000:=qeN (p:=p) (by omega) (by omega)
   have hpos:0<10^g:=Nat.pow_pos (by decide)
   have yg0:0≤y*((10^g:Nat):Int):=Int.mul_nonneg y0 (by omega)
   have yg1:(y+1)*((10^g:Nat):Int)≤((10^(p+g):Nat):Int):=by
    rw[Nat.pow_add,Int.natCast_mul]
    exact Int.mul_le_mul_of_nonneg_right (by omega) (by omega)
   rw[Int.add_mul,Int.one_mul]at yg1
   obtain⟨r2,e2,h2⟩:=qb5 (N:=N) (by omega) hx h1 (fy.mono (by omega)) (fg.mono (by omega))
   have e2:qC N (⟨x.s,x.w⟩:qj) r1=some r2:=e2
   have hd2:IsZ ⟨((qM 0 (s.take g):Nat):Int),[]⟩ ((qM 0 (s.take g):Nat):Int):=IsZ.small (by omega) (by omega)
   obtain⟨r3,e3,h3⟩:=qgl (N:=N) (by omega) h2 hd2 (qeN (p:=p+g) (by omega) (by omega)) (qeN (p:=19) (by
    rw[Int.natAbs_natCast]
    have h19:(10:Nat)^19=10000000000000000000:=rfl
    omega) (by omega))
   rw[e1,Option.bind_some,e2,Option.bind_some,qhA,Option.bind_some,e3,Option.bind_some,yN hgl,Option.bind_some]
   have ld:(s.drop g).length=s.length-g:=by rw[List.length_drop]
   obtain⟨r,e4,h4⟩:=qkQ hN K r3 _ (s.drop g) (p+g) h3 (by omega) (by omega) (by omega) (qgx hd g) (by omega)
   refine⟨r,e4,?_⟩
   have e5:=qdq (s.take g) (s.drop g)
   rw[List.take_append_drop]at e5
   have e6:(10:Nat)^s.length=10^g*10^(s.drop g).length:=by rw[←Nat.pow_add,ld];congr 1;omega
   rw[e5,e6]
   rw[Int.add_mul]at h4
   rw[Int.natCast_mul,Int.natCast_add,Int.natCast_mul,←Int.mul_assoc,←Int.add_assoc]
   exact h4
theorem qfV {N:Nat} (hN:600000<N) {s:Str} (hd:(bdy s).all jZ=true) (hl:(bdy s).length≤19000): ∃r,qaw N s=some r∧IsZ r (qit s):=by
 obtain⟨r,e,h⟩:=qkQ hN N ⟨0,[]⟩ 0 (bdy s) 0 (IsZ.small (by decide) (by decide)) (by omega) (by decide) (by omega) hd (by omega)
 have e:yz N N 0 [] (bdy s)=some (r.s,r.w):=e
 rw[Int.zero_mul,Int.zero_add]at h
 unfold qaw
 rw[qbH,Option.bind_some,qec,Option.bind_some,e,Option.bind_some]
 unfold qit
 cases hs:sgn s with
 |false=>
  rw[if_neg (by simp)]
  exact⟨r,rfl,by simpa using h⟩
 |true=>
  obtain⟨r2,e2,h2⟩:=qe6 h
  have e2:ze (⟨r.s,r.w⟩:qj)=some r2:=e2
  simp only[if_true]
  rw[e2]
  exact⟨r2,rfl,h2⟩
end Go.Av
end
section
namespace Go.Av
set_option linter.unusedVariables false
set_option linter.unusedSimpArgs false
set_option maxRecDepth 100000
theorem qkz: ∀n:Nat,Lib.repeatL [48] n=List.replicate n 48
 |0=>rfl
 |n+1=>by rw[Lib.repeatL,qkz,List.replicate_succ];rfl
theorem qhG: ∀k:Nat,qda k 0=List.replicate k 48
 |0=>rfl
 |k+1=>by
  rw[qda,Nat.zero_div,qhG k,List.replicate_succ']
  rfl
theorem qjh: ∀(k n:Nat),n<10^(k+1)→qda (k+1) n=List.replicate (k+1-(Lib.decDigits n).length) 48++Lib.decDigits n
 |0,n,h=>by
  have h:n<10:=by simpa using h
  rw[ve h,qda,qda,Nat.mod_eq_of_lt h]
  rfl
 |k+1,n,h=>by
  rw[qda]
  by_cases c:n<10
  ·rw[ve c,Nat.div_eq_of_lt c,qhG,Nat.mod_eq_of_lt c]
   rfl
  ·rw[Nat.pow_succ]at h
   rw[qjh k (n/10) (by omega),qff c,List.append_assoc,List.length_append,List.length_singleton,show k+1+1-((Lib.decDigits (n/10)).length+1)=k+1-(Lib.decDigits (n/10)).length by omega]
theorem qe2 (n:Nat):Lib.itoa (n:Int)=Lib.decDigits n:=by rw[zH (by omega),Int.natAbs_natCast]
theorem qmq {r:Nat} (h:r<1000000000000000000) (c: ¬r=0):dg W (r:Int)=[(r:Int)]:=by
 rw[qh7 (by omega) (by unfold W;omega)]
theorem qnc {r:Nat} (h:r<1000000000000000000):qf3 (r:Int) 10=some (Lib.decDigits r):=by
 unfold qf3
 rw[if_pos ⟨by omega,by omega,rfl⟩,qe2]
theorem qmZ:(if((dg W ((0:Nat):Int)).length:Int)>0 then(idx (dg W ((0:Nat):Int)) 0).bind fun x13=>(qf3 x13 10).bind fun r14=>some r14 else some [48]:Option Str)=some (Lib.decDigits 0):=by
 rw[show((0:Nat):Int)=0 from rfl,qcN,if_neg (by simp),ve (by decide)]
 rfl
theorem qnT {r:Nat} (h:r<1000000000000000000):(if((dg W (r:Int)).length:Int)>0 then(idx (dg W (r:Int)) 0).bind fun x13=>(qf3 x13 10).bind fun r14=>some r14 else some [48]:Option Str)=some (Lib.decDigits r):=by
 by_cases c:r=0
 ·rw[c]
  exact qmZ
 ·rw[qmq h c,if_pos (show((([(r:Int)]:List Int).length:Nat):Int)>0 from by rw[List.length_singleton];decide),qa2,List.getElem?_cons_zero,Option.bind_some,qnc h]
  rfl
theorem p18:(10:Nat)^18=1000000000000000000:=rfl
theorem qor {q r:Nat} (h:r<1000000000000000000): ∃t:Str,(if((dg W (q:Int)).length:Int)>0 then(qdY [48] (w64 (18-((Lib.decDigits r).length:Int)))).bind fun r18=>(cat r18 (Lib.decDigits r)).bind fun s19=>some s19 else some (Lib.decDigits r):Option Str)=some t∧0<t.length∧Lib.decDigits (1000000000000000000*q+r)=(if q=0 then[]else Lib.decDigits q)++t:=by
 have hr:r<10^18:=by rw[p18];exact h
 have lD:(Lib.decDigits r).length≤18:=(qaE (by decide)).2 hr
 have lD0:=qj9 r
 by_cases c:q=0
 ·subst c
  rw[show((0:Nat):Int)=0 from rfl,qcN,if_neg (by simp),if_pos rfl,Nat.mul_zero,Nat.zero_add]
  exact⟨_,rfl,lD0,rfl⟩
 ·have hne:dg W (q:Int)≠[]:=fun e=>by have:=(qgF W1 (by omega)).1 e;omega
  have hlen:0<(dg W (q:Int)).length:=List.length_pos_iff.2 hne
  have et:qdY [48] (w64 (18-((Lib.decDigits r).length:Int)))=some (List.replicate (18-(Lib.decDigits r).length) 48):=by
   rw[qh (by omega) (by omega)]
   unfold qdY
   rw[if_pos ⟨by omega,by omega,by simp;omega⟩,qkz]
   congr 2
   omega
  have hp:=qjh 17 r hr
  have hl:(qda (17+1) r).length=18:=qgr _ _
  have hs:=qf5 18 (1000000000000000000*q+r)
  rw[p18,Nat.mul_add_div (by omega),Nat.div_eq_of_lt h,Nat.add_zero,Nat.mul_add_mod,Nat.mod_eq_of_lt h]at hs
  rw[if_pos (by omega),et,Option.bind_some,qaL (by simp;omega),Option.bind_some,←hp,if_neg c]
  exact⟨_,rfl,by omega,hs (by omega)⟩
theorem qoR {N:Nat} (hN:600000<N) (B:Nat) (hB:B≤3900) (K:Nat): ∀(k m:Nat) (l:List Str),m<10^(18*k)→k<K→k+l.length≤100000→Fit (m:Int) B→(∀t∈l,0<t.length)→
 ∃l',zO N K l (dg W (m:Int))=some l'∧(∀t∈l',0<t.length)∧l'.length≤k+l.length∧l'.reverse.flatten=(if m=0 then[]else Lib.decDigits m)++l.reverse.flatten:=by
 induction K with
 |zero=>intro k m l _ h;omega
 |succ K ih=>
  intro k m l hm hK hl fm hp
  rw[zO]
  by_cases h0:m=0
  ·subst h0
   rw[show((0:Nat):Int)=0 from rfl,qcN,if_neg (by simp),if_pos rfl]
   exact⟨l,rfl,hp,by omega,rfl⟩
  ·obtain⟨j,hj⟩: ∃j,k=j+1:=⟨k-1,by
    rcases Nat.eq_zero_or_pos k with e|e
    ·subst e;simp at hm;omega
    ·omega⟩
   rw[hj]at hm hK hl
   have hm0:(0:Int)≤(m:Int):=by omega
   have hne:dg W (m:Int)≠[]:=fun e=>by have:=(qgF W1 hm0).1 e;omega
   have hlen:0<(dg W (m:Int)).length:=List.length_pos_iff.2 hne
   have ln:(dg W (m:Int)).length≤3900:=Nat.le_trans fm.len hB
   have cB:Can W [1000000000000000000]:=by
    have:=zF W1 (show(0:Int)≤1000000000000000000 by decide)
    rw[qh7 (by decide) (by decide)]at this
    exact this
   have vB:dv W [1000000000000000000]=1000000000000000000:=by rw[zb,kC,Int.mul_zero,Int.add_zero]
   have ed:=qhv (N:=N) (by omega) (zF W1 hm0) cB (by omega) (by rw[vB];decide)
   rw[vB,jo W1 hm0]at ed
   obtain⟨q,r,hq,hr⟩: ∃q r,m=1000000000000000000*q+r∧r<1000000000000000000:=⟨m/1000000000000000000,m%1000000000000000000,by omega,by omega⟩
   have eq:(m:Int)/1000000000000000000=(q:Int):=by omega
   have er:(m:Int)%1000000000000000000=(r:Int):=by omega
   rw[eq,er]at ed
   obtain⟨t,et,t0,eD⟩:=qor (q:=q) hr
   rw[←hq]at eD
   rw[if_pos (by omega),ed,Option.bind_some]
   simp only
   rw[qnT hr,Option.bind_some,et,Option.bind_some,qcE (by simp;omega) (by simp;omega),Option.bind_some]
   have hk:q<10^(18*j):=by
    rw[Nat.mul_succ,Nat.pow_add,p18,Nat.mul_comm]at hm
    refine Nat.lt_of_mul_lt_mul_left (a:=1000000000000000000) ?_
    omega
   obtain⟨l',f1,f2,f3,f4⟩:=ih j q (l++[t]) hk (by omega) (by simp;omega) (qba (by omega) fm) (fun u hu=>by
    rcases List.mem_append.1 hu with hu|hu
    ·exact hp u hu
    ·rw[List.mem_singleton.1 hu];exact t0)
   refine⟨l',f1,f2,by simp at f3;omega,?_⟩
   rw[f4,if_neg h0,eD,List.reverse_append,List.flatten_append,List.append_assoc]
   simp
def byN (s:Str):List Int:=s.map fun x=>(x.toNat:Int)
theorem qfL (s:Str):(byN s).length=s.length:=by unfold byN;rw[List.length_map]
theorem ql8 {l:List Str} (hp: ∀t∈l,0<t.length) (hl:l.length≤100000): ∀(K i:Nat) (o:Option (List Int)),i≤l.length→i<K→(hof o).length+(l.take i).flatten.length≤1000000000→
 ∃o',kT l K o.isSome o ((i:Int)-1)=some (o'.isSome,o')∧hof o'=hof o++byN (l.take i).reverse.flatten
 |0,i,o,_,h,_=>by omega
 |K+1,0,o,hi,h,hb=>by
  rw[kT,if_neg (by omega)]
  exact⟨o,rfl,by simp[byN]⟩
 |K+1,i+1,o,hi,h,hb=>by
  have hil:i<l.length:=by omega
  have ei:((i+1:Nat):Int)-1=(i:Int):=by omega
  have ht:l.take (i+1)=l.take i++[l[i]]:=List.take_succ_eq_append_getElem hil
  have h1:=hp l[i] (List.getElem_mem hil)
  rw[ht,List.flatten_append,List.length_append]at hb
  simp only[List.flatten_cons,List.flatten_nil,List.append_nil]at hb
  have ew:bWr o.isSome o l[i]=some (hof o++byN l[i]):=by
   unfold bWr
   rw[if_pos ⟨rfl,by omega,h1⟩]
   rfl
  rw[kT,ei,if_pos (by omega),qw,List.getElem?_eq_getElem hil,Option.bind_some,ew,Option.bind_some,qh (by omega) (by omega)]
  obtain⟨o',f1,f2⟩:=ql8 hp hl K i (some (hof o++byN l[i])) (by omega) (by omega) (by
   show(hof o++byN l[i]).length+_≤_
   rw[List.length_append,qfL];omega)
  refine⟨o',f1,?_⟩
  rw[f2,ht,List.reverse_append,List.flatten_append]
  show hof o++byN l[i]++_=_
  rw[List.append_assoc]
  unfold byN
  simp
theorem qmO (s:Str):(byN s).map (fun n=>UInt8.ofNat n.toNat)=s:=by
 unfold byN
 rw[List.map_map]
 conv=>rhs;rw[←List.map_id s]
 refine List.map_congr_left fun x _=>?_
 show UInt8.ofNat ((x.toNat:Int)).toNat=x
 rw[Int.toNat_natCast,UInt8.ofNat_toNat]
theorem qov (s:Str):(byN s).all (fun n=>decide (0≤n)&&decide (n<256))=true:=by
 unfold byN
 rw[List.all_map,List.all_eq_true]
 intro x _
 have:x.toNat<256:=x.toNat_lt
 simp
 omega
theorem qix: ∀l:List Str,l.reverse.flatten.length=l.flatten.length:=fun l=>by
 rw[List.length_flatten,List.length_flatten,List.map_reverse,List.sum_reverse]
theorem qdS {N:Nat} (hN:600000<N) {x:qj} {z:Int} (h:IsZ x z) (fz:Fit z 3900):jy N x=some (Lib.itoa z):=by
 unfold jy
 cases e:x.w.isEmpty with
 |true=>
  obtain⟨h1,h2,h3⟩:=h.emp e
  rw[if_pos rfl,h1]
  unfold qla
  rw[if_pos ⟨h2,h3⟩,Option.bind_some]
 |false=>
  have hz:z.natAbs≠0:=by
   rcases h with⟨hw,_⟩|⟨_,_,h1,_⟩
   ·rw[hw]at e;cases e
   ·omega
  obtain⟨B8,hB8⟩: ∃B8:Nat,B8=8000:=⟨_,rfl⟩
  have pw:((10^(18*B8):Nat):Int)=(1000000000000000000:Int)^B8:=by
   rw[Nat.pow_mul,Int.natCast_pow]
   rfl
  have hm:z.natAbs<10^(18*B8):=by
   have h1:W^3900≤(1000000000000000000:Int)^B8:=by
    have a1:(1000000000000000000:Int)^B8=((1000000000000000000:Int)^2)^4000:=by rw[←Int.pow_mul,hB8]
    have a2:W^4000≤((1000000000000000000:Int)^2)^4000:=(qdL (by decide) (by decide) 4000).2
    have a3:W^3900≤W^4000:=vP (by decide) (by decide)
    rw[a1]
    exact Int.le_trans a3 a2
   rw[←pw]at h1
   unfold Fit at fz
   omega
  obtain⟨l,f1,f2,f3,f4⟩:=qoR hN 3900 (Nat.le_refl _) N B8 z.natAbs [] hm (by omega) (by simp;omega) (by unfold Fit;rw[Int.natAbs_natCast];exact fz) (fun t ht=>by cases ht)
  rw[if_neg hz]at f4
  simp only[List.reverse_nil,List.flatten_nil,List.append_nil,List.length_nil,Nat.add_zero]at f3 f4
  have lD:(Lib.decDigits z.natAbs).length≤18*B8:=(qaE (by omega)).2 hm
  have lf:l.flatten.length≤18*B8:=by rw[←qix,f4];exact lD
  have lpos:=qj9 z.natAbs
  rw[if_neg (by simp),parts_eq h,Option.bind_some]
  simp only
  rw[f1,Option.bind_some]
  have el:w64 ((l.length:Int)-1)=(l.length:Int)-1:=qh (by omega) (by omega)
  have fin: ∀(o:Option (List Int)) (pre:Str),hof o=byN pre→pre.length≤10→((kT l N o.isSome o (w64 ((l.length:Int)-1))).bind fun(ok30,o31)=>(qlW ok30 o31).bind fun t38=>some t38)=some (pre++Lib.decDigits z.natAbs):=by
   intro o pre ho hpre
   obtain⟨o',g1,g2⟩:=ql8 f2 (by omega) N l.length o (Nat.le_refl _) (by omega) (by rw[ho,qfL,List.take_of_length_le (Nat.le_refl _)];omega)
   rw[List.take_of_length_le (Nat.le_refl _),f4,ho]at g2
   have g3:hof o'=byN (pre++Lib.decDigits z.natAbs):=by
    rw[g2]
    unfold byN
    rw[List.map_append]
   have hs:o'.isSome=true:=by
    cases o' with
    |none=>
     have:=congrArg List.length g3
     rw[qfL,List.length_append]at this
     simp at this
     omega
    |some q=>rfl
   rw[el,g1,Option.bind_some]
   simp only
   unfold qlW
   rw[if_pos ⟨hs,by rw[g3,qfL,List.length_append];omega,by rw[g3];exact qov _⟩,g3,qmO,Option.bind_some]
  by_cases c:z<0
  ·have eb:bWr false (none:Option (List Int)) [45]=some [45]:=rfl
   rw[decide_eq_true c,if_pos rfl,eb,Option.bind_some,Option.bind_some]
   simp only
   have:=fin (some [45]) [45] rfl (by simp)
   rw[vF c]
   exact this
  ·rw[decide_eq_false c,if_neg (by simp),Option.bind_some]
   simp only
   have:=fin none [] rfl (by simp)
   rw[zH c]
   exact this
end Go.Av
end
section
namespace Go.Av
set_option linter.unusedVariables false
set_option linter.unusedSimpArgs false
set_option maxRecDepth 100000
theorem qox {x:qj} {z:Int} (h:IsZ x z) (fz:Fit z 3900): ∃b:Nat,qaC x=some (b:Int)∧(z.natAbs:Int)<2^b:=by
 unfold qaC
 rw[parts_eq h,Option.bind_some]
 simp only
 have hz:(0:Int)≤(z.natAbs:Int):=by omega
 have cc:=zF W1 hz
 have vv:=jo W1 hz
 have ll:=fz.len
 generalize dg W (z.natAbs:Int)=w at*
 by_cases h0:w.length=0
 ·rw[if_pos (by omega)]
  rw[List.length_eq_zero_iff.1 h0,kC]at vv
  exact⟨0,rfl,by rw[←vv];decide⟩
 ·have hk:w.length-1<w.length:=by omega
  have ax:=cc.1.at hk
  obtain⟨l,e,hl⟩:=qi0 ax.1 ax.2
  have hl0:0≤l∧l≤64:=by
   rcases hl with⟨_,h⟩|⟨h1,h2,_⟩<;>omega
  have hl2:w[w.length-1]<2^l.toNat:=by
   rcases hl with⟨h1,h2⟩|⟨_,_,_,h⟩
   ·rw[h1,h2];decide
   ·exact h
  rw[if_neg (by omega),qh9 (by omega) (by omega),qw,List.getElem?_eq_getElem hk,Option.bind_some,e,Option.bind_some,qh (n:=64*((w.length-1:Nat):Int)) (by omega) (by omega),qh (by omega) (by omega)]
  refine⟨64*(w.length-1)+l.toNat,by congr 1;omega,?_⟩
  have e1:=ql W w (w.length-1) hk
  rw[List.take_of_length_le (by omega),vv]at e1
  have h1:=vX W0 (cc.1.take (w.length-1))
  rw[List.length_take,Nat.min_eq_left (by omega)]at h1
  have e2:(2:Int)^(64*(w.length-1)+l.toNat)=W^(w.length-1)*2^l.toNat:=by
   rw[Int.pow_add,Int.pow_mul]
   rfl
  have h2:W^(w.length-1)*(w[w.length-1]+1)≤W^(w.length-1)*2^l.toNat:=Int.mul_le_mul_of_nonneg_left (by omega) (Int.le_of_lt (pow_pos W0 _))
  rw[Int.mul_add,Int.mul_one]at h2
  rw[e2]
  omega
theorem pow8: ∀n:Nat,(8:Int)^(n+1)<((10^(n+1):Nat):Int)
 |0=>by decide
 |n+1=>by
  have ih:=pow8 n
  have a1:=pow_pos (show(0:Int)<8 by decide) (n+1)
  rw[Int.pow_succ,Nat.pow_succ,Int.natCast_mul]
  omega
theorem qoN (n:Nat):(2:Int)^(3*n)=(8:Int)^n:=by
 rw[Int.pow_mul]
 rfl
theorem qoa {n m:Nat} (hm:m=3*(n+1)):(2:Int)^m<((10^(n+1):Nat):Int):=by
 rw[hm,qoN]
 exact pow8 n
def lng (z:Int):Bool:=decide (600<(Lib.decDigits z.natAbs).length)
theorem qkT {N:Nat} (hN:600000<N) {x:qj} {z:Int} (h:IsZ x z) (fz:Fit z 3900):qct N x=some (lng z):=by
 obtain⟨b,e,hb⟩:=qox h fz
 unfold qct
 rw[e,Option.bind_some]
 by_cases c:(b:Int)>1800
 ·rw[if_pos c,qdS hN h fz,Option.bind_some,qec,qa4,Option.bind_some,Option.bind_some]
  congr 1
  exact decide_eq_decide.2 (by omega)
 ·rw[if_neg c,Option.bind_some]
  congr 1
  obtain⟨m,hm⟩: ∃m:Nat,m=3*(599+1):=⟨_,rfl⟩
  have h1:(2:Int)^b≤2^m:=vP (by decide) (by omega)
  have h2:=qoa hm
  have h3:z.natAbs<10^(599+1):=by omega
  have:=(qaE (n:=z.natAbs) (k:=599+1) (by decide)).2 h3
  unfold lng
  rw[decide_eq_false (by omega)]
def qi1 (q:Rat):Bool:=lng q.num||lng q.den
theorem qnn {N:Nat} (hN:600000<N) {f:qF} {q:Rat} (h:IsF f q) (fq:qaB q 3900):xe N f=some (qi1 q):=by
 unfold xe qi1
 rw[qkT hN h.1 fq.1,Option.bind_some]
 cases lng q.num with
 |true=>rw[if_pos rfl,Option.bind_some,Bool.true_or]
 |false=>rw[if_neg (by simp),qkT hN h.2 fq.2,Option.bind_some,Option.bind_some,Bool.false_or]
def T (q:Rat):Str:=Lib.itoa q.num++(if q.den=1 then[]else 47::Lib.decDigits q.den)
theorem Fit.itoaLen {z:Int} (h:Fit z 3900):(Lib.itoa z).length≤200001:=by
 have h1:(Lib.decDigits z.natAbs).length≤20*10000:=by
  refine(qaE (by decide)).2 ?_
  obtain⟨B,hB⟩: ∃B:Nat,B=10000:=⟨_,rfl⟩
  rw[←hB]
  have h2:W^3900≤W^B:=vP (by decide) (by omega)
  have h3:W^B≤(100000000000000000000:Int)^B:=(qdL (by decide) (by decide) B).2
  have h4:((10^(20*B):Nat):Int)=(100000000000000000000:Int)^B:=by
   rw[Nat.pow_mul,Int.natCast_pow]
   rfl
  unfold Fit at h
  generalize W^3900=p at*
  omega
 by_cases c:z<0
 ·rw[vF c,List.length_cons];omega
 ·rw[zH c];omega
theorem qoh {N:Nat} (hN:600000<N) {f:qF} {q:Rat} (h:IsF f q) (fq:qaB q 3900):xW N f=some (T q):=by
 unfold xW T
 rw[qel h,Option.bind_some]
 by_cases c:q.den=1
 ·rw[decide_eq_true c,if_pos rfl,qdS hN h.1 fq.1,Option.bind_some,if_pos c,List.append_nil]
 ·have l1:=Fit.itoaLen fq.1
  have l2:=Fit.itoaLen fq.2
  rw[decide_eq_false c,if_neg (by simp),qdS hN h.1 fq.1,Option.bind_some,qaL (by simp;omega),Option.bind_some,qdS hN h.2 fq.2,Option.bind_some,qaL (by simp;omega),Option.bind_some,if_neg c,qe2,List.append_assoc]
  rfl
theorem qdQ {N:Nat} (hN:600000<N) {f:qF} {q:Rat} (h:IsF f q) (fq:qaB q 3900):jU N f=some (if qi1 q=true then([],4)else(T q,0)):=by
 unfold jU
 rw[qnn hN h fq,Option.bind_some]
 cases qi1 q with
 |true=>rfl
 |false=>rw[if_neg (by simp),qoh hN h fq,Option.bind_some,if_neg (by simp)]
theorem qnN {α:Type} {b:Bool} {x y:α}:zo b x y=if b=true then x else y:=by cases b<;>rfl
theorem qjm: ∀(s:Str) (j:Nat),qhk 47 s j=if slA s<s.length then((j+slA s:Nat):Int)else-1
 |[],j=>rfl
 |c::s,j=>by
  show zo (Nat.beq c.toNat 47) (Int.ofNat j) (qhk 47 s (j+1))=_
  rw[qnN,qjm s (j+1),slA,List.length_cons]
  by_cases h:c=47
  ·subst h
   rw[if_pos (by decide),if_pos rfl,if_pos (by omega)]
   rfl
  ·have h2:c.toNat≠47:=fun e=>h (UInt8.toNat_inj.1 (by rw[e];rfl))
   rw[if_neg (by rw[qb3 h2];simp),if_neg h]
   by_cases c2:slA s<s.length
   ·rw[if_pos c2,if_pos (by omega)]
    congr 1
    omega
   ·rw[if_neg c2,if_neg (by omega)]
theorem qme {s:Str}:stringslite_Index s [47]=some (qhk 47 s 0):=by
 unfold stringslite_Index stringslite_IndexByte qik
 have h0: ¬(([47]:Str).length:Int)=0:=by simp
 have h1:(([47]:Str).length:Int)=1:=by simp
 rw[if_neg h0]
 simp only[Option.bind_some]
 by_cases hs:(([47]:Str)==s)=true
 ·have:s=[47]:=(beq_iff_eq.1 hs).symm
  subst this
  rfl
 ·rw[if_neg hs,if_pos h1,qa2,show([47]:Str)[0]? =some 47 from rfl,Option.bind_some,if_pos (by decide)]
  rfl
theorem qnk {s:Str} (hl:s.length≤1000000):strings_Cut s [47]=some (if slA s<s.length then(s.take (slA s),s.drop (slA s+1),true)else(s,[],false)):=by
 have h:=qe4 s
 unfold strings_Cut stringslite_Cut
 rw[qme,qjm,Option.bind_some]
 by_cases c:slA s<s.length
 ·rw[if_pos c,if_pos (by omega),if_pos c,Nat.zero_add,yl h,Option.bind_some,show w64 ((slA s:Int)+(([47]:Str).length:Int))=((slA s+1:Nat):Int)from zL (by omega),yN (by omega),Option.bind_some,Option.bind_some]
 ·rw[if_neg c,if_neg (by omega),if_neg c,Option.bind_some]
theorem qeO {s:Str} (hl:s.length≤1000000):jh s=some (decide (Dec s)):=by
 have hT:qiP s [48,49,50,51,52,53,54,55,56,57]=some (Lib.trimS s [48,49,50,51,52,53,54,55,56,57]):=by
  unfold qiP
  rw[if_pos ⟨hl,by decide,by decide⟩]
 unfold jh
 rw[hT]
 simp only[Option.bind_some,qlM]
 cases s with
 |nil=>rfl
 |cons c t=>
  rw[if_pos (by rfl),qa2]
  simp only[List.getElem?_cons_zero,Option.bind_some]
  cases hd:(c::t).all jZ with
  |false=>
   rw[if_neg (by simp),Option.bind_some,decide_eq_false fun h=>by rw[h.2.1]at hd;cases hd]
  |true=>
   rw[if_pos rfl]
   by_cases h:c=48
   ·subst h
    rw[if_neg (by decide),Option.bind_some]
    congr 1
    rw[Bool.eq_iff_iff,beq_iff_eq,decide_eq_true_eq]
    exact⟨fun e=>by rw[e];exact qll (by decide),fun h=>h.2.2 rfl⟩
   ·rw[if_pos (by simp[ne48 h]),Option.bind_some,decide_eq_true (show Dec (c::t)from⟨by simp,hd,fun e=>absurd (Option.some.inj e) h⟩)]
theorem qgC {s:Str} (hl:s.length≤1000000): ∀(K i:Nat),i≤s.length→s.length<K+i→zX s K (i:Int)=some (if(s.drop i).all jZ=true then .inl ()else .inr false)
 |0,i,h,hK=>by omega
 |K+1,i,h,hK=>by
  rw[zX]
  by_cases hi:i<s.length
  ·have hd:s.drop i=s[i]::s.drop (i+1):=List.drop_eq_getElem_cons hi
   rw[if_pos (by omega),qw,List.getElem?_eq_getElem hi,Option.bind_some,hd,List.all_cons]
   generalize s[i]=c
   have e:(if(c.toNat:Int)<48 then some true else some (decide ((c.toNat:Int)>57)):Option Bool)=some (!jZ c):=by
    by_cases h1:(c.toNat:Int)<48
    ·rw[if_pos h1]
     congr 1
     unfold jZ
     rw[decide_eq_false (by omega)]
     rfl
    ·rw[if_neg h1]
     congr 1
     unfold jZ
     rw[decide_eq_true (p:=48≤c.toNat) (by omega),Bool.true_and,←decide_not]
     exact decide_eq_decide.2 (by omega)
   rw[e,Option.bind_some]
   cases hc:jZ c with
   |true=>rw[if_neg (by simp),zL (by omega),qgC hl K (i+1) (by omega) (by omega),Bool.true_and]
   |false=>rw[if_pos (by simp),Bool.false_and,if_neg (by simp)]
  ·rw[if_neg (by omega),List.drop_of_length_le (by omega)]
   rfl
theorem qgy {N:Nat} {s:Str} (hl:s.length≤1000000) (hN:s.length<N):zQ N s=some (decide (Dec s)):=by
 have e:=qgC hl N 0 (by omega) (by omega)
 have e:zX s N 0=_:=e
 have ed:qat N s=some (s.all jZ):=by
  unfold qat
  rw[e,List.drop_zero]
  cases s.all jZ<;>rfl
 unfold zQ
 cases s with
 |nil=>rfl
 |cons c t=>
  rw[if_neg (by simp;omega)]
  by_cases h1:((c::t).length:Int)>1
  ·rw[if_pos h1,qa2]
   simp only[List.getElem?_cons_zero,Option.bind_some]
   by_cases h:c=48
   ·subst h
    rw[if_pos (by decide),decide_eq_false fun hD=>?_]
    have:=congrArg List.length (hD.2.2 rfl)
    rw[List.length_singleton]at this
    omega
   ·rw[if_neg (by simp[ne48 h]),ed,Option.bind_some]
    congr 1
    rw[Bool.eq_iff_iff,decide_eq_true_eq]
    exact⟨fun hd=>⟨by simp,hd,fun e=>absurd (Option.some.inj e) h⟩,fun hD=>hD.2.1⟩
  ·rw[if_neg h1,Option.bind_some,if_neg (by simp),ed,Option.bind_some]
   have ht:t=[]:=List.length_eq_zero_iff.1 (by simp at h1;omega)
   subst ht
   congr 1
   rw[Bool.eq_iff_iff,decide_eq_true_eq]
   exact⟨fun hd=>qll (by simpa using hd),fun hD=>hD.2.1⟩
end Go.Av
end
section
namespace Go.Av
set_option linter.unusedVariables false
set_option linter.unusedSimpArgs false
set_option maxRecDepth 100000
theorem qiw {z:Int} {p n:Nat} (h:(z.natAbs:Int)<((10^p:Nat):Int)) (hp:p≤9*n):zK z n:=by
 have h1:(10:Nat)^p≤10^(9*n):=Nat.pow_le_pow_right (by omega) hp
 unfold zK
 rw[qg3]
 omega
theorem qeG {N:Nat} (hN:10<N) (a b:Int):jQ N [a,b]=some (if a=0 then b else a):=by
 obtain⟨K,rfl⟩: ∃K,N=K+1+1+1:=⟨N-3,by omega⟩
 unfold jQ
 by_cases ha:a=0
 ·by_cases hb:b=0
  ·subst ha;subst hb
   rfl
  ·have h1:zl [a,b] (K+1+1+1) 0=some (.inr b):=by
    rw[zl,if_pos (by simp),qa2]
    simp only[List.getElem?_cons_zero,Option.bind_some]
    rw[if_neg (by simp[ha]),zl,show w64 ((0:Int)+1)=1 from rfl,if_pos (by simp),idx_1]
    simp only[List.getElem?_cons_succ,List.getElem?_cons_zero,Option.bind_some]
    rw[if_pos (by simp[hb])]
   rw[h1,if_pos ha]
   rfl
 ·have h1:zl [a,b] (K+1+1+1) 0=some (.inr a):=by
   rw[zl,if_pos (by simp),qa2]
   simp only[List.getElem?_cons_zero,Option.bind_some]
   rw[if_pos (by simp[ha])]
  rw[h1,if_neg ha]
  rfl
def okF (s:Str):Bool:=decide (Dec ((bdy s).take (slA (bdy s)))∧ ¬(sgn s=true∧(bdy s).take (slA (bdy s))=[48]))
def qif (s:Str):Bool:=decide (slA (bdy s)<(bdy s).length∧ ¬(Dec ((bdy s).drop (slA (bdy s)+1))∧(bdy s).drop (slA (bdy s)+1)≠[48]∧(bdy s).drop (slA (bdy s)+1)≠[49]))
def chk (s:Str):Int:=
 if okF s=false∨qif s=true then 1
 else if 600<((bdy s).take (slA (bdy s))).length∨600<((bdy s).drop (slA (bdy s)+1)).length then 4
 else if slA (bdy s)<(bdy s).length∧Nat.gcd (qM 0 ((bdy s).take (slA (bdy s)))) (qM 0 ((bdy s).drop (slA (bdy s)+1)))≠1 then 1
 else 0
theorem qaU {s:Str} (h:s.all jZ=true):sgn s=false∧bdy s=s:=by
 have e:sgn s=false:=decide_eq_false fun e=>by
  have hm:(45:UInt8)∈s:=List.mem_of_getElem? e
  exact absurd (List.all_eq_true.1 h _ hm) (by decide)
 exact⟨e,by unfold bdy;rw[e];rfl⟩
theorem qch {s:Str} (h:s.all jZ=true):qit s=(qM 0 s:Nat):=by
 obtain⟨h1,h2⟩:=qaU h
 unfold qit
 rw[h1,h2]
 rfl
theorem qeZ (s:Str):(bdy s).length≤s.length:=by
 unfold bdy
 split
 ·rw[List.length_drop];omega
 ·exact Nat.le_refl _
theorem qd0 {s:Str} {k:Nat} (h:Dec s) (hk:s.length≤k):((qM 0 s:Nat):Int).natAbs<10^k:=by
 have h1:=qdR s 0 h.2.1
 have h2:(10:Nat)^s.length≤10^k:=Nat.pow_le_pow_right (by omega) hk
 omega
theorem qeE {s:Str} (h:Dec s) (h0:s≠[48]):0<qM 0 s:=by
 rcases Nat.eq_zero_or_pos (qM 0 s)with e|e
 ·have:=h.eq
  rw[e,ve (by decide)]at this
  exact absurd this h0
 ·exact e
theorem qfd {N:Nat} (hN:600000<N) {s:Str} (hl:s.length≤10000):xJ N s=some (chk s):=by
 have hb:=qeZ s
 have hk:=qe4 (bdy s)
 have lt:((bdy s).take (slA (bdy s))).length=slA (bdy s):=by rw[List.length_take];omega
 have ld:((bdy s).drop (slA (bdy s)+1)).length=(bdy s).length-(slA (bdy s)+1):=by rw[List.length_drop]
 unfold xJ
 rw[qie,Option.bind_some]
 simp only
 have C:strings_Cut (bdy s) [47]=some ((bdy s).take (slA (bdy s)),(bdy s).drop (slA (bdy s)+1),decide (slA (bdy s)<(bdy s).length)):=by
  rw[qnk (by omega)]
  by_cases c:slA (bdy s)<(bdy s).length
  ·rw[if_pos c,decide_eq_true c]
  ·rw[if_neg c,decide_eq_false c,List.take_of_length_le (by omega),List.drop_of_length_le (by omega)]
 rw[C,Option.bind_some]
 unfold chk okF qif
 generalize hn:(bdy s).take (slA (bdy s))=n at*
 generalize hd:(bdy s).drop (slA (bdy s)+1)=d at*
 generalize slA (bdy s)=k at*
 generalize (bdy s).length=m at*
 simp only
 rw[qeO (by omega),Option.bind_some]
 have B6:(if decide (Dec n)=true then if(!sgn s)=true then some true else some (!(n==[48]))else some false:Option Bool)=some (decide (Dec n∧ ¬(sgn s=true∧n=[48]))):=by
  by_cases h1:Dec n
  ·cases h2:sgn s with
   |false=>simp[h1]
   |true=>
    by_cases h3:n=[48]<;>simp[h1,h3]
  ·simp[h1]
 rw[B6,Option.bind_some]
 generalize hf:decide (Dec n∧ ¬(sgn s=true∧n=[48]))=ok at*
 have B8:(if decide (k<m)=true then(if ok=true then(jh d).bind fun r12=>if r12=true then if(!(d==[48]))=true then some (!(d==[49]))else some false else some false else some false:Option Bool).bind fun b15=>some b15 else some ok:Option Bool)=some (ok&&!decide (k<m∧ ¬(Dec d∧d≠[48]∧d≠[49]))):=by
  by_cases h1:k<m
  ·cases ok with
   |false=>simp[h1]
   |true=>
    rw[qeO (by omega)]
    by_cases h2:Dec d
    ·by_cases h3:d=[48]
     ·simp[h1,h2,h3]
     ·by_cases h4:d=[49]<;>simp[h1,h2,h3,h4]
    ·simp[h1,h2]
  ·simp[h1]
 rw[B8,Option.bind_some]
 generalize hg:decide (k<m∧ ¬(Dec d∧d≠[48]∧d≠[49]))=bd at*
 have B:((qU (!(ok&&!bd)) 1).bind fun r17=>if(n.length:Int)>600 then(qU true 4).bind fun r19=>(jQ N ([r17,r19]:List Int)).bind fun r20=>some (r17,r19,r20)else(qU (decide ((d.length:Int)>600)) 4).bind fun r21=>(jQ N ([r17,r21]:List Int)).bind fun r22=>some (r17,r21,r22):Option (Int×Int×Int))=some (if ok=false∨bd=true then 1 else 0,if 600<n.length∨600<d.length then 4 else 0,if ok=false∨bd=true then 1 else if 600<n.length∨600<d.length then 4 else 0):=by
  have w1:qU (!(ok&&!bd)) 1=some (if ok=false∨bd=true then 1 else 0):=by
   unfold qU
   cases ok<;>cases bd<;>rfl
  rw[w1,Option.bind_some]
  by_cases c:(n.length:Int)>600
  ·rw[if_pos c,show qU true 4=some 4 from rfl,Option.bind_some,qeG (by omega),Option.bind_some,if_pos (show 600<n.length∨600<d.length from .inl (by omega))]
   by_cases c2:ok=false∨bd=true
   ·simp only[if_pos c2];rfl
   ·simp only[if_neg c2];rfl
  ·have w2:qU (decide ((d.length:Int)>600)) 4=some (if 600<n.length∨600<d.length then 4 else 0):=by
    unfold qU
    by_cases c2:(d.length:Int)>600
    ·rw[decide_eq_true c2,if_pos rfl,if_pos (.inr (by omega))]
    ·rw[decide_eq_false c2,if_neg (by simp),if_neg (by omega)]
   rw[if_neg c,w2,Option.bind_some,qeG (by omega),Option.bind_some]
   by_cases c2:ok=false∨bd=true
   ·simp only[if_pos c2];rfl
   ·simp only[if_neg c2];rfl
 rw[B,Option.bind_some]
 simp only
 by_cases c1:ok=false∨bd=true
 ·simp only[if_pos c1];rfl
 ·simp only[if_neg c1]
  by_cases c2:600<n.length∨600<d.length
  ·simp only[if_pos c2];rfl
  ·simp only[if_neg c2]
   rw[if_neg (show¬((!decide True)=true)by decide)]
   have ho:ok=true:=by cases ok<;>simp at c1⊢
   have hbd:bd=false:=by cases bd<;>simp at c1⊢
   have hDn:=(of_decide_eq_true (hf.trans ho)).1
   by_cases c3:k<m
   ·have hDd:Dec d∧d≠[48]∧d≠[49]:=Classical.byContradiction fun hc=>of_decide_eq_false (hg.trans hbd) ⟨c3,hc⟩
    obtain⟨r1,e1,h1⟩:=qfV hN (s:=n) (by rw[(qaU hDn.2.1).2];exact hDn.2.1) (by rw[(qaU hDn.2.1).2];omega)
    obtain⟨r2,e2,h2⟩:=qfV hN (s:=d) (by rw[(qaU hDd.1.2.1).2];exact hDd.1.2.1) (by rw[(qaU hDd.1.2.1).2];omega)
    rw[qch hDn.2.1]at h1
    rw[qch hDd.1.2.1]at h2
    have f1:Fit ((qM 0 n:Nat):Int) 40:=qeN (p:=600) (by have:=qd0 hDn (k:=600) (by omega);omega) (by omega)
    have f2:Fit ((qM 0 d:Nat):Int) 40:=qeN (p:=600) (by have:=qd0 hDd.1 (k:=600) (by omega);omega) (by omega)
    obtain⟨g,e3,h3⟩:=qm8 hN h1 h2 (f1.mono (by omega)) (f2.mono (by omega))
    have eg:Int.gcd ((qM 0 n:Nat):Int) ((qM 0 d:Nat):Int)=Nat.gcd (qM 0 n) (qM 0 d):=rfl
    rw[eg]at h3
    have hgp:0<Nat.gcd (qM 0 n) (qM 0 d):=Nat.gcd_pos_of_pos_right _ (qeE hDd.1 hDd.2.1)
    have fg:Fit ((Nat.gcd (qM 0 n) (qM 0 d):Nat):Int) 40:=qba (by
     have:=Nat.le_of_dvd (qeE hDd.1 hDd.2.1) (Nat.gcd_dvd_right (qM 0 n) (qM 0 d))
     omega) f2
    have e4:=qnE (N:=N) (by omega) h3 (IsZ.small (z:=1) (by decide) (by decide)) (fg.mono (by omega)) (F1 (by omega))
    rw[decide_eq_true c3,if_pos rfl,e1,Option.bind_some,e2,Option.bind_some,e3,Option.bind_some,qhA,Option.bind_some,e4,Option.bind_some,Option.bind_some]
    unfold qU
    by_cases c4:Nat.gcd (qM 0 n) (qM 0 d)=1
    ·rw[if_neg (show¬((Nat.gcd (qM 0 n) (qM 0 d):Nat):Int)<1 by omega),if_pos (show((Nat.gcd (qM 0 n) (qM 0 d):Nat):Int)=1 by omega),if_neg (show¬(k<m∧Nat.gcd (qM 0 n) (qM 0 d)≠1)from fun h=>h.2 c4)]
     rfl
    ·have: ¬((Nat.gcd (qM 0 n) (qM 0 d):Nat):Int)<1:=by omega
     rw[if_neg this,if_neg (show¬(((Nat.gcd (qM 0 n) (qM 0 d):Nat):Int)=1)by omega),if_pos (show k<m∧Nat.gcd (qM 0 n) (qM 0 d)≠1 from⟨c3,c4⟩)]
     rfl
   ·rw[decide_eq_false c3,if_neg (by simp),Option.bind_some,if_neg (by omega)]
    rfl
end Go.Av
end
section
namespace Go.Av
set_option linter.unusedVariables false
set_option linter.unusedSimpArgs false
set_option maxRecDepth 100000
theorem qnK:dg E9 1=[1]:=qh7 (by decide) (by decide)
theorem qpo {N:Nat} (hN:100<N):xz N 1=some (rI 1):=by
 obtain⟨K,rfl⟩: ∃K,N=K+1+1:=⟨N-2,by omega⟩
 have h:jr (K+1+1) [] 1=some [1]:=by
  rw[jr,if_pos (by decide),if_neg (by decide),Option.bind_some,qcE (by simp) (by simp),Option.bind_some,show w64 ((1:Int).tdiv 1000000000)=0 from rfl,jr,if_neg (by decide)]
  rfl
 unfold xz
 rw[h,Option.bind_some,decide_eq_false (by decide),xC false (w:=[1]) (Dg.cons ⟨by decide,by decide⟩ Dg.nil) (by simp) (by simp),Option.bind_some]
 rfl
theorem qhu {N:Nat} (hN:600000<N) {s:Str} (hl:s.length≤10000) (hk:slA s<s.length) (h1:(bdy (s.take (slA s))).all jZ=true) (h2:(bdy (s.drop (slA s+1))).all jZ=true):zY N s=some (rI (qit (s.take (slA s))),rI (qit (s.drop (slA s+1)))):=by
 have b1:=qeZ (s.take (slA s))
 have b2:=qeZ (s.drop (slA s+1))
 rw[List.length_take]at b1
 rw[List.length_drop]at b2
 unfold zY
 rw[qds (by omega) (by omega),Option.bind_some,if_neg (by omega),yl (by omega),Option.bind_some,qgS (by omega) h1 (by omega),Option.bind_some,zL (by omega),yN (by omega),Option.bind_some,qgS (by omega) h2 (by omega),Option.bind_some]
theorem qhR {N:Nat} (hN:600000<N) {s:Str} (hl:s.length≤10000):xq N s=some (chk s):=by
 have hb:=qeZ s
 have hk:=qe4 (bdy s)
 have lt:((bdy s).take (slA (bdy s))).length=slA (bdy s):=by rw[List.length_take];omega
 have ld:((bdy s).drop (slA (bdy s)+1)).length=(bdy s).length-(slA (bdy s)+1):=by rw[List.length_drop]
 unfold xq
 rw[qex,Option.bind_some,qkn,Option.bind_some,qds (by omega) (by omega),Option.bind_some,yl hk,Option.bind_some,qgy (by omega) (by omega),Option.bind_some]
 have I:Dec ((bdy s).take (slA (bdy s)))→((idx s 0).bind fun c13=>if(c13.toNat:Int)=45 then(some ((bdy s).take (slA (bdy s)))).bind fun s15=>some (s15==[48])else some false:Option Bool)=some (sgn s&&((bdy s).take (slA (bdy s))==[48])):=by
  intro hD
  have h1:=hD.1
  have hs:=qex s
  rw[if_pos (by omega)]at hs
  rw[qa2]at hs⊢
  cases e:s[0]? with
  |none=>rw[e]at hs;cases hs
  |some c=>
   rw[e,Option.bind_some]at hs
   rw[Option.bind_some,←Option.some.inj hs]
   by_cases c2:(c.toNat:Int)=45
   ·rw[if_pos c2,decide_eq_true c2,Option.bind_some,Bool.true_and]
   ·rw[if_neg c2,decide_eq_false c2,Bool.false_and]
 have S16:(if(!decide (Dec ((bdy s).take (slA (bdy s)))))=true then some true else(idx s 0).bind fun c13=>if(c13.toNat:Int)=45 then(some ((bdy s).take (slA (bdy s)))).bind fun s15=>some (s15==[48])else some false:Option Bool)=some (!okF s):=by
  unfold okF
  by_cases hD:Dec ((bdy s).take (slA (bdy s)))
  ·rw[if_neg (by simp[hD]),I hD]
   congr 1
   rw[Bool.eq_iff_iff]
   simp[hD]
  ·rw[if_pos (by simp[hD])]
   simp[hD]
 rw[S16,Option.bind_some]
 have S26:(if(slA (bdy s):Int)<((bdy s).length:Int)then(cut (bdy s) (w64 ((slA (bdy s):Int)+1)) ((bdy s).length:Int)).bind fun s20=>(zQ N s20).bind fun r21=>if(!r21)=true then some true else(cut (bdy s) (w64 ((slA (bdy s):Int)+1)) ((bdy s).length:Int)).bind fun s23=>if(s23==[48])=true then some true else(cut (bdy s) (w64 ((slA (bdy s):Int)+1)) ((bdy s).length:Int)).bind fun s25=>some (s25==[49])else some false:Option Bool)=some (qif s):=by
  unfold qif
  by_cases c:slA (bdy s)<(bdy s).length
  ·rw[if_pos (by omega),zL (by omega),yN (by omega),Option.bind_some,qgy (by omega) (by omega),Option.bind_some]
   by_cases hD:Dec ((bdy s).drop (slA (bdy s)+1))
   ·rw[if_neg (by simp[hD]),Option.bind_some]
    by_cases h3:(bdy s).drop (slA (bdy s)+1)=[48]
    ·rw[if_pos (by simp[h3])]
     simp[c,h3]
    ·rw[if_neg (by simp[h3]),Option.bind_some]
     congr 1
     rw[Bool.eq_iff_iff]
     simp[c,h3,hD]
   ·rw[if_pos (by simp[hD])]
    simp[c,hD]
  ·rw[if_neg (by omega)]
   simp[c]
 have S30:(if(slA (bdy s):Int)>600 then some true else some (decide ((w64 ((w64 (((bdy s).length:Int)-(slA (bdy s):Int)))-1))>600)):Option Bool)=some (decide (600<((bdy s).take (slA (bdy s))).length∨600<((bdy s).drop (slA (bdy s)+1)).length)):=by
  rw[lt,ld]
  by_cases c:(slA (bdy s):Int)>600
  ·rw[if_pos c,decide_eq_true (.inl (by omega))]
  ·rw[if_neg c,qh (n:=((bdy s).length:Int)-(slA (bdy s):Int)) (by omega) (by omega),qh (by omega) (by omega)]
   congr 1
   exact decide_eq_decide.2 (by omega)
 unfold chk
 by_cases h1:okF s=true
 ·rw[h1,if_neg (by simp),S26,Option.bind_some]
  by_cases h2:qif s=true
  ·rw[h2,if_pos rfl,if_pos (.inr rfl)]
  ·have h2':qif s=false:=by simpa using h2
   rw[h2',if_neg (by simp),S30,Option.bind_some,if_neg (show¬(true=false∨false=true)by simp)]
   by_cases h3:600<((bdy s).take (slA (bdy s))).length∨600<((bdy s).drop (slA (bdy s)+1)).length
   ·rw[decide_eq_true h3,if_pos rfl,if_pos h3]
   ·rw[decide_eq_false h3,if_neg (by simp),if_neg h3]
    by_cases c:slA (bdy s)<(bdy s).length
    ·have hDn:=(of_decide_eq_true h1).1
     have hDd:Dec ((bdy s).drop (slA (bdy s)+1))∧(bdy s).drop (slA (bdy s)+1)≠[48]∧(bdy s).drop (slA (bdy s)+1)≠[49]:=Classical.byContradiction fun hc=>of_decide_eq_false h2' ⟨c,hc⟩
     have ep:=qhu hN (s:=bdy s) (by omega) c (by rw[(qaU hDn.2.1).2];exact hDn.2.1) (by rw[(qaU hDd.1.2.1).2];exact hDd.1.2.1)
     rw[qch hDn.2.1,qch hDd.1.2.1]at ep
     rw[if_pos (by omega),ep,Option.bind_some]
     simp only
     have v1:=qd0 hDn (k:=600) (by omega)
     have v2:=qd0 hDd.1 (k:=600) (by omega)
     have v3:=qeE hDd.1 hDd.2.1
     generalize qM 0 ((bdy s).take (slA (bdy s)))=n at*
     generalize qM 0 ((bdy s).drop (slA (bdy s)+1))=d at*
     have f1:zK ((n:Nat):Int) 8000:=(qiw (p:=600) (n:=70) (by omega) (by omega)).mono (by omega)
     have f2:zK ((d:Nat):Int) 8000:=(qiw (p:=600) (n:=70) (by omega) (by omega)).mono (by omega)
     have e1:(rI ((n:Nat):Int)).w=dg E9 ((n:Nat):Int):=by
      show dg E9 (((n:Nat):Int).natAbs:Int)=_
      rw[Int.natAbs_natCast]
     have e2:(rI ((d:Nat):Int)).w=dg E9 ((d:Nat):Int):=by
      show dg E9 (((d:Nat):Int).natAbs:Int)=_
      rw[Int.natAbs_natCast]
     have ec:=qho (N:=N) hN (a:=((n:Nat):Int)) (b:=((d:Nat):Int)) (by omega) (by omega) f1 f2
     have eg:Int.gcd ((n:Nat):Int) ((d:Nat):Int)=Nat.gcd n d:=rfl
     rw[eg]at ec
     rw[e1,e2,ec,Option.bind_some]
     have hg:0<Nat.gcd n d:=Nat.gcd_pos_of_pos_right _ v3
     have cc:=zF E1 (show(0:Int)≤((Nat.gcd n d:Nat):Int)by omega)
     have vv:=jo E1 (show(0:Int)≤((Nat.gcd n d:Nat):Int)by omega)
     by_cases h4:Nat.gcd n d=1
     ·have:dg E9 ((Nat.gcd n d:Nat):Int)=[1]:=by rw[show((Nat.gcd n d:Nat):Int)=1 by omega];exact qnK
      rw[this,if_neg (by simp),qa2,if_neg (fun h=>h.2 h4)]
      rfl
     ·rw[if_pos (show slA (bdy s)<(bdy s).length∧Nat.gcd n d≠1 from⟨c,h4⟩)]
      by_cases h5:(dg E9 ((Nat.gcd n d:Nat):Int)).length=1
      ·obtain⟨x,hx⟩:=List.length_eq_one_iff.1 h5
       rw[hx,zb,kC,Int.mul_zero,Int.add_zero]at vv
       have hx1:x≠1:=by omega
       rw[hx,if_neg (by simp),qa2]
       simp only[List.getElem?_cons_zero,Option.bind_some,decide_eq_false hx1]
       rfl
      ·rw[if_pos (by simp;omega)]
       rfl
    ·rw[if_neg (by omega),if_neg (by omega)]
     rfl
 ·have h1':okF s=false:=by simpa using h1
  rw[h1',if_pos (by simp),if_pos (.inl rfl)]
end Go.Av
end
section
namespace Go.Av
set_option linter.unusedVariables false
set_option linter.unusedSimpArgs false
set_option maxRecDepth 100000
def tl (q:Rat):Str:=if q.den=1 then[]else 47::Lib.decDigits q.den
theorem qlJ (q:Rat):T q=Lib.itoa q.num++tl q:=rfl
theorem no47 {s:Str} (h:s.all jZ=true): ∀c∈s,c≠47:=fun c hc e=>by
 have:=List.all_eq_true.1 h c hc
 rw[e]at this
 exact absurd this (by decide)
theorem qjg: ∀{s:Str},(∀c∈s,c≠47)→slA s=s.length:=fun {s} h=>(qih s [] h).2
theorem qiu {s:Str} (h: ∀c∈s,c≠47) (q:Rat):slA (s++tl q)=s.length:=by
 unfold tl
 by_cases c:q.den=1
 ·rw[if_pos c,List.append_nil]
  exact qjg h
 ·rw[if_neg c]
  exact(qih s _ h).1
theorem qdZ (z:Int): ∀c∈Lib.itoa z,c≠47:=by
 by_cases h:z<0
 ·rw[vF h]
  intro c hc
  rcases List.mem_cons.1 hc with e|e
  ·rw[e];decide
  ·exact no47 (qa9 _) c e
 ·rw[zH h]
  exact no47 (qa9 _)
theorem qop {s t:Str} (h:0<s.length):sgn (s++t)=sgn s:=by
 unfold sgn
 rw[List.getElem?_append_left h]
theorem qiI (z:Int):0<(Lib.itoa z).length:=by
 by_cases h:z<0
 ·rw[vF h];simp
 ·rw[zH h];exact qj9 _
theorem qlk (q:Rat):sgn (T q)=decide (q.num<0):=by rw[qlJ,qop (qiI _),qeI]
theorem qoH (q:Rat):bdy (T q)=Lib.decDigits q.num.natAbs++tl q:=by
 unfold bdy
 rw[qlk,qlJ]
 by_cases h:q.num<0
 ·rw[decide_eq_true h,if_pos rfl,vF h]
  rfl
 ·rw[decide_eq_false h,if_neg (by simp),zH h]
theorem T_inj {p q:Rat} (h:T p=T q):p=q:=by
 have h1:=congrArg slA h
 have e1:slA (T p)=(Lib.itoa p.num).length:=qiu (qdZ _) p
 have e2:slA (T q)=(Lib.itoa q.num).length:=qiu (qdZ _) q
 rw[e1,e2]at h1
 rw[qlJ,qlJ]at h
 obtain⟨h2,h3⟩:=List.append_inj h h1
 have n1:p.num=q.num:=by rw[←qbp p.num,h2,qbp]
 have n2:p.den=q.den:=by
  unfold tl at h3
  by_cases c:p.den=1
  ·by_cases d:q.den=1
   ·rw[c,d]
   ·rw[if_pos c,if_neg d]at h3;cases h3
  ·by_cases d:q.den=1
   ·rw[if_neg c,if_pos d]at h3;cases h3
   ·rw[if_neg c,if_neg d]at h3
    injection h3 with _ h3
    exact qoQ h3
 exact Rat.ext n1 n2
theorem qkq: ∀{s:Str},slA s<s.length→s=s.take (slA s)++47::s.drop (slA s+1)
 |[],h=>by simp at h
 |c::s,h=>by
  rw[slA]at h⊢
  by_cases e:c=47
  ·rw[if_pos e,e]
   rfl
  ·rw[if_neg e,List.length_cons]at h
   rw[if_neg e,List.take_succ_cons,List.drop_succ_cons,List.cons_append,←qkq (show slA s<s.length by omega)]
theorem qn9 (s:Str):s=if sgn s=true then 45::bdy s else bdy s:=by
 unfold bdy
 cases h:sgn s with
 |false=>rw[if_neg (by simp),if_neg (by simp)]
 |true=>
  rw[if_pos rfl,if_pos rfl]
  cases s with
  |nil=>cases h
  |cons c t=>
   have e:=of_decide_eq_true h
   simp only[List.getElem?_cons_zero]at e
   rw[Option.some.inj e]
   rfl
theorem qiQ {s:Str} (h:chk s=0): ∃q:Rat,s=T q∧(Lib.decDigits q.num.natAbs).length≤600∧(Lib.decDigits q.den).length≤600:=by
 have hk:=qe4 (bdy s)
 have lt:((bdy s).take (slA (bdy s))).length=slA (bdy s):=by rw[List.length_take];omega
 have hs:=qn9 s
 have hsp:=@qkq (bdy s)
 unfold chk at h
 by_cases h1:okF s=false∨qif s=true
 ·rw[if_pos h1]at h;cases h
 rw[if_neg h1]at h
 by_cases h2:600<((bdy s).take (slA (bdy s))).length∨600<((bdy s).drop (slA (bdy s)+1)).length
 ·rw[if_pos h2]at h;cases h
 rw[if_neg h2]at h
 by_cases h3:slA (bdy s)<(bdy s).length∧Nat.gcd (qM 0 ((bdy s).take (slA (bdy s)))) (qM 0 ((bdy s).drop (slA (bdy s)+1)))≠1
 ·rw[if_pos h3]at h;cases h
 have ho:okF s=true:=by cases e:okF s with|true=>rfl|false=>exact absurd (.inl e) h1
 have hb:qif s=false:=by cases e:qif s with|false=>rfl|true=>exact absurd (.inr e) h1
 obtain⟨hDn,hng⟩:=of_decide_eq_true ho
 have en:=hDn.eq
 obtain⟨z,hz1,hz2⟩: ∃z:Int,z.natAbs=qM 0 ((bdy s).take (slA (bdy s)))∧(z<0↔sgn s=true):=by
  cases e:sgn s with
  |false=>exact⟨((qM 0 ((bdy s).take (slA (bdy s))):Nat):Int),by omega,by simp⟩
  |true=>
   have:=qeE hDn fun c=>hng ⟨e,c⟩
   exact⟨-((qM 0 ((bdy s).take (slA (bdy s))):Nat):Int),by omega,by simp;omega⟩
 have hT: ∀t:Str,bdy s=(bdy s).take (slA (bdy s))++t→s=Lib.itoa z++t:=by
  intro t ht
  rw[hs]
  by_cases c:z<0
  ·rw[if_pos (hz2.1 c),vF c,hz1,←en,List.cons_append,←ht]
  ·rw[if_neg fun e=>c (hz2.2 e),zH c,hz1,←en,←ht]
 by_cases c:slA (bdy s)<(bdy s).length
 ·have hDd:Dec ((bdy s).drop (slA (bdy s)+1))∧(bdy s).drop (slA (bdy s)+1)≠[48]∧(bdy s).drop (slA (bdy s)+1)≠[49]:=Classical.byContradiction fun hc=>of_decide_eq_false hb ⟨c,hc⟩
  have ed:=hDd.1.eq
  have hd0:=qeE hDd.1 hDd.2.1
  have hd1:qM 0 ((bdy s).drop (slA (bdy s)+1))≠1:=fun e=>by
   rw[e,ve (by decide)]at ed
   exact hDd.2.2 ed
  have hg:Nat.gcd z.natAbs (qM 0 ((bdy s).drop (slA (bdy s)+1)))=1:=by
   rw[hz1]
   exact Classical.byContradiction fun e=>h3 ⟨c,e⟩
  refine⟨⟨z,qM 0 ((bdy s).drop (slA (bdy s)+1)),by omega,hg⟩,?_,?_,?_⟩
  ·have:=hT _ (hsp c)
   unfold T
   rw[if_neg hd1]
   show s=Lib.itoa z++47::Lib.decDigits (qM 0 ((bdy s).drop (slA (bdy s)+1)))
   rw[←ed]
   exact this
  ·show(Lib.decDigits z.natAbs).length≤600
   rw[hz1,←en]
   omega
  ·show(Lib.decDigits (qM 0 ((bdy s).drop (slA (bdy s)+1)))).length≤600
   rw[←ed]
   omega
 ·refine⟨(z:Rat),?_,?_,?_⟩
  ·have:=hT [] (by rw[List.append_nil,List.take_of_length_le (by omega)])
   unfold T
   rw[Rat.den_intCast,if_pos rfl,Rat.num_intCast]
   exact this
  ·rw[Rat.num_intCast,hz1,←en]
   omega
  ·rw[Rat.den_intCast,ve (by decide)]
   simp
end Go.Av
end
section
namespace Go.Av
set_option linter.unusedVariables false
set_option linter.unusedSimpArgs false
set_option maxRecDepth 100000
def Sml (q:Rat) (k:Nat):Prop:=(Lib.decDigits q.num.natAbs).length≤k∧(Lib.decDigits q.den).length≤k
theorem qig (z:Int):(Lib.itoa z).length≤(Lib.decDigits z.natAbs).length+1:=by
 by_cases h:z<0
 ·rw[vF h];simp
 ·rw[zH h];omega
theorem qfO (q:Rat) (h:q.den≠1):slA (T q)<(T q).length∧(T q).take (slA (T q))=Lib.itoa q.num∧(T q).drop (slA (T q)+1)=Lib.decDigits q.den:=by
 have e:slA (T q)=(Lib.itoa q.num).length:=qiu (qdZ _) q
 have ht:T q=Lib.itoa q.num++47::Lib.decDigits q.den:=by unfold T;rw[if_neg h]
 rw[e,ht]
 refine⟨by rw[List.length_append,List.length_cons];omega,?_,?_⟩
 ·rw[List.take_append_of_le_length (Nat.le_refl _),List.take_of_length_le (Nat.le_refl _)]
 ·rw[List.drop_append,List.drop_of_length_le (by omega),show(Lib.itoa q.num).length+1-(Lib.itoa q.num).length=1 by omega]
  rfl
theorem qeJ (q:Rat) (h:q.den=1):T q=Lib.itoa q.num∧slA (T q)=(T q).length:=by
 have ht:T q=Lib.itoa q.num:=by unfold T;rw[if_pos h,List.append_nil]
 refine⟨ht,?_⟩
 rw[ht]
 exact qjg (qdZ _)
theorem qgI {q:Rat} {k:Nat} (h:Sml q k):(T q).length≤2*k+2:=by
 have h1:=qig q.num
 have h2:=h.1
 have h3:=h.2
 unfold T
 rw[List.length_append]
 split
 ·simp;omega
 ·rw[List.length_cons];omega
theorem qaT {N:Nat} (hN:600000<N) {q:Rat} (h:Sml q 9000): ∃f,vM N (T q)=some f∧IsF f q:=by
 have hl:=qgI h
 have h1:=h.1
 have h2:=h.2
 unfold vM
 rw[qnk (by omega),Option.bind_some]
 obtain⟨r1,e1,i1⟩:=qfV hN (s:=Lib.itoa q.num) (by rw[qa4];exact qa9 _) (by rw[qa4];omega)
 rw[qbp]at i1
 by_cases c:q.den=1
 ·obtain⟨t1,t2⟩:=qeJ q c
  rw[if_neg (show¬slA (T q)<(T q).length by omega)]
  obtain⟨f,e2,i2⟩:=qjM i1
  rw[if_pos (by rfl),t1,e1,Option.bind_some,e2,Option.bind_some]
  refine⟨f,rfl,?_⟩
  have:(q.num:Rat)=q:=Rat.ext (by simp) (by simp[c])
  rw[this]at i2
  exact i2
 ·obtain⟨t1,t2,t3⟩:=qfO q c
  rw[if_pos t1]
  have hd:=qa9 q.den
  obtain⟨r2,e2,i2⟩:=qfV hN (s:=Lib.decDigits q.den) (by rw[(qaU hd).2];exact hd) (by rw[(qaU hd).2];omega)
  rw[qch hd,qdn]at i2
  rw[if_neg (by simp),t2,t3,e1,Option.bind_some,e2,Option.bind_some]
  exact⟨⟨r1,r2⟩,rfl,i1,i2⟩
theorem qcq {N:Nat} (hN:600000<N) {q:Rat} (h:Sml q 4000):zY N (T q)=some (rI q.num,rI (q.den:Int)):=by
 have hl:=qgI h
 have h1:=h.1
 have h2:=h.2
 by_cases c:q.den=1
 ·obtain⟨t1,t2⟩:=qeJ q c
  unfold zY
  rw[qds (by omega) (by omega),Option.bind_some,t2,if_pos rfl,t1,qgS (by omega) (by rw[qa4];exact qa9 _) (by rw[qa4];omega),Option.bind_some,qpo (by omega),Option.bind_some,qbp,c]
  rfl
 ·obtain⟨t1,t2,t3⟩:=qfO q c
  have hd:=qa9 q.den
  rw[qhu hN (by omega) t1 (by rw[t2,qa4];exact qa9 _) (by rw[t3,(qaU hd).2];exact hd),t2,t3,qbp,qch hd,qdn]
end Go.Av
end
section
namespace Go.Av
set_option linter.unusedVariables false
set_option linter.unusedSimpArgs false
set_option maxRecDepth 100000
theorem qlO {n:Nat} (h:0<n):(if((dg E9 (n:Int)).length:Int)=1 then(idx (dg E9 (n:Int)) 0).bind fun x15=>some (decide (x15=1))else some false:Option Bool)=some (decide (n=1)):=by
 have vv:=jo E1 (show(0:Int)≤(n:Int)by omega)
 by_cases h4:n=1
 ·rw[show(n:Int)=1 by omega,qnK,if_pos (by simp),qa2,h4]
  rfl
 ·rw[decide_eq_false h4]
  by_cases h5:(dg E9 (n:Int)).length=1
  ·obtain⟨x,hx⟩:=List.length_eq_one_iff.1 h5
   rw[hx,zb,kC,Int.mul_zero,Int.add_zero]at vv
   have hx1:x≠1:=by omega
   rw[hx,if_pos (by simp),qa2]
   simp only[List.getElem?_cons_zero,Option.bind_some,decide_eq_false hx1]
  ·rw[if_neg (by omega)]
theorem zK.abs {z:Int} {n:Nat} (h:zK z n):zK (z.natAbs:Int) n:=by
 unfold zK at h⊢
 rw[Int.natAbs_natCast]
 exact h
theorem zK.le {a b:Int} {n:Nat} (h:(a.natAbs:Int)≤(b.natAbs:Int)) (k:zK b n):zK a n:=Int.lt_of_le_of_lt h k
theorem zK.itoaLen {z:Int} {n:Nat} (h:zK z n) (hn:0<n):(Lib.itoa z).length≤9*n+1:=by
 have h2:z.natAbs<10^(9*n):=by
  have h:(z.natAbs:Int)<E9^n:=h
  rw[qg3]at h
  exact Int.ofNat_lt.1 h
 have h3:=(qaE (show 0<9*n by omega)).2 h2
 have h4:=qig z
 omega
theorem qkH {N:Nat} (hN:60000<N) {x y:Int} (hx:0≤x) (hy:0<y) {B:Nat} (hB:B≤8000) (fx:zK x B):zU N (dg E9 x) (dg E9 y)=some (dg E9 (x/y),dg E9 (x%y)):=by
 have l:=fx.len
 rw[show(x.natAbs:Int)=x by omega]at l
 rw[qcC hN (zF E1 hx) (zF E1 (by omega)) (by omega) (by rw[jo E1 (by omega)];exact hy),jo E1 hx,jo E1 (by omega)]
theorem den_pos (q:Rat):0<q.den:=Nat.pos_of_ne_zero q.den_nz
theorem qf7 {a b:Int} (hb:b≠0):(b.sign*a).natAbs=a.natAbs:=by rw[Int.natAbs_mul,Int.natAbs_sign_of_ne_zero hb,Nat.one_mul]
theorem qli (a b:Int):Int.gcd (a.natAbs:Int) (b.natAbs:Int)=Int.gcd b a:=by
 rw[Int.gcd_comm]
 rfl
theorem qcA {N:Nat} (hN:600000<N) {B:Nat} (hB0:0<B) (hB:B≤8000) {a b:Int} (fa:zK a B) (fb:zK b B) (hb:b≠0):jI N (rI a) (rI b)=some (T (Rat.divInt a b)):=by
 have hg:0<Int.gcd b a:=Int.gcd_pos_of_ne_zero_left _ hb
 have ea:=qf7 (a:=a) hb
 have S:(if(rI b).neg=true then(yC N (rI a)).bind fun r7=>(yC N (rI b)).bind fun r8=>some (r7.neg,r7.w,r8.neg,r8.w)else some ((rI a).neg,(rI a).w,(rI b).neg,(rI b).w):Option (Bool×(List Int)×Bool×(List Int)))=some (decide (b.sign*a<0),dg E9 (a.natAbs:Int),false,dg E9 (b.natAbs:Int)):=by
  by_cases h:b<0
  ·rw[if_pos (show(rI b).neg=true from decide_eq_true h),qje (by omega) (fa.mono (by omega)),Option.bind_some,qje (by omega) (fb.mono (by omega)),Option.bind_some,Int.sign_eq_neg_one_of_neg h,Int.neg_mul,Int.one_mul]
   show some (decide (-a<0),dg E9 (((-a).natAbs:Nat):Int),decide (-b<0),dg E9 (((-b).natAbs:Nat):Int))=_
   rw[decide_eq_false (show¬ -b<0 by omega),Int.natAbs_neg,Int.natAbs_neg]
  ·rw[if_neg (show¬(rI b).neg=true from fun c=>h (of_decide_eq_true c)),Int.sign_eq_one_of_pos (by omega),Int.one_mul]
   show some (decide (a<0),dg E9 ((a.natAbs:Nat):Int),decide (b<0),dg E9 ((b.natAbs:Nat):Int))=_
   rw[decide_eq_false h]
 have en:(Rat.divInt a b).num=b.sign*a/(Int.gcd b a:Int):=Rat.num_divInt ..
 have ed:(b.natAbs:Int)/(Int.gcd b a:Int)=((Rat.divInt a b).den:Int):=by rw[Rat.den_divInt,if_neg hb,Int.natCast_ediv]
 have hd:=den_pos (Rat.divInt a b)
 have dvd:(Int.gcd b a:Int)∣b.sign*a:=Int.dvd_mul_of_dvd_right (Int.gcd_dvd_right ..)
 have fn:zK (Rat.divInt a b).num B:=by
  rw[en]
  exact zK.le (Int.le_trans (yH _ (by omega)) (by rw[ea];exact Int.le_refl _)) fa
 have fd:zK ((Rat.divInt a b).den:Int) B:=by
  rw[←ed]
  exact zK.le (Int.le_trans (yH _ (by omega)) (Int.le_refl _)) fb.abs
 have vn:(if decide (b.sign*a<0)=true then-dv E9 (dg E9 ((a.natAbs:Int)/(Int.gcd b a:Int)))else dv E9 (dg E9 ((a.natAbs:Int)/(Int.gcd b a:Int))))=(Rat.divInt a b).num:=by
  have p0:0≤(a.natAbs:Int)/(Int.gcd b a:Int):=Int.ediv_nonneg (by omega) (by omega)
  rw[jo E1 p0,en]
  by_cases c:b.sign*a<0
  ·rw[if_pos (decide_eq_true c),show(a.natAbs:Int)= -(b.sign*a)by omega,Int.neg_ediv_of_dvd dvd,Int.neg_neg]
  ·rw[if_neg (fun h=>c (of_decide_eq_true h)),show(a.natAbs:Int)=b.sign*a by omega]
 unfold jI
 rw[S,Option.bind_some]
 simp only
 rw[qho hN (by omega) (by omega) (fa.abs.mono hB) (fb.abs.mono hB),Option.bind_some,qli,qkH (by omega) (by omega) (by omega) hB fa.abs,Option.bind_some,qkH (by omega) (by omega) (by omega) hB fb.abs,Option.bind_some]
 simp only
 have p0:0≤(a.natAbs:Int)/(Int.gcd b a:Int):=Int.ediv_nonneg (by omega) (by omega)
 have ln:(dg E9 ((a.natAbs:Int)/(Int.gcd b a:Int))).length≤B:=by
  have:=(zK.le (Int.le_trans (yH _ (by omega)) (Int.le_refl _)) fa.abs:zK ((a.natAbs:Int)/(Int.gcd b a:Int)) B).len
  rw[show(((a.natAbs:Int)/(Int.gcd b a:Int)).natAbs:Int)=(a.natAbs:Int)/(Int.gcd b a:Int)by omega]at this
  exact this
 have ld:(dg E9 ((Rat.divInt a b).den:Int)).length≤B:=by
  have:=fd.len
  rw[Int.natAbs_natCast]at this
  exact this
 rw[xC _ (zF E1 p0).1 (by omega) (by omega),Option.bind_some,vn,qlm (by omega) (fn.mono (by omega)),Option.bind_some,ed,qlO hd,Option.bind_some]
 have l1:=fn.itoaLen hB0
 have l2:=fd.itoaLen hB0
 unfold T
 by_cases c:(Rat.divInt a b).den=1
 ·rw[if_pos (decide_eq_true c),if_pos c,List.append_nil]
 ·rw[if_neg (fun h=>c (of_decide_eq_true h)),if_neg c,qaL (by simp;omega),Option.bind_some,xC _ (zF E1 (by omega)).1 (by omega) (by omega),Option.bind_some,if_neg (by simp),jo E1 (by omega),qlm (by omega) (fd.mono (by omega)),Option.bind_some,qaL (by simp;omega),Option.bind_some,qe2,List.append_assoc]
  rfl
theorem qoI {a b:Int} (ha:0≤a) (hb:0<b):qdu .i64 a b=some (a%b):=by
 unfold qdu
 rw[if_neg (by omega),Int.tmod_eq_emod_of_nonneg ha]
theorem qoC {a b:Int} (hb:0<b) (h1: -4000000000000000000≤a) (h2:a≤4000000000000000000) (hd:b∣a):qbK .i64 a b=some (a/b):=by
 have:=yH a hb
 unfold qbK
 rw[if_neg (by omega),Int.tdiv_eq_ediv_of_dvd hd]
 show some (w64 _)=_
 rw[qh (by omega) (by omega)]
theorem qkE: ∀(k K:Nat) (a b:Int),0≤a→0≤b→b<2^k→2*k+2≤K→jm K a b=some (Int.gcd a b:Int)
 |k,0,a,b,_,_,_,hK=>by omega
 |k,K+1,a,b,ha,hb,hk,hK=>by
  have na:(a.natAbs:Int)=a:=by omega
  have nb:(b.natAbs:Int)=b:=by omega
  rcases(show b=0∨0<b by omega)with h0|h0
  ·rw[h0,jm,if_neg (by omega),Int.gcd_zero,na]
  ·match k,hk,hK with
   |0,hk,hK=>simp at hk;omega
   |k+1,hk,hK=>
    have m0:=Int.emod_nonneg a (show b≠0 by omega)
    have m1:=Int.emod_lt_of_pos a h0
    rw[jm,if_pos (by omega),qoI ha h0,Option.bind_some,qcd ha hb]
    match K,hK with
    |0,hK=>omega
    |K+1,hK=>
     rcases(show a%b=0∨0<a%b by omega)with g0|g0
     ·rw[g0,jm,if_neg (by omega),Int.gcd_zero,nb]
     ·have n0:=Int.emod_nonneg b (show a%b≠0 by omega)
      have n1:=Int.emod_lt_of_pos b g0
      have hhalf:b%(a%b)<2^k:=by
       have d1:=Int.mul_ediv_add_emod b (a%b)
       have d2:1≤b/(a%b):=by
        rw[Int.le_ediv_iff_mul_le g0]
        omega
       have d3:a%b*1≤a%b*(b/(a%b)):=Int.mul_le_mul_of_nonneg_left d2 (by omega)
       rw[Int.pow_succ]at hk
       omega
      rw[jm,if_pos (by omega),qoI hb g0,Option.bind_some,qcd hb m0]
      exact qkE k K (a%b) (b%(a%b)) m0 n0 hhalf (by omega)
theorem qod {N:Nat} (hN:200<N) {a b:Int} (ha:0≤a) (hb:0≤b) (h:b<9223372036854775808):qcx N a b=some (Int.gcd a b:Int):=by
 unfold qcx
 rw[qkE 63 N a b ha hb h (by omega),Option.bind_some]
theorem rabs {z:Int} (h1: -9223372036854775807≤z) (h2:z≤9223372036854775807):(if w64 (0-z)>z then w64 (0-z)else z)=(z.natAbs:Int):=by
 rw[qh (by omega) (by omega)]
 split<;>omega
theorem qoD {n:Nat} (h:n≤4000000000000000000):(Lib.decDigits n).length≤19:=(qaE (by decide)).2 (by omega)
theorem qnM {N:Nat} (hN:1000<N) {a b:Int} (a1: -4000000000000000000≤a) (a2:a≤4000000000000000000) (b1: -4000000000000000000≤b) (b2:b≤4000000000000000000) (hb:b≠0):qcw N a b=some (T (Rat.divInt a b)):=by
 have hg:0<Int.gcd b a:=Int.gcd_pos_of_ne_zero_left _ hb
 have ea:=qf7 (a:=a) hb
 have S:(if b<0 then some (w64 (0-a),w64 (0-b))else some (a,b):Option (Int×Int))=some (b.sign*a,(b.natAbs:Int)):=by
  by_cases h:b<0
  ·rw[if_pos h,qh (by omega) (by omega),qh (by omega) (by omega),Int.sign_eq_neg_one_of_neg h,show(-1:Int)*a=0-a by omega,show(b.natAbs:Int)=0-b by omega]
  ·rw[if_neg h,Int.sign_eq_one_of_pos (by omega),Int.one_mul,show(b.natAbs:Int)=b by omega]
 have en:(Rat.divInt a b).num=b.sign*a/(Int.gcd b a:Int):=Rat.num_divInt ..
 have ed:(b.natAbs:Int)/(Int.gcd b a:Int)=((Rat.divInt a b).den:Int):=by rw[Rat.den_divInt,if_neg hb,Int.natCast_ediv]
 have hd:=den_pos (Rat.divInt a b)
 have dvd:(Int.gcd b a:Int)∣b.sign*a:=Int.dvd_mul_of_dvd_right (Int.gcd_dvd_right ..)
 have dvb:(Int.gcd b a:Int)∣(b.natAbs:Int):=by
  rw[Int.dvd_natAbs]
  exact Int.gcd_dvd_left ..
 have n1:=yH (b.sign*a) (show(0:Int)<(Int.gcd b a:Int)by omega)
 have n2:=yH (b.natAbs:Int) (show(0:Int)<(Int.gcd b a:Int)by omega)
 rw[←en,ea]at n1
 rw[ed,Int.natAbs_natCast,Int.natAbs_natCast]at n2
 unfold qcw
 rw[if_neg (show¬a< -4000000000000000000 by omega),if_neg (show¬a>4000000000000000000 by omega),if_neg (show¬b< -4000000000000000000 by omega),decide_eq_false (show¬b>4000000000000000000 by omega),Option.bind_some,if_neg (by simp),S,Option.bind_some]
 simp only
 rw[rabs (by omega) (by omega),ea,qod (by omega) (by omega) (by omega) (by omega),Option.bind_some,qli,qoC (by omega) (by omega) (by omega) dvd,Option.bind_some,qoC (by omega) (by omega) (by omega) dvb,Option.bind_some,←en,ed,rabs (by omega) (by omega),qgh (by omega) (by omega),qgh (by omega) (by omega)]
 generalize Rat.divInt a b=q at*
 have l1:=qoD (n:=q.num.natAbs) (by omega)
 have l2:=qoD (n:=q.den) (by omega)
 have S2:((if q.num<0 then some [45]else some []:Option Str).bind fun s17=>(some (Lib.decDigits q.num.natAbs)).bind fun r20=>(cat s17 r20).bind fun s21=>(if(q.den:Int)>1 then(cat s21 [47]).bind fun s25=>(some (Lib.decDigits q.den)).bind fun r26=>(cat s25 r26).bind fun s27=>some s27 else some s21:Option Str).bind fun s22=>some s22)=some (T q):=by
  have li:(Lib.itoa q.num).length≤20:=by have:=qig q.num;omega
  have I:((if q.num<0 then some [45]else some []:Option Str).bind fun s17=>(some (Lib.decDigits q.num.natAbs)).bind fun r20=>(cat s17 r20).bind fun s21=>(if(q.den:Int)>1 then(cat s21 [47]).bind fun s25=>(some (Lib.decDigits q.den)).bind fun r26=>(cat s25 r26).bind fun s27=>some s27 else some s21:Option Str).bind fun s22=>some s22)=((if(q.den:Int)>1 then(cat (Lib.itoa q.num) [47]).bind fun s25=>(some (Lib.decDigits q.den)).bind fun r26=>(cat s25 r26).bind fun s27=>some s27 else some (Lib.itoa q.num):Option Str).bind fun s22=>some s22):=by
   by_cases c:q.num<0
   ·rw[if_pos c,Option.bind_some,Option.bind_some,qaL (by simp;omega),Option.bind_some,vF c]
    rfl
   ·rw[if_neg c,Option.bind_some,Option.bind_some,qaL (by simp;omega),Option.bind_some,zH c]
    rfl
  rw[I]
  unfold T
  by_cases c:q.den=1
  ·rw[if_neg (by omega),if_pos c,Option.bind_some,List.append_nil]
  ·rw[if_pos (by omega),if_neg c,qaL (by simp;omega),Option.bind_some,Option.bind_some,qaL (by simp;omega),Option.bind_some,Option.bind_some,List.append_assoc]
   rfl
 exact S2
end Go.Av
end
section
namespace Go.Av
set_option linter.unusedVariables false
set_option linter.unusedSimpArgs false
set_option maxRecDepth 100000
theorem Sml.mono {q:Rat} {m n:Nat} (h:Sml q m) (hn:m≤n):Sml q n:=⟨Nat.le_trans h.1 hn,Nat.le_trans h.2 hn⟩
theorem qbl {q:Rat} {k n:Nat} (h:Sml q k) (hk:0<k) (hn:k≤9*n):zK q.num n:=qiw (p:=k) (Int.ofNat_lt.2 ((qaE hk).1 h.1)) hn
theorem qbj {q:Rat} {k n:Nat} (h:Sml q k) (hk:0<k) (hn:k≤9*n):zK (q.den:Int) n:=qiw (p:=k) (by rw[Int.natAbs_natCast];exact Int.ofNat_lt.2 ((qaE hk).1 h.2)) hn
theorem xS {q:Rat} {k n:Nat} (h:Sml q k) (hk:0<k) (hn:k≤19*n):qaB q n:=⟨qeN (p:=k) (Int.ofNat_lt.2 ((qaE hk).1 h.1)) hn,qeN (p:=k) (by rw[Int.natAbs_natCast];exact Int.ofNat_lt.2 ((qaE hk).1 h.2)) hn⟩
theorem qk0 {z:Int} {n:Nat} (h:zK z n) (hn:0<n):(Lib.decDigits z.natAbs).length≤9*n:=by
 refine(qaE (by omega)).2 ?_
 have h:(z.natAbs:Int)<E9^n:=h
 rw[qg3]at h
 exact Int.ofNat_lt.1 h
theorem qiV {q:Rat} {n:Nat} (h1:zK q.num n) (h2:zK (q.den:Int) n) (hn:0<n):Sml q (9*n):=by
 have h3:=qk0 h2 hn
 rw[Int.natAbs_natCast]at h3
 exact⟨qk0 h1 hn,h3⟩
theorem qfn {a b:Int} {n:Nat} (hb:b≠0) (fa:zK a n) (fb:zK b n):zK (Rat.divInt a b).num n∧zK ((Rat.divInt a b).den:Int) n:=by
 have hg:0<Int.gcd b a:=Int.gcd_pos_of_ne_zero_left _ hb
 constructor
 ·rw[Rat.num_divInt]
  exact zK.le (Int.le_trans (yH _ (by omega)) (by rw[qf7 hb];exact Int.le_refl _)) fa
 ·rw[Rat.den_divInt,if_neg hb,Int.natCast_ediv]
  exact zK.le (Int.le_trans (yH _ (by omega)) (Int.le_refl _)) fb.abs
theorem yR {a b:Int} {m n:Nat} (ha:zK a m) (hb:zK b n):zK (a*b) (m+n):=by
 unfold zK at*
 rw[Int.natAbs_mul,Int.natCast_mul,Int.pow_add]
 have h1:(a.natAbs:Int)*(b.natAbs:Int)≤(a.natAbs:Int)*E9^n:=Int.mul_le_mul_of_nonneg_left (Int.le_of_lt hb) (by omega)
 have h2:(a.natAbs:Int)*E9^n<E9^m*E9^n:=Int.mul_lt_mul_of_pos_right ha (pow_pos E0 n)
 omega
theorem qiM {a b:Int} {n:Nat} (ha:zK a n) (hb:zK b n):zK (a+b) (n+1):=by
 unfold zK at*
 rw[Int.pow_succ]
 have hp:=pow_pos E0 n
 have:((a+b).natAbs:Int)≤(a.natAbs:Int)+(b.natAbs:Int):=by omega
 unfold E9 at*
 omega
theorem qjn (s:Str):yJ s=some (if s=[48]then 0 else if sgn s=true then-1 else 1):=by
 unfold yJ
 by_cases c:s=[48]
 ·rw[if_pos (by simp[c]),if_pos c]
 ·rw[if_neg (by simp[c]),qex,Option.bind_some,if_neg c]
  cases sgn s<;>rfl
theorem qoE:Lib.itoa 0=[48]:=by
 rw[zH (by decide),show(0:Int).natAbs=0 from rfl,ve (by decide)]
 rfl
theorem qlS {z:Int}:Lib.itoa z=[48]↔z=0:=by
 constructor
 ·intro h
  have h2:=qbp z
  rw[h]at h2
  exact h2.symm
 ·intro h
  rw[h]
  exact qoE
theorem T0:T 0=[48]:=by
 rw[(qeJ 0 rfl).1]
 exact qoE
theorem qfh {q:Rat}:T q=[48]↔q=0:=by
 constructor
 ·intro h
  exact T_inj (h.trans T0.symm)
 ·intro h
  rw[h]
  exact T0
theorem qnq (q:Rat):yJ (T q)=some (if q.num<0 then-1 else if q.num=0 then 0 else 1):=by
 rw[qjn,qlk]
 by_cases c:q=0
 ·rw[if_pos (qfh.2 c),c]
  rfl
 ·rw[if_neg (fun h=>c (qfh.1 h)),if_neg (show¬q.num=0 from fun h=>c (Rat.num_eq_zero.1 h))]
  by_cases d:q.num<0
  ·rw[decide_eq_true d,if_pos rfl,if_pos d]
  ·rw[decide_eq_false d,if_neg (by simp),if_neg d]
theorem qpk (q:Rat):tl (-q)=tl q:=by
 unfold tl
 rw[Rat.neg_den]
theorem Neg_T {N:Nat} {q:Rat} (h:(T q).length≤100000):qco (T q)=some (T (-q)):=by
 unfold qco
 rw[qnq,Option.bind_some]
 have e:T (-q)=Lib.itoa (-q.num)++tl q:=by rw[qlJ,qpk,Rat.neg_num]
 by_cases c:q.num<0
 ·have hs:sgn (T q)=true:=by rw[qlk];exact decide_eq_true c
  have hb:(T q).drop 1=bdy (T q):=by unfold bdy;rw[if_pos hs]
  have h1:=qhY hs
  rw[if_pos c,if_pos (by decide),show(1:Int)=((1:Nat):Int)from rfl,yN h1,Option.bind_some,hb,qoH,e,zH (by omega),Int.natAbs_neg]
 ·rw[if_neg c,if_neg (by split<;>decide),Option.bind_some]
  by_cases d:q.num=0
  ·rw[if_pos d,if_pos rfl,Rat.num_eq_zero.1 d]
   rfl
  ·rw[if_neg d,if_neg (by decide),qaL (by simp;omega),Option.bind_some,e,vF (by omega),Int.natAbs_neg,qlJ,zH c]
   rfl
theorem qoe {N:Nat} (hN:100000<N) {q:Rat} {k:Nat} (h:Sml q k) (hk:k≤9000):qaW N (T q)=some (if qi1 q=true then 4 else 0):=by
 have hl:=qgI h
 have hs:=qds (N:=N) (s:=T q) (by omega) (by omega)
 have hnum:qck N (T q)=some (Lib.itoa q.num):=by
  unfold qck
  rw[hs,Option.bind_some]
  by_cases c:q.den=1
  ·obtain⟨t1,t2⟩:=qeJ q c
   rw[yl (by omega),Option.bind_some,t2,List.take_length,t1]
  ·obtain⟨t1,t2,t3⟩:=qfO q c
   rw[yl (by omega),Option.bind_some,t2]
 have habs:qcs (Lib.itoa q.num)=some (Lib.decDigits q.num.natAbs):=by
  have hs:=qeI q.num
  have hb:=qa4 q.num
  unfold qcs
  rw[qjn,Option.bind_some,hs]
  unfold bdy at hb
  rw[hs]at hb
  by_cases c:q.num<0
  ·rw[if_neg (show¬Lib.itoa q.num=[48]from fun h=>by have:=qlS.1 h;omega),if_pos (decide_eq_true c),if_pos (by decide),show(1:Int)=((1:Nat):Int)from rfl,yN (qiI _),Option.bind_some]
   rw[if_pos (decide_eq_true c)]at hb
   rw[hb]
  ·rw[decide_eq_false c,if_neg (by split<;>simp),zH c]
 have hden:qcg N (T q)=some (Lib.decDigits q.den):=by
  unfold qcg
  rw[hs,Option.bind_some]
  by_cases c:q.den=1
  ·obtain⟨t1,t2⟩:=qeJ q c
   rw[if_pos (by omega),c,ve (by decide)]
   rfl
  ·obtain⟨t1,t2,t3⟩:=qfO q c
   rw[if_neg (by omega),zL (by omega),yN (by omega),Option.bind_some,t3]
 unfold qaW
 rw[hnum,Option.bind_some,habs,Option.bind_some,hden]
 unfold qi1 lng
 rw[Int.natAbs_natCast]
 by_cases c:600<(Lib.decDigits q.num.natAbs).length
 ·rw[if_pos (by omega),decide_eq_true c,Bool.true_or]
  rfl
 ·rw[if_neg (by omega),decide_eq_false c,Bool.false_or,Option.bind_some]
  by_cases d:600<(Lib.decDigits q.den).length
  ·rw[decide_eq_true (by omega),decide_eq_true d]
   rfl
  ·rw[decide_eq_false (by omega),decide_eq_false d]
   rfl
theorem qgj {N:Nat} (hN:100000<N) {q:Rat} {k:Nat} (h:Sml q k) (hk:k≤9000):jK N (T q)=some (0,0,false)∨(jK N (T q)=some (q.num,(q.den:Int),true)∧q.num.natAbs<1000000000∧q.den<1000000000):=by
 have hl:=qgI h
 have hb:=qeZ (T q)
 have eb:=qoH q
 have es:slA (Lib.decDigits q.num.natAbs++tl q)=(Lib.decDigits q.num.natAbs).length:=qiu (no47 (qa9 _)) q
 have lt:(Lib.decDigits q.num.natAbs++tl q).length=(Lib.decDigits q.num.natAbs).length+(tl q).length:=List.length_append
 rw[eb]at hb
 unfold jK
 by_cases c:((T q).length:Int)>20
 ·left
  rw[if_pos c]
 ·rw[if_neg c,qex,Option.bind_some,qkn,Option.bind_some,eb,qds (by omega) (by omega),Option.bind_some,es,qlk]
  by_cases c1:(Lib.decDigits q.num.natAbs).length>9
  ·left
   rw[if_pos (by omega),Option.bind_some,if_pos rfl]
  ·rw[if_neg (by omega),qh (by omega) (by omega)]
   by_cases c2:(tl q).length>10
   ·left
    rw[decide_eq_true (by omega),Option.bind_some,if_pos rfl]
   ·right
    rw[decide_eq_false (by omega),Option.bind_some,if_neg (by simp),yl (by omega),Option.bind_some,List.take_left',qeY (by omega) (qa9 _) (by omega),Option.bind_some,qdn]
    ·have hn:q.num.natAbs<1000000000:=(qaE (show 0<9 by decide)).1 (by omega)
     have sg:(if decide (q.num<0)=true then some (w64 (0-(q.num.natAbs:Int)))else some (q.num.natAbs:Int):Option Int)=some q.num:=by
      by_cases d:q.num<0
      ·rw[if_pos (decide_eq_true d),qh (by omega) (by omega)]
       congr 1
       omega
      ·rw[if_neg (fun h=>d (of_decide_eq_true h))]
       congr 1
       omega
     by_cases d:q.den=1
     ·have ht:tl q=[]:=by unfold tl;rw[if_pos d]
      rw[ht]at lt
      rw[List.length_nil]at lt
      rw[ht,if_neg (by omega),Option.bind_some,sg,Option.bind_some,d]
      exact⟨rfl,hn,by decide⟩
     ·have ht:tl q=47::Lib.decDigits q.den:=by unfold tl;rw[if_neg d]
      rw[ht,List.length_cons]at lt c2
      have hd:q.den<1000000000:=(qaE (show 0<9 by decide)).1 (by omega)
      rw[ht,if_pos (by omega),zL (by omega),yN (by omega),Option.bind_some,List.drop_append,List.drop_of_length_le (by omega),show(Lib.decDigits q.num.natAbs).length+1-(Lib.decDigits q.num.natAbs).length=1 by omega,List.nil_append,List.drop_succ_cons,List.drop_zero,qeY (by omega) (qa9 _) (by omega),Option.bind_some,Option.bind_some,sg,Option.bind_some,qdn]
      exact⟨rfl,hn,hd⟩
    ·rfl
theorem qku {N:Nat} (hN:100000<N) {p q:Rat} {k:Nat} (hk:k≤9000) (hp:Sml p k) (hq:Sml q k) {Fq:(Int×Int×Bool)→(Int×Int×Bool)→Option Str} {slow:Option Str} {t:Str}
 (h1:p.num.natAbs<1000000000→p.den<1000000000→q.num.natAbs<1000000000→q.den<1000000000→Fq (p.num,(p.den:Int),true) (q.num,(q.den:Int),true)=some t) (h2:slow=some t):
 ((jK N (T p)).bind fun r1=>(jK N (T q)).bind fun r2=>(if r1.2.2=true then some r2.2.2 else some false:Option Bool).bind fun b4=>if b4=true then(Fq r1 r2).bind fun r7=>some r7 else slow)=some t:=by
 rcases qgj hN hp hk with e1|⟨e1,a1,a2⟩
 ·rcases qgj hN hq hk with e2|⟨e2,b1,b2⟩
  ·rw[e1,Option.bind_some,e2,Option.bind_some]
   exact h2
  ·rw[e1,Option.bind_some,e2,Option.bind_some]
   exact h2
 ·rcases qgj hN hq hk with e2|⟨e2,b1,b2⟩
  ·rw[e1,Option.bind_some,e2,Option.bind_some]
   exact h2
  ·rw[e1,Option.bind_some,e2,Option.bind_some]
   show((Fq (p.num,(p.den:Int),true) (q.num,(q.den:Int),true)).bind fun r7=>some r7)=some t
   rw[h1 a1 a2 b1 b2,Option.bind_some]
theorem qmK {a b:Int} (ha:a.natAbs<1000000000) (hb:b.natAbs<1000000000): -1000000000000000000≤a*b∧a*b≤1000000000000000000:=by
 have h:(a*b).natAbs≤1000000000*1000000000:=by
  rw[Int.natAbs_mul]
  exact Nat.mul_le_mul (by omega) (by omega)
 omega
theorem qhT {N:Nat} (hN:600000<N) {p q:Rat} {k:Nat} (hk0:0<k) (hk:k≤4000) (hp:Sml p k) (hq:Sml q k):qbq N (T p) (T q)=some (T (p+q)):=by
 unfold qbq
 obtain⟨n,hn⟩: ∃n:Nat,n=500:=⟨_,rfl⟩
 have p1:=qbl (n:=n) hp hk0 (by omega)
 have p2:=qbj (n:=n) hp hk0 (by omega)
 have q1:=qbl (n:=n) hq hk0 (by omega)
 have q2:=qbj (n:=n) hq hk0 (by omega)
 refine qku (N:=N) (by omega) (show k≤9000 by omega) hp hq (fun a1 a2 b1 b2=>?_) ?_
 ·have m1:=qmK a1 (show((q.den:Int)).natAbs<1000000000 by omega)
  have m2:=qmK b1 (show((p.den:Int)).natAbs<1000000000 by omega)
  have m3:=qmK (show((p.den:Int)).natAbs<1000000000 by omega) (show((q.den:Int)).natAbs<1000000000 by omega)
  have:=qbM p q
  simp only
  rw[qh (n:=p.num*(q.den:Int)) (by omega) (by omega),qh (n:=q.num*(p.den:Int)) (by omega) (by omega),qh (n:=(p.den:Int)*(q.den:Int)) (by omega) (by omega),qh (by omega) (by omega),qnM (by omega) (by omega) (by omega) (by omega) (by omega) (qbM p q),←qbC]
 ·rw[qcq hN (hp.mono (by omega)),Option.bind_some,qcq hN (hq.mono (by omega)),Option.bind_some]
  simp only
  rw[qdN (by omega) (p1.mono (by omega)) (q2.mono (by omega)),Option.bind_some,qdN (by omega) (q1.mono (by omega)) (p2.mono (by omega)),Option.bind_some,qoo (by omega) ((yR p1 q2).mono (by omega)) ((yR q1 p2).mono (by omega)),Option.bind_some,qdN (by omega) (p2.mono (by omega)) (q2.mono (by omega)),Option.bind_some,qcA hN (B:=n+n+1) (by omega) (by omega) (qiM (yR p1 q2) (yR q1 p2)) ((yR p2 q2).mono (by omega)) (qbM p q),Option.bind_some,←qbC]
theorem qio {N:Nat} (hN:600000<N) {p q:Rat} {k:Nat} (hk0:0<k) (hk:k≤4000) (hp:Sml p k) (hq:Sml q k):qbu N (T p) (T q)=some (T (p*q)):=by
 unfold qbu
 obtain⟨n,hn⟩: ∃n:Nat,n=500:=⟨_,rfl⟩
 have p1:=qbl (n:=n) hp hk0 (by omega)
 have p2:=qbj (n:=n) hp hk0 (by omega)
 have q1:=qbl (n:=n) hq hk0 (by omega)
 have q2:=qbj (n:=n) hq hk0 (by omega)
 refine qku (N:=N) (by omega) (show k≤9000 by omega) hp hq (fun a1 a2 b1 b2=>?_) ?_
 ·have m1:=qmK a1 b1
  have m3:=qmK (show((p.den:Int)).natAbs<1000000000 by omega) (show((q.den:Int)).natAbs<1000000000 by omega)
  simp only
  rw[qh (n:=p.num*q.num) (by omega) (by omega),qh (n:=(p.den:Int)*(q.den:Int)) (by omega) (by omega),qnM (by omega) (by omega) (by omega) (by omega) (by omega) (qbM p q),←qbQ]
 ·rw[qcq hN (hp.mono (by omega)),Option.bind_some,qcq hN (hq.mono (by omega)),Option.bind_some]
  simp only
  rw[qdN (by omega) (p1.mono (by omega)) (q1.mono (by omega)),Option.bind_some,qdN (by omega) (p2.mono (by omega)) (q2.mono (by omega)),Option.bind_some,qcA hN (B:=n+n) (by omega) (by omega) (yR p1 q1) (yR p2 q2) (qbM p q),Option.bind_some,←qbQ]
theorem qkM {p q:Rat} {n:Nat} (hn:0<n) (hp:Sml p (9*n)) (hq:Sml q (9*n)):Sml (p+q) (9*(n+n+1)):=by
 have p1:=qbl (n:=n) hp (by omega) (by omega)
 have p2:=qbj (n:=n) hp (by omega) (by omega)
 have q1:=qbl (n:=n) hq (by omega) (by omega)
 have q2:=qbj (n:=n) hq (by omega) (by omega)
 rw[qbC]
 obtain⟨f1,f2⟩:=qfn (qbM p q) (qiM (yR p1 q2) (yR q1 p2)) ((yR p2 q2).mono (show n+n≤n+n+1 by omega))
 exact qiV f1 f2 (by omega)
theorem qkX {p q:Rat} {n:Nat} (hn:0<n) (hp:Sml p (9*n)) (hq:Sml q (9*n)):Sml (p*q) (9*(n+n)):=by
 have p1:=qbl (n:=n) hp (by omega) (by omega)
 have p2:=qbj (n:=n) hp (by omega) (by omega)
 have q1:=qbl (n:=n) hq (by omega) (by omega)
 have q2:=qbj (n:=n) hq (by omega) (by omega)
 rw[qbQ]
 obtain⟨f1,f2⟩:=qfn (qbM p q) (yR p1 q1) (yR p2 q2)
 exact qiV f1 f2 (by omega)
theorem qkL {p:Rat} {k:Nat} (h:Sml p k):Sml (-p) k:=by
 unfold Sml
 rw[Rat.neg_num,Rat.neg_den,Int.natAbs_neg]
 exact h
theorem qkA {p:Rat} {k:Nat} (h:Sml p k) (h0:p≠0):Sml p⁻¹ k:=by
 have hn:p.num≠0:=fun c=>h0 (Rat.num_eq_zero.1 c)
 unfold Sml
 rw[Rat.num_inv,Rat.den_inv,if_neg hn,Int.natAbs_mul,Int.natAbs_sign_of_ne_zero hn,Nat.one_mul,Int.natAbs_natCast]
 exact⟨h.2,h.1⟩
theorem qh3 {N:Nat} (hN:600000<N) {p q:Rat} {k:Nat} (hk0:0<k) (hk:k≤4000) (hp:Sml p k) (hq:Sml q k):qbo N (T p) (T q)=some (T (p-q)):=by
 have hl:=qgI hq
 unfold qbo
 rw[Neg_T (N:=N) (by omega),Option.bind_some,qhT hN hk0 hk hp (qkL hq),Option.bind_some,Rat.sub_eq_add_neg]
theorem qkI {N:Nat} (hN:600000<N) {p q:Rat} {k:Nat} (hk0:0<k) (hk:k≤4000) (hp:Sml p k) (hq:Sml q k):qcv N (T p) (T q)=some (if p<q then-1 else if p=q then 0 else 1):=by
 unfold qcv
 rw[qh3 hN hk0 hk hp hq,Option.bind_some,qnq,Option.bind_some]
 have a1:((p-q).num<0)=(p<q):=by
  apply propext
  rw[←Rat.not_le,Rat.le_iff_sub_nonneg q p,←Rat.num_nonneg]
  omega
 have a2:((p-q).num=0)=(p=q):=by
  apply propext
  rw[Rat.num_eq_zero]
  constructor
  ·intro h
   have:p-q+q=p:=Rat.sub_add_cancel
   rw[h,Rat.zero_add]at this
   exact this.symm
  ·intro h
   rw[h,Rat.sub_self]
 simp only[a1,a2]
theorem qow {N:Nat} (hN:600000<N) {p:Rat} {k:Nat} (hk0:0<k) (hk:k≤4000) (hp:Sml p k) (h0:p≠0):yn N (T p)=some (T p⁻¹):=by
 obtain⟨n,hn⟩: ∃n:Nat,n=500:=⟨_,rfl⟩
 have p1:=qbl (n:=n) hp hk0 (by omega)
 have p2:=qbj (n:=n) hp hk0 (by omega)
 unfold yn
 rw[qcq hN (hp.mono (by omega)),Option.bind_some]
 simp only
 rw[qcA hN (B:=n) (by omega) (by omega) p2 p1 (fun c=>h0 (Rat.num_eq_zero.1 c)),Option.bind_some,←Rat.inv_def]
theorem qok {N:Nat} (hN:600000<N) {p q:Rat} {k:Nat} (hk0:0<k) (hk:k≤4000) (hp:Sml p k) (hq:Sml q k) (h0:q≠0):qcn N (T p) (T q)=some (T (p/q)):=by
 unfold qcn
 rw[qow hN hk0 hk hq h0,Option.bind_some,qio hN hk0 hk hp (qkA hq h0),Option.bind_some,←Rat.div_def]
end Go.Av
end
section
namespace Go.Av
set_option linter.unusedVariables false
set_option linter.unusedSimpArgs false
set_option maxRecDepth 100000
theorem qob {N:Nat} (hN:10<N) (a b:Int):qa0 N [a,b]=some (if a=0 then b else a):=by
 obtain⟨K,rfl⟩: ∃K,N=K+1+1+1:=⟨N-3,by omega⟩
 unfold qa0
 rw[jv,if_pos (by simp),qa2]
 simp only[List.getElem?_cons_zero,Option.bind_some]
 by_cases c:a=0
 ·rw[if_neg (by simp[c]),if_pos c,show w64 (0+1)=((1:Nat):Int)from rfl,jv,if_pos (by simp),qw]
  simp only[List.getElem?_cons_succ,List.getElem?_cons_zero,Option.bind_some]
  by_cases d:b=0
  ·rw[if_neg (by simp[d]),d,show w64 (((1:Nat):Int)+1)=2 from rfl,jv,if_neg (by simp)]
   rfl
  ·rw[if_pos (by simp[d])]
   rfl
 ·rw[if_pos (by simp[c]),if_neg c]
  rfl
theorem qhx {N:Nat} (hN:600000<N) {a b:Str} (ha:a.length≤10000) (hb:b.length≤10000):kw N [a,b]=some (if chk a=0 then chk b else chk a):=by
 have e1:=qfd hN ha
 have e2:=qfd hN hb
 unfold kw
 obtain⟨K,hK⟩: ∃K,N=K+1+1+1:=⟨N-3,by omega⟩
 have L:qN N [a,b] (K+1+1+1) 0=some (if chk a=0 then(if chk b=0 then .inl ()else .inr (chk b))else .inr (chk a)):=by
  rw[qN,if_pos (by simp),qa2]
  simp only[List.getElem?_cons_zero,Option.bind_some]
  rw[e1,Option.bind_some]
  by_cases c:chk a=0
  ·rw[if_neg (by simp[c]),if_pos c,show w64 (0+1)=((1:Nat):Int)from rfl,qN,if_pos (by simp),qw]
   simp only[List.getElem?_cons_succ,List.getElem?_cons_zero,Option.bind_some]
   rw[e2,Option.bind_some]
   by_cases d:chk b=0
   ·rw[if_neg (by simp[d]),if_pos d,show w64 (((1:Nat):Int)+1)=2 from rfl,qN,if_neg (by simp)]
   ·rw[if_pos (by simp[d]),if_neg d]
  ·rw[if_pos (by simp[c]),if_neg c]
 rw[show qN N [a,b] N 0=qN N [a,b] (K+1+1+1) 0 by rw[←hK],L,Option.bind_some]
 by_cases c:chk a=0
 ·by_cases d:chk b=0
  ·rw[if_pos c,if_pos d,if_pos c,d]
  ·rw[if_pos c,if_neg d,if_pos c]
 ·rw[if_neg c,if_neg c]
def res (q:Rat):Str×Int:=if qi1 q=true then([],4)else(T q,0)
section ops
variable {N:Nat} (hN:600000<N)
include hN
theorem opBad {a b:Str} (ha:a.length≤10000) (hb:b.length≤10000) (h: ¬(chk a=0∧chk b=0)):
 ∃e,e≠0∧e=(if chk a=0 then chk b else chk a)∧qah N a b=some ([],e)∧qaa N a b=some ([],e)∧qae N a b=some ([],e)∧yE N a b=some ([],e)∧yL N a b=some (0,e):=by
 have hc:=qhx hN ha hb
 refine⟨if chk a=0 then chk b else chk a,?_,rfl,?_⟩
 ·by_cases c:chk a=0
  ·rw[if_pos c]
   exact fun d=>h ⟨c,d⟩
  ·rw[if_neg c]
   exact c
 ·have hne:(if chk a=0 then chk b else chk a)≠0:=by
   by_cases c:chk a=0
   ·rw[if_pos c]
    exact fun d=>h ⟨c,d⟩
   ·rw[if_neg c]
    exact c
  generalize (if chk a=0 then chk b else chk a)=e at*
  have hd:(!decide (e=0))=true:=by simp[hne]
  refine⟨?_,?_,?_,?_,?_⟩
  ·unfold qah vL
   rw[hc,Option.bind_some,if_pos hd]
   rfl
  ·unfold qaa vO
   rw[hc,Option.bind_some,if_pos hd]
   rfl
  ·unfold qae vN
   rw[hc,Option.bind_some,if_pos hd]
   rfl
  ·unfold yE qU
   rw[hc,Option.bind_some]
   have:(if(b==[48])=true then some 6 else some 0:Option Int)=some (if(b==[48])=true then 6 else 0):=by split<;>rfl
   rw[this,Option.bind_some,qeG (by omega),if_neg hne,Option.bind_some,if_pos hd]
  ·unfold yL
   rw[hc,Option.bind_some,if_pos hd]
variable {p q:Rat} (hp:Sml p 600) (hq:Sml q 600) (cp:chk (T p)=0) (cq:chk (T q)=0)
include hp hq cp cq
theorem qhP:kw N [T p,T q]=some 0:=by
 have h1:=qgI hp
 have h2:=qgI hq
 rw[qhx hN (by omega) (by omega),if_pos cp,cq]
theorem opAdd:qah N (T p) (T q)=some (res (p+q)):=by
 have f1:=xS (n:=32) hp (by omega) (by omega)
 have f2:=xS (n:=32) hq (by omega) (by omega)
 obtain⟨f,e1,i1⟩:=qaT hN (hp.mono (show 600≤9000 by omega))
 obtain⟨g,e2,i2⟩:=qaT hN (hq.mono (show 600≤9000 by omega))
 obtain⟨r,e3,i3⟩:=qkW hN i1 i2 (n:=32) (by omega) f1 f2
 unfold qah vL
 rw[qhP hN hp hq cp cq,Option.bind_some,if_neg (by simp),e1,Option.bind_some,e2,Option.bind_some,e3,Option.bind_some,qdQ hN i3 ((qji f1 f2).mono (by omega))]
 rfl
theorem opSub:qaa N (T p) (T q)=some (res (p-q)):=by
 have f1:=xS (n:=32) hp (by omega) (by omega)
 have f2:=xS (n:=32) hq (by omega) (by omega)
 obtain⟨f,e1,i1⟩:=qaT hN (hp.mono (show 600≤9000 by omega))
 obtain⟨g,e2,i2⟩:=qaT hN (hq.mono (show 600≤9000 by omega))
 obtain⟨r,e3,i3⟩:=qnP hN i1 i2 (n:=32) (by omega) f1 f2
 unfold qaa vO
 rw[qhP hN hp hq cp cq,Option.bind_some,if_neg (by simp),e1,Option.bind_some,e2,Option.bind_some,e3,Option.bind_some,qdQ hN i3 (by rw[Rat.sub_eq_add_neg];exact(qji f1 (qjk f2)).mono (by omega))]
 rfl
theorem opMul:qae N (T p) (T q)=some (res (p*q)):=by
 have f1:=xS (n:=32) hp (by omega) (by omega)
 have f2:=xS (n:=32) hq (by omega) (by omega)
 obtain⟨f,e1,i1⟩:=qaT hN (hp.mono (show 600≤9000 by omega))
 obtain⟨g,e2,i2⟩:=qaT hN (hq.mono (show 600≤9000 by omega))
 obtain⟨r,e3,i3⟩:=qk5 hN i1 i2 (n:=32) (by omega) f1 f2
 unfold qae vN
 rw[qhP hN hp hq cp cq,Option.bind_some,if_neg (by simp),e1,Option.bind_some,e2,Option.bind_some,e3,Option.bind_some,qdQ hN i3 ((qjw f1 f2).mono (by omega))]
 rfl
theorem opDiv (h0:q≠0):yE N (T p) (T q)=some (res (p/q)):=by
 have f1:=xS (n:=32) hp (by omega) (by omega)
 have f2:=xS (n:=32) hq (by omega) (by omega)
 obtain⟨f,e1,i1⟩:=qaT hN (hp.mono (show 600≤9000 by omega))
 obtain⟨g,e2,i2⟩:=qaT hN (hq.mono (show 600≤9000 by omega))
 obtain⟨r,e3,i3⟩:=qnX hN i1 i2 (n:=32) (by omega) (by omega) f1 f2 h0
 unfold yE yY qU
 rw[qhP hN hp hq cp cq,Option.bind_some,if_neg (show¬(T q==[48])=true from fun c=>h0 (qfh.1 (by simpa using c))),Option.bind_some,qeG (by omega),if_pos rfl,Option.bind_some,if_neg (by simp),Option.bind_some,if_neg (by simp),e1,Option.bind_some,e2,Option.bind_some,e3,Option.bind_some,qdQ hN i3 (by rw[Rat.div_def];exact(qjw f1 (qi9 f2 (by omega))).mono (by omega))]
 rfl
theorem qpa (h0:q=0):yE N (T p) (T q)=some ([],6):=by
 unfold yE qU
 rw[qhP hN hp hq cp cq,Option.bind_some,if_pos (show(T q==[48])=true by rw[qfh.2 h0];rfl),Option.bind_some,qeG (by omega),if_pos rfl,Option.bind_some,if_pos (by simp)]
theorem qkG:yL N (T p) (T q)=some (if p<q then-1 else if p=q then 0 else 1,0):=by
 have f1:=xS (n:=32) hp (by omega) (by omega)
 have f2:=xS (n:=32) hq (by omega) (by omega)
 obtain⟨f,e1,i1⟩:=qaT hN (hp.mono (show 600≤9000 by omega))
 obtain⟨g,e2,i2⟩:=qaT hN (hq.mono (show 600≤9000 by omega))
 have e3:=qnU hN i1 i2 (n:=32) (by omega) f1 f2
 unfold yL
 rw[qhP hN hp hq cp cq,Option.bind_some,if_neg (by simp),e1,Option.bind_some,e2,Option.bind_some,e3,Option.bind_some]
end ops
theorem qkZ {N:Nat} {e:Int} (h:e≠0) (w:Str):jc N [] e e w=some true:=by
 unfold jc
 rw[if_neg h,Option.bind_some,if_pos (by simp[h]),if_pos (show(([]:Str)==[])=true from rfl),Option.bind_some,decide_eq_true rfl]
theorem qbP {N:Nat} (hN:100000<N) {r:Rat} {k:Nat} (h:Sml r k) (hk:k≤9000):jc N (res r).1 (res r).2 0 (T r)=some true:=by
 unfold jc res
 rw[if_pos rfl,qoe hN h hk]
 cases qi1 r with
 |true=>rfl
 |false=>
  rw[if_neg (by simp),if_neg (by simp)]
  simp
theorem qiS (x:Int):jS x 0 0 x=some true:=by
 unfold jS
 simp
theorem qoj {e:Int} (h:e≠0):jS 0 e e 0=some true:=by
 unfold jS
 rw[if_pos (by simp[h]),if_pos rfl,Option.bind_some,decide_eq_true rfl]
theorem qe9 {N:Nat} (hN:600000<N) (a b:Str):xD N a b=some true:=by
 unfold xD
 rw[show awk=some true from rfl,Option.bind_some,if_neg (by simp)]
 by_cases c1:(a.length:Int)>1300
 ·rw[if_pos c1,Option.bind_some,if_pos rfl,Option.bind_some]
 rw[if_neg c1]
 by_cases c2:(b.length:Int)>1300
 ·rw[decide_eq_true c2,Option.bind_some,if_pos rfl,Option.bind_some]
 rw[decide_eq_false c2,Option.bind_some,if_neg (by simp),qhR hN (s:=a) (by omega),Option.bind_some,qhR hN (s:=b) (by omega),Option.bind_some,qob (by omega),Option.bind_some,qfd hN (s:=a) (by omega),Option.bind_some,Option.bind_some,if_neg (by simp)]
 by_cases c3:chk a=0∧chk b=0
 ·obtain⟨ca,cb⟩:=c3
  obtain⟨p,rfl,p1,p2⟩:=qiQ ca
  obtain⟨q,rfl,q1,q2⟩:=qiQ cb
  have hp:Sml p 600:=⟨p1,p2⟩
  have hq:Sml q 600:=⟨q1,q2⟩
  have sa:Sml (p+q) 1400:=(qkM (n:=67) (by omega) (hp.mono (by omega)) (hq.mono (by omega))).mono (by omega)
  have ss:Sml (p-q) 1400:=by
   rw[Rat.sub_eq_add_neg]
   exact(qkM (n:=67) (by omega) (hp.mono (by omega)) ((qkL hq).mono (by omega))).mono (by omega)
  have sm:Sml (p*q) 1400:=(qkX (n:=67) (by omega) (hp.mono (by omega)) (hq.mono (by omega))).mono (by omega)
  rw[opAdd hN hp hq ca cb,Option.bind_some,opSub hN hp hq ca cb,Option.bind_some,opMul hN hp hq ca cb,Option.bind_some]
  have hN1:100000<N:=by omega
  by_cases h0:q=0
  ·rw[qpa hN hp hq ca cb h0,Option.bind_some,qkG hN hp hq ca cb,Option.bind_some,if_pos ca,cb,if_neg (by simp),qhT hN (by omega) (by omega) hp hq,Option.bind_some,qbP hN1 sa (by omega),Option.bind_some,if_neg (by simp),qh3 hN (by omega) (by omega) hp hq,Option.bind_some,qbP hN1 ss (by omega),Option.bind_some,if_neg (by simp),qio hN (by omega) (by omega) hp hq,Option.bind_some,qbP hN1 sm (by omega),Option.bind_some,if_neg (by simp),qkI hN (by omega) (by omega) hp hq,Option.bind_some,qiS,Option.bind_some,Option.bind_some,if_neg (by simp)]
   unfold qas
   rw[Option.bind_some,if_pos (show(T q==[48])=true by rw[qfh.2 h0];rfl),qkZ (by decide),Option.bind_some]
  ·have sd:Sml (p/q) 1400:=by
    rw[Rat.div_def]
    exact(qkX (n:=67) (by omega) (hp.mono (by omega)) ((qkA hq h0).mono (by omega))).mono (by omega)
   rw[opDiv hN hp hq ca cb h0,Option.bind_some,qkG hN hp hq ca cb,Option.bind_some,if_pos ca,cb,if_neg (by simp),qhT hN (by omega) (by omega) hp hq,Option.bind_some,qbP hN1 sa (by omega),Option.bind_some,if_neg (by simp),qh3 hN (by omega) (by omega) hp hq,Option.bind_some,qbP hN1 ss (by omega),Option.bind_some,if_neg (by simp),qio hN (by omega) (by omega) hp hq,Option.bind_some,qbP hN1 sm (by omega),Option.bind_some,if_neg (by simp),qkI hN (by omega) (by omega) hp hq,Option.bind_some,qiS,Option.bind_some,Option.bind_some,if_neg (by simp)]
   unfold qas
   rw[Option.bind_some,if_neg (show¬(T q==[48])=true from fun c=>h0 (qfh.1 (by simpa using c))),qok hN (by omega) (by omega) hp hq h0,Option.bind_some,qbP hN1 sd (by omega),Option.bind_some]
 ·obtain⟨e,h0,he,e1,e2,e3,e4,e5⟩:=opBad hN (a:=a) (b:=b) (by omega) (by omega) c3
  rw[e1,Option.bind_some,e2,Option.bind_some,e3,Option.bind_some,e4,Option.bind_some,e5,Option.bind_some,←he,if_pos (by simp[h0])]
  simp only[qkZ h0,qoj h0,Option.bind_some,if_true]
end Go.Av
end
