/-
  Words of crossings: what the program and the reference make of them, and the law of words.
-/
import Derived.Test.YtbphjicicbikhaaGreatDoorQGenLk
import Derived.Test.YtbphjicicbikhaaGreatDoorAvPt
noncomputable section
set_option linter.unusedVariables false
set_option linter.unusedSimpArgs false
set_option maxRecDepth 100000
set_option linter.unusedSectionVars false
section
namespace Go.Av
def xB (n c:Int):Bool:=decide (c≠0)&&decide (-n<c)&&decide (c<n)
def qdn (n:Int) (w:List Int):Int:=if n<1\/12<n then 3 else if 200<w.length then 5 else if w.all (xB n)=true then 0 else 3
theorem letter_eq {n:Int} (h1:1<=n) (h2:n<=12) (c:Int):yF n c=some (xB n c):=by
 unfold yF xB
 have hw:w64 (0-n)= -n:=by rw[z8 (by omega) (by omega)];omega
 rw[hw]
 by_cases a:c=0
 ·simp[a]
 by_cases b: -n<c
 ·simp[a,b]
 simp[a,b]
theorem qf5 {n:Int} (h1:1<=n) (h2:n<=12) (c:Int):vR n c=some (!xB n c):=by
 unfold vR xB
 have hw:w64 (0-n)= -n:=by rw[z8 (by omega) (by omega)];omega
 rw[hw]
 by_cases a:c=0
 ·simp[a]
 by_cases b: -n<c
 ·rw[if_neg a,if_neg (by omega)]
  by_cases d:c<n
  ·simp[a,b,d]
  simp[a,b,d];omega
 rw[if_neg a,if_pos (by omega)]
 simp[a,b]
theorem qfd {n:Int} {w:List Int} {i:Nat} (h:i<w.length):(w.drop i).all (xB n)=(xB n w[i]&&(w.drop (i+1)).all (xB n)):=by
 rw[YG h,List.all_cons]
theorem qi0 {n:Int} (h1:1<=n) (h2:n<=12) {w:List Int} (hl:w.length<=300): ∀(K i:Nat),i<=w.length->w.length<K+i->zA n w K (i:Int)=some (if(w.drop i).all (xB n)=true then .inl ()else .inr 3)
 |0,i,h,hK=>by omega
 |K+1,i,h,hK=>by
  unfold zA
  by_cases hi:i<w.length
  ·rw[if_pos (by omega),qm,Ya hi,ZB,letter_eq h1 h2,ZB,qfd hi]
   cases c:xB n w[i]with
   |false=>rfl
   |true=>
    rw[if_neg (by decide),qY (by omega),qi0 h1 h2 hl K (i+1) (by omega) (by omega),Bool.true_and]
  rw[if_neg (by omega),List.drop_eq_nil_of_le (by omega)]
  rfl
theorem qgh {N:Nat} (hN:2000<N) {n:Int} {w:List Int} (hl:w.length<=300):vo N n w=some (qdn n w):=by
 unfold vo qdn
 by_cases a:n<1
 ·rw[if_pos a,ZB,if_pos rfl,if_pos (.inl a)]
 by_cases b:12<n
 ·rw[if_neg a,decide_eq_true (by omega),ZB,if_pos rfl,if_pos (.inr b)]
 rw[if_neg a,decide_eq_false (by omega),ZB,if_neg (by decide),if_neg (show¬(n<1\/12<n)by omega)]
 by_cases c:200<w.length
 ·rw[if_pos (by omega),if_pos c]
 rw[if_neg (by omega),if_neg c,show(0:Int)=((0:Nat):Int)from rfl,qi0 (by omega) (by omega) hl N 0 (by omega) (by omega),YR]
 cases w.all (xB n)<;>rfl
theorem qiK {n:Int} (h1:1<=n) (h2:n<=12) {w:List Int} (hl:w.length<=300): ∀(K i:Nat),i<=w.length->w.length<K+i->((w.drop i).all (xB n)=true/\qy w n K (i:Int)=some (.inl ()))\/((w.drop i).all (xB n)=false/\ ∃j:Nat,qy w n K (i:Int)=some (.inr (j:Int)))
 |0,i,h,hK=>by omega
 |K+1,i,h,hK=>by
  unfold qy jD
  by_cases hi:i<w.length
  ·rw[if_pos (by omega),qm,Ya hi,ZB,qf5 h1 h2,ZB,ZB,qfd hi]
   cases c:xB n w[i]with
   |false=>exact .inr ⟨rfl,i,rfl⟩
   |true=>
    rw[if_neg (by decide),qY (by omega),Bool.true_and]
    exact qiK h1 h2 hl K (i+1) (by omega) (by omega)
  rw[if_neg (by omega),List.drop_eq_nil_of_le (by omega)]
  exact .inl ⟨rfl,rfl⟩
theorem qb7 {N:Nat} (hN:10<N) (a b:Int):yz N [a,b]=some (if a=0 then b else a):=by
 obtain⟨K,rfl⟩: ∃K,N=K+1+1+1:=⟨N-3,by omega⟩
 have w1:w64 1=1:=rfl
 have w2:w64 2=2:=rfl
 have i0: ∀a b:Int,idx [a,b] 0=some a:=fun _ _=>rfl
 have i1: ∀a b:Int,idx [a,b] 1=some b:=fun _ _=>rfl
 unfold yz
 by_cases ha:a=0
 ·by_cases hb:b=0
  ·simp[zZ,i0,i1,ha,hb,w1,w2]
  simp[zZ,i0,i1,ha,hb,w1,w2]
 simp[zZ,i0,ha]
theorem qaz (b:Bool) (e:Int):zP b e=some (if b=true then e else 0):=by
 unfold zP
 cases b<;>rfl
theorem qeu {N:Nat} (hN:2000<N) {n:Int} {w:List Int} (hl:w.length<=300):je N n w=some (qdn n w):=by
 unfold je jY qdn
 by_cases a:n<1\/12<n
 ·have:(Option.bind (if n<1 then(zP true 3).bind fun r2=>some r2 else(zP (decide (n>12)) 3).bind fun r3=>some r3:Option Int) fun n4=>some n4)=some 3:=by
   by_cases b:n<1
   ·rw[if_pos b];rfl
   rw[if_neg b,decide_eq_true (by omega)];rfl
  rw[this,ZB,qaz,ZB,qb7 (by omega),if_neg (by decide),ZB,if_pos (by decide),if_pos a]
 have:(Option.bind (if n<1 then(zP true 3).bind fun r2=>some r2 else(zP (decide (n>12)) 3).bind fun r3=>some r3:Option Int) fun n4=>some n4)=some 0:=by
  rw[if_neg (by omega),decide_eq_false (by omega)];rfl
 rw[this,ZB,qaz,ZB,qb7 (by omega),if_pos rfl,ZB,if_neg a]
 by_cases c:200<w.length
 ·rw[decide_eq_true (show(w.length:Int)>200 by omega),if_pos rfl,if_pos (by decide),if_pos c]
 rw[decide_eq_false (show¬(w.length:Int)>200 by omega),if_neg Bool.false_ne_true,if_neg (show¬(!decide ((0:Int)=0))=true by decide),if_neg c]
 unfold zJ jc
 rcases qiK (n:=n) (by omega) (by omega) hl N 0 (by omega) (by omega)with⟨g1,g2⟩|⟨g1,j,g2⟩<;>rw[show((0:Nat):Int)=0 from rfl]at g2
 ·rw[g2,<-YR (l:=w),g1]
  rfl
 rw[g2,<-YR (l:=w),g1]
 simp only[ZB]
 rw[decide_eq_true (show(j:Int)>=0 by omega),qaz]
 rfl
structure xw (n:Nat) (w:List Int):Prop where
 n1:1<=n
 n2:n<=12
 len:w.length<=200
 let_: ∀c∈w,c≠0/\ -(n:Int)<c/\c<n
theorem qjH {n:Int} {w:List Int} (h:qdn n w=0): ∃k:Nat,n=k/\xw k w:=by
 unfold qdn at h
 split at h
 ·omega
 rename_i a
 split at h
 ·omega
 rename_i b
 split at h
 ·rename_i c
  refine⟨n.toNat,by omega,by omega,by omega,by omega,fun x hx=>?_⟩
  have:=Yp.1 c x hx
  simp only[xB,Bool.and_eq_true,decide_eq_true_eq]at this
  omega
 omega
theorem qh3 (x:Int):yj x=some (if x<0 then-1 else 1):=by
 unfold yj
 split<;>rfl
end Go.Av
end
section
namespace Go.Av
def yA (n:Nat):List Int:=(List.range n).map fun k:Nat=>(k:Int)
theorem xJ (n:Nat):(yA n).length=n:=by simp[yA]
theorem qas {n k:Nat} (h:k<n):(yA n)[k]? =some (k:Int):=by
 simp[yA,List.getElem?_map,List.getElem?_range h]
theorem qgx (n:Nat):yA (n+1)=yA n++[(n:Int)]:=by simp[yA,List.range_succ]
theorem qc7 {c:Int} (h: -1000<c/\c<1000):yR c=some ((c.natAbs:Nat):Int):=by
 unfold yR
 rw[z8 (by omega) (by omega)]
 by_cases a:0-c>c
 ·rw[if_pos a];congr 1;omega
 rw[if_neg a];congr 1;omega
theorem qdp {c:Int} (h: -1000<c/\c<1000):yu c=some ((c.natAbs:Nat):Int):=by
 unfold yu
 rw[z8 (by omega) (by omega)]
 by_cases a:0-c>c
 ·rw[if_pos a];congr 1;omega
 rw[if_neg a];congr 1;omega
theorem qg1 {n:Nat} (hn:n<=1000) {l2:List Int} (h2:l2.length=n): ∀(K i:Nat) (l:List Int),l.length=n->i<=n->n<K+i->(∀k,k<i->l[k]? =some (k:Int))->kz l2 K l (i:Int)=some (yA n)
 |0,i,l,hl,h,hK,hk=>by omega
 |K+1,i,l,hl,h,hK,hk=>by
  unfold kz
  by_cases hi:i<n
  ·rw[if_pos (by omega),qm,Ya (by omega),ZB,qU (by omega),ZB,qY (by omega)]
   refine qg1 hn h2 K (i+1) _ (by simpa using hl) (by omega) (by omega) (fun k hki=>?_)
   by_cases e:k=i
   ·subst e;rw[List.getElem?_set_self (by omega)]
   rw[Yw (fun c=>e c.symm)];exact hk k (by omega)
  rw[if_neg (by omega)]
  congr 1
  apply List.ext_getElem?
  intro k
  by_cases hkn:k<n
  ·rw[hk k (by omega),qas hkn]
  rw[Yg (by omega),Yg (by rw[xJ];omega)]
theorem qgl {n:Nat} (hn:n<=1000):mk 8 (n:Int) (0:Int)=some (List.replicate n 0):=by
 unfold mk
 rw[if_pos (by omega)]
 simp
theorem qdf {N n:Nat} (hN:2000<N) (hn:n<=1000):zI N (n:Int)=some (yA n):=by
 unfold zI
 rw[qgl hn,ZB,show(0:Int)=((0:Nat):Int)from rfl,qg1 hn (by simp) N 0 _ (by simp) (by omega) (by omega) (fun k hk=>by omega),ZB]
theorem qfP {n:Nat} (hn:n<=1000): ∀(K i:Nat),i<=n->n<K+i->ze (n:Int) K (yA i) (i:Int)=some (yA n)
 |0,i,h,hK=>by omega
 |K+1,i,h,hK=>by
  unfold ze
  by_cases hi:i<n
  ·rw[if_pos (by omega),j5 (by rw[xJ];simp only[Yr,List.length_nil];omega) (by rw[xJ];simp only[Yr,List.length_nil];omega),ZB,qY (by omega),<-qgx]
   exact qfP hn K (i+1) (by omega) (by omega)
  rw[if_neg (by omega),show i=n by omega]
theorem qeo {N n:Nat} (hN:2000<N) (hn:n<=1000):jb N (n:Int)=some (yA n):=by
 unfold jb
 have:=qfP hn N 0 (by omega) (by omega)
 rw[show yA 0=([]:List Int)from rfl]at this
 rw[show(0:Int)=((0:Nat):Int)from rfl,this,ZB]
structure qcE (n:Nat) (row p:List Int):Prop where
 rl:row.length=n
 pl:p.length=n
 at_: ∀k,k<n-> ∃v:Nat,v<n/\row[k]? =some (v:Int)/\p[v]? =some (k:Int)
 all: ∀v,v<n-> ∃k,k<n/\row[k]? =some (v:Int)
theorem qcE.iota (n:Nat):qcE n (yA n) (yA n):=
 ⟨xJ n,xJ n,fun k hk=>⟨k,hk,qas hk,qas hk⟩,fun v hv=>⟨v,hv,qas hv⟩⟩
theorem qcE.back {n:Nat} {row p:List Int} (h:qcE n row p) {k v:Nat} (hk:k<n) (e:row[k]? =some (v:Int)):v<n/\p[v]? =some (k:Int):=by
 obtain⟨u,hu,e1,e2⟩:=h.at_ k hk
 rw[e]at e1
 have:v=u:=by have:=Ye e1;omega
 subst this
 exact⟨hu,e2⟩
theorem qcE.inj {n:Nat} {row p:List Int} (h:qcE n row p) {k k' v:Nat} (hk:k<n) (hk':k'<n) (e:row[k]? =some (v:Int)) (e':row[k']? =some (v:Int)):k=k':=by
 have h1:=(h.back hk e).2
 have h2:=(h.back hk' e').2
 rw[h1]at h2
 have:=Ye h2
 omega
theorem qcE.swap {n:Nat} {row p:List Int} (h:qcE n row p) {i a b:Nat} (hi:i+1<n) (ea:row[i]? =some (a:Int)) (eb:row[i+1]? =some (b:Int)):
 a≠b/\qcE n ((row.set i (b:Int)).set (i+1) (a:Int)) ((p.set a ((i+1:Nat):Int)).set b (i:Int)):=by
 have rl:=h.rl
 have pl:=h.pl
 obtain⟨ha,pa⟩:=h.back (by omega) ea
 obtain⟨hb,pb⟩:=h.back hi eb
 have ne:a≠b:=fun e=>by
  subst e
  have:=h.inj (by omega) hi ea eb
  omega
 refine⟨ne,by simpa using rl,by simpa using pl,fun k hk=>?_,fun v hv=>?_⟩
 ·by_cases k1:k=i+1
  ·subst k1
   refine⟨a,ha,by rw[List.getElem?_set_self (by simp;omega)],?_⟩
   rw[Yw (fun e=>ne e.symm),List.getElem?_set_self (by omega)]
  by_cases k2:k=i
  ·subst k2
   refine⟨b,hb,by rw[Yw (by omega),List.getElem?_set_self (by omega)],?_⟩
   rw[List.getElem?_set_self (by simp;omega)]
  obtain⟨v,hv,e1,e2⟩:=h.at_ k hk
  have va:v≠a:=fun e=>by
   subst e
   have:=h.inj hk (by omega) e1 ea
   omega
  have vb:v≠b:=fun e=>by
   subst e
   have:=h.inj hk hi e1 eb
   omega
  refine⟨v,hv,by rw[Yw (fun e=>k1 e.symm),Yw (fun e=>k2 e.symm)];exact e1,?_⟩
  rw[Yw (fun e=>vb e.symm),Yw (fun e=>va e.symm)]
  exact e2
 obtain⟨k,hk,e⟩:=h.all v hv
 by_cases k1:k=i+1
 ·subst k1
  rw[eb]at e
  have:v=b:=by have:=Ye e;omega
  subst this
  exact⟨i,by omega,by rw[Yw (by omega),List.getElem?_set_self (by omega)]⟩
 by_cases k2:k=i
 ·subst k2
  rw[ea]at e
  have:v=a:=by have:=Ye e;omega
  subst this
  exact⟨k+1,hi,by rw[List.getElem?_set_self (by simp;omega)]⟩
 exact⟨k,hk,by rw[Yw (fun e=>k1 e.symm),Yw (fun e=>k2 e.symm)];exact e⟩
theorem qg8 {n:Nat} {w:List Int} (W:xw n w): ∀(K i:Nat) (p row:List Int),qcE n row p->i<=w.length->w.length<K+i->
 ∃p' row',qx w K p row (i:Int)=some p'/\zo w K row (i:Int)=some row'/\qcE n row' p'
 |0,i,p,row,hp,h,hK=>by omega
 |K+1,i,p,row,hp,h,hK=>by
  have n1:=W.n1
  have n2:=W.n2
  have wl:=W.len
  unfold qx zo
  by_cases hi:i<w.length
  ·have hx:w[i]? =some w[i]:=Ya hi
   have hc:=W.let_ _ (List.getElem_mem hi)
   generalize w[i]=c at*
   obtain⟨m,hm⟩: ∃m:Nat,c.natAbs=m+1:=⟨c.natAbs-1,by omega⟩
   have hm2:m+1<n:=by omega
   have q1:w64 (((m+1:Nat):Int)-1)=(m:Int):=by rw[z8 (by omega) (by omega)];omega
   have q2:w64 ((m:Int)+1)=((m+1:Nat):Int):=qY (by omega)
   obtain⟨a,ha,ea,pa⟩:=hp.at_ m (by omega)
   obtain⟨b,hb,eb,pb⟩:=hp.at_ (m+1) hm2
   obtain⟨ne,hp'⟩:=hp.swap hm2 ea eb
   have rl:=hp.rl
   have pl:=hp.pl
   rw[if_pos (by omega),if_pos (by omega),qm,hx,ZB,ZB,qc7 (by omega),qdp (by omega),hm,ZB,ZB,q1,q2,qm,ea,qm,eb,ZB,ZB,ZB,ZB]
   have hr:vB p c (a:Int) (b:Int)=some ((p.set a ((m+1:Nat):Int)).set b (m:Int)):=by
    unfold vB
    rw[qm,pa,ZB,q2,qU (by omega),ZB,qm,Yw ne,pb,ZB,q1,qU (by simp;omega),ZB]
   rw[hr,ZB,qU (by omega),ZB,ZB,qm,Yw (by omega),eb,ZB,ZB,qU (by simp;omega),ZB,ZB,qY (by omega)]
   exact qg8 W K (i+1) _ _ hp' (by omega) (by omega)
  rw[if_neg (by omega),if_neg (by omega)]
  exact⟨p,row,rfl,rfl,hp⟩
theorem qgF {n:Nat} (hn:n<=1000) {row p:List Int} (hp:qcE n row p): ∀(K i:Nat) (l:List Int),l.length=n->i<=n->n<K+i->(∀k,k<i-> ∀v:Nat,row[k]? =some (v:Int)->l[v]? =some (k:Int))->zR row K l (i:Int)=some p
 |0,i,l,hl,h,hK,hk=>by omega
 |K+1,i,l,hl,h,hK,hk=>by
  have rl:=hp.rl
  have pl:=hp.pl
  unfold zR
  by_cases hi:i<n
  ·obtain⟨v,hv,e1,e2⟩:=hp.at_ i hi
   rw[if_pos (by omega),qm,e1,ZB,qm,Ya (by omega),ZB,qU (by omega),ZB,qY (by omega)]
   refine qgF hn hp K (i+1) _ (by simpa using hl) (by omega) (by omega) (fun k hki u hu=>?_)
   by_cases e:k=i
   ·subst e
    rw[e1]at hu
    have:v=u:=by have:=Ye hu;omega
    subst this
    rw[List.getElem?_set_self (by omega)]
   have:v≠u:=fun c=>by
    subst c
    exact e (hp.inj (by omega) hi hu e1)
   rw[Yw this]
   exact hk k (by omega) u hu
  rw[if_neg (by omega)]
  congr 1
  apply List.ext_getElem?
  intro v
  by_cases hv:v<n
  ·obtain⟨k,hkn,e⟩:=hp.all v hv
   rw[hk k (by omega) v e,(hp.back hkn e).2]
  rw[Yg (by omega),Yg (by omega)]
theorem qhl {N n:Nat} (hN:2000<N) {w:List Int} (W:xw n w): ∃p,yc N (n:Int) w=some p/\xX N (n:Int) w=some p/\p.length=n:=by
 have n2:=W.n2
 have wl:=W.len
 obtain⟨p,row,h1,h2,h3⟩:=qg8 W N 0 (yA n) (yA n) (qcE.iota n) (by omega) (by omega)
 refine⟨p,?_,?_,h3.pl⟩
 ·unfold yc zQ zO
  rw[qdf hN (by omega),ZB,ZB,ZB,show(0:Int)=((0:Nat):Int)from rfl,h1]
  rfl
 unfold xX vP yZ
 have h4:=qgF (by omega) h3 N 0 (List.replicate n 0) (by simp) (by omega) (by omega) (fun k hk=>by omega)
 rw[show((0:Nat):Int)=0 from rfl]at h2 h4
 rw[qeo hN (by omega),ZB,h2,ZB,ZB,h3.rl,qgl (by omega),ZB,h4,ZB,ZB]
end Go.Av
end
section
namespace Go.Av
end Go.Av
end
section
namespace Go.Av
def MvOK (n:Int) (w:List Int) (r:List Int×Int):Prop:=(r.2≠0->r.1=[])/\(r.2=0->r.1.length<=w.length+2/\ ∀c∈r.1,xB n c=true)
theorem MvOK.bad {n:Int} {w:List Int} {e:Int} (h:e≠0):MvOK n w ([],e):=⟨fun _=>rfl,fun g=>absurd g h⟩
section
end
end Go.Av
end
section
namespace Go.Av
def tr5 (i k:Nat):Nat:=if k=i then i+1 else if k=i+1 then i else k
theorem qcS (i k:Nat):tr5 i (tr5 i k)=k:=by
 unfold tr5
 by_cases a:k=i
 ·subst a;simp
 by_cases b:k=i+1
 ·subst b;simp
 simp[a,b]
theorem qef (i:Nat):tr5 i i=i+1:=by simp[tr5]
theorem qeg (i:Nat):tr5 i (i+1)=i:=by simp[tr5]
theorem qdT {i k:Nat} (a:k≠i) (b:k≠i+1):tr5 i k=k:=by simp[tr5,a,b]
theorem qcC (i k:Nat):(k=i/\tr5 i k=i+1)\/(k=i+1/\tr5 i k=i)\/(k≠i/\k≠i+1/\tr5 i k=k):=by
 by_cases a:k=i
 ·subst a;exact .inl ⟨rfl,qef k⟩
 by_cases b:k=i+1
 ·subst b;exact .inr (.inl ⟨rfl,qeg i⟩)
 exact .inr (.inr ⟨a,b,qdT a b⟩)
structure SB where
 f:Nat->Nat
 g:Nat->Nat
 gf: ∀k,g (f k)=k
 fg: ∀k,f (g k)=k
theorem SB.ext {s t:SB} (h: ∀k,s.f k=t.f k):s=t:=by
 obtain⟨f,g,a,b⟩:=s
 obtain⟨f',g',a',b'⟩:=t
 have e:f=f':=funext h
 subst e
 have e:g=g':=funext fun k=>by
  have:=a (g' k)
  rwa [b']at this
 subst e
 rfl
theorem SB.finj (s:SB) {a b:Nat} (h:s.f a=s.f b):a=b:=by
 have:=congrArg s.g h
 rwa [s.gf,s.gf]at this
theorem SB.ginj (s:SB) {a b:Nat} (h:s.g a=s.g b):a=b:=by
 have:=congrArg s.f h
 rwa [s.fg,s.fg]at this
def SB.fr (s:SB) (i:Nat):SB:=⟨fun k=>s.f (tr5 i k),fun k=>tr5 i (s.g k),fun k=>by rw[s.gf,qcS],fun k=>by rw[qcS,s.fg]⟩
def SB.bk (s:SB) (i:Nat):SB:=⟨fun k=>tr5 i (s.f k),fun k=>s.g (tr5 i k),fun k=>by rw[qcS,s.gf],fun k=>by rw[s.fg,qcS]⟩
def SB.Begs (s:SB) (i:Nat):Prop:=s.f (i+1)<s.f i
def SB.Ends (s:SB) (i:Nat):Prop:=s.g (i+1)<s.g i
def psh (L:Nat->SB) (k i:Nat):Nat->SB:=fun q=>if q=k then(L k).bk i else if q=k+1 then(L (k+1)).fr i else L q
theorem psh_k (L:Nat->SB) (k i:Nat):psh L k i k=(L k).bk i:=by simp[psh]
theorem qkL (L:Nat->SB) (k i:Nat):psh L k i (k+1)=(L (k+1)).fr i:=by simp[psh]
theorem qka (L:Nat->SB) {k i q:Nat} (a:q≠k) (b:q≠k+1):psh L k i q=L q:=by simp[psh,a,b]
structure CanP (n m:Nat) (L:Nat->SB) (k i:Nat):Prop where
 k_:k+1<m
 i_:i+1<n
 b_:(L (k+1)).Begs i
 e_: ¬(L k).Ends i
inductive Psh (n m:Nat):(Nat->SB)->(Nat->SB)->Prop
 |mk {L:Nat->SB} {k i:Nat} (h:CanP n m L k i):Psh n m L (psh L k i)
inductive Pst (n m:Nat):(Nat->SB)->(Nat->SB)->Prop
 |refl {L:Nat->SB}:Pst n m L L
 |head {L L1 A:Nat->SB} (h:Psh n m L L1) (t:Pst n m L1 A):Pst n m L A
theorem Pst.trans {n m:Nat} {L A B:Nat->SB} (h:Pst n m L A) (k:Pst n m A B):Pst n m L B:=by
 induction h with
 |refl=>exact k
 |head h _ ih=>exact .head h (ih k)
theorem Pst.one {n m:Nat} {L A:Nat->SB} (h:Psh n m L A):Pst n m L A:= .head h .refl
def qdR:List Nat->Nat
 |[]=>0
 |x::r=>r.countP (fun y=>decide (y<x))+qdR r
theorem qek {x y:Nat} (h:y<x) (b:List Nat): ∀a:List Nat,qdR (a++y::x::b)+1=qdR (a++x::y::b)
 |[]=>by
  simp only[List.nil_append,qdR,List.countP_cons]
  rw[decide_eq_true h,decide_eq_false (show¬x<y by omega)]
  simp only[if_true,ZF,if_false]
  omega
 |z::a=>by
  simp only[List.cons_append,qdR]
  have:=qek h b a
  simp only[List.countP_append,List.countP_cons]
  omega
theorem qkg {i:Nat}: ∀r:List Nat,r.Nodup->i∉r->r.countP (fun y=>decide (tr5 i y<i+1))<=r.countP (fun y=>decide (y<i))+(if i+1∈r then 1 else 0)
 |[],_,_=>by simp
 |y::r,hn,hi=>by
  have hn2:=(List.nodup_cons.1 hn)
  have hi2:i∉r:=fun h=>hi (List.mem_cons_of_mem _ h)
  have hy:y≠i:=fun e=>hi (e▸List.mem_cons_self)
  have ih:=qkg r hn2.2 hi2
  rw[List.countP_cons,List.countP_cons]
  by_cases c:y=i+1
  ·subst c
   rw[qeg,decide_eq_true (by omega),decide_eq_false (by omega),if_pos rfl,if_neg (by decide),if_pos List.mem_cons_self]
   rw[if_neg hn2.1]at ih
   omega
  rw[qdT hy c]
  have e1:decide (y<i+1)=decide (y<i):=by
   by_cases d:y<i
   ·rw[decide_eq_true d,decide_eq_true (by omega)]
   rw[decide_eq_false d,decide_eq_false (by omega)]
  rw[e1]
  have e2:(if i+1∈y::r then 1 else 0)=(if i+1∈r then 1 else 0:Nat):=by
   by_cases d:i+1∈r
   ·rw[if_pos d,if_pos (List.mem_cons_of_mem _ d)]
   rw[if_neg d,if_neg (fun h=>by rcases List.mem_cons.1 h with h|h;exact c h.symm;exact d h)]
  rw[e2]
  omega
theorem qfN {i:Nat}: ∀p:List Nat,p.Nodup->qdR (p.map (tr5 i))<=qdR p+(if i∈p then 1 else 0)
 |[],_=>by simp[qdR]
 |x::r,hn=>by
  have hn2:=(List.nodup_cons.1 hn)
  have ih:=qfN (i:=i) r hn2.2
  simp only[List.map_cons,qdR,List.countP_map]
  have e:(fun y=>decide (y<tr5 i x))∘tr5 i=fun y=>decide (tr5 i y<tr5 i x):=rfl
  rw[e]
  by_cases c:x=i
  ·subst c
   have hc:=qkg r hn2.2 hn2.1
   rw[qef,if_pos List.mem_cons_self]
   rw[if_neg hn2.1]at ih
   have:(if x+1∈r then 1 else 0:Nat)<=1:=by split<;>omega
   omega
  have h1:r.countP (fun y=>decide (tr5 i y<tr5 i x))<=r.countP (fun y=>decide (y<x)):=by
   refine List.countP_mono_left fun y hy h=>?_
   have hyx:y≠x:=fun e=>hn2.1 (e▸hy)
   simp only[decide_eq_true_eq]at h⊢
   rcases qcC i x with⟨a,ea⟩|⟨a,ea⟩|⟨a,a',ea⟩<;>rcases qcC i y with⟨b,eb⟩|⟨b,eb⟩|⟨b,b',eb⟩<;>rw[ea,eb]at h<;>omega
  have e2:(if i∈x::r then 1 else 0)=(if i∈r then 1 else 0:Nat):=by
   by_cases d:i∈r
   ·rw[if_pos d,if_pos (List.mem_cons_of_mem _ d)]
   rw[if_neg d,if_neg (fun h=>by rcases List.mem_cons.1 h with h|h;exact c h.symm;exact d h)]
  rw[e2]
  omega
def SB.row (n:Nat) (s:SB):List Nat:=(List.range n).map s.f
theorem SB.row_len (n:Nat) (s:SB):(s.row n).length=n:=by simp[SB.row]
theorem SB.row_get {n k:Nat} (s:SB) (h:k<n):(s.row n)[k]? =some (s.f k):=by simp[SB.row,List.getElem?_range h]
theorem qdk {f:Nat->Nat} (hf: ∀a b,f a=f b->a=b): ∀l:List Nat,l.Nodup->(l.map f).Nodup
 |[],_=>List.nodup_nil
 |x::l,h=>by
  have h2:=List.nodup_cons.1 h
  rw[List.map_cons,List.nodup_cons]
  refine⟨fun hx=>?_,qdk hf l h2.2⟩
  obtain⟨y,hy,e⟩:=List.mem_map.1 hx
  exact h2.1 (hf _ _ e▸hy)
theorem SB.row_nodup (n:Nat) (s:SB):(s.row n).Nodup:=qdk (fun _ _ h=>s.finj h) _ List.nodup_range
def SB.inv (n:Nat) (s:SB):Nat:=qdR (s.row n)
theorem qiq {l:List Nat} {i:Nat} (h:i+1<l.length):l=l.take i++l[i]::l[i+1]::l.drop (i+2):=by
 rw[<-YG h,<-YG (by omega),List.take_append_drop]
theorem SB.inv_fr {n i:Nat} {s:SB} (hi:i+1<n) (h:s.Begs i):(s.fr i).inv n+1=s.inv n:=by
 unfold SB.inv
 have e1:=qiq (l:=s.row n) (i:=i) (by rw[SB.row_len];omega)
 have e2:=qiq (l:=(s.fr i).row n) (i:=i) (by rw[SB.row_len];omega)
 have g: ∀(t:SB) (k:Nat) (hk:k<(t.row n).length),(t.row n)[k]=t.f k:=fun t k hk=>by simp[SB.row]
 have t1:((s.fr i).row n).take i=(s.row n).take i:=by
  apply List.ext_getElem?
  intro k
  by_cases hk:k<i
  ·rw[List.getElem?_take_of_lt hk,List.getElem?_take_of_lt hk,SB.row_get _ (by omega),SB.row_get _ (by omega)]
   show some (s.f (tr5 i k))=_
   rw[qdT (by omega) (by omega)]
  rw[Yg (by simp;omega),Yg (by simp;omega)]
 have t2:((s.fr i).row n).drop (i+2)=(s.row n).drop (i+2):=by
  apply List.ext_getElem?
  intro k
  rw[YI,YI]
  by_cases hk:i+2+k<n
  ·rw[SB.row_get _ hk,SB.row_get _ hk]
   show some (s.f (tr5 i _))=_
   rw[qdT (by omega) (by omega)]
  rw[Yg (by rw[SB.row_len];omega),Yg (by rw[SB.row_len];omega)]
 rw[e1,e2,t1,t2,g,g,g,g]
 show qdR (_++s.f (tr5 i i)::s.f (tr5 i (i+1))::_)+1=_
 rw[qef,qeg]
 exact qek h _ _
theorem SB.inv_bk (n i:Nat) (s:SB):(s.bk i).inv n<=s.inv n+1:=by
 unfold SB.inv
 have e:(s.bk i).row n=(s.row n).map (tr5 i):=by
  unfold SB.row
  rw[List.map_map]
  rfl
 rw[e]
 have:=qfN (i:=i) (s.row n) (s.row_nodup n)
 have h2:(if i∈s.row n then 1 else 0:Nat)<=1:=by split<;>omega
 omega
def mu5 (n:Nat) (L:Nat->SB):Nat->Nat
 |0=>0
 |m+1=>mu5 n L m+m*(L m).inv n
theorem qiy {n k:Nat} {L L':Nat->SB} (h: ∀q,q<k->L' q=L q): ∀m,m<=k->mu5 n L' m=mu5 n L m
 |0,_=>rfl
 |m+1,hm=>by simp only[mu5];rw[qiy h m (by omega),h m (by omega)]
theorem qjC {n m k i:Nat} {L:Nat->SB} (h:CanP n m L k i):mu5 n (psh L k i) m<mu5 n L m:=by
 have base:mu5 n (psh L k i) (k+2)+1<=mu5 n L (k+2):=by
  simp only[mu5]
  rw[qiy (L':=psh L k i) (L:=L) (k:=k) (fun q hq=>qka L (by omega) (by omega)) k (Nat.le_refl _),psh_k,qkL]
  have a:=SB.inv_fr h.i_ h.b_
  have b:=Nat.mul_le_mul_left k (SB.inv_bk n i (L k))
  rw[<-a,Nat.mul_add,Nat.mul_one]
  rw[Nat.mul_add,Nat.mul_one]at b
  omega
 have up: ∀d,mu5 n (psh L k i) (k+2+d)+1<=mu5 n L (k+2+d):=by
  intro d
  induction d with
  |zero=>exact base
  |succ d ih=>
   show mu5 n (psh L k i) (k+2+d)+(k+2+d)*(psh L k i (k+2+d)).inv n+1<=mu5 n L (k+2+d)+(k+2+d)*(L (k+2+d)).inv n
   rw[qka L (q:=k+2+d) (by omega) (by omega)]
   omega
 have hk:=h.k_
 have:=up (m-(k+2))
 rw[show k+2+(m-(k+2))=m by omega]at this
 omega
theorem Psh.lt {n m:Nat} {L A:Nat->SB} (h:Psh n m L A):mu5 n A m<mu5 n L m:=by
 cases h with
 |mk h=>exact qjC h
end Go.Av
end
section
namespace Go.Av
theorem qi4 {m:List (Int×Bool)} (k k':Int) (v:Bool):qav (qbS m k v) k'=if k'=k then some v else qav m k':=by
 induction m with
 |nil=>
  unfold qbS qav
  by_cases h:k'=k
  ·simp[h]
  simp[h]
 |cons p m ih=>
  obtain⟨a,b⟩:=p
  unfold qbS
  by_cases h:(k==a)=true
  ·have e:k=a:=by simpa using h
   subst e
   rw[if_pos h]
   unfold qav
   by_cases c:k'=k
   ·simp[c]
   have c2:(k'==k)=false:=by simpa using c
   rw[List.find?_cons_of_neg (by simp[c2]),List.find?_cons_of_neg (by simp[c2]),if_neg c]
  rw[if_neg h]
  have e:k≠a:=by simpa using h
  unfold qav at ih⊢
  by_cases c:k'=a
  ·have c2:(k'==a)=true:=by simpa using c
   rw[List.find?_cons_of_pos (by simpa using c2),List.find?_cons_of_pos (by simpa using c2),if_neg (by rw[c];exact fun x=>e x.symm)]
  have c2:(k'==a)=false:=by simpa using c
  rw[List.find?_cons_of_neg (by simp[c2]),List.find?_cons_of_neg (by simp[c2])]
  exact ih
structure IsP (p:List Int):Prop where
 few:p.length<=256
 at_: ∀k,k<p.length-> ∃v:Nat,v<p.length/\p[k]? =some (v:Int)
 inj: ∀(k k':Nat) (v:Int),p[k]? =some v->p[k']? =some v->k=k'
structure SB.Ok (n:Nat) (s:SB):Prop where
 f_: ∀k,k<n->s.f k<n
 g_: ∀k,k<n->s.g k<n
def SB.li (n:Nat) (s:SB):List Int:=(List.range n).map fun k=>(s.f k:Int)
theorem Ud (n:Nat) (s:SB):(s.li n).length=n:=by simp[SB.li]
theorem Uf {n k:Nat} (s:SB) (h:k<n):(s.li n)[k]? =some (s.f k:Int):=by simp[SB.li,List.getElem?_range h]
theorem SB.li_eq {n:Nat} {s:SB} {p:List Int} (hl:p.length=n) (h: ∀k,k<n->p[k]? =some (s.f k:Int)):p=s.li n:=by
 apply List.ext_getElem?
 intro k
 by_cases hk:k<n
 ·rw[h k hk,Uf s hk]
 rw[Yg (by omega),Yg (by rw[Ud];omega)]
theorem qeM {n i k:Nat} (hi:i+1<n) (h:k<n):tr5 i k<n:=by
 rcases qcC i k with⟨a,e⟩|⟨a,e⟩|⟨a,a',e⟩<;>omega
theorem SB.Ok.fr {n i:Nat} {s:SB} (h:s.Ok n) (hi:i+1<n):(s.fr i).Ok n:=⟨fun k hk=>h.f_ _ (qeM hi hk),fun k hk=>qeM hi (h.g_ k hk)⟩
theorem SB.Ok.bk {n i:Nat} {s:SB} (h:s.Ok n) (hi:i+1<n):(s.bk i).Ok n:=⟨fun k hk=>qeM hi (h.f_ k hk),fun k hk=>h.g_ _ (qeM hi hk)⟩
def SB.rev (s:SB):SB:=⟨s.g,s.f,s.fg,s.gf⟩
theorem SB.Ok.rev {n:Nat} {s:SB} (h:s.Ok n):s.rev.Ok n:=⟨h.g_,h.f_⟩
def Uq:SB:=⟨fun k=>k,fun k=>k,fun _=>rfl,fun _=>rfl⟩
theorem SB.id_ok (n:Nat):Uq.Ok n:=⟨fun _ h=>h,fun _ h=>h⟩
theorem SB.id_li (n:Nat):Uq.li n=yA n:=rfl
def rv5 (n k:Nat):Nat:=if k<n then n-1-k else k
theorem qcX (n k:Nat):rv5 n (rv5 n k)=k:=by
 unfold rv5
 by_cases h:k<n
 ·rw[if_pos h,if_pos (by omega)];omega
 rw[if_neg h,if_neg h]
theorem qeI {n k:Nat} (h:k<n):rv5 n k<n:=by unfold rv5;rw[if_pos h];omega
def SB.flip (n:Nat) (s:SB):SB:=⟨fun k=>rv5 n (s.f (rv5 n k)),fun k=>rv5 n (s.g (rv5 n k)),fun k=>by rw[qcX,s.gf,qcX],fun k=>by rw[qcX,s.fg,qcX]⟩
theorem SB.Ok.flip {n:Nat} {s:SB} (h:s.Ok n):(s.flip n).Ok n:=⟨fun k hk=>qeI (h.f_ _ (qeI hk)),fun k hk=>qeI (h.g_ _ (qeI hk))⟩
end Go.Av
end
section
namespace Go.Av
theorem Up {n k:Nat} {s:SB} (h:k<n):idx (s.li n) (k:Int)=some (s.f k:Int):=by rw[qm,Uf s h]
section
variable {n:Nat} (hn:n<=300)
include hn
end
end Go.Av
end
section
namespace Go.Av
def qb4 (n:Nat) (g:Nat->Int):List Int:=(List.range n).map g
def xW (n:Nat) (f:Nat->Nat->Int):List (List Int):=(List.range n).map fun i=>qb4 n (f i)
theorem yE (n:Nat) (g:Nat->Int):(qb4 n g).length=n:=by simp[qb4]
theorem qax (n:Nat) (f:Nat->Nat->Int):(xW n f).length=n:=by simp[xW]
theorem xV {n k:Nat} {g:Nat->Int} (h:k<n):(qb4 n g)[k]? =some (g k):=by simp[qb4,List.getElem?_range h]
theorem xm {n k:Nat} {f:Nat->Nat->Int} (h:k<n):(xW n f)[k]? =some (qb4 n (f k)):=by simp[xW,List.getElem?_range h]
theorem qfk {n b:Nat} {g:Nat->Int} (h:b<n) (v:Int):(qb4 n g).set b v=qb4 n (fun k=>if k=b then v else g k):=by
 apply List.ext_getElem?
 intro k
 by_cases hk:k<n
 ·rw[xV hk]
  by_cases e:k=b
  ·subst e;rw[List.getElem?_set_self (by rw[yE];exact h),if_pos rfl]
  rw[Yw (fun c=>e c.symm),xV hk,if_neg e]
 rw[Yg (by simp[yE];omega),Yg (by rw[yE];omega)]
theorem qfq {n a:Nat} {f:Nat->Nat->Int} (h:a<n) (g:Nat->Int):(xW n f).set a (qb4 n g)=xW n (fun i=>if i=a then g else f i):=by
 apply List.ext_getElem?
 intro k
 by_cases hk:k<n
 ·rw[xm hk]
  by_cases e:k=a
  ·subst e;rw[List.getElem?_set_self (by rw[qax];exact h),if_pos rfl]
  rw[Yw (fun c=>e c.symm),xm hk,if_neg e]
 rw[Yg (by simp[qax];omega),Yg (by rw[qax];omega)]
theorem qbd {α:Type} (l:List α) (a:Nat) (x:α):qw l (a:Int) x=l.set a x:=by
 unfold qw
 rw[Int.toNat_natCast]
theorem qfR {n:Nat} {f g:Nat->Nat->Int} (h: ∀i k,f i k=g i k):xW n f=xW n g:=by
 have:f=g:=by funext i k;exact h i k
 rw[this]
def qf4 (f:Nat->Nat->Int) (a b:Nat) (s:Int):Nat->Nat->Int:=fun i k=>if(i=a/\k=b)\/(i=b/\k=a)then f i k+s else f i k
theorem qfH {n a b:Nat} {f:Nat->Nat->Int} (ha:a<n) (hb:b<n) (ne:a≠b) (s:Int):
 ((xW n f).set a ((qb4 n (f a)).set b (f a b+s))).set b ((qb4 n (f b)).set a (f b a+s))=xW n (qf4 f a b s):=by
 rw[qfk hb,qfq ha,qfk ha,qfq hb]
 refine qfR fun i k=>?_
 unfold qf4
 by_cases h1:i=b
 ·subst h1
  rw[if_pos rfl]
  by_cases h2:k=a
  ·subst h2;rw[if_pos rfl,if_pos (.inr ⟨rfl,rfl⟩)]
  rw[if_neg h2,if_neg (fun h=>by rcases h with h|h<;>omega)]
 rw[if_neg h1]
 by_cases h3:i=a
 ·subst h3
  rw[if_pos rfl]
  by_cases h2:k=b
  ·subst h2;rw[if_pos rfl,if_pos (.inl ⟨rfl,rfl⟩)]
  rw[if_neg h2,if_neg (fun h=>by rcases h with h|h<;>omega)]
 rw[if_neg h3,if_neg (fun h=>by rcases h with h|h<;>omega)]
def lkF (s:SB) (f:Nat->Nat->Int):List Int->Nat->Nat->Int
 |[]=>f
 |c::w=>lkF (s.bk (c.natAbs-1)) (qf4 f (s.g (c.natAbs-1)) (s.g c.natAbs) (if 0<c then 1 else-1)) w
theorem qhq {c:Int} (h:c≠0):yV c=some (if 0<c then 1 else-1):=by
 unfold yV
 by_cases p:0<c
 ·rw[if_neg (show¬c<1 by omega),if_pos (by decide),if_pos p]
 rw[if_pos (show c<1 by omega),if_neg p]
 by_cases q:c> -1
 ·omega
 rw[if_neg q]
theorem qgv {n a b:Nat} (hn:n<=1000) {f:Nat->Nat->Int} {B:Nat} (hB:B<=10000) (hf: ∀i k,-(B:Int)<=f i k/\f i k<=B) (ha:a<n) (hb:b<n) (ne:a≠b) {c:Int} (hc:c≠0):
 vS (xW n f) c (a:Int) (b:Int)=some (xW n (qf4 f a b (if 0<c then 1 else-1))):=by
 unfold vS
 have w1: ∀i k,w64 (f i k+(if 0<c then(1:Int)else-1))=f i k+(if 0<c then(1:Int)else-1):=fun i k=>by
  have:=hf i k
  exact z8 (by split<;>omega) (by split<;>omega)
 rw[qm,xm ha,ZB,qm,xV hb,ZB,qhq hc,ZB,w1,qU (by rw[yE];exact hb),ZB,qbd,qm,Yw ne,xm hb,ZB,qm,xV ha,ZB,ZB,w1,qU (by rw[yE];exact ha),ZB,qbd,qfH ha hb ne]
theorem qgI {f:Nat->Nat->Int} {a b:Nat} {s:Int} {B:Nat} (hf: ∀i k,-(B:Int)<=f i k/\f i k<=B) (hs: -1<=s/\s<=1): ∀i k,-((B+1:Nat):Int)<=qf4 f a b s i k/\qf4 f a b s i k<=((B+1:Nat):Int):=fun i k=>by
 have:=hf i k
 unfold qf4
 split<;>omega
section
variable {n:Nat} (hn:n<=12) {N:Nat} (hN:2000<N)
include hn hN
theorem qfc {s:SB} {m:Nat} (hm2:m+1<n):((s.rev.li n).set m ((s.g (m+1):Nat):Int)).set (m+1) ((s.g m:Nat):Int)=(s.bk m).rev.li n:=SB.li_eq (by simp[Ud]) fun k hk=>by
 show _=some ((s.g (tr5 m k):Nat):Int)
 by_cases a:k=m+1
 ·subst a
  rw[List.getElem?_set_self (by simp[Ud];omega),qeg]
 rw[Yw (fun e=>a e.symm)]
 by_cases b:k=m
 ·subst b
  rw[List.getElem?_set_self (by rw[Ud];omega),qef]
 rw[Yw (fun e=>b e.symm),Uf s.rev hk,qdT b a]
 rfl
theorem qfG {w:List Int} (W:xw n w): ∀(K i:Nat) (s:SB) (f:Nat->Nat->Int),s.Ok n->(∀j k,-(i:Int)<=f j k/\f j k<=i)->i<=w.length->w.length<K+i->qF w K (xW n f) (s.rev.li n) (i:Int)=some (xW n (lkF s f (w.drop i)))
 |0,i,s,f,hs,hf,h,hK=>by omega
 |K+1,i,s,f,hs,hf,hiw,hK=>by
  have wl:=W.len
  unfold qF
  by_cases hi:i<w.length
  ·have hx:w[i]? =some w[i]:=Ya hi
   have hc:=W.let_ _ (List.getElem_mem hi)
   rw[YG hi,lkF]
   generalize w[i]=c at*
   obtain⟨m,hm⟩: ∃m:Nat,c.natAbs=m+1:=⟨c.natAbs-1,by omega⟩
   have hm2:m+1<n:=by omega
   have q1:w64 (((m+1:Nat):Int)-1)=(m:Int):=by rw[z8 (by omega) (by omega)];omega
   have q2:w64 ((m:Int)+1)=((m+1:Nat):Int):=qY (by omega)
   have g0:=hs.g_ m (by omega)
   have g1:=hs.g_ (m+1) hm2
   have r0:idx (s.rev.li n) (m:Int)=some ((s.g m:Nat):Int):=Up (by omega)
   have r1:idx (s.rev.li n) ((m+1:Nat):Int)=some ((s.g (m+1):Nat):Int):=Up hm2
   have ne:s.g m≠s.g (m+1):=fun e=>by have:=s.ginj e;omega
   rw[if_pos (by omega),qm,hx]
   simp only[ZB,qc7 (show-1000<c/\c<1000 by omega),hm,q1,q2,r0,r1]
   rw[qgv (by omega) (B:=i) (by omega) hf g0 g1 ne hc.1]
   simp only[ZB]
   rw[qU (by rw[Ud];omega)]
   simp only[ZB]
   have e17:idx ((s.rev.li n).set m ((s.g (m+1):Nat):Int)) ((m+1:Nat):Int)=some ((s.g (m+1):Nat):Int):=by
    rw[qm,Yw (by omega),Uf s.rev hm2]
    rfl
   rw[e17]
   simp only[ZB]
   rw[qU (by simp[Ud];omega)]
   simp only[ZB]
   rw[qfc hn hN hm2,qY (by omega),show(m+1-1:Nat)=m by omega]
   exact qfG W K (i+1) _ _ (hs.bk hm2) (qgI hf (by split<;>omega)) (by omega) (by omega)
  rw[if_neg (by omega),List.drop_eq_nil_of_le (by omega)]
  rfl
theorem qh1:mk 8 (n:Int) (0:Int)=some (qb4 n fun _=>0):=by
 rw[qgl (by omega)]
 congr 1
 apply List.ext_getElem?
 intro k
 by_cases hk:k<n
 ·rw[xV hk];simp[hk]
 rw[Yg (by simp;omega),Yg (by rw[yE];omega)]
theorem qgX: ∀(K i:Nat) (l1 l:List (List Int)),l1.length=n->l.length=n->i<=n->n<K+i->(∀k,k<i->l[k]? =some (qb4 n fun _=>0))->jM (n:Int) l1 K l (i:Int)=some (xW n fun _ _=>0)
 |0,i,l1,l,h1,h2,hi,hK,hk=>by omega
 |K+1,i,l1,l,h1,h2,hin,hK,hk=>by
  unfold jM
  rw[h1]
  by_cases hi:i<n
  ·have hs:idx l (i:Int)=some (l[i]'(by omega)):=by rw[qm];exact Ya _
   rw[if_pos (by omega),qh1 hn hN]
   simp only[ZB]
   rw[hs,ZB,qbd,qY (by omega)]
   refine qgX K (i+1) l1 _ h1 (by simpa using h2) (by omega) (by omega) (fun k hk1=>?_)
   by_cases e:k=i
   ·subst e;rw[List.getElem?_set_self (by omega)]
   rw[Yw (fun c=>e c.symm),hk k (by omega)]
  rw[if_neg (by omega)]
  congr 1
  apply List.ext_getElem?
  intro k
  by_cases hkn:k<n
  ·rw[hk k (by omega),xm hkn]
  rw[Yg (by omega),Yg (by rw[qax];omega)]
theorem qkq:mk 24 (n:Int) ([]:List Int)=some (List.replicate n []):=by
 unfold mk
 rw[if_pos (by omega)]
 simp
theorem qjv {w:List Int} (W:xw n w):qae N (n:Int) w=some (xW n (lkF Uq (fun _ _=>0) w)):=by
 have wl:=W.len
 unfold qae jC zQ
 have a:=qgX hn hN N 0 (List.replicate n []) (List.replicate n []) (by simp) (by simp) (Nat.zero_le _) (by omega) (fun k hk=>by omega)
 have b:=qfG hn hN W N 0 Uq (fun _ _=>0) (SB.id_ok n) (fun _ _=>by simp) (Nat.zero_le _) (by omega)
 rw[show((0:Nat):Int)=0 from rfl]at a b
 rw[YR,show Uq.rev=Uq from rfl,SB.id_li]at b
 rw[qkq hn hN,ZB,a,ZB,ZB,qdf hN (by omega),ZB,b]
 rfl
end
end Go.Av
end
section
namespace Go.Av
def CInv (p:List Int) (from_:Nat) (S:List Bool) (at_:Nat):Prop:= ∀y:Nat,(S[y]? =some true\/y=at_)->y≠from_-> ∃z:Nat,S[z]? =some true/\p[z]? =some ((y:Nat):Int)
def qki (p:List Int) (S:List Bool):Prop:= ∀y:Nat,S[y]? =some true-> ∃z:Nat,S[z]? =some true/\p[z]? =some ((y:Nat):Int)
def cntF (S:List Bool):Nat:=S.countP (fun b=>!b)
theorem qfL {S:List Bool} {i:Nat} (h:S[i]? =some false):cntF (S.set i true)+1=cntF S:=by
 obtain⟨hi,e⟩:=Yb.1 h
 unfold cntF
 have hp:0<S.countP (fun b=>!b):=List.countP_pos_iff.2 ⟨S[i],List.getElem_mem hi,by rw[e];rfl⟩
 rw[List.countP_set hi,e]
 simp
 omega
theorem qiZ {p:List Int} (hp:IsP p) (from_:Nat): ∀(c:Nat) (S:List Bool) (l:List Int) (o:Option (List Int)) (at_ K1 K2:Nat),((o=none/\l=[])\/o=some l)->cntF S=c->c<=K1->c<K2->S.length=p.length->at_<p.length->S[at_]? =some false->CInv p from_ S at_->(S[from_]? =some true\/at_=from_)->l.length+c<=256->(∀x∈l,∃v:Nat,v<p.length/\x=(v:Int))->
 ∃(S':List Bool) (l':List Int),qZ (from_:Int) p K1 S o (at_:Int)=some (S',l')/\zg p K2 S l (at_:Int)=some (S',l')/\S'.length=p.length/\qki p S'/\0<l'.length/\l'.length<=256/\ ∀x∈l',∃v:Nat,v<p.length/\x=(v:Int)
 |0,S,l,o,at_,K1,K2,ho,hc,h1,h2,hl,ha,hf,hi,hfr,hb,hel=>by
  have:=qfL hf
  omega
 |c+1,S,l,o,at_,K1,K2,ho,hc,h1,h2,hl,ha,hf,hi,hfr,hb,hel=>by
  have hel': ∀y∈l++[(at_:Int)],∃v:Nat,v<p.length/\y=(v:Int):=fun y hy=>by
   rcases List.mem_append.1 hy with c|c
   ·exact hel y c
   exact⟨at_,ha,List.mem_singleton.1 c⟩
  obtain⟨K1,rfl⟩: ∃K,K1=K+1:=⟨K1-1,by omega⟩
  obtain⟨K2,rfl⟩: ∃K,K2=K+1:=⟨K2-1,by omega⟩
  have hcs:=qfL hf
  have hfew:=hp.few
  obtain⟨x,hx,ex⟩:=hp.at_ at_ ha
  have r2:jT S o (at_:Int)=some (S.set at_ true,l++[(at_:Int)]):=by
   unfold jT
   rw[qm,hf,ZB,qU (by omega),ZB]
   rcases ho with⟨rfl,rfl⟩|rfl
   ·rfl
   simp only
   rw[j5 (by simp only[Yr,List.length_nil];omega) (by simp only[Yr,List.length_nil];omega)]
   rfl
  have hl':(S.set at_ true).length=p.length:=by simpa using hl
  have cov: ∀y,(S.set at_ true)[y]? =some true->S[y]? =some true\/y=at_:=fun y hy=>by
   by_cases e:y=at_
   ·exact .inr e
   rw[Yw (fun h=>e h.symm)]at hy
   exact .inl hy
  have upS: ∀y,S[y]? =some true->(S.set at_ true)[y]? =some true:=fun y hy=>by
   by_cases e:y=at_
   ·subst e
    rw[List.getElem?_set_self (by omega)]
   rw[Yw (fun h=>e h.symm)]
   exact hy
  have frT:(S.set at_ true)[from_]? =some true:=by
   rcases hfr with h|h
   ·exact upS _ h
   subst h
   rw[List.getElem?_set_self (by omega)]
  unfold qZ zg
  rw[r2,ZB]
  simp only
  rw[qm,ex,ZB,qm,hf,ZB,if_pos (show(!false)=true from rfl),qU (by omega),ZB,j5 (by simp only[Yr,List.length_nil];omega) (by simp only[Yr,List.length_nil];omega),ZB,ZB]
  by_cases e:x=from_
  ·subst e
   rw[if_pos rfl]
   refine⟨_,_,rfl,?_,hl',?_,by simp,by simp;omega,hel'⟩
   ·obtain⟨K2,rfl⟩: ∃K,K2=K+1:=⟨K2-1,by omega⟩
    unfold zg
    rw[qm,frT,ZB,if_neg (by decide)]
   intro y hy
   by_cases c2:y=x
   ·subst c2
    exact⟨at_,by rw[List.getElem?_set_self (by omega)],ex⟩
   obtain⟨z,z1,z2⟩:=hi y (cov y hy) c2
   exact⟨z,upS z z1,z2⟩
  rw[if_neg (by omega)]
  have hxF:(S.set at_ true)[x]? =some false:=by
   have hxl:x<(S.set at_ true).length:=by omega
   have h0:(S.set at_ true)[x]? =some (S.set at_ true)[x]:=Ya hxl
   cases hb2:(S.set at_ true)[x]with
   |false=>rw[h0,hb2]
   |true=>
    exfalso
    rw[hb2]at h0
    obtain⟨z,z1,z2⟩:=hi x (cov x h0) e
    have:=hp.inj z at_ _ z2 ex
    subst this
    rw[hf]at z1
    cases z1
  refine qiZ hp from_ c _ _ _ x K1 K2 (.inr rfl) (by omega) (by omega) (by omega) hl' hx hxF (fun y hy hne=>?_) (.inl frT) (by simp;omega) hel'
  rcases hy with hy|hy
  ·obtain⟨z,z1,z2⟩:=hi y (cov y hy) hne
   exact⟨z,upS z z1,z2⟩
  subst hy
  exact⟨at_,by rw[List.getElem?_set_self (by omega)],ex⟩
theorem qgc {N:Nat} (hN:2000<N) {p:List Int} (hp:IsP p): ∀(K i:Nat) (S:List Bool) (out:List (List Int)),i<=p.length->p.length<K+i->S.length=p.length->qki p S->out.length<=i->(∀l∈out,0<l.length/\l.length<=256/\ ∀x∈l,∃v:Nat,v<p.length/\x=(v:Int))->
 ∃r,zm N p K out S (i:Int)=some r/\ji N p K out S (i:Int)=some r/\r.length<=256/\ ∀l∈r,0<l.length/\l.length<=256/\ ∀x∈l,∃v:Nat,v<p.length/\x=(v:Int)
 |0,i,S,out,h,hK,hl,hc,ho,hm=>by omega
 |K+1,i,S,out,h,hK,hl,hc,ho,hm=>by
  have hfew:=hp.few
  unfold zm ji
  by_cases hi:i<p.length
  ·have hs:S[i]? =some S[i]:=Ya (by omega)
   rw[if_pos (by omega),if_pos (by omega),qm,hs,ZB]
   cases hb:S[i]with
   |true=>
    rw[hb]at hs
    have e:zg p N S ([]:List Int) (i:Int)=some (S,[]):=by
     obtain⟨M,rfl⟩: ∃M,N=M+1:=⟨N-1,by omega⟩
     unfold zg
     rw[qm,hs,ZB,if_neg (by decide)]
    rw[e]
    simp only[if_true,ZB]
    rw[if_neg (by simp),ZB]
    simp only
    rw[qY (by omega)]
    exact qgc hN hp K (i+1) S out (by omega) (by omega) hl hc (by omega) hm
   |false=>
    rw[hb]at hs
    have hcl:cntF S<=S.length:=List.countP_le_length
    obtain⟨S',l',e1,e2,e3,e4,e5,e6,e8⟩:=qiZ hp i (cntF S) S [] none i N N (.inl ⟨rfl,rfl⟩) rfl (by omega) (by omega) hl hi hs (fun y hy hne=>by
     rcases hy with hy|hy
     ·exact hc y hy
     exact absurd hy hne) (.inr rfl) (by simp;omega) (fun x hx=>by cases hx)
    have e0:vZ p (i:Int)=some ():=rfl
    have e7:jv N S (i:Int) p=some (S',l'):=by
     unfold jv
     rw[e1,ZB]
    rw[if_neg (by decide),e0,ZB,e7,ZB,e2,ZB]
    simp only
    rw[if_pos (by omega),j5 (by simp only[Yr,List.length_nil];omega) (by simp only[Yr,List.length_nil];omega)]
    simp only[ZB]
    rw[qY (by omega)]
    refine qgc hN hp K (i+1) S' _ (by omega) (by omega) e3 e4 (by simp;omega) (fun l hl'=>?_)
    rcases List.mem_append.1 hl' with c|c
    ·exact hm l c
    obtain rfl:=List.mem_singleton.1 c
    exact⟨e5,e6,e8⟩
  rw[if_neg (by omega),if_neg (by omega)]
  exact⟨out,rfl,rfl,by omega,hm⟩
theorem qfz {N:Nat} (hN:2000<N) {p:List Int} (hp:IsP p): ∃r,jU N p=some r/\yD N p=some r/\r.length<=256/\ ∀l∈r,0<l.length/\l.length<=256/\ ∀x∈l,∃v:Nat,v<p.length/\x=(v:Int):=by
 have hfew:=hp.few
 unfold jU yD
 have hm:mk 1 (p.length:Int) false=some (List.replicate p.length false):=by
  unfold mk
  rw[if_pos (by omega)]
  simp
 obtain⟨r,r1,r2,r3,r4⟩:=qgc hN hp N 0 (List.replicate p.length false) [] (by omega) (by omega) (by simp) (fun y hy=>by
  rw[List.getElem?_replicate]at hy
  split at hy<;>cases hy) (by simp) (fun l h=>by cases h)
 rw[hm,ZB,ZB,show(0:Int)=((0:Nat):Int)from rfl,r1,r2]
 exact⟨r,rfl,rfl,r3,r4⟩
def LetN (n:Nat) (w:List Int):Prop:= ∀c∈w,c≠0/\ -(n:Int)<c/\c<n
def pmF (s:SB) (w:List Int):SB:=w.foldl (fun s c=>s.bk (c.natAbs-1)) s
theorem qin {n:Nat}: ∀{w:List Int} {s:SB},s.Ok n->LetN n w->(pmF s w).Ok n
 |[],s,h,hw=>h
 |c::w,s,h,hw=>qin (w:=w) (h.bk (by have:=hw c (List.mem_cons_self ..);omega)) (fun d hd=>hw d (List.mem_cons_of_mem _ hd))
section
variable {n:Nat} (hn:n<=12) {N:Nat} (hN:2000<N)
include hn hN
theorem qgN {w:List Int} (W:xw n w): ∀(K i:Nat) (s:SB),s.Ok n->i<=w.length->w.length<K+i->qx w K (s.li n) (s.rev.li n) (i:Int)=some ((pmF s (w.drop i)).li n)
 |0,i,s,hs,h,hK=>by omega
 |K+1,i,s,hs,hiw,hK=>by
  have wl:=W.len
  unfold qx vB
  by_cases hi:i<w.length
  ·have hx:w[i]? =some w[i]:=Ya hi
   have hc:=W.let_ _ (List.getElem_mem hi)
   rw[YG hi]
   unfold pmF
   rw[List.foldl_cons]
   generalize w[i]=c at*
   obtain⟨m,hm⟩: ∃m:Nat,c.natAbs=m+1:=⟨c.natAbs-1,by omega⟩
   have hm2:m+1<n:=by omega
   have q1:w64 (((m+1:Nat):Int)-1)=(m:Int):=by rw[z8 (by omega) (by omega)];omega
   have q2:w64 ((m:Int)+1)=((m+1:Nat):Int):=qY (by omega)
   have g0:=hs.g_ m (by omega)
   have g1:=hs.g_ (m+1) hm2
   have r0:idx (s.rev.li n) (m:Int)=some ((s.g m:Nat):Int):=Up (by omega)
   have r1:idx (s.rev.li n) ((m+1:Nat):Int)=some ((s.g (m+1):Nat):Int):=Up hm2
   have ne:s.g m≠s.g (m+1):=fun e=>by have:=s.ginj e;omega
   have p0:idx (s.li n) ((s.g m:Nat):Int)=some (m:Int):=by rw[Up g0,s.fg]
   have lset:((s.li n).set (s.g m) ((m+1:Nat):Int)).length=n:=by simp[Ud]
   have p1:idx ((s.li n).set (s.g m) ((m+1:Nat):Int)) ((s.g (m+1):Nat):Int)=some ((m+1:Nat):Int):=by
    rw[qm,Yw ne,Uf s g1,s.fg]
   have q3:w64 (((m+1:Nat):Int)-1)=(m:Int):=q1
   rw[if_pos (by omega),qm,hx]
   simp only[ZB,qc7 (show-1000<c/\c<1000 by omega),hm,q1,q2,r0,r1,p0]
   rw[qU (by rw[Ud];exact g0)]
   simp only[ZB,p1,q3]
   rw[qU (by rw[lset];exact g1)]
   simp only[ZB]
   rw[qU (by rw[Ud];omega)]
   simp only[ZB]
   have e17:idx ((s.rev.li n).set m ((s.g (m+1):Nat):Int)) ((m+1:Nat):Int)=some ((s.g (m+1):Nat):Int):=by
    rw[qm,Yw (by omega),Uf s.rev hm2]
    rfl
   rw[e17]
   simp only[ZB]
   rw[qU (by simp[Ud];omega)]
   simp only[ZB]
   have e1:((s.li n).set (s.g m) ((m+1:Nat):Int)).set (s.g (m+1)) (m:Int)=(s.bk m).li n:=SB.li_eq (by simp[Ud]) fun k hk=>by
    show _=some ((tr5 m (s.f k):Nat):Int)
    by_cases a:k=s.g (m+1)
    ·subst a
     rw[List.getElem?_set_self (by rw[lset];exact g1),s.fg,qeg]
    rw[Yw (fun e=>a e.symm)]
    by_cases b:k=s.g m
    ·subst b
     rw[List.getElem?_set_self (by rw[Ud];exact g0),s.fg,qef]
    rw[Yw (fun e=>b e.symm),Uf s hk,qdT (fun e=>b (by rw[<-e,s.gf])) (fun e=>a (by rw[<-e,s.gf]))]
   have e2:((s.rev.li n).set m ((s.g (m+1):Nat):Int)).set (m+1) ((s.g m:Nat):Int)=(s.bk m).rev.li n:=SB.li_eq (by simp[Ud]) fun k hk=>by
    show _=some ((s.g (tr5 m k):Nat):Int)
    by_cases a:k=m+1
    ·subst a
     rw[List.getElem?_set_self (by simp[Ud];omega),qeg]
    rw[Yw (fun e=>a e.symm)]
    by_cases b:k=m
    ·subst b
     rw[List.getElem?_set_self (by rw[Ud];omega),qef]
    rw[Yw (fun e=>b e.symm),Uf s.rev hk,qdT b a]
    rfl
   rw[e1,e2,qY (by omega)]
   rw[show(m+1-1:Nat)=m by omega]
   exact qgN W K (i+1) _ (hs.bk hm2) (by omega) (by omega)
  rw[if_neg (by omega),List.drop_eq_nil_of_le (by omega)]
  rfl
theorem qjS {w:List Int} (W:xw n w):yc N (n:Int) w=some ((pmF Uq w).li n):=by
 unfold yc zO
 have wl:=W.len
 have:=qgN hn hN W N 0 Uq (SB.id_ok n) (Nat.zero_le _) (by omega)
 rw[YR,show Uq.rev=Uq from rfl,SB.id_li,show((0:Nat):Int)=0 from rfl]at this
 rw[qdf hN (by omega),ZB,ZB,this]
 rfl
end
theorem qhO {p:List Int} (hp:IsP p): ∀(K i:Nat) (m:List (Int×Bool)),i<=p.length->p.length<K+i->(∀x,(qav m x).getD false=true↔ ∃k,k<i/\p[k]? =some x)->zk p K m (i:Int)=some (.inl ())
 |0,i,m,h,hK,hm=>by omega
 |K+1,i,m,h,hK,hm=>by
  have few:=hp.few
  unfold zk
  by_cases hi:i<p.length
  ·obtain⟨v,hv,hx⟩:=hp.at_ i hi
   rw[if_pos (by omega),qm,hx]
   simp only[ZB]
   rw[if_neg (by omega),if_neg (by omega)]
   have hf:(qav m (v:Int)).getD false=false:=by
    cases c:(qav m (v:Int)).getD false with
    |false=>rfl
    |true=>
     obtain⟨k,k1,k2⟩:=(hm _).1 c
     have:=hp.inj k i _ k2 hx
     omega
   rw[hf,qY (by omega)]
   simp only[ZF,if_false,ZB]
   refine qhO hp K (i+1) _ (by omega) (by omega) (fun y=>?_)
   rw[qi4]
   by_cases e:y=(v:Int)
   ·rw[if_pos e]
    exact⟨fun _=>⟨i,by omega,by rw[hx,e]⟩,fun _=>rfl⟩
   rw[if_neg e,hm y]
   constructor
   ·rintro⟨k,k1,k2⟩
    exact⟨k,by omega,k2⟩
   rintro⟨k,k1,k2⟩
   refine⟨k,?_,k2⟩
   rcases Nat.lt_or_ge k i with c|c
   ·exact c
   have:k=i:=by omega
   subst this
   rw[hx]at k2
   exact absurd (Ye k2).symm e
  rw[if_neg (by omega)]
theorem qkE {N:Nat} (hN:2000<N) {p:List Int} (hp:IsP p):jS N p=some 0:=by
 have few:=hp.few
 unfold jS
 rw[if_neg (by omega),show(0:Int)=((0:Nat):Int)from rfl,qhO hp N 0 [] (by omega) (by omega) (fun x=>by
  constructor
  ·intro c;simp[qav]at c
  rintro⟨k,k1,_⟩;omega)]
 rfl
theorem qjD {n:Nat} (hn:n<=256) {s:SB} (hs:s.Ok n):IsP (s.li n):=by
 refine⟨by rw[Ud];exact hn,fun k hk=>?_,fun k k' v h h'=>?_⟩
 ·rw[Ud]at hk⊢
  exact⟨s.f k,hs.f_ k hk,Uf s hk⟩
 have l1:=(Yb.1 h).1
 have l2:=(Yb.1 h').1
 rw[Ud]at l1 l2
 rw[Uf s l1]at h
 rw[Uf s l2]at h'
 have e:=Ye (h.trans h'.symm)
 exact s.finj (by omega)
end Go.Av
end
section
namespace Go.Av
def yB (s:List Int) (x:Int):List Int:=match s with
 |[]=>[x]
 |y::t=>if y= -x then t else x::y::t
theorem qei (x:Int):yB [] x=[x]:=rfl
theorem xS {x y:Int} (t:List Int) (h:y= -x):yB (y::t) x=t:=if_pos h
theorem qab {x y:Int} (t:List Int) (h: ¬y= -x):yB (y::t) x=x::y::t:=if_neg h
def fact (s w:List Int):List Int:=w.foldl yB s
def fred (w:List Int):List Int:=(fact [] w).reverse
def qV (w:List Int):List Int:=(w.map fun x=> -x).reverse
def vG:List Int->Prop
 |[]=>True
 |x::t=>x≠0/\(∀y∈t.head?,y≠ -x)/\vG t
def Nz (w:List Int):Prop:= ∀x∈w,x≠0
theorem Nz.app {u v:List Int} (h:Nz u) (k:Nz v):Nz (u++v):=fun x hx=>(List.mem_append.1 hx).elim (h x) (k x)
theorem Nz.left {u v:List Int} (h:Nz (u++v)):Nz u:=fun x hx=>h x (List.mem_append_left _ hx)
theorem Nz.right {u v:List Int} (h:Nz (u++v)):Nz v:=fun x hx=>h x (List.mem_append_right _ hx)
theorem Nz.inv {u:List Int} (h:Nz u):Nz (qV u):=fun x hx=>by
 simp only[qV,List.mem_reverse,List.mem_map]at hx
 obtain⟨y,hy,rfl⟩:=hx
 have:=h y hy
 omega
theorem qdx:qV []=[]:=rfl
theorem qhP (u v:List Int):qV (u++v)=qV v++qV u:=by simp[qV]
theorem qiP (x:Int):qV [x]=[-x]:=rfl
theorem yT (x:Int) (u:List Int):qV (x::u)=qV u++[-x]:=by simp[qV]
theorem qcy (u:List Int):qV (qV u)=u:=by simp[qV,List.map_reverse,Function.comp_def]
theorem vU (u:List Int):(qV u).length=u.length:=by simp[qV]
theorem vT (s u v:List Int):fact s (u++v)=fact (fact s u) v:=by simp[fact]
theorem xg (s:List Int) (x:Int):fact s [x]=yB s x:=rfl
theorem qhf (s:List Int) (x:Int) (w:List Int):fact s (x::w)=fact (yB s x) w:=rfl
theorem qhd {s:List Int} {x:Int} (h:vG s) (hx:x≠0):vG (yB s x):=by
 cases s with
 |nil=>exact⟨hx,by simp,trivial⟩
 |cons y t=>
  unfold yB
  dsimp only
  split
  ·exact h.2.2
  rename_i n
  exact⟨hx,by intro z hz;simp at hz;subst hz;exact n,h⟩
theorem qdE {s w:List Int} (h:vG s) (hw:Nz w):vG (fact s w):=by
 induction w generalizing s with
 |nil=>exact h
 |cons x w ih=>exact ih (qhd h (hw x (List.mem_cons_self ..))) (fun y hy=>hw y (List.mem_cons_of_mem _ hy))
theorem qdb {s:List Int} {x:Int} (h:vG s) (hx:x≠0):yB (yB s x) (-x)=s:=by
 cases s with
 |nil=>rw[qei,xS _ (by omega)]
 |cons y t=>
  by_cases n:y= -x
  ·rw[xS t n]
   cases t with
   |nil=>rw[qei,n]
   |cons z t=>
    have:=h.2.1 z (by simp)
    rw[qab _ (by omega),n]
  rw[qab t n,xS _ (by omega)]
theorem qik {s w:List Int} {x:Int} (h:x∈fact s w):x∈s\/x∈w:=by
 induction w generalizing s with
 |nil=>exact .inl h
 |cons y w ih=>
  rcases ih h with h|h
  ·cases s with
   |nil=>simp[yB]at h;exact .inr (by simp[h])
   |cons z t=>
    unfold yB at h
    dsimp only at h
    split at h
    ·exact .inl (List.mem_cons_of_mem _ h)
    rcases List.mem_cons.1 h with h|h
    ·exact .inr (by simp[h])
    exact .inl h
  exact .inr (List.mem_cons_of_mem _ h)
theorem qcb {w:List Int} {x:Int} (h:x∈fred w):x∈w:=by
 rcases qik (List.mem_reverse.1 h)with h|h
 ·cases h
 exact h
theorem qcV {w:List Int} (h:Nz w):Nz (fred w):=fun x hx=>h x (qcb hx)
theorem qdc (s w:List Int):(fact s w).length<=s.length+w.length:=by
 induction w generalizing s with
 |nil=>simp[fact]
 |cons x w ih=>
  have:=ih (yB s x)
  have h:(yB s x).length<=s.length+1:=by
   cases s with
   |nil=>simp[yB]
   |cons y t=>
    unfold yB
    dsimp only
    split
    ·simp;omega
    simp
  rw[qhf]
  simp only[Yr]
  omega
theorem qfm (w:List Int):(fred w).length<=w.length:=by
 have:=qdc [] w
 simpa[fred]using this
theorem qhv {w:List Int} (hw:Nz w): ∀{s:List Int},vG s->fact s (fred w)=fact s w:=by
 suffices∀(r:List Int),Nz r-> ∀{s:List Int},vG s->fact s (fred r.reverse)=fact s r.reverse by
  intro s hs
  have:=this w.reverse (fun x hx=>hw x (List.mem_reverse.1 hx)) hs
  simpa using this
 intro r
 induction r with
 |nil=>intro _ s _;rfl
 |cons x r ih=>
  intro hr s hs
  have hx:x≠0:=hr x (List.mem_cons_self ..)
  have hr':Nz r:=fun y hy=>hr y (List.mem_cons_of_mem _ hy)
  have hrr:Nz r.reverse:=fun y hy=>hr' y (List.mem_reverse.1 hy)
  have e:=ih hr' hs
  have hR:vG (fact [] r.reverse):=qdE trivial hrr
  rw[List.reverse_cons,vT,<-e,xg]
  have g:fred (r.reverse++[x])=(yB (fact [] r.reverse) x).reverse:=by
   unfold fred
   rw[vT,xg]
  rw[g]
  have f:fred r.reverse=(fact [] r.reverse).reverse:=rfl
  rw[f]
  cases c:fact [] r.reverse with
  |nil=>rfl
  |cons y t=>
   rw[c]at hR
   by_cases n:y= -x
   ·rw[xS t n,List.reverse_cons,vT,xg]
    have hS:vG (fact s t.reverse):=by
     refine qdE hs (fun z hz=>?_)
     refine qcV hrr z ?_
     rw[f,c,List.reverse_cons]
     exact List.mem_append_left _ hz
    have:=qdb hS (x:= -x) (by omega)
    rw[Int.neg_neg]at this
    rw[n,this]
   rw[qab t n,List.reverse_cons,vT,xg]
end Go.Av
end
section
namespace Go.Av
def Feq (u v:List Int):Prop:= ∀s,vG s->fact s u=fact s v
theorem Feq.rfl_ {u:List Int}:Feq u u:=fun s _=>rfl
theorem Feq.symm {u v:List Int} (h:Feq u v):Feq v u:=fun s hs=>(h s hs).symm
theorem Feq.trans {u v w:List Int} (h:Feq u v) (k:Feq v w):Feq u w:=fun s hs=>(h s hs).trans (k s hs)
theorem Feq.app {u v x y:List Int} (hu:Nz u) (h:Feq u v) (k:Feq x y):Feq (u++x) (v++y):=fun s hs=>by
 rw[vT,vT,<-h s hs,k _ (qdE hs hu)]
theorem Feq.red {u:List Int} (h:Nz u):Feq (fred u) u:=fun s hs=>qhv h hs
theorem Feq.fred {u v:List Int} (h:Feq u v):fred u=fred v:=by
 unfold Go.Av.fred
 rw[h [] trivial]
theorem qhA {s:List Int} (h:vG s):fact [] s.reverse=s:=by
 induction s with
 |nil=>rfl
 |cons x t ih=>
  rw[List.reverse_cons,vT,ih h.2.2,xg]
  cases t with
  |nil=>rfl
  |cons y t=>exact qab _ (h.2.1 y (by simp))
def FR (w:List Int):Prop:=vG w.reverse
theorem FR.fix {w:List Int} (h:FR w):fred w=w:=by
 have:=qhA h
 rw[List.reverse_reverse]at this
 unfold fred
 rw[this,List.reverse_reverse]
theorem Feq.uniq {u v:List Int} (hv:FR v) (h:Feq u v):Go.Av.fred u=v:=by rw[h.fred,hv.fix]
theorem qa5 (x:Int) (hx:x≠0):Feq [x,-x] []:=fun s hs=>qdb hs hx
theorem qeF {u:List Int} (h:Nz u):Feq (u++qV u) []:=by
 induction u with
 |nil=>exact .rfl_
 |cons x u ih=>
  have hx:=h x (List.mem_cons_self ..)
  have hu:Nz u:=fun y hy=>h y (List.mem_cons_of_mem _ hy)
  rw[yT,show x::u++(qV u++[-x])=[x]++((u++qV u)++[-x])by simp]
  refine Feq.trans (Feq.app (fun y hy=>?_) .rfl_ (Feq.app (hu.app hu.inv) (ih hu) .rfl_)) (qa5 x hx)
  simp at hy
  omega
theorem qdF {u:List Int} (h:Nz u):Feq (qV u++u) []:=by
 have:=qeF h.inv
 rwa [qcy]at this
def qfh (x:List (List Int)) (g:Int):List Int:=if 0<g then x.getD (g-1).toNat []else qV (x.getD (-g-1).toNat [])
def xe (x:List (List Int)) (w:List Int):List Int:=w.flatMap (qfh x)
theorem xq (x:List (List Int)) (u v:List Int):xe x (u++v)=xe x u++xe x v:=List.flatMap_append
theorem qdq (x:List (List Int)) (g:Int):xe x [g]=qfh x g:=by simp[xe]
theorem qhy (x:List (List Int)) (g:Int) (w:List Int):xe x (g::w)=qfh x g++xe x w:=by simp[xe]
theorem qe3 (x:List (List Int)) {g:Int} (h:g≠0):qfh x (-g)=qV (qfh x g):=by
 unfold qfh
 by_cases p:0<g
 ·rw[if_neg (by omega),if_pos p,Int.neg_neg]
 rw[if_pos (by omega),if_neg p,qcy]
theorem qiz (x:List (List Int)) {w:List Int} (h:Nz w):xe x (qV w)=qV (xe x w):=by
 induction w with
 |nil=>rfl
 |cons g w ih=>
  rw[yT,xq,ih (fun y hy=>h y (List.mem_cons_of_mem _ hy)),qdq,qe3 x (h g (List.mem_cons_self ..)),qhy,qhP]
def Nzs (x:List (List Int)):Prop:= ∀w∈x,Nz w
theorem Nzs.getD {x:List (List Int)} (h:Nzs x) (k:Nat):Nz (x.getD k []):=by
 rw[Yy]
 cases c:x[k]? with
 |none=>intro y hy;simp at hy
 |some w=>exact h w (Yn c)
theorem qg2 {x:List (List Int)} (h:Nzs x) (g:Int):Nz (qfh x g):=by
 unfold qfh
 split
 ·exact h.getD _
 exact(h.getD _).inv
theorem xH {x:List (List Int)} (h:Nzs x) (w:List Int):Nz (xe x w):=fun y hy=>by
 simp only[xe,List.mem_flatMap]at hy
 obtain⟨g,_,hg⟩:=hy
 exact qg2 h g y hg
theorem qey {x:List (List Int)} (hx:Nzs x) {w:List Int} (hw:Nz w):Feq (xe x (fred w)) (xe x w):=by
 suffices∀(r:List Int),Nz r->Feq (xe x (fred r.reverse)) (xe x r.reverse)by
  have:=this w.reverse (fun y hy=>hw y (List.mem_reverse.1 hy))
  simpa using this
 intro r
 induction r with
 |nil=>intro _;exact .rfl_
 |cons g r ih=>
  intro hr
  have hg:g≠0:=hr g (List.mem_cons_self ..)
  have hr':Nz r:=fun y hy=>hr y (List.mem_cons_of_mem _ hy)
  have hrr:Nz r.reverse:=fun y hy=>hr' y (List.mem_reverse.1 hy)
  have e:=ih hr'
  have k:fred (r.reverse++[g])=(yB (fact [] r.reverse) g).reverse:=by
   unfold fred
   rw[vT,xg]
  have f:fred r.reverse=(fact [] r.reverse).reverse:=rfl
  rw[List.reverse_cons,k,xq]
  refine Feq.trans ?_ (Feq.app (xH hx _) e .rfl_)
  rw[f]
  cases c:fact [] r.reverse with
  |nil=>exact .rfl_
  |cons y t=>
   by_cases n:y= -g
   ·rw[xS t n,List.reverse_cons,xq,qdq,n,qe3 x hg,qdq,Yz]
    refine Feq.symm ?_
    have:=Feq.app (xH hx t.reverse) .rfl_ (qdF (qg2 hx g))
    rwa [List.append_nil]at this
   rw[qab t n,List.reverse_cons,xq]
   exact .rfl_
theorem vG.app {s t:List Int}:vG (s++t)↔vG s/\vG t/\ ∀x∈s.getLast?,∀y∈t.head?,y≠ -x:=by
 induction s with
 |nil=>simp[vG]
 |cons a s ih=>
  cases s with
  |nil=>
   simp only[List.singleton_append,vG,List.head?_nil,List.getLast?_singleton]
   constructor
   ·rintro⟨h1,h2,h3⟩
    exact⟨⟨h1,by simp,trivial⟩,h3,fun x hx y hy=>by simp at hx;subst hx;exact h2 y hy⟩
   rintro⟨⟨h1,_,_⟩,h3,h4⟩
   exact⟨h1,fun y hy=>h4 a (by simp) y hy,h3⟩
  |cons b s=>
   have e:(a::b::s).getLast? =(b::s).getLast? :=by simp[List.getLast?_cons_cons]
   rw[List.cons_append,e]
   simp only[vG]at ih⊢
   rw[ih]
   simp only[List.cons_append,List.head?_cons]
   constructor
   ·rintro⟨h1,h2,h3,h4,h5⟩;exact⟨⟨h1,h2,h3⟩,h4,h5⟩
   rintro⟨⟨h1,h2,h3⟩,h4,h5⟩;exact⟨h1,h2,h3,h4,h5⟩
structure qet (w:List Int) (u:List Int) (g:Int):Prop where
 eq_:w=u++[g]++qV u
 pos:0<g
 red:FR w
end Go.Av
end
section
namespace Go.Av
theorem vG.rev {w:List Int} (h:vG w):vG w.reverse:=by
 induction w with
 |nil=>trivial
 |cons x t ih=>
  rw[List.reverse_cons,vG.app]
  refine⟨ih h.2.2,⟨h.1,by simp,trivial⟩,fun a ha y hy=>?_⟩
  simp only[List.getLast?_reverse]at ha
  simp at hy
  have:=h.2.1 a ha
  omega
theorem FR.of {w:List Int} (h:vG w):FR w:=h.rev
theorem FR.to {w:List Int} (h:FR w):vG w:=by
 have:=vG.rev h
 rwa [List.reverse_reverse]at this
theorem vG.nz {w:List Int} (h:vG w):Nz w:=by
 induction w with
 |nil=>intro x hx;simp at hx
 |cons y t ih=>
  intro x hx
  rcases List.mem_cons.1 hx with e|e
  ·rw[e];exact h.1
  exact ih h.2.2 x e
theorem conj1 {w u:List Int} {g x:Int} (h:qet w u g) (hx:x≠0): ∃u',Feq ([x]++w++[-x]) (u'++[g]++qV u')/\FR (u'++[g]++qV u'):=by
 have hg:=h.pos
 have nx: ∀{y:Int},y≠0->Nz [y]:=fun hy z hz=>by simp at hz;omega
 have hr:=h.red.to
 have he:=h.eq_
 subst he
 cases u with
 |nil=>
  simp only[qdx,List.nil_append,List.append_nil]at hr⊢
  by_cases e:x=g
  ·subst e
   exact⟨[],by simpa[qdx]using Feq.app (nx hx) (.rfl_ (u:=[x])) (qa5 x hx),.of hr⟩
  by_cases e':x= -g
  ·subst e'
   refine⟨[],?_,.of hr⟩
   have:=Feq.app ((nx hx).app (nx (by omega:g≠0))) (by have:=qa5 (-g) hx;rwa [Int.neg_neg]at this:Feq ([-g]++[g]) []) (.rfl_ (u:=[g]))
   simpa[qdx]using this
  refine⟨[x],by simpa[qV]using Feq.rfl_,.of ?_⟩
  simp only[qiP,List.singleton_append,List.cons_append,List.nil_append,vG,List.head?_cons,List.head?_nil]
  refine⟨hx,?_,by omega,?_,by omega,by simp,trivial⟩
  ·intro y hy;simp at hy;omega
  intro y hy;simp at hy;omega
 |cons y t=>
  have hy:y≠0:=hr.1
  rw[yT]at hr⊢
  have e1:y::t++[g]++(qV t++[-y])=[y]++((t++[g]++qV t)++[-y]):=by simp
  have hm:vG (t++[g]++qV t):=by
   rw[e1,vG.app]at hr
   exact(vG.app.1 hr.2.1).1
  by_cases e:y= -x
  ·refine⟨t,?_,.of hm⟩
   rw[e1,e,Int.neg_neg]
   have a1:=Feq.app (Nz.app (nx hx) (nx (by omega: -x≠0))) (qa5 x hx) (Feq.app hm.nz .rfl_ (qa5 x hx))
   simpa using a1
  refine⟨x::y::t,?_,.of ?_⟩
  ·rw[yT,yT]
   simpa using Feq.rfl_
  have e2:x::y::t++[g]++qV (x::y::t)=[x]++(((y::t++[g]++qV t)++[-y])++[-x]):=by simp[yT]
  have e3:y::t++[g]++(qV t++[-y])=((y::t++[g]++qV t)++[-y]):=by simp
  rw[e3]at hr
  rw[e2,vG.app]
  refine⟨⟨hx,by simp,trivial⟩,?_,?_⟩
  ·rw[vG.app]
   refine⟨hr,⟨by omega,by simp,trivial⟩,fun a ha b hb=>?_⟩
   rw[List.getLast?_append,List.getLast?_singleton,Option.some_or]at ha
   simp at ha hb
   omega
  intro a ha b hb
  simp at ha hb
  omega
theorem qke {w u:List Int} {g:Int} (h:qet w u g) {a:List Int} (ha:Nz a): ∃u',qet (fred (a++w++qV a)) u' g:=by
 suffices∃u',Feq (a++w++qV a) (u'++[g]++qV u')/\FR (u'++[g]++qV u')by
  obtain⟨u',h1,h2⟩:=this
  exact⟨u',h1.uniq h2,h.pos,by rw[h1.uniq h2];exact h2⟩
 induction a with
 |nil=>exact⟨u,by rw[h.eq_];simpa[qV]using Feq.rfl_,by rw[<-h.eq_];exact h.red⟩
 |cons x a ih=>
  have hx:=ha x (List.mem_cons_self ..)
  obtain⟨u1,h1,h2⟩:=ih (fun y hy=>ha y (List.mem_cons_of_mem _ hy))
  obtain⟨u2,h3,h4⟩:=conj1 (x:=x) ⟨rfl,h.pos,h2⟩ hx
  refine⟨u2,?_,h4⟩
  have nx:Nz [x]:=fun z hz=>by simp at hz;omega
  have hn:Nz (a++w++qV a):=by
   have:Nz a:=fun y hy=>ha y (List.mem_cons_of_mem _ hy)
   exact(this.app h.red.to.nz).app this.inv
  have:=(Feq.app (nx.app hn) (Feq.app nx (.rfl_ (u:=[x])) h1) (.rfl_ (u:=[-x]))).trans h3
  rw[yT]
  simpa using this
def jP (im:List (List Int)) (c:Int):List (List Int):=
 let i:=c.natAbs-1
 let a:=im.getD i []
 let b:=im.getD (i+1) []
 if 0<c then(im.set i (fred (a++b++qV a))).set (i+1) a else(im.set i b).set (i+1) (fred (qV b++a++b))
theorem qar (im:List (List Int)) (c:Int):(jP im c).length=im.length:=by
 unfold jP
 dsimp only
 split<;>simp
theorem qiL {im:List (List Int)} {i:Nat} (h:i+1<im.length): ∃p a b q,im=p++a::b::q/\p.length=i:=by
 refine⟨im.take i,im[i],im[i+1],im.drop (i+2),?_,by simp;omega⟩
 rw[<-YG h,<-YG (by omega),List.take_append_drop]
theorem set2 (p:List (List Int)) (a b A B:List Int) (q:List (List Int)):((p++a::b::q).set p.length A).set (p.length+1) B=p++A::B::q:=by
 induction p with
 |nil=>rfl
 |cons x p ih=>
  simp only[List.cons_append,Yr,List.set_cons_succ]
  rw[ih]
theorem qe8 (p:List (List Int)) (a b:List Int) (q:List (List Int)):(p++a::b::q).getD p.length []=a:=by
 simp[List.getD_eq_getElem?_getD]
theorem qfa (p:List (List Int)) (a b:List Int) (q:List (List Int)):(p++a::b::q).getD (p.length+1) []=b:=by
 rw[Yy,Yo (by omega)]
 simp
theorem qfb {p:List (List Int)} {a b:List Int} {q:List (List Int)} {c:Int} (h:c.natAbs-1=p.length):
 jP (p++a::b::q) c=if 0<c then p++fred (a++b++qV a)::a::q else p++b::fred (qV b++a++b)::q:=by
 unfold jP
 dsimp only
 rw[h,qe8,qfa,set2,set2]
def qiV (n:Nat):List Int:=(List.range n).map fun k:Nat=>((k:Nat):Int)+1
def fid (n:Nat):List (List Int):=(List.range n).map fun k:Nat=>[((k:Nat):Int)+1]
theorem vM (n:Nat):(fid n).length=n:=by simp[fid]
theorem qjy {n k:Nat} (h:k<n):(fid n).getD k []=[(k:Int)+1]:=by
 rw[Yy]
 simp[fid,List.getElem?_map,List.getElem?_range h]
structure FOK (n:Nat) (im:List (List Int)) (row:List Int):Prop where
 len:im.length=n
 at_: ∀k,k<n-> ∃(u:List Int) (v:Nat),v<n/\row[k]? =some (v:Int)/\qet (im.getD k []) u ((v:Int)+1)
 let_: ∀w∈im,∀y∈w,y≠0/\ -(n:Int)<=y/\y<=n
 prod:Feq im.flatten (qiV n)
theorem FOK.nz {n:Nat} {im:List (List Int)} {row:List Int} (h:FOK n im row):Nzs im:=fun w hw y hy=>(h.let_ w hw y hy).1
theorem qiH (n:Nat):(fid n).flatten=qiV n:=by
 induction n with
 |zero=>rfl
 |succ n ih=>
  unfold fid qiV at*
  rw[List.range_succ,List.map_append,List.map_append,List.flatten_append,ih]
  rfl
theorem FOK.start (n:Nat) {row:List Int} (h: ∀k,k<n->row[k]? =some (k:Int)):FOK n (fid n) row:=by
 refine⟨vM n,fun k hk=>⟨[],k,hk,h k hk,?_⟩,fun w hw y hy=>?_,by rw[qiH];exact .rfl_⟩
 ·rw[qjy hk]
  refine⟨rfl,by omega,.of ⟨by omega,by simp,trivial⟩⟩
 simp only[fid,List.mem_map,List.mem_range]at hw
 obtain⟨k,hk,rfl⟩:=hw
 simp at hy
 omega
theorem FOK.step {n:Nat} {im:List (List Int)} {row:List Int} (h:FOK n im row) {c:Int} (hc:c≠0/\ -(n:Int)<c/\c<n) {x y:Int}
 (hx:row[c.natAbs-1]? =some x) (hy:row[c.natAbs]? =some y) (hr:row.length=n):FOK n (jP im c) ((row.set (c.natAbs-1) y).set c.natAbs x):=by
 obtain⟨i,hi⟩: ∃i,c.natAbs=i+1:=⟨c.natAbs-1,by omega⟩
 have hin:i+1<n:=by omega
 rw[hi]at hx hy⊢
 rw[Nat.add_sub_cancel]at hx⊢
 obtain⟨p,a,b,q,e,hp⟩:=qiL (im:=im) (i:=i) (by rw[h.len];exact hin)
 have hs:=qfb (p:=p) (a:=a) (b:=b) (q:=q) (c:=c) (by omega)
 have h0:=h.at_ i (by omega)
 have h1:=h.at_ (i+1) hin
 have hnz:=h.nz
 subst e hp
 rw[qe8]at h0
 rw[qfa]at h1
 have ha:Nz a:=hnz a (by simp)
 have hb:Nz b:=hnz b (by simp)
 obtain⟨u0,v0,l0,r0,c0⟩:=h0
 obtain⟨u1,v1,l1,r1,c1⟩:=h1
 have ex:x=(v0:Int):=by rw[hx]at r0;exact Ye r0
 have ey:y=(v1:Int):=by rw[hy]at r1;exact Ye r1
 subst ex ey
 have la:=h.let_ a (by simp)
 have lb:=h.let_ b (by simp)
 have linv: ∀{w:List Int},(∀y∈w,y≠0/\ -(n:Int)<=y/\y<=n)-> ∀y∈qV w,y≠0/\ -(n:Int)<=y/\y<=n:=fun hw y hy=>by
  simp only[qV,List.mem_reverse,List.mem_map]at hy
  obtain⟨z,hz,rfl⟩:=hy
  have:=hw z hz
  omega
 have lapp: ∀{u w:List Int},(∀y∈u,y≠0/\ -(n:Int)<=y/\y<=n)->(∀y∈w,y≠0/\ -(n:Int)<=y/\y<=n)-> ∀y∈u++w,y≠0/\ -(n:Int)<=y/\y<=n:=fun hu hw y hy=>(List.mem_append.1 hy).elim (hu y) (hw y)
 have key: ∃A B,jP (p++a::b::q) c=p++A::B::q/\(∃u,qet A u ((v1:Int)+1))/\(∃u,qet B u ((v0:Int)+1))/\(∀y∈A,y≠0/\ -(n:Int)<=y/\y<=n)/\(∀y∈B,y≠0/\ -(n:Int)<=y/\y<=n)/\Feq (A++B) (a++b):=by
  rw[hs]
  by_cases hpos:0<c
  ·rw[if_pos hpos]
   refine⟨_,_,rfl,qke c1 ha,⟨u0,c0⟩,fun y hy=>lapp (lapp la lb) (linv la) y (qcb hy),la,?_⟩
   have hN:Nz (a++b++qV a):=(ha.app hb).app ha.inv
   refine Feq.trans (Feq.app (qcV hN) (Feq.red hN) .rfl_) ?_
   have:=Feq.app (ha.app hb) (.rfl_ (u:=a++b)) (qdF ha)
   simpa using this
  rw[if_neg hpos]
  have cb:=qke c0 hb.inv
  rw[qcy]at cb
  refine⟨_,_,rfl,⟨u1,c1⟩,cb,lb,fun y hy=>lapp (lapp (linv lb) la) lb y (qcb hy),?_⟩
  have hN:Nz (qV b++a++b):=(hb.inv.app ha).app hb
  refine Feq.trans (Feq.app hb .rfl_ (Feq.red hN)) ?_
  have:=Feq.app (hb.app hb.inv) (qeF hb) (.rfl_ (u:=a++b))
  simpa using this
 obtain⟨A,B,e1,cA,cB,lA,lB,hAB⟩:=key
 rw[e1]
 have hlen:(p++A::B::q).length=n:=by
  have:=h.len
  simp at this⊢
  omega
 refine⟨hlen,fun k hk=>?_,fun w hw y hy=>?_,?_⟩
 ·by_cases k0:k=p.length
  ·subst k0
   rw[qe8,Yw (by omega),List.getElem?_set_self (by omega)]
   obtain⟨u,hu⟩:=cA
   exact⟨u,v1,l1,rfl,hu⟩
  by_cases k1:k=p.length+1
  ·subst k1
   rw[qfa,List.getElem?_set_self (by simp;omega)]
   obtain⟨u,hu⟩:=cB
   exact⟨u,v0,l0,rfl,hu⟩
  rw[Yw (fun e=>k1 e.symm),Yw (fun e=>k0 e.symm)]
  have:=h.at_ k hk
  have e2:(p++A::B::q).getD k []=(p++a::b::q).getD k []:=by
   rw[Yy,Yy]
   rcases Nat.lt_or_ge k p.length with hlt|hge
   ·rw[Yf hlt,Yf hlt]
   obtain⟨j,rfl⟩: ∃j,k=p.length+(j+2):=⟨k-p.length-2,by omega⟩
   rw[Yo (by omega),Yo (by omega),Nat.add_sub_cancel_left]
   rfl
  rw[e2]
  exact this
 ·simp only[List.mem_append,List.mem_cons]at hw
  rcases hw with hw|rfl|rfl|hw
  ·exact h.let_ w (by simp[hw]) y hy
  ·exact lA y hy
  ·exact lB y hy
  exact h.let_ w (by simp[hw]) y hy
 refine Feq.trans ?_ h.prod
 have np:Nz p.flatten:=fun y hy=>by
  obtain⟨w,hw,hyw⟩:=List.mem_flatten.1 hy
  exact hnz w (by simp[hw]) y hyw
 have nA:Nz A:=fun y hy=>(lA y hy).1
 have nB:Nz B:=fun y hy=>(lB y hy).1
 have:=Feq.app np (.rfl_ (u:=p.flatten)) (Feq.app (nA.app nB) hAB (.rfl_ (u:=q.flatten)))
 simpa using this
end Go.Av
end
section
namespace Go.Av
theorem getDo {p:List (List Int)} {a b A B:List Int} {q:List (List Int)} {k:Nat} (h0:k≠p.length) (h1:k≠p.length+1):(p++A::B::q).getD k []=(p++a::b::q).getD k []:=by
 rw[Yy,Yy]
 rcases Nat.lt_or_ge k p.length with hlt|hge
 ·rw[Yf hlt,Yf hlt]
 obtain⟨j,rfl⟩: ∃j,k=p.length+(j+2):=⟨k-p.length-2,by omega⟩
 rw[Yo (by omega),Yo (by omega),Nat.add_sub_cancel_left]
 rfl
theorem qaC {im:List (List Int)} {c:Int} {i:Nat} (hi:c.natAbs=i+1) (hl:i+1<im.length) (k:Nat):
 (jP im c).getD k []=if k=i then(if 0<c then fred (im.getD i []++im.getD (i+1) []++qV (im.getD i []))else im.getD (i+1) [])
  else if k=i+1 then(if 0<c then im.getD i []else fred (qV (im.getD (i+1) [])++im.getD i []++im.getD (i+1) []))else im.getD k []:=by
 obtain⟨p,a,b,q,e,hp⟩:=qiL (im:=im) (i:=i) hl
 subst e hp
 rw[qfb (by omega),qe8,qfa]
 by_cases k0:k=p.length
 ·rw[if_pos k0,k0]
  split<;>rw[qe8]
 rw[if_neg k0]
 by_cases k1:k=p.length+1
 ·rw[if_pos k1,k1]
  split<;>rw[qfa]
 rw[if_neg k1]
 split<;>exact getDo k0 k1
theorem qfJ {im:List (List Int)} (h:Nzs im) {c:Int} {i:Nat} (hi:c.natAbs=i+1) (hl:i+1<im.length):Nzs (jP im c):=by
 intro w hw
 obtain⟨k,hk,rfl⟩:=List.getElem_of_mem hw
 have e:(jP im c)[k]=(jP im c).getD k []:=by rw[Yy,Ya hk];rfl
 rw[e,qaC hi hl]
 have ha:=h.getD i
 have hb:=h.getD (i+1)
 split
 ·split
  ·exact qcV ((ha.app hb).app ha.inv)
  exact hb
 split
 ·split
  ·exact ha
  exact qcV ((hb.inv.app ha).app hb)
 exact h.getD k
structure FRel (n:Nat) (x Y Z:List (List Int)):Prop where
 yl:Y.length=n
 zl:Z.length=n
 yn:Nzs Y
 zn:Nzs Z
 eq_: ∀k,k<n->Feq (xe x (Y.getD k [])) (Z.getD k [])
theorem FRel.step {n:Nat} {x Y Z:List (List Int)} (hx:Nzs x) (h:FRel n x Y Z) {c:Int} (hc:c≠0/\ -(n:Int)<c/\c<n):FRel n x (jP Y c) (jP Z c):=by
 obtain⟨i,hi⟩: ∃i,c.natAbs=i+1:=⟨c.natAbs-1,by omega⟩
 have hin:i+1<n:=by omega
 have yl:=h.yl
 have zl:=h.zl
 refine⟨by rw[qar,yl],by rw[qar,zl],qfJ h.yn hi (by omega),qfJ h.zn hi (by omega),fun k hk=>?_⟩
 rw[qaC hi (by omega),qaC hi (by omega)]
 have ya:=h.yn.getD i
 have yb:=h.yn.getD (i+1)
 have za:=h.zn.getD i
 have zb:=h.zn.getD (i+1)
 have ea:=h.eq_ i (by omega)
 have eb:=h.eq_ (i+1) hin
 have inv: ∀{y z:List Int},Nz y->Nz z->Feq (xe x y) z->Feq (xe x (qV y)) (qV z):=fun {y z} hy hz e=>by
  rw[qiz x hy]
  have hs:=xH hx y
  have t1:Feq (qV (xe x y)) (qV (xe x y)++(z++qV z)):=by
   have:=(Feq.app hs.inv .rfl_ (qeF hz)).symm
   simpa using this
  have t2:Feq (qV (xe x y)++(z++qV z)) (qV (xe x y)++(xe x y++qV z)):=Feq.app hs.inv .rfl_ (Feq.app hz e.symm .rfl_)
  have t3:Feq (qV (xe x y)++(xe x y++qV z)) (qV z):=by
   have:=Feq.app (hs.inv.app hs) (qdF hs) (.rfl_ (u:=qV z))
   simpa using this
  exact(t1.trans t2).trans t3
 by_cases k0:k=i
 ·rw[if_pos k0,if_pos k0]
  by_cases hp:0<c
  ·rw[if_pos hp,if_pos hp]
   have hN:=(ya.app yb).app ya.inv
   have hM:=(za.app zb).app za.inv
   refine(qey hx hN).trans (Feq.trans ?_ (Feq.red hM).symm)
   rw[xq,xq]
   exact Feq.app ((xH hx _).app (xH hx _)) (Feq.app (xH hx _) ea eb) (inv ya za ea)
  rw[if_neg hp,if_neg hp]
  exact eb
 rw[if_neg k0,if_neg k0]
 by_cases k1:k=i+1
 ·rw[if_pos k1,if_pos k1]
  by_cases hp:0<c
  ·rw[if_pos hp,if_pos hp]
   exact ea
  rw[if_neg hp,if_neg hp]
  have hN:=(yb.inv.app ya).app yb
  have hM:=(zb.inv.app za).app zb
  refine(qey hx hN).trans (Feq.trans ?_ (Feq.red hM).symm)
  rw[xq,xq]
  exact Feq.app ((xH hx _).app (xH hx _)) (Feq.app (xH hx _) (inv yb zb eb) ea) eb
 rw[if_neg k1,if_neg k1]
 exact h.eq_ k hk
def yO (n:Nat) (w:List Int):List (List Int):=w.foldl jP (fid n)
theorem qhx (n:Nat) (a b:List Int):yO n (a++b)=b.foldl jP (yO n a):=by simp[yO]
def qis (n:Nat) (w:List Int):Prop:= ∀c∈w,c≠0/\ -(n:Int)<c/\c<n
theorem qat (n:Nat): ∀(w:List Int) (im:List (List Int)),(w.foldl jP im).length=im.length
 |[],im=>rfl
 |c::w,im=>by rw[List.foldl_cons,qat n w,qar]
theorem qdu {im:List (List Int)} {M:Nat} (h: ∀w∈im,w.length<=M) {c:Int} {i:Nat} (hi:c.natAbs=i+1) (hl:i+1<im.length): ∀w∈jP im c,w.length<=3*M:=by
 have g: ∀k,(im.getD k []).length<=M:=fun k=>by
  rw[Yy]
  cases e:im[k]? with
  |none=>simp
  |some w=>exact h w (Yn e)
 intro w hw
 obtain⟨k,hk,rfl⟩:=List.getElem_of_mem hw
 have e:(jP im c)[k]=(jP im c).getD k []:=by rw[Yy,Ya hk];rfl
 rw[e,qaC hi hl]
 have g0:=g i
 have g1:=g (i+1)
 have gk:=g k
 split
 ·split
  ·refine Nat.le_trans (qfm _) ?_
   rw[Yq,Yq,vU]
   omega
  omega
 split
 ·split
  ·omega
  refine Nat.le_trans (qfm _) ?_
  rw[Yq,Yq,vU]
  omega
 omega
theorem qbr {n:Nat}: ∀{w:List Int} {im:List (List Int)} {M:Nat},qis n w->im.length=n->(∀v∈im,v.length<=M)-> ∀v∈w.foldl jP im,v.length<=3^w.length*M
 |[],im,M,hw,hl,h=>by simpa using h
 |c::w,im,M,hw,hl,h=>by
  have hc:=hw c (List.mem_cons_self ..)
  obtain⟨i,hi⟩: ∃i,c.natAbs=i+1:=⟨c.natAbs-1,by omega⟩
  have:=qbr (w:=w) (fun d hd=>hw d (List.mem_cons_of_mem _ hd)) (by rw[qar,hl]) (qdu h hi (by omega))
  intro v hv
  have:=this v hv
  rw[Yr,Nat.pow_succ,Nat.mul_assoc]
  exact this
end Go.Av
end
section
namespace Go.Av
theorem qjf {w:List Int} (hl:w.length<=2000000): ∀(K i:Nat),i<=w.length->w.length<K+i->qP w K ((w.take i).map fun x=>w64 (0-x)) (i:Int)=some (w.map fun x=>w64 (0-x))
 |0,i,h,hK=>by omega
 |K+1,i,h,hK=>by
  unfold qP y8
  by_cases hi:i<w.length
  ·rw[if_pos (by omega),qm,Ya hi,ZB,ZB,j5 (by simp;omega) (by simp;omega),ZB,qY (by omega)]
   have e:(w.take i).map (fun x=>w64 (0-x))++[w64 (0-w[i])]=(w.take (i+1)).map fun x=>w64 (0-x):=by
    rw[List.take_succ_eq_append_getElem hi,List.map_append]
    rfl
   rw[e]
   exact qjf hl K (i+1) (by omega) (by omega)
  rw[if_neg (by omega),List.take_of_length_le (by omega)]
theorem qgp {N:Nat} {w:List Int} (hN:w.length+2<N) (hl:w.length<=2000000):jk N w=some (w.map fun x=>w64 (0-x)):=by
 unfold jk
 have:=qjf hl N 0 (by omega) (by omega)
 rw[List.take_zero,List.map_nil]at this
 rw[show(0:Int)=((0:Nat):Int)from rfl,this]
 rfl
theorem qiG {l0:List Int} {n:Nat} (hn:l0.length=n) (hb:n<=2000000): ∀(K i:Nat) (l:List Int),l.length=n->2*i<=n+1->n+1<K+2*i->(∀k:Nat,k<n->l[k]? =if k<i\/n<=k+i then l0[n-1-k]? else l0[k]?)->qG K l (i:Int) ((n:Int)-1-i)=some l0.reverse
 |0,i,l,hl,h2,hK,hk=>by omega
 |K+1,i,l,hl,h2,hK,hk=>by
  unfold qG
  by_cases hi:(i:Int)<(n:Int)-1-i
  ·have e1:(n:Int)-1-i=((n-1-i:Nat):Int):=by omega
   have e2:w64 (((n-1-i:Nat):Int)-1)=(n:Int)-1-((i+1:Nat):Int):=by rw[z8 (by omega) (by omega)];omega
   have q1:=hk (n-1-i) (by omega)
   have q2:=hk i (by omega)
   rw[if_neg (by omega)]at q1 q2
   have g1:l0[n-1-i]? =some l0[n-1-i]:=Ya (by omega)
   have g2:l0[i]? =some l0[i]:=Ya (by omega)
   rw[g1]at q1
   rw[g2]at q2
   rw[if_pos hi,e1,qm,q1,ZB,qm,q2,ZB,qU (by omega),ZB,qm,Yw (by omega),q1,ZB,qU (by simp;omega),ZB,qY (by omega),e2]
   refine qiG hn hb K (i+1) _ (by simp;omega) (by omega) (by omega) (fun k hkn=>?_)
   by_cases c1:k=n-1-i
   ·subst c1
    rw[List.getElem?_set_self (by simp;omega),if_pos (by omega),show n-1-(n-1-i)=i by omega,g2]
   rw[Yw (fun e=>c1 e.symm)]
   by_cases c2:k=i
   ·subst c2
    rw[List.getElem?_set_self (by omega),if_pos (by omega),g1]
   rw[Yw (fun e=>c2 e.symm),hk k hkn]
   by_cases c3:k<i\/n<=k+i
   ·rw[if_pos c3,if_pos (by omega)]
   rw[if_neg c3,if_neg (by omega)]
  rw[if_neg hi]
  congr 1
  apply List.ext_getElem?
  intro k
  by_cases hkn:k<n
  ·rw[hk k hkn,List.getElem?_reverse (by omega),hn]
   by_cases c3:k<i\/n<=k+i
   ·rw[if_pos c3]
   rw[if_neg c3,show n-1-k=k by omega]
  rw[Yg (by omega),Yg (by simp;omega)]
theorem qe5 {N:Nat} {l:List Int} (hN:l.length+1<N) (hb:l.length<=2000000):zL N l=some l.reverse:=by
 unfold zL
 have:=qiG (l0:=l) rfl hb N 0 l rfl (by omega) (by omega) (fun k hk=>by rw[if_neg (by omega)])
 rw[z8 (by omega) (by omega),show((l.length:Int)-1)=(l.length:Int)-1-((0:Nat):Int)by omega,show(0:Int)=((0:Nat):Int)from rfl]
 rw[this]
 rfl
theorem qcH {N:Nat} {w:List Int} (hN:w.length+2<N) (hl:w.length<=2000000):jl N w=some ((w.map fun x=>w64 (0-x)).reverse):=by
 unfold jl
 rw[qgp hN hl,ZB,qe5 (by simp;omega) (by simp;omega),ZB,if_pos (by simp),ZB]
end Go.Av
end
section
namespace Go.Av
theorem qck {w:List Int} (h: ∀y∈w,-1000<y/\y<1000):(w.map fun x=>w64 (0-x)).reverse=qV w:=by
 unfold qV
 congr 1
 refine List.map_congr_left (fun y hy=>?_)
 have:=h y hy
 rw[z8 (by omega) (by omega)]
 omega
theorem qgR {N:Nat} (hN:2000<N) {a b c:List Int} (ha:a.length<=2000000) (hb:b.length<=2000000) (hc:c.length<=2000000):jd N [a,b,c]=some (a++b++c):=by
 obtain⟨K,rfl⟩: ∃K,N=K+1+1+1+1:=⟨N-4,by omega⟩
 have w1:w64 (0+1)=1:=rfl
 have w2:w64 (1+1)=2:=rfl
 have w3:w64 (2+1)=3:=rfl
 have i0:idx [a,b,c] 0=some a:=rfl
 have i1:idx [a,b,c] 1=some b:=rfl
 have i2:idx [a,b,c] 2=some c:=rfl
 have s1:w64 (0+(a.length:Int))=(a.length:Int):=by rw[z8 (by omega) (by omega)];omega
 have s2:w64 ((a.length:Int)+(b.length:Int))=((a.length+b.length:Nat):Int):=by rw[z8 (by omega) (by omega)];omega
 have s3:w64 (((a.length+b.length:Nat):Int)+(c.length:Int))=((a.length+b.length+c.length:Nat):Int):=by rw[z8 (by omega) (by omega)];omega
 have len:(([a,b,c]:List (List Int)).length:Int)=3:=rfl
 have L0:qB [a,b,c] (K+1+1+1+1) 0 0=some ((a.length+b.length+c.length:Nat):Int):=by
  rw[qB,len,if_pos (by decide),i0,ZB,s1,if_neg (by omega),ZB,w1,qB,len,if_pos (by decide),i1,ZB,s2,if_neg (by omega),ZB,w2,qB,len,if_pos (by decide),i2,ZB,s3,if_neg (by omega),ZB,w3,qB,len,if_neg (by decide)]
 have G: ∀m:Nat,m<=6000000-> ∃o:Option (List Int),jB (m:Int)=some o/\((m=0/\o=none)\/o=some []):=by
  intro m hm
  unfold jB
  rw[if_neg (by omega),ZB]
  have e:w64 ((m:Int)-w64 (0-0))=(m:Int):=by
   rw[show w64 (0-0)=0 from rfl,z8 (by omega) (by omega)]
   omega
  rw[e]
  by_cases h:(m:Int)>0
  ·rw[if_pos h,show cut ([]:List Int) 0 0=some []from rfl,ZB]
   have z:qfF 8 (m:Int) (0:Int)=some (List.replicate m 0):=by
    unfold qfF
    rw[if_pos (by omega)]
    simp
   have hct:cut (List.replicate m (0:Int)) 0 0=some []:=by
    have:=qdD (l:=List.replicate m (0:Int)) (k:=0) (Nat.zero_le _)
    rw[List.take_zero]at this
    exact this
   rw[z,ZB,hct,ZB,ZB]
   exact⟨some [],rfl,.inr rfl⟩
  rw[if_neg h]
  exact⟨none,rfl,.inl ⟨by omega,rfl⟩⟩
 unfold jd
 rw[L0,ZB]
 obtain⟨o,g1,g2⟩:=G (a.length+b.length+c.length) (by omega)
 rw[g1,ZB]
 rcases g2 with⟨h0,rfl⟩|rfl
 ·have ea:a=[]:=YL.1 (by omega)
  have eb:b=[]:=YL.1 (by omega)
  have ec:c=[]:=YL.1 (by omega)
  subst ea eb ec
  rw[qp,len,if_pos (by decide),i0,ZB]
  simp only[ZB]
  rw[w1,qp,len,if_pos (by decide),i1,ZB]
  simp only[ZB]
  rw[w2,qp,len,if_pos (by decide),i2,ZB]
  simp only[ZB]
  rw[w3,qp,len,if_neg (by decide)]
  rfl
 rw[qp,len,if_pos (by decide),i0,ZB]
 simp only
 rw[j5 (by simp;omega) (by simp;omega)]
 simp only[ZB,List.nil_append]
 rw[w1,qp,len,if_pos (by decide),i1,ZB]
 simp only
 rw[j5 (by omega) (by omega)]
 simp only[ZB]
 rw[w2,qp,len,if_pos (by decide),i2,ZB]
 simp only
 rw[j5 (by simp;omega) (by simp;omega)]
 simp only[ZB]
 rw[w3,qp,len,if_neg (by decide)]
 rfl
theorem qbi {w:List Int} (hl:w.length<=2000000) (hw: ∀y∈w,-1000<y/\y<1000): ∀(K i:Nat) (o:Option (List Int)),hof o=(fact [] (w.take i)).reverse->i<=w.length->w.length<K+i-> ∃r,zq w K o (i:Int)=some r/\hof r=fred w
 |0,i,o,ho,h,hK=>by omega
 |K+1,i,o,ho,h,hK=>by
  unfold zq
  by_cases hi:i<w.length
  ·have hx:w[i]? =some w[i]:=Ya hi
   have hs:fact [] (w.take (i+1))=yB (fact [] (w.take i)) w[i]:=by
    rw[List.take_succ_eq_append_getElem hi,vT,xg]
   have hb:=hw w[i] (List.getElem_mem hi)
   have hlen:=qdc [] (w.take i)
   simp only[List.length_nil,Nat.zero_add,List.length_take]at hlen
   rw[if_pos (by omega),qm,hx]
   generalize w[i]=x at*
   have wx:w64 (0-x)= -x:=by rw[z8 (by omega) (by omega)];omega
   generalize fact [] (w.take i)=s at*
   cases o with
   |none=>
    have:s=[]:=by
     have:s.reverse=[]:=ho.symm
     simpa using this
    subst this
    simp only[ZB]
    rw[if_neg (by decide)]
    simp only[ZB,ZF,if_false]
    rw[qY (by omega)]
    exact qbi hl hw K (i+1) (some [x]) (by rw[hs];rfl) (by omega) (by omega)
   |some l=>
    have hls:l=s.reverse:=ho
    subst hls
    simp only[ZB]
    cases s with
    |nil=>
     rw[if_neg (by simp)]
     simp only[ZB,ZF,if_false]
     rw[j5 (by simp) (by simp)]
     simp only[ZB]
     rw[qY (by omega)]
     exact qbi hl hw K (i+1) _ (by rw[hs];rfl) (by omega) (by omega)
    |cons y t=>
     simp only[Yr]at hlen
     have e1:w64 (((y::t).reverse.length:Int)-1)=((t.length:Nat):Int):=by
      rw[List.length_reverse,Yr,z8 (by omega) (by omega)];omega
     have hy:(y::t).reverse[t.length]? =some y:=by simp
     rw[if_pos (by rw[List.length_reverse,Yr];omega),e1,qm,hy]
     simp only[ZB,wx]
     by_cases hc:y= -x
     ·rw[decide_eq_true hc]
      simp only[if_true]
      have hct:cut (y::t).reverse 0 (t.length:Int)=some t.reverse:=by
       rw[qdD (by simp),List.reverse_cons,List.take_left' (by simp)]
      simp only[hct,ZB]
      rw[qY (by omega)]
      exact qbi hl hw K (i+1) _ (by rw[hs,xS t hc];rfl) (by omega) (by omega)
     rw[decide_eq_false hc]
     simp only[ZF,if_false]
     rw[j5 (by simp;omega) (by simp;omega)]
     simp only[ZB]
     rw[qY (by omega)]
     exact qbi hl hw K (i+1) _ (by rw[hs,qab t hc];simp[hof]) (by omega) (by omega)
  rw[if_neg (by omega)]
  refine⟨o,rfl,?_⟩
  rw[ho,List.take_of_length_le (by omega)]
  rfl
theorem qdo {N:Nat} {w:List Int} (hN:w.length<N) (hl:w.length<=2000000) (hw: ∀y∈w,-1000<y/\y<1000):jm N w=some (fred w):=by
 unfold jm
 obtain⟨r,h1,h2⟩:=qbi hl hw N 0 none (by rfl) (by omega) (by omega)
 rw[show(0:Int)=((0:Nat):Int)from rfl,h1,ZB,h2]
end Go.Av
end
section
namespace Go.Av
theorem qjc (n:Nat):fid (n+1)=fid n++[[((n:Nat):Int)+1]]:=by simp[fid,List.range_succ]
theorem qgJ {n:Nat} (hn:n<=12): ∀(K i:Nat),i<=n->n<K+i->jI (n:Int) K (fid i) (i:Int)=some (fid n)
 |0,i,h,hK=>by omega
 |K+1,i,h,hK=>by
  unfold jI
  by_cases hi:i<n
  ·rw[if_pos (by omega),j5 (by rw[vM];simp only[Yr,List.length_nil];omega) (by rw[vM];simp only[Yr,List.length_nil];omega),ZB,qY (by omega)]
   have:=qgJ hn K (i+1) (by omega) (by omega)
   rw[qjc]at this
   exact this
  rw[if_neg (by omega),show i=n by omega]
theorem qkj {im:List (List Int)} {k:Nat} (h:k<im.length):im[k]? =some (im.getD k []):=by
 rw[Yy,Ya h]
 rfl
theorem pow3: ∀{i j:Nat},i<=j->3^i<=3^j:=fun h=>Nat.pow_le_pow_right (by omega) h
theorem qgS {N n:Nat} (hN:600000<N) {w:List Int} (W:xw n w) (hl:w.length<=12): ∀(K i:Nat) (im:List (List Int)) (row:List Int),FOK n im row->row.length=n->(∀v∈im,v.length<=3^i)->i<=w.length->w.length<K+i->jK N w K im (i:Int)=some ((w.drop i).foldl jP im)
 |0,i,im,row,hF,hr,hlong,h,hK=>by omega
 |K+1,i,im,row,hF,hr,hlong,h,hK=>by
  have n2:=W.n2
  unfold jK
  by_cases hi:i<w.length
  ·have hx:w[i]? =some w[i]:=Ya hi
   have hc:=W.let_ _ (List.getElem_mem hi)
   rw[YG hi,List.foldl_cons]
   generalize w[i]=c at*
   obtain⟨m,hm⟩: ∃m:Nat,c.natAbs=m+1:=⟨c.natAbs-1,by omega⟩
   have hm2:m+1<n:=by omega
   have hlen:=hF.len
   have q1:w64 (((m+1:Nat):Int)-1)=(m:Int):=by rw[z8 (by omega) (by omega)];omega
   have q2:w64 ((m:Int)+1)=((m+1:Nat):Int):=qY (by omega)
   have hF':=hF.step hc (x:=row[m]'(by omega)) (y:=row[m+1]'(by omega)) (by rw[hm,Nat.add_sub_cancel];exact Ya _) (by rw[hm];exact Ya _) hr
   have hlong':=qdu hlong (c:=c) hm (by omega)
   have e3:3*3^i=3^(i+1):=by rw[Nat.pow_succ,Nat.mul_comm]
   rw[e3]at hlong'
   have hrec:=qgS hN W hl K (i+1) _ _ hF' (by simpa using hr) hlong' (by omega) (by omega)
   have hp:3^i<=177147:=pow3 (show i<=11 by omega)
   have memD: ∀k,k<n->im.getD k []∈im:=fun k hk=>Yn (qkj (by omega))
   have la:=hlong _ (memD m (by omega))
   have lb:=hlong _ (memD (m+1) hm2)
   have ba:=hF.let_ _ (memD m (by omega))
   have bb:=hF.let_ _ (memD (m+1) hm2)
   have gd: ∀k,k<n->im[k]? =some (im.getD k []):=fun k hk=>qkj (by omega)
   have hst:jP im c=if 0<c then(im.set m (fred (im.getD m []++im.getD (m+1) []++qV (im.getD m [])))).set (m+1) (im.getD m [])else(im.set m (im.getD (m+1) [])).set (m+1) (fred (qV (im.getD (m+1) [])++im.getD m []++im.getD (m+1) [])):=by
    unfold jP
    dsimp only
    rw[hm,Nat.add_sub_cancel]
   rw[if_pos (by omega),qm,hx,ZB,qc7 (by omega),hm,ZB,q1,q2,qm,gd m (by omega),ZB,qm,gd (m+1) hm2,ZB]
   generalize im.getD m []=a at*
   generalize im.getD (m+1) []=b at*
   have bnd: ∀{l:List Int},(∀y∈l,y≠0/\ -(n:Int)<=y/\y<=n)-> ∀y∈l,-1000<y/\y<1000:=fun hl' y hy=>by
    have:=hl' y hy
    omega
   have binv: ∀{l:List Int},(∀y∈l,-1000<y/\y<1000)-> ∀y∈qV l,-1000<y/\y<1000:=fun hl' y hy=>by
    simp only[qV,List.mem_reverse,List.mem_map]at hy
    obtain⟨z,hz,rfl⟩:=hy
    have:=hl' z hz
    omega
   have bapp: ∀{l k:List Int},(∀y∈l,-1000<y/\y<1000)->(∀y∈k,-1000<y/\y<1000)-> ∀y∈l++k,-1000<y/\y<1000:=fun h1 h2 y hy=>(List.mem_append.1 hy).elim (h1 y) (h2 y)
   have ba:=bnd ba
   have bb:=bnd bb
   by_cases hpos:0<c
   ·rw[if_pos hpos]at hst
    rw[if_pos (show c>0 by omega),qcH (by omega) (by omega),qck ba,ZB,qgR (by omega) (by omega) (by omega) (by rw[vU];omega),ZB,
     qdo (by simp only[Yq,vU];omega) (by simp only[Yq,vU];omega) (bapp (bapp ba bb) (binv ba)),ZB,qU (by omega),ZB,qm,Yw (by omega),gd (m+1) hm2,ZB,qU (by simp;omega),ZB,ZB,qY (by omega),<-hst]
    exact hrec
   rw[if_neg hpos]at hst
   rw[if_neg (show¬c>0 by omega),qcH (by omega) (by omega),qck bb,ZB,qgR (by omega) (by rw[vU];omega) (by omega) (by omega),ZB,
    qdo (by simp only[Yq,vU];omega) (by simp only[Yq,vU];omega) (bapp (bapp (binv bb) ba) bb),ZB,qU (by omega),ZB,qm,Yw (by omega),gd (m+1) hm2,ZB,qU (by simp;omega),ZB,ZB,qY (by omega),<-hst]
   exact hrec
  rw[if_neg (by omega),List.drop_eq_nil_of_le (by omega)]
  rfl
theorem qg4 {im:List (List Int)} (hl:im.length<=12) (hb: ∀v∈im,v.length<=1000000): ∀(K i:Nat),i<=im.length->im.length<K+i->qN im K (im.take i) (i:Int)=some im
 |0,i,h,hK=>by omega
 |K+1,i,h,hK=>by
  unfold qN
  by_cases hi:i<im.length
  ·have:=hb _ (List.getElem_mem hi)
   rw[if_pos (by omega),qm,Ya hi,ZB]
   unfold qeQ
   rw[if_pos this,ZB,j5 (by simp;omega) (by simp;omega),ZB,qY (by omega),<-List.take_succ_eq_append_getElem hi]
   exact qg4 hl hb K (i+1) (by omega) (by omega)
  rw[if_neg (by omega),List.take_of_length_le (by omega)]
theorem free_eq {N n:Nat} (hN:600000<N) {w:List Int} (W:xw n w) (hl:w.length<=12):qaa N (n:Int) w=some (yO n w):=by
 have n2:=W.n2
 unfold qaa
 have a:=qgJ n2 N 0 (by omega) (by omega)
 have f0:FOK n (fid n) (yA n):=FOK.start n (fun k hk=>qas hk)
 have hlong: ∀v∈fid n,v.length<=3^0:=fun v hv=>by
  simp only[fid,List.mem_map]at hv
  obtain⟨k,_,rfl⟩:=hv
  simp
 have b:=qgS hN W hl N 0 (fid n) (yA n) f0 (xJ n) hlong (by omega) (by omega)
 rw[show fid 0=([]:List (List Int))from rfl]at a
 rw[show(0:Int)=((0:Nat):Int)from rfl,a,ZB,b,ZB,YR]
 have hll:=qbr (n:=n) (w:=w) (im:=fid n) (M:=1) W.let_ (vM n) hlong
 have h12:3^w.length<=531441:=pow3 hl
 have c:=qg4 (im:=w.foldl jP (fid n)) (by rw[qat n,vM];exact n2) (fun v hv=>by have:=hll v hv;omega) N 0 (by omega) (by rw[qat n,vM];omega)
 unfold jR
 rw[List.take_zero]at c
 rw[show(0:Int)=((0:Nat):Int)from rfl,c,ZB,ZB]
 rfl
theorem qjR {N n:Nat} (hN:600000<N) {w:List Int} (W:xw n w) (hl:w.length<=12) (hc:qdn n w=0):j4 N (n:Int) w=some (yO n w,0):=by
 unfold j4
 rw[qeu (by omega) (by omega),ZB,qaz,decide_eq_false (by omega),if_neg Bool.false_ne_true,ZB,qb7 (by omega),hc,if_pos rfl,ZB,if_neg (by decide),free_eq hN W hl,ZB]
end Go.Av
end
section
namespace Go.Av
theorem qgE {w:List Int} (hl:w.length<=2000000000): ∀(K i:Nat) (l:List Int),i<=w.length->i<K->l.length+i=w.length->zU w K l ((i:Int)-1)=some (l++((w.take i).reverse.map fun x=>w64 (0-x)))
 |0,i,l,h,hK,hs=>by omega
 |K+1,i,l,h,hK,hs=>by
  unfold zU
  cases i with
  |zero=>rw[if_neg (by omega),List.take_zero];simp
  |succ i=>
   have hi:i<w.length:=by omega
   rw[show((i+1:Nat):Int)-1=(i:Int)by omega,if_pos (by omega),qm,Ya hi,ZB,j5 (by simp only[Yr,List.length_nil];omega) (by simp only[Yr,List.length_nil];omega),ZB,show w64 ((i:Int)-1)=(i:Int)-1 from z8 (by omega) (by omega),
    qgE hl K i _ (by omega) (by omega) (by simp;omega),List.take_succ_eq_append_getElem hi,List.reverse_append,List.map_append,Yz]
   rfl
theorem qcp {N:Nat} {w:List Int} (hN:w.length+2<N) (hl:w.length<=2000000000):vC N w=some ((w.map fun x=>w64 (0-x)).reverse):=by
 unfold vC
 rw[z8 (by omega) (by omega),qgE hl N w.length [] (by omega) (by omega) (by simp),List.take_length]
 simp
theorem qcg {a b:List Int} (ha:a.length<=2000000000) (hb:b.length<=2000000000):jG a b=some (a++b):=by
 unfold jG
 rw[j5 (by simp;omega) (by simp;omega),ZB,j5 (by simp;omega) (by simp;omega),ZB,List.nil_append]
theorem qaw {w:List Int} (hl:w.length<=2000000000) (hw: ∀y∈w,-1000<y/\y<1000): ∀(K i:Nat) (o:Option (List Int)),hof o=(fact [] (w.take i)).reverse->i<=w.length->w.length<K+i-> ∃r,zD w K o (i:Int)=some r/\hof r=fred w
 |0,i,o,ho,h,hK=>by omega
 |K+1,i,o,ho,h,hK=>by
  unfold zD
  by_cases hi:i<w.length
  ·have hx:w[i]? =some w[i]:=Ya hi
   have hs:fact [] (w.take (i+1))=yB (fact [] (w.take i)) w[i]:=by
    rw[List.take_succ_eq_append_getElem hi,vT,xg]
   have hb:=hw w[i] (List.getElem_mem hi)
   have hlen:=qdc [] (w.take i)
   simp only[List.length_nil,Nat.zero_add,List.length_take]at hlen
   rw[if_pos (by omega),qm,hx]
   generalize w[i]=x at*
   have wx:w64 (0-x)= -x:=by rw[z8 (by omega) (by omega)];omega
   generalize fact [] (w.take i)=s at*
   cases o with
   |none=>
    have:s=[]:=by
     have:s.reverse=[]:=ho.symm
     simpa using this
    subst this
    simp only[ZB]
    rw[if_neg (by decide)]
    simp only[ZB,ZF,if_false]
    rw[qY (by omega)]
    exact qaw hl hw K (i+1) (some [x]) (by rw[hs];rfl) (by omega) (by omega)
   |some l=>
    have hls:l=s.reverse:=ho
    subst hls
    simp only[ZB]
    cases s with
    |nil=>
     rw[if_neg (by simp)]
     simp only[ZB,ZF,if_false]
     rw[j5 (by simp) (by simp)]
     simp only[ZB]
     rw[qY (by omega)]
     exact qaw hl hw K (i+1) _ (by rw[hs];rfl) (by omega) (by omega)
    |cons y t=>
     simp only[Yr]at hlen
     have e1:w64 (((y::t).reverse.length:Int)-1)=((t.length:Nat):Int):=by
      rw[List.length_reverse,Yr,z8 (by omega) (by omega)];omega
     have hy:(y::t).reverse[t.length]? =some y:=by simp
     rw[if_pos (by rw[List.length_reverse,Yr];omega),e1,qm,hy]
     simp only[ZB,wx]
     by_cases hc:y= -x
     ·rw[decide_eq_true hc]
      simp only[if_true]
      have hct:cut (y::t).reverse 0 (t.length:Int)=some t.reverse:=by
       rw[qdD (by simp),List.reverse_cons,List.take_left' (by simp)]
      simp only[e1,hct,ZB]
      rw[qY (by omega)]
      exact qaw hl hw K (i+1) _ (by rw[hs,xS t hc];rfl) (by omega) (by omega)
     rw[decide_eq_false hc]
     simp only[ZF,if_false]
     rw[j5 (by simp;omega) (by simp;omega)]
     simp only[ZB]
     rw[qY (by omega)]
     exact qaw hl hw K (i+1) _ (by rw[hs,qab t hc];simp[hof]) (by omega) (by omega)
  rw[if_neg (by omega)]
  refine⟨o,rfl,?_⟩
  rw[ho,List.take_of_length_le (by omega)]
  rfl
theorem qdj {N:Nat} {w:List Int} (hN:w.length<N) (hl:w.length<=2000000000) (hw: ∀y∈w,-1000<y/\y<1000):jF N w=some (fred w):=by
 unfold jF
 obtain⟨r,h1,h2⟩:=qaw hl hw N 0 none (by rfl) (by omega) (by omega)
 rw[show(0:Int)=((0:Nat):Int)from rfl,h1,ZB,h2]
def qbz (n:Nat) (w:List Int):Prop:= ∀y∈w,y≠0/\ -(n:Int)<=y/\y<=n
theorem ginv {n:Nat} {w:List Int} (h:qbz n w):qbz n (qV w):=fun y hy=>by
 simp only[qV,List.mem_reverse,List.mem_map]at hy
 obtain⟨z,hz,rfl⟩:=hy
 have:=h z hz
 omega
theorem gbnd {n:Nat} (hn:n<=12) {w:List Int} (h:qbz n w): ∀y∈w,-1000<y/\y<1000:=fun y hy=>by
 have:=h y hy
 omega
theorem qcf {n:Nat} {im:List (List Int)} (h: ∀w∈im,qbz n w) (k:Nat):qbz n (im.getD k []):=by
 rw[Yy]
 cases e:im[k]? with
 |none=>intro y hy;simp at hy
 |some w=>exact h w (Yn e)
theorem lgetD {M:Nat} {im:List (List Int)} (h: ∀w∈im,w.length<=M) (k:Nat):(im.getD k []).length<=M:=by
 rw[Yy]
 cases e:im[k]? with
 |none=>simp
 |some w=>exact h w (Yn e)
theorem qiu (n:Nat): ∀w∈fid n,qbz n w:=fun w hw y hy=>by
 simp only[fid,List.mem_map,List.mem_range]at hw
 obtain⟨k,hk,rfl⟩:=hw
 simp at hy
 omega
theorem qfI {n:Nat} {u v:List Int} (h:qbz n u) (k:qbz n v):qbz n (u++v):=fun y hy=>(List.mem_append.1 hy).elim (h y) (k y)
theorem gred {n:Nat} {u:List Int} (h:qbz n u):qbz n (fred u):=fun y hy=>h y (qcb hy)
theorem qgm {n:Nat} {im:List (List Int)} (h: ∀w∈im,qbz n w) (hl:im.length=n) {c:Int} (hc:c≠0/\ -(n:Int)<c/\c<n): ∀w∈jP im c,qbz n w:=fun w hw=>by
 obtain⟨i,hi⟩: ∃i,c.natAbs=i+1:=⟨c.natAbs-1,by omega⟩
 obtain⟨k,hk,rfl⟩:=List.getElem_of_mem hw
 have e:(jP im c)[k]=(jP im c).getD k []:=by rw[Yy,Ya hk];rfl
 rw[e,qaC hi (by omega)]
 have g:=qcf h
 split
 ·split
  ·exact gred (qfI (qfI (g _) (g _)) (ginv (g _)))
  exact g _
 split
 ·split
  ·exact g _
  exact gred (qfI (qfI (ginv (g _)) (g _)) (g _))
 exact g _
theorem qgL {im:List (List Int)} {k:Nat} (h:k<im.length):im[k]? =some (im.getD k []):=by
 rw[Yy,Ya h]
 rfl
theorem qgO {n N:Nat} (hn:n<=12) (hN:2000000100<N) {w:List Int} (hw:qis n w) (hwl:w.length<=18): ∀(K i:Nat),i<=w.length->w.length<K+i->jN N w K (yO n (w.take i)) (i:Int)=some (yO n w)
 |0,i,h,hK=>by omega
 |K+1,i,h,hK=>by
  unfold jN
  by_cases hi:i<w.length
  ·have hx:w[i]? =some w[i]:=Ya hi
   have hc:=hw _ (List.getElem_mem hi)
   have hrec:=qgO hn hN hw hwl K (i+1) (by omega) (by omega)
   have ht:qis n (w.take i):=fun c hc=>hw c (List.mem_of_mem_take hc)
   rw[List.take_succ_eq_append_getElem hi,qhx,List.foldl_cons,List.foldl_nil]at hrec
   have hl:(yO n (w.take i)).length=n:=by unfold yO;rw[qat n,vM]
   have hlong:=qbr (M:=1) ht (vM n) (fun v hv=>by
    simp only[fid,List.mem_map,List.mem_range]at hv
    obtain⟨k,hk,rfl⟩:=hv
    simp)
   have hp:3^(w.take i).length<=3^17:=Nat.pow_le_pow_right (by omega) (by rw[List.length_take];omega)
   have h17:(3:Nat)^17=129140163:=by decide
   have hg: ∀v∈yO n (w.take i),qbz n v:=by
    have: ∀(u:List Int) (im:List (List Int)),qis n u->im.length=n->(∀v∈im,qbz n v)-> ∀v∈u.foldl jP im,qbz n v:=by
     intro u
     induction u with
     |nil=>intro im _ _ h;exact h
     |cons c u ih=>
      intro im hu hl h
      rw[List.foldl_cons]
      exact ih _ (fun d hd=>hu d (List.mem_cons_of_mem _ hd)) (by rw[qar,hl]) (qgm h hl (hu c (List.mem_cons_self ..)))
    exact this _ _ ht (vM n) (qiu n)
   have hlen: ∀k,((yO n (w.take i)).getD k []).length<=129140163:=fun k=>by
    have:((yO n (w.take i)).getD k []).length<=3^(w.take i).length*1:=lgetD hlong k
    omega
   rw[if_pos (by omega),qm,hx]
   generalize w[i]=c at*
   generalize yO n (w.take i)=im at*
   obtain⟨m,hm⟩: ∃m,c.natAbs=m+1:=⟨c.natAbs-1,by omega⟩
   have hmn:m+1<n:=by omega
   have la:=hlen m
   have lb:=hlen (m+1)
   have ga:=gbnd hn (qcf hg m)
   have gb:=gbnd hn (qcf hg (m+1))
   have q1:w64 (((m+1:Nat):Int)-1)=(m:Int):=by rw[z8 (by omega) (by omega)];omega
   simp only[ZB,qdp (show-1000<c/\c<1000 by omega),hm,q1]
   rw[qm,qgL (by omega),ZB,qm,qgL (by omega),ZB]
   unfold jP at hrec
   rw[hm,Nat.add_sub_cancel]at hrec
   dsimp only at hrec
   have lia:(qV (im.getD m [])).length=(im.getD m []).length:=vU _
   have lib:(qV (im.getD (m+1) [])).length=(im.getD (m+1) []).length:=vU _
   by_cases hp:c>0
   ·rw[if_pos (show 0<c from hp)]at hrec
    have hlet: ∀y∈im.getD m []++im.getD (m+1) []++qV (im.getD m []),-1000<y/\y<1000:=gbnd hn (qfI (qfI (qcf hg m) (qcf hg (m+1))) (ginv (qcf hg m)))
    rw[if_pos hp,qcg (by omega) (by omega),ZB,qcp (by omega) (by omega),qck ga,ZB,qcg (by rw[Yq];omega) (by omega),ZB,qdj (by simp only[Yq];omega) (by simp only[Yq];omega) hlet,ZB,qU (by omega),ZB,qm,Yw (by omega),qgL (by omega),ZB,qU (by rw[Yk];omega)]
    simp only[ZB]
    rw[qY (by omega)]
    exact hrec
   rw[if_neg (show¬0<c from hp)]at hrec
   have hlet: ∀y∈qV (im.getD (m+1) [])++im.getD m []++im.getD (m+1) [],-1000<y/\y<1000:=gbnd hn (qfI (qfI (ginv (qcf hg (m+1))) (qcf hg m)) (qcf hg (m+1)))
   rw[if_neg hp,qcp (by omega) (by omega),qck gb,ZB,qcg (by omega) (by omega),ZB,qcg (by rw[Yq];omega) (by omega),ZB,qdj (by simp only[Yq];omega) (by simp only[Yq];omega) hlet,ZB,qU (by omega),ZB,qm,Yw (by omega),qgL (by omega),ZB,qU (by rw[Yk];omega)]
   simp only[ZB]
   rw[qY (by omega)]
   exact hrec
  rw[if_neg (by omega),List.take_of_length_le (by omega)]
theorem qe1 {n:Nat} (hn:n<=12): ∀(K i:Nat),i<=n->n<K+i->jJ (n:Int) K ((fid n).take i) ((i+1:Nat):Int)=some (fid n)
 |0,i,h,hK=>by omega
 |K+1,i,h,hK=>by
  unfold jJ
  by_cases hi:i<n
  ·have e:(fid n).take (i+1)=(fid n).take i++[[((i+1:Nat):Int)]]:=by
    rw[List.take_succ_eq_append_getElem (by rw[vM];exact hi)]
    simp[fid]
   rw[if_pos (by omega),j5 (by simp[fid];omega) (by simp[fid];omega),ZB,qY (by omega),<-e]
   exact qe1 hn K (i+1) (by omega) (by omega)
  rw[if_neg (by omega),List.take_of_length_le (by rw[vM];omega)]
theorem qh5 {n N:Nat} (hn:n<=12) (hN:2000000100<N) {w:List Int} (hw:qis n w) (hwl:w.length<=18):xO N (n:Int) w=some (yO n w):=by
 unfold xO
 have h0:=qe1 hn N 0 (by omega) (by omega)
 have h1:=qgO hn hN hw hwl N 0 (by omega) (by omega)
 rw[List.take_zero]at h0 h1
 rw[show((0+1:Nat):Int)=1 from rfl]at h0
 rw[show yO n []=fid n from rfl,show((0:Nat):Int)=0 from rfl]at h1
 rw[h0,ZB,h1,ZB]
theorem qhu (n:Nat) (w:List Int):(yO n w).length=n:=by
 unfold yO;rw[qat n,vM]
end Go.Av
end
section
namespace Go.Av
section
variable {n:Nat} (hn:n<=12) {N:Nat} (hN:2000<N)
include hn hN
theorem qfD: ∀(K i:Nat),i<=n->n<K+i->jO (n:Int) K (List.replicate i (qb4 n fun _=>0)) (i:Int)=some (xW n fun _ _=>0)
 |0,i,h,hK=>by omega
 |K+1,i,h,hK=>by
  unfold jO
  by_cases hi:i<n
  ·rw[if_pos (by omega),qh1 hn hN,ZB,j5 (by simp;omega) (by simp;omega),ZB,qY (by omega)]
   have:=qfD K (i+1) (by omega) (by omega)
   rw[List.replicate_succ']at this
   exact this
  rw[if_neg (by omega)]
  congr 1
  apply List.ext_getElem?
  intro k
  by_cases hkn:k<n
  ·rw[xm hkn,List.getElem?_replicate,if_pos (by omega)]
  rw[Yg (by simp;omega),Yg (by rw[qax];omega)]
theorem qff {w:List Int} (W:xw n w): ∀(K i:Nat) (s:SB) (f:Nat->Nat->Int),s.Ok n->(∀j k,-(i:Int)<=f j k/\f j k<=i)->i<=w.length->w.length<K+i->jL w K (xW n f) (s.rev.li n) (i:Int)=some (xW n (lkF s f (w.drop i)))
 |0,i,s,f,hs,hf,h,hK=>by omega
 |K+1,i,s,f,hs,hf,hiw,hK=>by
  have wl:=W.len
  unfold jL
  by_cases hi:i<w.length
  ·have hx:w[i]? =some w[i]:=Ya hi
   have hc:=W.let_ _ (List.getElem_mem hi)
   rw[YG hi,lkF]
   generalize w[i]=c at*
   obtain⟨m,hm⟩: ∃m:Nat,c.natAbs=m+1:=⟨c.natAbs-1,by omega⟩
   have hm2:m+1<n:=by omega
   have q1:w64 (((m+1:Nat):Int)-1)=(m:Int):=by rw[z8 (by omega) (by omega)];omega
   have ha:=hs.g_ m (by omega)
   have hb:=hs.g_ (m+1) hm2
   have r0:idx (s.rev.li n) (m:Int)=some ((s.g m:Nat):Int):=Up (by omega)
   have r1:idx (s.rev.li n) ((m+1:Nat):Int)=some ((s.g (m+1):Nat):Int):=Up hm2
   have ne:s.g m≠s.g (m+1):=fun e=>by have:=s.ginj e;omega
   have sg:yj c=some (if 0<c then 1 else-1):=by
    rw[qh3]
    by_cases p:0<c
    ·rw[if_neg (by omega),if_pos p]
    rw[if_pos (by omega),if_neg p]
   have w1: ∀i k,w64 (f i k+(if 0<c then(1:Int)else-1))=f i k+(if 0<c then(1:Int)else-1):=fun j k=>by
    have:=hf j k
    exact z8 (by split<;>omega) (by split<;>omega)
   rw[if_pos (by omega),qm,hx]
   simp only[ZB,qdp (show-1000<c/\c<1000 by omega),hm,q1,r0,r1,sg]
   rw[qm,xm ha,ZB,qm,xV hb,ZB,w1,qU (by rw[yE];exact hb),ZB,qbd,qm,Yw ne,xm hb,ZB,qm,xV ha,ZB,w1,qU (by rw[yE];exact ha),ZB,qbd,qfH ha hb ne,qU (by rw[Ud];omega),ZB]
   have e17:idx ((s.rev.li n).set m ((s.g (m+1):Nat):Int)) ((m+1:Nat):Int)=some ((s.g (m+1):Nat):Int):=by
    rw[qm,Yw (by omega),Uf s.rev hm2]
    rfl
   rw[e17,ZB,qU (by simp[Ud];omega),ZB,qfc hn hN hm2,qY (by omega),show(m+1-1:Nat)=m by omega]
   exact qff W K (i+1) _ _ (hs.bk hm2) (qgI hf (by split<;>omega)) (by omega) (by omega)
  rw[if_neg (by omega),List.drop_eq_nil_of_le (by omega)]
  rfl
theorem qfe {w:List Int} (W:xw n w):xZ N (n:Int) w=some (xW n (lkF Uq (fun _ _=>0) w)):=by
 have wl:=W.len
 unfold xZ
 have a:=qfD hn hN N 0 (Nat.zero_le _) (by omega)
 have b:=qff hn hN W N 0 Uq (fun _ _=>0) (SB.id_ok n) (fun _ _=>by simp) (Nat.zero_le _) (by omega)
 rw[show((0:Nat):Int)=0 from rfl]at a b
 rw[List.replicate_zero]at a
 rw[YR,show Uq.rev=Uq from rfl,SB.id_li]at b
 rw[a,ZB,qeo hN (by omega),ZB,b]
 rfl
end
theorem qgK {a:List Int} (hl:a.length<=2000000): ∀(K i:Nat),i<=a.length->a.length<K+i->zH a a K (i:Int)=some (.inl ())
 |0,i,h,hK=>by omega
 |K+1,i,h,hK=>by
  unfold zH
  by_cases hi:i<a.length
  ·rw[if_pos (by omega),qm,Ya hi,ZB,ZB,decide_eq_true rfl,if_neg (by decide),qY (by omega)]
   exact qgK hl K (i+1) (by omega) (by omega)
  rw[if_neg (by omega)]
theorem qh8 {N:Nat} {a:List Int} (hN:a.length<N) (hl:a.length<=2000000):vJ N a a=some true:=by
 unfold vJ
 rw[decide_eq_true rfl,if_neg (by decide),show(0:Int)=((0:Nat):Int)from rfl,qgK hl N 0 (by omega) (by omega)]
 rfl
theorem qgH {N:Nat} (hN:2000000<N) {a:List (List Int)} (ha: ∀x∈a,x.length<=2000000) (hl:a.length<=300): ∀(K i:Nat),i<=a.length->a.length<K+i->zC N a a K (i:Int)=some (.inl ())
 |0,i,h,hK=>by omega
 |K+1,i,h,hK=>by
  unfold zC
  by_cases hi:i<a.length
  ·have hx:=ha _ (List.getElem_mem hi)
   rw[if_pos (by omega),qm,Ya hi,ZB,ZB,qh8 (by omega) hx,ZB,if_neg (by decide),qY (by omega),qgH hN ha hl K (i+1) (by omega) (by omega)]
  rw[if_neg (by omega)]
theorem qi9 {N:Nat} (hN:2000000<N) {a:List (List Int)} (ha: ∀x∈a,x.length<=2000000) (hl:a.length<=300):ve N a a=some true:=by
 unfold ve
 have:=qgH hN ha hl N 0 (by omega) (by omega)
 rw[show((0:Nat):Int)=0 from rfl]at this
 rw[decide_eq_true rfl,if_neg (by decide),this]
 rfl
theorem qbR {N:Nat} (hN:2000000<N) {a:List (List Int)} (ha: ∀x∈a,x.length<=2000000) (hl:a.length<=300):zF N a 0 0 a=some true:=by
 unfold zF
 rw[if_neg (by decide),if_pos rfl,qi9 hN ha hl]
 rfl
theorem qeq {N:Nat} {e:Int} (h:e≠0) (want:List (List Int)):zF N [] e e want=some true:=by
 unfold zF
 rw[if_pos (by simp[h]),if_pos (show((([]:List (List Int)).length:Nat):Int)=0 from rfl),decide_eq_true rfl]
 rfl
theorem qcB {N:Nat} (hN:2000000100<N) (n:Int) (w:List Int):vN N n w=some true:=by
 unfold vN awk
 simp only[ZB,Bool.not_true,ZF,if_false]
 by_cases hw:(w.length:Int)>220
 ·rw[decide_eq_true hw];rfl
 rw[decide_eq_false hw]
 simp only[ZF,if_false]
 have rC:=qgh (N:=N) (by omega) (n:=n) (w:=w) (by omega)
 have pC:=qeu (N:=N) (by omega) (n:=n) (w:=w) (by omega)
 rw[rC]
 simp only[ZB]
 by_cases z:qdn n w=0
 ·obtain⟨k,rfl,W⟩:=qjH z
  have k2:=W.n2
  have wl:=W.len
  have eL:yX N (k:Int) w=some (xW k (lkF Uq (fun _ _=>0) w),0):=by
   unfold yX
   rw[pC,ZB,z,decide_eq_true rfl,if_neg (by decide),qjv k2 (by omega) W]
   rfl
  obtain⟨p,p1,p2,p3⟩:=qhl (N:=N) (by omega) W
  have pe:=qjS k2 (N:=N) (by omega) W
  rw[p1]at pe
  obtain rfl:=Ye pe
  have ip:=qjD (n:=k) (by omega) (qin (SB.id_ok k) (W.let_:LetN k w))
  obtain⟨r,r1,r2,r3,r4⟩:=qfz (N:=N) (by omega) ip
  have eC:jo N (k:Int) w=some (r,0):=by
   unfold jo y7
   rw[pC,ZB,z,decide_eq_true rfl,if_neg (by decide),p1,ZB,qkE (by omega) ip,ZB,decide_eq_true rfl,if_neg (by decide),r1]
   rfl
  have lm: ∀x∈xW k (lkF Uq (fun _ _=>0) w),x.length<=2000000:=fun x hx=>by
   simp only[xW,List.mem_map,List.mem_range]at hx
   obtain⟨i,hi,rfl⟩:=hx
   rw[yE];omega
  have l1:=qbR (N:=N) (by omega) lm (by rw[qax];omega)
  have l2:=qbR (N:=N) (by omega) (a:=r) (fun x hx=>by have:=r4 x hx;omega) (by omega)
  have z1:decide (qdn (k:Int) w=0)=true:=decide_eq_true z
  by_cases h12:(w.length:Int)>12
  ·have eF:j4 N (k:Int) w=some ([],22):=by
    unfold j4
    rw[pC,ZB,qaz,decide_eq_true h12,if_pos rfl,ZB,qb7 (by omega),z,if_pos rfl,ZB]
    rfl
   rw[eL,eC,eF,z1]
   simp only[ZB,Bool.not_true,ZF,if_false]
   rw[qfe k2 (by omega) W]
   simp only[ZB]
   rw[l1]
   simp only[ZB,Bool.not_true,ZF,if_false]
   rw[p2,ZB,r2,ZB,l2]
   simp only[ZB,Bool.not_true,ZF,if_false]
   rw[if_pos h12,qeq (by decide)]
   rfl
  have eF:=qjR (N:=N) (by omega) W (by omega) z
  have hf:=qbr (n:=k) (w:=w) (im:=fid k) (M:=1) W.let_ (vM k) (fun v hv=>by
   simp only[fid,List.mem_map,List.mem_range]at hv
   obtain⟨j,hj,rfl⟩:=hv
   simp)
  have h3:3^w.length<=531441:=pow3 (show w.length<=12 by omega)
  have l3:=qbR (N:=N) (by omega) (a:=yO k w) (fun x hx=>by have:=hf x hx;omega) (by rw[qhu];omega)
  rw[eL,eC,eF,z1]
  simp only[ZB,Bool.not_true,ZF,if_false]
  rw[qfe k2 (by omega) W]
  simp only[ZB]
  rw[l1]
  simp only[ZB,Bool.not_true,ZF,if_false]
  rw[p2,ZB,r2,ZB,l2]
  simp only[ZB,Bool.not_true,ZF,if_false]
  rw[if_neg h12,qh5 k2 hN W.let_ (by omega),ZB,l3]
  rfl
 have nob:(!decide (qdn n w=0))=true:=by simp[z]
 have eF:j4 N n w=some ([],qdn n w):=by
  unfold j4
  rw[pC,ZB,qaz,ZB,qb7 (by omega),if_neg z,ZB,if_pos nob]
 unfold yX jo
 rw[pC]
 simp only[ZB,nob,if_true]
 rw[eF]
 simp only[ZB,if_true,qeq z]
end Go.Av
end
