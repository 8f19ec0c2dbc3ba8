/-
  Words of crossings: what the program and the reference make of them, and the law of words.
-/
import Derived.Test.YtkdbjocpkfeckaaGreatDoorQGenTu
import Derived.Test.YtkdbjocpkfeckaaGreatDoorAvPt
import Derived.KernelRfl
noncomputable section
set_option linter.unusedVariables false
set_option linter.unusedSimpArgs false
set_option maxRecDepth 100000
set_option linter.unusedSectionVars false
section
namespace Go.Av
def qbF (n c:Int):Bool:=decide (c≠0)&&decide (-n<c)&&decide (c<n)
def qj3 (n:Int) (w:List Int):Int:=if n<1\/12<n then 3 else if 200<w.length then 5 else if w.all (qbF n)=true then 0 else 3
theorem letter_eq {n:Int} (h1:1<=n) (h2:n<=12) (c:Int):qbS n c=some (qbF n c):=by
 unfold qbS qbF
 have hw:w64 (0-n)= -n:=by rw[qE (by omega) (by omega)];omega
 rw[hw];by_cases a:c=0
 ·simp[a]
 by_cases b: -n<c
 ·simp[a,b]
 simp[a,b]
theorem qiR {n:Int} (h1:1<=n) (h2:n<=12) (c:Int):qaw n c=some (!qbF n c):=by
 unfold qaw qbF
 have hw:w64 (0-n)= -n:=by rw[qE (by omega) (by omega)];omega
 rw[hw];by_cases a:c=0
 ·simp[a]
 by_cases b: -n<c
 ·rw[if_neg a,if_neg (by omega)];by_cases d:c<n
  ·simp[a,b,d]
  simp[a,b,d];omega
 rw[if_neg a,if_pos (by omega)];simp[a,b]
theorem qlN {n:Int} {w:List Int} {i:Nat} (h:i<w.length):(w.drop i).all (qbF n)=(qbF n w[i]&&(w.drop (i+1)).all (qbF n)):=by
 rw[YG h,List.all_cons]
theorem qqj {n:Int} (h1:1<=n) (h2:n<=12) {w:List Int} (hl:w.length<=300): ∀(K i:Nat),i<=w.length->w.length<K+i->jA n w K (i:Int)=some (if(w.drop i).all (qbF n)=true then .inl ()else .inr 3)
 |0,i,h,hK=>by omega
 |K+1,i,h,hK=>by
  unfold jA;by_cases hi:i<w.length
  ·rw[if_pos (by omega),qp,Ya hi,ZB,letter_eq h1 h2,ZB,qlN hi]
   cases c:qbF n w[i]with
   |false=>rfl
   |true=>
    rw[if_neg (by decide),qH (by omega),qqj h1 h2 hl K (i+1) (by omega) (by omega),Bool.true_and]
  rw[if_neg (by omega),List.drop_eq_nil_of_le (by omega)];rfl
theorem qjJ {N:Nat} (hN:2000<N) {n:Int} {w:List Int} (hl:w.length<=300):yQ N n w=some (qj3 n w):=by
 unfold yQ qj3;by_cases a:n<1
 ·rw[if_pos a,ZB,if_pos rfl,if_pos (.inl a)]
 by_cases b:12<n
 ·rw[if_neg a,decide_eq_true (by omega),ZB,if_pos rfl,if_pos (.inr b)]
 rw[if_neg a,decide_eq_false (by omega),ZB,if_neg (by decide),if_neg (show¬(n<1\/12<n)by omega)];by_cases c:200<w.length
 ·rw[if_pos (by omega),if_pos c]
 rw[if_neg (by omega),if_neg c,show(0:Int)=((0:Nat):Int)from rfl,qqj (by omega) (by omega) hl N 0 (by omega) (by omega),YR];cases w.all (qbF n)<;>rfl
theorem qqW {n:Int} (h1:1<=n) (h2:n<=12) {w:List Int} (hl:w.length<=300): ∀(K i:Nat),i<=w.length->w.length<K+i->((w.drop i).all (qbF n)=true/\qN w n K (i:Int)=some (.inl ()))\/((w.drop i).all (qbF n)=false/\ ∃j:Nat,qN w n K (i:Int)=some (.inr (j:Int)))
 |0,i,h,hK=>by omega
 |K+1,i,h,hK=>by
  unfold qN yN;by_cases hi:i<w.length
  ·rw[if_pos (by omega),qp,Ya hi,ZB,qiR h1 h2,ZB,ZB,qlN hi]
   cases c:qbF n w[i]with
   |false=>exact .inr ⟨rfl,i,rfl⟩
   |true=>
    rw[if_neg (by decide),qH (by omega),Bool.true_and];exact qqW h1 h2 hl K (i+1) (by omega) (by omega)
  rw[if_neg (by omega),List.drop_eq_nil_of_le (by omega)];exact .inl ⟨rfl,rfl⟩
theorem qlc {N:Nat} (hN:10<N) (a b:Int):ku N [a,b]=some (if a=0 then b else a):=by
 obtain⟨K,rfl⟩: ∃K,N=K+1+1+1:=⟨N-3,by omega⟩;have w1:w64 1=1:=rfl;have w2:w64 2=2:=rfl
 have i0: ∀a b:Int,idx [a,b] 0=some a:=fun _ _=>rfl
 have i1: ∀a b:Int,idx [a,b] 1=some b:=fun _ _=>rfl
 unfold ku;by_cases ha:a=0
 ·by_cases hb:b=0
  ·simp[jk,i0,i1,ha,hb,w1,w2]
  simp[jk,i0,i1,ha,hb,w1,w2]
 simp[jk,i0,ha]
theorem qb3 (b:Bool) (e:Int):qA b e=some (if b=true then e else 0):=by
 unfold qA;cases b<;>rfl
theorem qev {N:Nat} (hN:2000<N) {n:Int} {w:List Int} (hl:w.length<=300):jS N n w=some (qj3 n w):=by
 unfold jS qaf qj3;by_cases a:n<1\/12<n
 ·have:(Option.bind (if n<1 then(qA true 3).bind fun r2=>some r2 else(qA (decide (n>12)) 3).bind fun r3=>some r3:Option Int) fun n4=>some n4)=some 3:=by
   by_cases b:n<1
   ·rw[if_pos b];rfl
   rw[if_neg b,decide_eq_true (by omega)];rfl
  rw[this,ZB,qb3,ZB,qlc (by omega),if_neg (by decide),ZB,if_pos (by decide),if_pos a]
 have:(Option.bind (if n<1 then(qA true 3).bind fun r2=>some r2 else(qA (decide (n>12)) 3).bind fun r3=>some r3:Option Int) fun n4=>some n4)=some 0:=by
  rw[if_neg (by omega),decide_eq_false (by omega)];rfl
 rw[this,ZB,qb3,ZB,qlc (by omega),if_pos rfl,ZB,if_neg a];by_cases c:200<w.length
 ·rw[decide_eq_true (show(w.length:Int)>200 by omega),if_pos rfl,if_pos (by decide),if_pos c]
 rw[decide_eq_false (show¬(w.length:Int)>200 by omega),if_neg Bool.false_ne_true,if_neg (show¬(!decide ((0:Int)=0))=true by decide),if_neg c];unfold jK vT;rcases qqW (n:=n) (by omega) (by omega) hl N 0 (by omega) (by omega)with⟨g1,g2⟩|⟨g1,j,g2⟩<;>rw[show((0:Nat):Int)=0 from rfl]at g2
 ·rw[g2,<-YR (l:=w),g1];rfl
 rw[g2,<-YR (l:=w),g1];simp only[ZB];rw[decide_eq_true (show(j:Int)>=0 by omega),qb3];rfl
structure vW (n:Nat) (w:List Int):Prop where
 n1:1<=n
 n2:n<=12
 len:w.length<=200
 let_: ∀c∈w,c≠0/\ -(n:Int)<c/\c<n
theorem qtf {n:Int} {w:List Int} (h:qj3 n w=0): ∃k:Nat,n=k/\vW k w:=by
 unfold qj3 at h;split at h
 ·omega
 rename_i a;split at h
 ·omega
 rename_i b;split at h
 ·rename_i c;refine⟨n.toNat,by omega,by omega,by omega,by omega,fun x hx=>?_⟩;have:=Yp.1 c x hx;simp only[qbF,Bool.and_eq_true,decide_eq_true_eq]at this;omega
 omega
theorem qpO {x:Int} (h:x≠0):zi x=xm x:=by
 unfold zi xm;by_cases a:x<0
 ·rw[if_pos a,if_pos (show x<1 by omega),if_neg (by omega)]
 rw[if_neg a,if_neg (show¬x<1 by omega),if_pos (by decide)]
theorem qmK (x:Int):xm x=some (if x<0 then-1 else 1):=by
 unfold xm;split<;>rfl
theorem qtO {w:List Int} (hl:w.length<=300) (h0: ∀c∈w,c≠0): ∀(K i:Nat) (s:Int),i<=w.length->w.length<K+i-> ∃r,zH w K s (i:Int)=some r/\jL w K s (i:Int)=some r
 |0,i,s,h,hK=>by omega
 |K+1,i,s,h,hK=>by
  unfold zH jL;by_cases hi:i<w.length
  ·rw[if_pos (by omega),if_pos (by omega),qp,Ya hi,ZB,ZB,qpO (h0 _ (List.getElem_mem hi)),qmK,ZB,ZB,qH (by omega)];exact qtO hl h0 K (i+1) _ (by omega) (by omega)
  rw[if_neg (by omega),if_neg (by omega)];exact⟨s,rfl,rfl⟩
end Go.Av
end
section
namespace Go.Av
def xZ (n:Nat):List Int:=(List.range n).map fun k:Nat=>(k:Int)
theorem xX (n:Nat):(xZ n).length=n:=by simp[xZ]
theorem qc9 {n k:Nat} (h:k<n):(xZ n)[k]? =some (k:Int):=by
 simp[xZ,List.getElem?_map,List.getElem?_range h]
theorem qnr (n:Nat):xZ (n+1)=xZ n++[(n:Int)]:=by simp[xZ,List.range_succ]
theorem qb2 {c:Int} (h: -1000<c/\c<1000):zL c=some ((c.natAbs:Nat):Int):=by
 unfold zL;rw[qE (by omega) (by omega)];by_cases a:0-c>c
 ·rw[if_pos a];congr 1;omega
 rw[if_neg a];congr 1;omega
theorem qjR {c:Int} (h: -1000<c/\c<1000):xu c=some ((c.natAbs:Nat):Int):=by
 unfold xu;rw[qE (by omega) (by omega)];by_cases a:0-c>c
 ·rw[if_pos a];congr 1;omega
 rw[if_neg a];congr 1;omega
theorem qoy {n:Nat} (hn:n<=1000) {l2:List Int} (h2:l2.length=n): ∀(K i:Nat) (l:List Int),l.length=n->i<=n->n<K+i->(∀k,k<i->l[k]? =some (k:Int))->zT l2 K l (i:Int)=some (xZ n)
 |0,i,l,hl,h,hK,hk=>by omega
 |K+1,i,l,hl,h,hK,hk=>by
  unfold zT;by_cases hi:i<n
  ·rw[if_pos (by omega),qp,Ya (by omega),ZB,kg (by omega),ZB,qH (by omega)];refine qoy hn h2 K (i+1) _ (by simpa using hl) (by omega) (by omega) (fun k hki=>?_);by_cases e:k=i
   ·subst e;rw[List.getElem?_set_self (by omega)]
   rw[Yw (fun c=>e c.symm)];exact hk k (by omega)
  rw[if_neg (by omega)];congr 1;apply List.ext_getElem?;intro k;by_cases hkn:k<n
  ·rw[hk k (by omega),qc9 hkn]
  rw[Yg (by omega),Yg (by rw[xX];omega)]
theorem qjF {n:Nat} (hn:n<=1000):mk 8 (n:Int) (0:Int)=some (List.replicate n 0):=by
 unfold mk;rw[if_pos (by omega)];simp
theorem qfT {N n:Nat} (hN:2000<N) (hn:n<=1000):zI N (n:Int)=some (xZ n):=by
 unfold zI;rw[qjF hn,ZB,show(0:Int)=((0:Nat):Int)from rfl,qoy hn (by simp) N 0 _ (by simp) (by omega) (by omega) (fun k hk=>by omega),ZB]
theorem qlK {n:Nat} (hn:n<=1000): ∀(K i:Nat),i<=n->n<K+i->zP (n:Int) K (xZ i) (i:Int)=some (xZ n)
 |0,i,h,hK=>by omega
 |K+1,i,h,hK=>by
  unfold zP;by_cases hi:i<n
  ·rw[if_pos (by omega),qbh (by rw[xX];simp only[Yr,List.length_nil];omega) (by rw[xX];simp only[Yr,List.length_nil];omega),ZB,qH (by omega),<-qnr];exact qlK hn K (i+1) (by omega) (by omega)
  rw[if_neg (by omega),show i=n by omega]
theorem qkf {N n:Nat} (hN:2000<N) (hn:n<=1000):vQ N (n:Int)=some (xZ n):=by
 unfold vQ;have:=qlK hn N 0 (by omega) (by omega);rw[show xZ 0=([]:List Int)from rfl]at this;rw[show(0:Int)=((0:Nat):Int)from rfl,this,ZB]
structure qhC (n:Nat) (row p:List Int):Prop where
 rl:row.length=n
 pl:p.length=n
 at_: ∀k,k<n-> ∃v:Nat,v<n/\row[k]? =some (v:Int)/\p[v]? =some (k:Int)
 all: ∀v,v<n-> ∃k,k<n/\row[k]? =some (v:Int)
theorem qhC.iota (n:Nat):qhC n (xZ n) (xZ n):=
 ⟨xX n,xX n,fun k hk=>⟨k,hk,qc9 hk,qc9 hk⟩,fun v hv=>⟨v,hv,qc9 hv⟩⟩
theorem qhC.back {n:Nat} {row p:List Int} (h:qhC n row p) {k v:Nat} (hk:k<n) (e:row[k]? =some (v:Int)):v<n/\p[v]? =some (k:Int):=by
 obtain⟨u,hu,e1,e2⟩:=h.at_ k hk;rw[e]at e1
 have:v=u:=by have:=Ye e1;omega
 subst this;exact⟨hu,e2⟩
theorem qhC.inj {n:Nat} {row p:List Int} (h:qhC n row p) {k k' v:Nat} (hk:k<n) (hk':k'<n) (e:row[k]? =some (v:Int)) (e':row[k']? =some (v:Int)):k=k':=by
 have h1:=(h.back hk e).2;have h2:=(h.back hk' e').2;rw[h1]at h2;have:=Ye h2;omega
theorem qhC.swap {n:Nat} {row p:List Int} (h:qhC n row p) {i a b:Nat} (hi:i+1<n) (ea:row[i]? =some (a:Int)) (eb:row[i+1]? =some (b:Int)):
 a≠b/\qhC n ((row.set i (b:Int)).set (i+1) (a:Int)) ((p.set a ((i+1:Nat):Int)).set b (i:Int)):=by
 have rl:=h.rl;have pl:=h.pl;obtain⟨ha,pa⟩:=h.back (by omega) ea;obtain⟨hb,pb⟩:=h.back hi eb
 have ne:a≠b:=fun e=>by
  subst e;have:=h.inj (by omega) hi ea eb;omega
 refine⟨ne,by simpa using rl,by simpa using pl,fun k hk=>?_,fun v hv=>?_⟩
 ·by_cases k1:k=i+1
  ·subst k1;refine⟨a,ha,by rw[List.getElem?_set_self (by simp;omega)],?_⟩;rw[Yw (fun e=>ne e.symm),List.getElem?_set_self (by omega)]
  by_cases k2:k=i
  ·subst k2;refine⟨b,hb,by rw[Yw (by omega),List.getElem?_set_self (by omega)],?_⟩;rw[List.getElem?_set_self (by simp;omega)]
  obtain⟨v,hv,e1,e2⟩:=h.at_ k hk
  have va:v≠a:=fun e=>by
   subst e;have:=h.inj hk (by omega) e1 ea;omega
  have vb:v≠b:=fun e=>by
   subst e;have:=h.inj hk hi e1 eb;omega
  refine⟨v,hv,by rw[Yw (fun e=>k1 e.symm),Yw (fun e=>k2 e.symm)];exact e1,?_⟩;rw[Yw (fun e=>vb e.symm),Yw (fun e=>va e.symm)];exact e2
 obtain⟨k,hk,e⟩:=h.all v hv;by_cases k1:k=i+1
 ·subst k1;rw[eb]at e
  have:v=b:=by have:=Ye e;omega
  subst this;exact⟨i,by omega,by rw[Yw (by omega),List.getElem?_set_self (by omega)]⟩
 by_cases k2:k=i
 ·subst k2;rw[ea]at e
  have:v=a:=by have:=Ye e;omega
  subst this;exact⟨k+1,hi,by rw[List.getElem?_set_self (by simp;omega)]⟩
 exact⟨k,hk,by rw[Yw (fun e=>k1 e.symm),Yw (fun e=>k2 e.symm)];exact e⟩
theorem qo2 {n:Nat} {w:List Int} (W:vW n w): ∀(K i:Nat) (p row:List Int),qhC n row p->i<=w.length->w.length<K+i->
 ∃p' row',qL w K p row (i:Int)=some p'/\zZ w K row (i:Int)=some row'/\qhC n row' p'
 |0,i,p,row,hp,h,hK=>by omega
 |K+1,i,p,row,hp,h,hK=>by
  have n1:=W.n1;have n2:=W.n2;have wl:=W.len;unfold qL zZ;by_cases hi:i<w.length
  ·have hx:w[i]? =some w[i]:=Ya hi;have hc:=W.let_ _ (List.getElem_mem hi);generalize w[i]=c at*;obtain⟨m,hm⟩: ∃m:Nat,c.natAbs=m+1:=⟨c.natAbs-1,by omega⟩
   have hm2:m+1<n:=by omega
   have q1:w64 (((m+1:Nat):Int)-1)=(m:Int):=by rw[qE (by omega) (by omega)];omega
   have q2:w64 ((m:Int)+1)=((m+1:Nat):Int):=qH (by omega);obtain⟨a,ha,ea,pa⟩:=hp.at_ m (by omega);obtain⟨b,hb,eb,pb⟩:=hp.at_ (m+1) hm2;obtain⟨ne,hp'⟩:=hp.swap hm2 ea eb;have rl:=hp.rl;have pl:=hp.pl;rw[if_pos (by omega),if_pos (by omega),qp,hx,ZB,ZB,qb2 (by omega),qjR (by omega),hm,ZB,ZB,q1,q2,qp,ea,qp,eb,ZB,ZB,ZB,ZB]
   have hr:qaA p c (a:Int) (b:Int)=some ((p.set a ((m+1:Nat):Int)).set b (m:Int)):=by
    unfold qaA;rw[qp,pa,ZB,q2,kg (by omega),ZB,qp,Yw ne,pb,ZB,q1,kg (by simp;omega),ZB]
   rw[hr,ZB,kg (by omega),ZB,ZB,qp,Yw (by omega),eb,ZB,ZB,kg (by simp;omega),ZB,ZB,qH (by omega)];exact qo2 W K (i+1) _ _ hp' (by omega) (by omega)
  rw[if_neg (by omega),if_neg (by omega)];exact⟨p,row,rfl,rfl,hp⟩
theorem qoG {n:Nat} (hn:n<=1000) {row p:List Int} (hp:qhC n row p): ∀(K i:Nat) (l:List Int),l.length=n->i<=n->n<K+i->(∀k,k<i-> ∀v:Nat,row[k]? =some (v:Int)->l[v]? =some (k:Int))->jY row K l (i:Int)=some p
 |0,i,l,hl,h,hK,hk=>by omega
 |K+1,i,l,hl,h,hK,hk=>by
  have rl:=hp.rl;have pl:=hp.pl;unfold jY;by_cases hi:i<n
  ·obtain⟨v,hv,e1,e2⟩:=hp.at_ i hi;rw[if_pos (by omega),qp,e1,ZB,qp,Ya (by omega),ZB,kg (by omega),ZB,qH (by omega)];refine qoG hn hp K (i+1) _ (by simpa using hl) (by omega) (by omega) (fun k hki u hu=>?_);by_cases e:k=i
   ·subst e;rw[e1]at hu
    have:v=u:=by have:=Ye hu;omega
    subst this;rw[List.getElem?_set_self (by omega)]
   have:v≠u:=fun c=>by
    subst c;exact e (hp.inj (by omega) hi hu e1)
   rw[Yw this];exact hk k (by omega) u hu
  rw[if_neg (by omega)];congr 1;apply List.ext_getElem?;intro v;by_cases hv:v<n
  ·obtain⟨k,hkn,e⟩:=hp.all v hv;rw[hk k (by omega) v e,(hp.back hkn e).2]
  rw[Yg (by omega),Yg (by omega)]
theorem qkk {N n:Nat} (hN:2000<N) {w:List Int} (W:vW n w): ∃p,qaZ N (n:Int) w=some p/\qci N (n:Int) w=some p/\p.length=n:=by
 have n2:=W.n2;have wl:=W.len;obtain⟨p,row,h1,h2,h3⟩:=qo2 W N 0 (xZ n) (xZ n) (qhC.iota n) (by omega) (by omega);refine⟨p,?_,?_,h3.pl⟩
 ·unfold qaZ jZ jV;rw[qfT hN (by omega),ZB,ZB,ZB,show(0:Int)=((0:Nat):Int)from rfl,h1];rfl
 unfold qci qba qcv;have h4:=qoG (by omega) h3 N 0 (List.replicate n 0) (by simp) (by omega) (by omega) (fun k hk=>by omega);rw[show((0:Nat):Int)=0 from rfl]at h2 h4;rw[qkf hN (by omega),ZB,h2,ZB,ZB,h3.rl,qjF (by omega),ZB,h4,ZB,ZB]
end Go.Av
end
section
namespace Go.Av
theorem qn7 (w:List Int):qbr w=some (if 200<w.length then([],5)else(w,0)):=by
 unfold qbr;by_cases c:200<w.length
 ·rw[if_pos (by omega),if_pos c]
 rw[if_neg (by omega),if_neg c]
end Go.Av
end
section
namespace Go.Av
def qip (l:List Int):Int:=(l.find? fun x=>!decide (x=0)).getD 0
theorem qml {l:List Int} (hl:l.length<=100): ∀(K i:Nat),i<=l.length->l.length<K+i->jk l K (i:Int)=some (match(l.drop i).find? (fun x=>!decide (x=0))with|some x=> .inr x|none=> .inl ())
 |0,i,h,hK=>by omega
 |K+1,i,h,hK=>by
  unfold jk;by_cases hi:i<l.length
  ·rw[if_pos (by omega),qp,Ya hi,ZB,YG hi,List.find?_cons];by_cases c:l[i]=0
   ·rw[if_neg (by simp[c]),qH (by omega),qml hl K (i+1) (by omega) (by omega)];simp[c]
   rw[if_pos (by simp[c])];simp[c]
  rw[if_neg (by omega),List.drop_eq_nil_of_le (by omega)];rfl
theorem qkc {N:Nat} {l:List Int} (hl:l.length<=100) (hN:l.length<N):ku N l=some (qip l):=by
 unfold ku qip;have:=qml hl N 0 (by omega) (by omega);rw[YR,show((0:Nat):Int)=0 from rfl]at this;rw[this];cases l.find? (fun x=>!decide (x=0))<;>rfl
theorem qsd (l:List Int):qip (0::l)=qip l:=by simp[qip]
theorem qrD {x:Int} (h:x≠0) (l:List Int):qip (x::l)=x:=by simp[qip,h]
theorem qul (x:Int):qip [x]=x:=by
 by_cases h:x=0
 ·subst h;rfl
 exact qrD h []
theorem qiI {w xs:List Int} {i j:Nat} (h1:i<=j) (h2:j<=w.length) (hl:w.length<=100000):qlh w xs (i:Int) (j:Int)=some (w.take i++xs++w.drop j):=by
 unfold qlh;rw[if_pos ⟨by omega,by omega,by omega,hl⟩];simp
theorem qkt {n c:Int}:qbF n c=true↔c≠0/\ -n<c/\c<n:=by
 unfold qbF;simp only[Bool.and_eq_true,decide_eq_true_eq];constructor
 ·rintro⟨⟨a,b⟩,c⟩;exact⟨a,b,c⟩
 rintro⟨a,b,c⟩;exact⟨⟨a,b⟩,c⟩
theorem qcr {w:List Int} (h:w.length<=100000):qeK w=some ():=by
 unfold qeK;rw[if_pos (by omega)]
theorem qnP {w:List Int} {i j:Nat} (h1:i<=j) (h2:j<=w.length):cut w (i:Int) (j:Int)=some ((w.drop i).take (j-i)):=by
 unfold cut;rw[if_pos ⟨by omega,by omega,by omega⟩];simp
theorem qm0 (at_:Int) (L k:Nat) (hL:L<=1000) (hk:k<=10):(at_<0/\True)\/(¬at_<0/\at_>w64 ((L:Int)-k))\/(¬at_<0/\ ¬at_>w64 ((L:Int)-k)/\ ∃i:Nat,at_=i/\i+k<=L):=by
 rw[qE (by omega) (by omega)];by_cases a:at_<0
 ·exact .inl ⟨a,trivial⟩
 by_cases b:at_>(L:Int)-k
 ·exact .inr (.inl ⟨a,b⟩)
 exact .inr (.inr ⟨a,b,at_.toNat,by omega,by omega⟩)
theorem qpl {w:List Int} {i:Nat} {x y:Int} (hx:w[i]? =some x) (hy:w[i+1]? =some y):cut w (i:Int) ((i+2:Nat):Int)=some [x,y]:=by
 obtain⟨h1,e1⟩:=Yb.1 hx;obtain⟨h2,e2⟩:=Yb.1 hy;rw[qnP (by omega) (by omega),show i+2-i=2 by omega,YG h1,YG h2,e1,e2];rfl
theorem qsr {w:List Int} {i:Nat} {x y z:Int} (hx:w[i]? =some x) (hy:w[i+1]? =some y) (hz:w[i+2]? =some z):cut w (i:Int) ((i+3:Nat):Int)=some [x,y,z]:=by
 obtain⟨h1,e1⟩:=Yb.1 hx;obtain⟨h2,e2⟩:=Yb.1 hy;obtain⟨h3,e3⟩:=Yb.1 hz;rw[qnP (by omega) (by omega),show i+3-i=3 by omega,YG h1,YG h2,YG h3,e1,e2,e3];rfl
section
variable {N:Nat} (hN:2000<N) {n:Int} (h1:1<=n) (h2:n<=12) {w:List Int} (hw:w.length<=400) (hv: ∀c∈w,qbF n c=true) {m:zy}
include hN h1 h2 hw hv
end
end Go.Av
end
section
namespace Go.Av
def tr5 (i k:Nat):Nat:=if k=i then i+1 else if k=i+1 then i else k
theorem qhp (i k:Nat):tr5 i (tr5 i k)=k:=by
 unfold tr5;by_cases a:k=i
 ·subst a;simp
 by_cases b:k=i+1
 ·subst b;simp
 simp[a,b]
theorem qcO (i:Nat):tr5 i i=i+1:=by simp[tr5]
theorem qcM (i:Nat):tr5 i (i+1)=i:=by simp[tr5]
theorem vS {i k:Nat} (a:k≠i) (b:k≠i+1):tr5 i k=k:=by simp[tr5,a,b]
theorem xH (i k:Nat):(k=i/\tr5 i k=i+1)\/(k=i+1/\tr5 i k=i)\/(k≠i/\k≠i+1/\tr5 i k=k):=by
 by_cases a:k=i
 ·subst a;exact .inl ⟨rfl,qcO k⟩
 by_cases b:k=i+1
 ·subst b;exact .inr (.inl ⟨rfl,qcM i⟩)
 exact .inr (.inr ⟨a,b,vS a b⟩)
theorem qju {i j:Nat} (h:i+1<j\/j+1<i) (k:Nat):tr5 i (tr5 j k)=tr5 j (tr5 i k):=by
 by_cases a:k=i
 ·subst a;rw[vS (i:=j) (k:=k) (by omega) (by omega),qcO,vS (i:=j) (k:=k+1) (by omega) (by omega)]
 by_cases b:k=i+1
 ·subst b;rw[vS (i:=j) (k:=i+1) (by omega) (by omega),qcM,vS (i:=j) (k:=i) (by omega) (by omega)]
 rw[vS (i:=i) (k:=k) a b];rcases xH j k with⟨c,e⟩|⟨c,e⟩|⟨c,c',e⟩<;>rw[e]
 ·exact vS (by omega) (by omega)
 ·exact vS (by omega) (by omega)
 exact vS a b
theorem qhD (i k:Nat):tr5 i (tr5 (i+1) (tr5 i k))=tr5 (i+1) (tr5 i (tr5 (i+1) k)):=by
 have a1:=qcO i;have a2:=qcM i;have a3:tr5 i (i+1+1)=i+1+1:=vS (by omega) (by omega);have b1:=qcO (i+1);have b2:=qcM (i+1);have b3:tr5 (i+1) i=i:=vS (by omega) (by omega);by_cases a:k=i
 ·subst a;rw[a1,b1,a3,b3,a1,b1]
 by_cases b:k=i+1
 ·subst b;rw[a2,b3,a1,b1,a3,b2]
 by_cases c:k=i+1+1
 ·subst c;rw[a3,b2,a2,b3]
 rw[vS (i:=i) (k:=k) a b,vS (i:=i+1) (k:=k) b c,vS (i:=i) (k:=k) a b,vS (i:=i+1) (k:=k) b c]
structure SB where
 f:Nat->Nat
 g:Nat->Nat
 gf: ∀k,g (f k)=k
 fg: ∀k,f (g k)=k
theorem SB.ext {s t:SB} (h: ∀k,s.f k=t.f k):s=t:=by
 obtain⟨f,g,a,b⟩:=s;obtain⟨f',g',a',b'⟩:=t;have e:f=f':=funext h;subst e
 have e:g=g':=funext fun k=>by
  have:=a (g' k)
  rwa [b']at this
 subst e;rfl
theorem SB.finj (s:SB) {a b:Nat} (h:s.f a=s.f b):a=b:=by
 have:=congrArg s.g h
 rwa [s.gf,s.gf]at this
theorem SB.ginj (s:SB) {a b:Nat} (h:s.g a=s.g b):a=b:=by
 have:=congrArg s.f h
 rwa [s.fg,s.fg]at this
def SB.fr (s:SB) (i:Nat):SB:=⟨fun k=>s.f (tr5 i k),fun k=>tr5 i (s.g k),fun k=>by rw[s.gf,qhp],fun k=>by rw[qhp,s.fg]⟩
def SB.bk (s:SB) (i:Nat):SB:=⟨fun k=>tr5 i (s.f k),fun k=>s.g (tr5 i k),fun k=>by rw[qhp,s.gf],fun k=>by rw[s.fg,qhp]⟩
def SB.Begs (s:SB) (i:Nat):Prop:=s.f (i+1)<s.f i
def SB.Ends (s:SB) (i:Nat):Prop:=s.g (i+1)<s.g i
theorem SB.nEnds {s:SB} {i:Nat} (h: ¬s.Ends i):s.g i<s.g (i+1):=by
 unfold SB.Ends at h
 have:s.g i≠s.g (i+1):=fun e=>by have:=s.ginj e;omega
 omega
def psh (L:Nat->SB) (k i:Nat):Nat->SB:=fun q=>if q=k then(L k).bk i else if q=k+1 then(L (k+1)).fr i else L q
theorem yo (L:Nat->SB) (k i:Nat):psh L k i k=(L k).bk i:=by simp[psh]
theorem jh (L:Nat->SB) (k i:Nat):psh L k i (k+1)=(L (k+1)).fr i:=by simp[psh]
theorem zV (L:Nat->SB) {k i q:Nat} (a:q≠k) (b:q≠k+1):psh L k i q=L q:=by simp[psh,a,b]
structure qaN (n m:Nat) (L:Nat->SB) (k i:Nat):Prop where
 k_:k+1<m
 i_:i+1<n
 b_:(L (k+1)).Begs i
 e_: ¬(L k).Ends i
inductive Psh (n m:Nat):(Nat->SB)->(Nat->SB)->Prop
 |mk {L:Nat->SB} {k i:Nat} (h:qaN n m L k i):Psh n m L (psh L k i)
inductive Pst (n m:Nat):(Nat->SB)->(Nat->SB)->Prop
 |refl {L:Nat->SB}:Pst n m L L
 |head {L L1 A:Nat->SB} (h:Psh n m L L1) (t:Pst n m L1 A):Pst n m L A
theorem Pst.trans {n m:Nat} {L A B:Nat->SB} (h:Pst n m L A) (k:Pst n m A B):Pst n m L B:=by
 induction h with
 |refl=>exact k
 |head h _ ih=>exact .head h (ih k)
theorem Pst.one {n m:Nat} {L A:Nat->SB} (h:Psh n m L A):Pst n m L A:= .head h .refl
def Nf (n m:Nat) (L:Nat->SB):Prop:= ∀k i,¬qaN n m L k i
def qhO:List Nat->Nat
 |[]=>0
 |x::r=>r.countP (fun y=>decide (y<x))+qhO r
theorem qkU {x y:Nat} (h:y<x) (b:List Nat): ∀a:List Nat,qhO (a++y::x::b)+1=qhO (a++x::y::b)
 |[]=>by
  simp only[List.nil_append,qhO,List.countP_cons];rw[decide_eq_true h,decide_eq_false (show¬x<y by omega)];simp only[if_true,ZF,if_false];omega
 |z::a=>by
  simp only[List.cons_append,qhO];have:=qkU h b a;simp only[List.countP_append,List.countP_cons];omega
theorem qtE {i:Nat}: ∀r:List Nat,r.Nodup->i∉r->r.countP (fun y=>decide (tr5 i y<i+1))<=r.countP (fun y=>decide (y<i))+(if i+1∈r then 1 else 0)
 |[],_,_=>by simp
 |y::r,hn,hi=>by
  have hn2:=(List.nodup_cons.1 hn)
  have hi2:i∉r:=fun h=>hi (List.mem_cons_of_mem _ h)
  have hy:y≠i:=fun e=>hi (e▸List.mem_cons_self)
  have ih:=qtE r hn2.2 hi2;rw[List.countP_cons,List.countP_cons];by_cases c:y=i+1
  ·subst c;rw[qcM,decide_eq_true (by omega),decide_eq_false (by omega),if_pos rfl,if_neg (by decide),if_pos List.mem_cons_self];rw[if_neg hn2.1]at ih;omega
  rw[vS hy c]
  have e1:decide (y<i+1)=decide (y<i):=by
   by_cases d:y<i
   ·rw[decide_eq_true d,decide_eq_true (by omega)]
   rw[decide_eq_false d,decide_eq_false (by omega)]
  rw[e1]
  have e2:(if i+1∈y::r then 1 else 0)=(if i+1∈r then 1 else 0:Nat):=by
   by_cases d:i+1∈r
   ·rw[if_pos d,if_pos (List.mem_cons_of_mem _ d)]
   rw[if_neg d,if_neg (fun h=>by rcases List.mem_cons.1 h with h|h;exact c h.symm;exact d h)]
  rw[e2];omega
theorem qmL {i:Nat}: ∀p:List Nat,p.Nodup->qhO (p.map (tr5 i))<=qhO p+(if i∈p then 1 else 0)
 |[],_=>by simp[qhO]
 |x::r,hn=>by
  have hn2:=(List.nodup_cons.1 hn);have ih:=qmL (i:=i) r hn2.2;simp only[List.map_cons,qhO,List.countP_map]
  have e:(fun y=>decide (y<tr5 i x))∘tr5 i=fun y=>decide (tr5 i y<tr5 i x):=rfl
  rw[e];by_cases c:x=i
  ·subst c;have hc:=qtE r hn2.2 hn2.1;rw[qcO,if_pos List.mem_cons_self];rw[if_neg hn2.1]at ih
   have:(if x+1∈r then 1 else 0:Nat)<=1:=by split<;>omega
   omega
  have h1:r.countP (fun y=>decide (tr5 i y<tr5 i x))<=r.countP (fun y=>decide (y<x)):=by
   refine List.countP_mono_left fun y hy h=>?_
   have hyx:y≠x:=fun e=>hn2.1 (e▸hy)
   simp only[decide_eq_true_eq]at h⊢;rcases xH i x with⟨a,ea⟩|⟨a,ea⟩|⟨a,a',ea⟩<;>rcases xH i y with⟨b,eb⟩|⟨b,eb⟩|⟨b,b',eb⟩<;>rw[ea,eb]at h<;>omega
  have e2:(if i∈x::r then 1 else 0)=(if i∈r then 1 else 0:Nat):=by
   by_cases d:i∈r
   ·rw[if_pos d,if_pos (List.mem_cons_of_mem _ d)]
   rw[if_neg d,if_neg (fun h=>by rcases List.mem_cons.1 h with h|h;exact c h.symm;exact d h)]
  rw[e2];omega
def SB.row (n:Nat) (s:SB):List Nat:=(List.range n).map s.f
theorem Uo (n:Nat) (s:SB):(s.row n).length=n:=by simp[SB.row]
theorem Ul {n k:Nat} (s:SB) (h:k<n):(s.row n)[k]? =some (s.f k):=by simp[SB.row,List.getElem?_range h]
theorem qi1 {f:Nat->Nat} (hf: ∀a b,f a=f b->a=b): ∀l:List Nat,l.Nodup->(l.map f).Nodup
 |[],_=>List.nodup_nil
 |x::l,h=>by
  have h2:=List.nodup_cons.1 h;rw[List.map_cons,List.nodup_cons];refine⟨fun hx=>?_,qi1 hf l h2.2⟩;obtain⟨y,hy,e⟩:=List.mem_map.1 hx;exact h2.1 (hf _ _ e▸hy)
theorem SB.row_nodup (n:Nat) (s:SB):(s.row n).Nodup:=qi1 (fun _ _ h=>s.finj h) _ List.nodup_range
def SB.inv (n:Nat) (s:SB):Nat:=qhO (s.row n)
theorem qrg {l:List Nat} {i:Nat} (h:i+1<l.length):l=l.take i++l[i]::l[i+1]::l.drop (i+2):=by
 rw[<-YG h,<-YG (by omega),List.take_append_drop]
theorem SB.inv_fr {n i:Nat} {s:SB} (hi:i+1<n) (h:s.Begs i):(s.fr i).inv n+1=s.inv n:=by
 unfold SB.inv;have e1:=qrg (l:=s.row n) (i:=i) (by rw[Uo];omega);have e2:=qrg (l:=(s.fr i).row n) (i:=i) (by rw[Uo];omega)
 have g: ∀(t:SB) (k:Nat) (hk:k<(t.row n).length),(t.row n)[k]=t.f k:=fun t k hk=>by simp[SB.row]
 have t1:((s.fr i).row n).take i=(s.row n).take i:=by
  apply List.ext_getElem?;intro k;by_cases hk:k<i
  ·rw[List.getElem?_take_of_lt hk,List.getElem?_take_of_lt hk,Ul _ (by omega),Ul _ (by omega)];show some (s.f (tr5 i k))=_;rw[vS (by omega) (by omega)]
  rw[Yg (by simp;omega),Yg (by simp;omega)]
 have t2:((s.fr i).row n).drop (i+2)=(s.row n).drop (i+2):=by
  apply List.ext_getElem?;intro k;rw[YI,YI];by_cases hk:i+2+k<n
  ·rw[Ul _ hk,Ul _ hk];show some (s.f (tr5 i _))=_;rw[vS (by omega) (by omega)]
  rw[Yg (by rw[Uo];omega),Yg (by rw[Uo];omega)]
 rw[e1,e2,t1,t2,g,g,g,g];show qhO (_++s.f (tr5 i i)::s.f (tr5 i (i+1))::_)+1=_;rw[qcO,qcM];exact qkU h _ _
theorem SB.inv_bk (n i:Nat) (s:SB):(s.bk i).inv n<=s.inv n+1:=by
 unfold SB.inv
 have e:(s.bk i).row n=(s.row n).map (tr5 i):=by
  unfold SB.row;rw[List.map_map];rfl
 rw[e];have:=qmL (i:=i) (s.row n) (s.row_nodup n)
 have h2:(if i∈s.row n then 1 else 0:Nat)<=1:=by split<;>omega
 omega
def mu5 (n:Nat) (L:Nat->SB):Nat->Nat
 |0=>0
 |m+1=>mu5 n L m+m*(L m).inv n
theorem qqP {n k:Nat} {L L':Nat->SB} (h: ∀q,q<k->L' q=L q): ∀m,m<=k->mu5 n L' m=mu5 n L m
 |0,_=>rfl
 |m+1,hm=>by simp only[mu5];rw[qqP h m (by omega),h m (by omega)]
theorem qiw {n m k i:Nat} {L:Nat->SB} (h:qaN n m L k i):mu5 n (psh L k i) m<mu5 n L m:=by
 have base:mu5 n (psh L k i) (k+2)+1<=mu5 n L (k+2):=by
  simp only[mu5];rw[qqP (L':=psh L k i) (L:=L) (k:=k) (fun q hq=>zV L (by omega) (by omega)) k (Nat.le_refl _),yo,jh];have a:=SB.inv_fr h.i_ h.b_;have b:=Nat.mul_le_mul_left k (SB.inv_bk n i (L k));rw[<-a,Nat.mul_add,Nat.mul_one];rw[Nat.mul_add,Nat.mul_one]at b;omega
 have up: ∀d,mu5 n (psh L k i) (k+2+d)+1<=mu5 n L (k+2+d):=by
  intro d
  induction d with
  |zero=>exact base
  |succ d ih=>
   show mu5 n (psh L k i) (k+2+d)+(k+2+d)*(psh L k i (k+2+d)).inv n+1<=mu5 n L (k+2+d)+(k+2+d)*(L (k+2+d)).inv n;rw[zV L (q:=k+2+d) (by omega) (by omega)];omega
 have hk:=h.k_;have:=up (m-(k+2));rw[show k+2+(m-(k+2))=m by omega]at this;omega
theorem qkN {n m:Nat}: ∀(M:Nat) (L:Nat->SB),mu5 n L m<=M-> ∃A,Pst n m L A/\Nf n m A
 |M,L,hM=>by
  by_cases h: ∃k i,qaN n m L k i
  ·obtain⟨k,i,h⟩:=h;have:=qiw h
   cases M with
   |zero=>omega
   |succ M=>
    obtain⟨A,h1,h2⟩:=qkN (n:=n) (m:=m) M (psh L k i) (by omega);exact⟨A,.head (.mk h) h1,h2⟩
  exact⟨L,.refl,fun k i c=>h ⟨k,i,c⟩⟩
theorem qlO {s:SB} {i j:Nat} (h:i+1<j\/j+1<i):(s.fr i).Begs j↔s.Begs j:=by
 show s.f (tr5 i (j+1))<s.f (tr5 i j)↔_;rw[vS (by omega) (by omega),vS (by omega) (by omega)];rfl
theorem qmN {s:SB} {i j:Nat} (h:i+1<j\/j+1<i):(s.bk i).Ends j↔s.Ends j:=by
 show s.g (tr5 i (j+1))<s.g (tr5 i j)↔_;rw[vS (by omega) (by omega),vS (by omega) (by omega)];rfl
theorem pst3 {n m k i j l:Nat} {L:Nat->SB} (h1:qaN n m L k i) (h2:qaN n m (psh L k i) k j) (h3:qaN n m (psh (psh L k i) k j) k l):Pst n m (psh L k i) (psh (psh (psh L k i) k j) k l):=
 .head (.mk h2) (.one (.mk h3))
theorem qte {L:Nat->SB} {k i:Nat}:psh (psh (psh L k i) k (i+1)) k i=psh (psh (psh L k (i+1)) k i) k (i+1):=by
 funext q;by_cases a:q=k
 ·subst a;simp only[yo]
  exact SB.ext fun x=>qhD i _
 by_cases b:q=k+1
 ·subst b;simp only[jh]
  exact SB.ext fun x=>congrArg (L (k+1)).f (qhD i x)
 simp only[zV _ a b]
theorem qkA {n m k i:Nat} {L:Nat->SB} (h:qaN n m L k i) (h':qaN n m L k (i+1)): ∃D,Pst n m (psh L k i) D/\Pst n m (psh L k (i+1)) D:=by
 have b1:(L (k+1)).f (i+1)<(L (k+1)).f i:=h.b_;have b2:(L (k+1)).f (i+2)<(L (k+1)).f (i+1):=h'.b_;have e1:=SB.nEnds h.e_;have e2:(L k).g (i+1)<(L k).g (i+2):=SB.nEnds h'.e_;have ki:=h.k_;have ii:=h.i_;have ii':=h'.i_;have t1:tr5 i (i+2)=i+2:=vS (by omega) (by omega);have t2:tr5 (i+1) i=i:=vS (by omega) (by omega);have t3:tr5 (i+1) (i+2)=i+1:=qcM (i+1);have t4:tr5 (i+1) (i+1)=i+2:=qcO (i+1)
 have p1:qaN n m (psh L k i) k (i+1):=by
  refine⟨ki,ii',?_,?_⟩
  ·rw[jh];show(L (k+1)).f (tr5 i (i+2))<(L (k+1)).f (tr5 i (i+1));rw[t1,qcM];omega
  rw[yo];show¬(L k).g (tr5 i (i+2))<(L k).g (tr5 i (i+1));rw[t1,qcM];omega
 have p2:qaN n m (psh (psh L k i) k (i+1)) k i:=by
  refine⟨ki,ii,?_,?_⟩
  ·rw[jh,jh];show(L (k+1)).f (tr5 i (tr5 (i+1) (i+1)))<(L (k+1)).f (tr5 i (tr5 (i+1) i));rw[qcO,t1,t2,qcO];omega
  rw[yo,yo];show¬(L k).g (tr5 i (tr5 (i+1) (i+1)))<(L k).g (tr5 i (tr5 (i+1) i));rw[qcO,t1,t2,qcO];omega
 have q1:qaN n m (psh L k (i+1)) k i:=by
  refine⟨ki,ii,?_,?_⟩
  ·rw[jh];show(L (k+1)).f (tr5 (i+1) (i+1))<(L (k+1)).f (tr5 (i+1) i);rw[t4,t2];omega
  rw[yo];show¬(L k).g (tr5 (i+1) (i+1))<(L k).g (tr5 (i+1) i);rw[t4,t2];omega
 have q2:qaN n m (psh (psh L k (i+1)) k i) k (i+1):=by
  refine⟨ki,ii',?_,?_⟩
  ·rw[jh,jh];show(L (k+1)).f (tr5 (i+1) (tr5 i (i+2)))<(L (k+1)).f (tr5 (i+1) (tr5 i (i+1)));rw[t1,t3,qcM,t2];omega
  rw[yo,yo];show¬(L k).g (tr5 (i+1) (tr5 i (i+2)))<(L k).g (tr5 (i+1) (tr5 i (i+1)));rw[t1,t3,qcM,t2];omega
 exact⟨_,pst3 h p1 p2,qte▸pst3 h' q1 q2⟩
theorem qqt {n m k i j:Nat} {L:Nat->SB} (hd:i+1<j\/j+1<i) (h:qaN n m L k i) (h':qaN n m L k j): ∃D,Pst n m (psh L k i) D/\Pst n m (psh L k j) D:=by
 have p1:qaN n m (psh L k i) k j:=⟨h.k_,h'.i_,by rw[jh,qlO hd];exact h'.b_,by rw[yo,qmN hd];exact h'.e_⟩;have p2:qaN n m (psh L k j) k i:=⟨h.k_,h.i_,by rw[jh,qlO (i:=j) (j:=i) (by omega)];exact h.b_,by rw[yo,qmN (i:=j) (j:=i) (by omega)];exact h.e_⟩
 have e:psh (psh L k i) k j=psh (psh L k j) k i:=by
  funext q;by_cases a:q=k
  ·subst a;simp only[yo]
   exact SB.ext fun x=>qju (i:=j) (j:=i) (by omega) _
  by_cases b:q=k+1
  ·subst b;simp only[jh]
   exact SB.ext fun x=>congrArg (L (k+1)).f (qju (i:=i) (j:=j) (by omega) x)
  simp only[zV _ a b]
 exact⟨_,.one (.mk p1),e▸ .one (.mk p2)⟩
theorem qkv {n m k i j:Nat} {L:Nat->SB} (h:qaN n m L k i) (h':qaN n m L (k+1) j): ∃D,Pst n m (psh L k i) D/\Pst n m (psh L (k+1) j) D:=by
 have b1:(L (k+1)).f (i+1)<(L (k+1)).f i:=h.b_;have e2:(L (k+1)).g j<(L (k+1)).g (j+1):=SB.nEnds h'.e_;have gf:=(L (k+1)).gf;have fg:=(L (k+1)).fg
 have p1:qaN n m (psh L k i) (k+1) j:=by
  refine⟨h'.k_,h'.i_,?_,?_⟩
  ·rw[zV L (q:=k+1+1) (by omega) (by omega)];exact h'.b_
  rw[jh];show¬tr5 i ((L (k+1)).g (j+1))<tr5 i ((L (k+1)).g j);rcases xH i ((L (k+1)).g (j+1))with⟨a,ea⟩|⟨a,ea⟩|⟨a,a',ea⟩<;>rcases xH i ((L (k+1)).g j)with⟨b,eb⟩|⟨b,eb⟩|⟨b,b',eb⟩<;>rw[ea,eb]<;>try omega
  have x1:=fg (j+1);have x2:=fg j;rw[a]at x1;rw[b]at x2;omega
 have p2:qaN n m (psh L (k+1) j) k i:=by
  refine⟨h.k_,h.i_,?_,?_⟩
  ·rw[yo];show tr5 j ((L (k+1)).f (i+1))<tr5 j ((L (k+1)).f i);rcases xH j ((L (k+1)).f (i+1))with⟨a,ea⟩|⟨a,ea⟩|⟨a,a',ea⟩<;>rcases xH j ((L (k+1)).f i)with⟨b,eb⟩|⟨b,eb⟩|⟨b,b',eb⟩<;>rw[ea,eb]<;>try omega
   have x1:=gf (i+1);have x2:=gf i;rw[a]at x1;rw[b]at x2;omega
  rw[zV L (q:=k) (by omega) (by omega)];exact h.e_
 have e:psh (psh L k i) (k+1) j=psh (psh L (k+1) j) k i:=by
  funext q;by_cases a:q=k
  ·subst a;rw[zV _ (q:=q) (by omega) (by omega),yo,yo,zV _ (q:=q) (by omega) (by omega)]
  by_cases b:q=k+1
  ·subst b;rw[yo,jh,jh,yo];rfl
  by_cases c:q=k+1+1
  ·subst c;rw[jh,zV _ (q:=k+1+1) (by omega) (by omega),zV _ (q:=k+1+1) (by omega) (by omega),jh]
  rw[zV _ b c,zV _ a b,zV _ a b,zV _ b c]
 exact⟨_,.one (.mk p1),e▸ .one (.mk p2)⟩
theorem qjE {n m k k' i j:Nat} {L:Nat->SB} (hk:k+1<k') (h:qaN n m L k i) (h':qaN n m L k' j): ∃D,Pst n m (psh L k i) D/\Pst n m (psh L k' j) D:=by
 have p1:qaN n m (psh L k i) k' j:=⟨h'.k_,h'.i_,by rw[zV L (q:=k'+1) (by omega) (by omega)];exact h'.b_,by rw[zV L (q:=k') (by omega) (by omega)];exact h'.e_⟩;have p2:qaN n m (psh L k' j) k i:=⟨h.k_,h.i_,by rw[zV L (q:=k+1) (by omega) (by omega)];exact h.b_,by rw[zV L (q:=k) (by omega) (by omega)];exact h.e_⟩
 have e:psh (psh L k i) k' j=psh (psh L k' j) k i:=by
  funext q;by_cases a:q=k
  ·subst a;rw[zV _ (q:=q) (by omega) (by omega),yo,yo,zV _ (q:=q) (by omega) (by omega)]
  by_cases b:q=k+1
  ·subst b;rw[zV _ (q:=k+1) (by omega) (by omega),jh,jh,zV _ (q:=k+1) (by omega) (by omega)]
  by_cases c:q=k'
  ·subst c;rw[yo,zV _ a b,zV _ a b,yo]
  by_cases d:q=k'+1
  ·subst d;rw[jh,zV _ a b,zV _ a b,jh]
  rw[zV _ c d,zV _ a b,zV _ a b,zV _ c d]
 exact⟨_,.one (.mk p1),e▸ .one (.mk p2)⟩
theorem meet5 {n m k k' i j:Nat} {L:Nat->SB} (h:qaN n m L k i) (h':qaN n m L k' j): ∃D,Pst n m (psh L k i) D/\Pst n m (psh L k' j) D:=by
 have sw: ∀{A B:Nat->SB},(∃D,Pst n m A D/\Pst n m B D)-> ∃D,Pst n m B D/\Pst n m A D:=fun⟨D,a,b⟩=>⟨D,b,a⟩
 by_cases e:k=k'
 ·subst e;by_cases c:i=j
  ·subst c;exact⟨_,.refl,.refl⟩
  by_cases c1:j=i+1
  ·subst c1;exact qkA h h'
  by_cases c2:i=j+1
  ·subst c2;exact sw (qkA h' h)
  exact qqt (by omega) h h'
 by_cases e1:k'=k+1
 ·subst e1;exact qkv h h'
 by_cases e2:k=k'+1
 ·subst e2;exact sw (qkv h' h)
 by_cases e3:k<k'
 ·exact qjE (by omega) h h'
 exact sw (qjE (by omega) h' h)
theorem qgM {n m:Nat}: ∀(M:Nat) {L A B:Nat->SB},mu5 n L m<=M->Pst n m L A->Pst n m L B->Nf n m A->Nf n m B->A=B
 |M,L,A,B,hM,hA,hB,nA,nB=>by
  cases hA with
  |refl=>
   cases hB with
   |refl=>rfl
   |head h _=>cases h with|mk h=>exact absurd h (nA _ _)
  |head h tA=>
   cases hB with
   |refl=>cases h with|mk h=>exact absurd h (nB _ _)
   |head h' tB=>
    cases h with
    |mk h=>
     cases h' with
     |mk h'=>
      obtain⟨D,d1,d2⟩:=meet5 h h';obtain⟨E,e1,e2⟩:=qkN _ D (Nat.le_refl _);have l1:=qiw h;have l2:=qiw h'
      cases M with
      |zero=>omega
      |succ M=>rw[qgM M (by omega) tA (d1.trans e1) nA e2,qgM M (by omega) tB (d2.trans e1) nB e2]
end Go.Av
end
section
namespace Go.Av
structure IsP (p:List Int):Prop where
 few:p.length<=256
 at_: ∀k,k<p.length-> ∃v:Nat,v<p.length/\p[k]? =some (v:Int)
 inj: ∀(k k':Nat) (v:Int),p[k]? =some v->p[k']? =some v->k=k'
structure SB.Ok (n:Nat) (s:SB):Prop where
 f_: ∀k,k<n->s.f k<n
 g_: ∀k,k<n->s.g k<n
def SB.li (n:Nat) (s:SB):List Int:=(List.range n).map fun k=>(s.f k:Int)
theorem Ug (n:Nat) (s:SB):(s.li n).length=n:=by simp[SB.li]
theorem Up {n k:Nat} (s:SB) (h:k<n):(s.li n)[k]? =some (s.f k:Int):=by simp[SB.li,List.getElem?_range h]
theorem U0 {n:Nat} {s:SB} {p:List Int} (hl:p.length=n) (h: ∀k,k<n->p[k]? =some (s.f k:Int)):p=s.li n:=by
 apply List.ext_getElem?;intro k;by_cases hk:k<n
 ·rw[h k hk,Up s hk]
 rw[Yg (by omega),Yg (by rw[Ug];omega)]
theorem SB.li_inj {n:Nat} {s t:SB} (h:s.li n=t.li n) {k:Nat} (hk:k<n):s.f k=t.f k:=by
 have h1:=Up s hk;have h2:=Up t hk;rw[h,h2]at h1;have:=Ye h1;omega
theorem qjG {n i k:Nat} (hi:i+1<n) (h:k<n):tr5 i k<n:=by
 rcases xH i k with⟨a,e⟩|⟨a,e⟩|⟨a,a',e⟩<;>omega
theorem SB.Ok.fr {n i:Nat} {s:SB} (h:s.Ok n) (hi:i+1<n):(s.fr i).Ok n:=⟨fun k hk=>h.f_ _ (qjG hi hk),fun k hk=>qjG hi (h.g_ k hk)⟩
theorem SB.Ok.bk {n i:Nat} {s:SB} (h:s.Ok n) (hi:i+1<n):(s.bk i).Ok n:=⟨fun k hk=>qjG hi (h.f_ k hk),fun k hk=>h.g_ _ (qjG hi hk)⟩
def SB.rev (s:SB):SB:=⟨s.g,s.f,s.fg,s.gf⟩
theorem SB.Ok.rev {n:Nat} {s:SB} (h:s.Ok n):s.rev.Ok n:=⟨h.g_,h.f_⟩
def Uh:SB:=⟨fun k=>k,fun k=>k,fun _=>rfl,fun _=>rfl⟩
theorem Uv (n:Nat):Uh.Ok n:=⟨fun _ h=>h,fun _ h=>h⟩
theorem SB.id_li (n:Nat):Uh.li n=xZ n:=rfl
def rv5 (n k:Nat):Nat:=if k<n then n-1-k else k
theorem qb1 (n k:Nat):rv5 n (rv5 n k)=k:=by
 unfold rv5;by_cases h:k<n
 ·rw[if_pos h,if_pos (by omega)];omega
 rw[if_neg h,if_neg h]
theorem qhP {n k:Nat} (h:k<n):rv5 n k<n:=by unfold rv5;rw[if_pos h];omega
def Uf (n:Nat):SB:=⟨rv5 n,rv5 n,qb1 n,qb1 n⟩
theorem Us (n:Nat):(Uf n).Ok n:=⟨fun _ h=>qhP h,fun _ h=>qhP h⟩
def SB.flip (n:Nat) (s:SB):SB:=⟨fun k=>rv5 n (s.f (rv5 n k)),fun k=>rv5 n (s.g (rv5 n k)),fun k=>by rw[qb1,s.gf,qb1],fun k=>by rw[qb1,s.fg,qb1]⟩
theorem SB.Ok.flip {n:Nat} {s:SB} (h:s.Ok n):(s.flip n).Ok n:=⟨fun k hk=>qhP (h.f_ _ (qhP hk)),fun k hk=>qhP (h.g_ _ (qhP hk))⟩
end Go.Av
end
section
namespace Go.Av
theorem Un {n k:Nat} {s:SB} (h:k<n):idx (s.li n) (k:Int)=some (s.f k:Int):=by rw[qp,Up s h]
section
variable {n:Nat} (hn:n<=300)
include hn
theorem qoq {s:SB} (hs:s.Ok n): ∀(K i:Nat) (l:List Int),l.length=n->i<=n->n<K+i->(∀k,k<i->l[s.f k]? =some (k:Int))->zF (s.li n) K l (i:Int)=some (s.rev.li n)
 |0,i,l,hl,h,hK,hk=>by omega
 |K+1,i,l,hl,h,hK,hk=>by
  unfold zF;rw[Ug];by_cases hi:i<n
  ·have hf:=hs.f_ i hi;rw[if_pos (by omega),Un hi,ZB,qp,Ya (by omega),ZB,kg (by omega),ZB,qH (by omega)];refine qoq hs K (i+1) _ (by simpa using hl) (by omega) (by omega) (fun k hki=>?_);by_cases e:k=i
   ·subst e;rw[List.getElem?_set_self (by omega)]
   rw[Yw (fun c=>e (s.finj c.symm))];exact hk k (by omega)
  rw[if_neg (by omega)];congr 1
  refine U0 hl fun v hv=>?_
  have:=hk (s.g v) (by have:=hs.g_ v hv;omega);rw[s.fg]at this;exact this
theorem qjN {N:Nat} (hN:2000<N) {s:SB} (hs:s.Ok n):jw N (s.li n)=some (s.rev.li n):=by
 unfold jw;have:=qoq hn hs N 0 (List.replicate n 0) (by simp) (by omega) (by omega) (fun k hk=>by omega);rw[show((0:Nat):Int)=0 from rfl]at this;rw[Ug,qjF (by omega),ZB,this,ZB]
theorem qgG (s:SB) {i:Nat} (hi:i+1<n):zN (s.li n) (i:Int)=some ((s.fr i).li n):=by
 unfold zN;have hl:=Ug n s
 have hc:qi3 (s.li n)=some ():=by
  unfold qi3;rw[if_pos (by omega)]
 rw[hc,ZB,qH (by omega),Un hi,ZB,Un (by omega),ZB,kg (by omega),ZB,qp,Yw (by omega),Up _ hi,ZB,kg (by simp;omega),ZB];congr 1
 refine U0 (by simp[hl]) fun k hk=>?_
 show _=some ((s.f (tr5 i k):Nat):Int);rcases xH i k with⟨rfl,e⟩|⟨rfl,e⟩|⟨a,b,e⟩<;>rw[e]
 ·rw[Yw (by omega),List.getElem?_set_self (by omega)]
 ·rw[List.getElem?_set_self (by simp;omega)]
 rw[Yw (by omega),Yw (by omega),Up s hk]
theorem qkh {N:Nat} (hN:2000<N) {s:SB} (hs:s.Ok n) {i:Nat} (hi:i+1<n):jO N (s.li n) (i:Int)=some ((s.bk i).li n):=by
 unfold jO;rw[qjN hn hN hs,ZB,qgG hn s.rev hi,ZB,qjN hn hN (hs.rev.fr hi),ZB];rfl
theorem qkn (s:SB) {i:Nat} (hi:i+1<n):jP (s.li n) (i:Int)=some (decide (s.f (i+1)<s.f i)):=by
 unfold jP;rw[Un (by omega),ZB,qH (by omega),Un hi,ZB];congr 1;exact decide_eq_decide.2 (by omega)
theorem qsD {N:Nat} (hN:2000<N) {s:SB} (hs:s.Ok n) {i:Nat} (hi:i+1<n):yV N (s.li n) (i:Int)=some (decide (s.g (i+1)<s.g i)):=by
 unfold yV;rw[qjN hn hN hs,ZB,qkn hn s.rev hi,ZB];rfl
theorem qh4 {N:Nat} (hN:2000<N) {s t:SB} (hs:s.Ok n): ∀(K i:Nat),i+1<=n->n<K+i->
 (∃j,i<=j/\j+1<n/\t.Begs j/\ ¬s.Ends j/\jC N (s.li n) (t.li n) K (i:Int)=some (.inr ((j:Int),true)))\/
 ((∀j,i<=j->j+1<n->t.Begs j->s.Ends j)/\jC N (s.li n) (t.li n) K (i:Int)=some (.inl ()))
 |0,i,h,hK=>by omega
 |K+1,i,h,hK=>by
  unfold jC;rw[Ug,qE (n:=(n:Int)-1) (by omega) (by omega)];by_cases hi:i+1<n
  ·rw[if_pos (by omega),qkn hn t hi,ZB];by_cases a:t.f (i+1)<t.f i
   ·rw[decide_eq_true a,if_pos rfl,qsD hn hN hs hi,ZB,ZB];by_cases b:s.g (i+1)<s.g i
    ·rw[decide_eq_true b,if_neg (by decide),qH (by omega)];rcases qh4 hN hs K (i+1) (by omega) (by omega)with⟨j,h1,h2⟩|⟨h1,h2⟩
     ·exact .inl ⟨j,by omega,h2⟩
     refine .inr ⟨fun j hj hj2 hb=>?_,h2⟩;by_cases e:j=i
     ·subst e;exact b
     exact h1 j (by omega) hj2 hb
    rw[decide_eq_false b,if_pos (by decide)];exact .inl ⟨i,Nat.le_refl _,hi,a,b,rfl⟩
   rw[decide_eq_false a,if_neg (by decide),ZB,if_neg (by decide),qH (by omega)];rcases qh4 hN hs K (i+1) (by omega) (by omega)with⟨j,h1,h2⟩|⟨h1,h2⟩
   ·exact .inl ⟨j,by omega,h2⟩
   refine .inr ⟨fun j hj hj2 hb=>?_,h2⟩;by_cases e:j=i
   ·subst e;exact absurd hb a
   exact h1 j (by omega) hj2 hb
  rw[if_neg (by omega)];exact .inr ⟨fun j hj hj2=>by omega,rfl⟩
theorem qnI {N:Nat} (hN:2000<N) (n1:1<=n) {s t:SB} (hs:s.Ok n):
 (∃j:Nat,j+1<n/\t.Begs j/\ ¬s.Ends j/\qax N (s.li n) (t.li n)=some ((j:Int),true))\/((∀j,j+1<n->t.Begs j->s.Ends j)/\qax N (s.li n) (t.li n)=some (0,false)):=by
 unfold qax;have:=qh4 hn hN (t:=t) hs N 0 (by omega) (by omega);rw[show((0:Nat):Int)=0 from rfl]at this;rcases this with⟨j,_,h2,h3,h4,h5⟩|⟨h1,h2⟩
 ·exact .inl ⟨j,h2,h3,h4,by rw[h5];rfl⟩
 exact .inr ⟨fun j=>h1 j (Nat.zero_le _),by rw[h2];rfl⟩
end
theorem qrr {l0:List Int} {n:Nat} (hn:l0.length=n) (hb:n<=100000): ∀(K i:Nat) (l:List Int),l.length=n->2*i<=n+1->n+1<K+2*i->(∀k:Nat,k<n->l[k]? =if k<i\/n<=k+i then l0[n-1-k]? else l0[k]?)->zf K l (i:Int) ((n:Int)-1-i)=some l0.reverse
 |0,i,l,hl,h2,hK,hk=>by omega
 |K+1,i,l,hl,h2,hK,hk=>by
  unfold zf;by_cases hi:(i:Int)<(n:Int)-1-i
  ·have e1:(n:Int)-1-i=((n-1-i:Nat):Int):=by omega
   have e2:w64 (((n-1-i:Nat):Int)-1)=(n:Int)-1-((i+1:Nat):Int):=by rw[qE (by omega) (by omega)];omega
   have q1:=hk (n-1-i) (by omega);have q2:=hk i (by omega);rw[if_neg (by omega)]at q1 q2;have g1:l0[n-1-i]? =some l0[n-1-i]:=Ya (by omega);have g2:l0[i]? =some l0[i]:=Ya (by omega);rw[g1]at q1;rw[g2]at q2;rw[if_pos hi,e1,qp,q1,ZB,qp,q2,ZB,kg (by omega),ZB,qp,Yw (by omega),q1,ZB,kg (by simp;omega),ZB,qH (by omega),e2];refine qrr hn hb K (i+1) _ (by simp;omega) (by omega) (by omega) (fun k hkn=>?_);by_cases c1:k=n-1-i
   ·subst c1;rw[List.getElem?_set_self (by simp;omega),if_pos (by omega),show n-1-(n-1-i)=i by omega,g2]
   rw[Yw (fun e=>c1 e.symm)];by_cases c2:k=i
   ·subst c2;rw[List.getElem?_set_self (by omega),if_pos (by omega),g1]
   rw[Yw (fun e=>c2 e.symm),hk k hkn];by_cases c3:k<i\/n<=k+i
   ·rw[if_pos c3,if_pos (by omega)]
   rw[if_neg c3,if_neg (by omega)]
  rw[if_neg hi];congr 1;apply List.ext_getElem?;intro k;by_cases hkn:k<n
  ·rw[hk k hkn,List.getElem?_reverse (by omega),hn];by_cases c3:k<i\/n<=k+i
   ·rw[if_pos c3]
   rw[if_neg c3,show n-1-k=k by omega]
  rw[Yg (by omega),Yg (by simp;omega)]
theorem qlB {N:Nat} {l:List Int} (hN:l.length+1<N) (hb:l.length<=100000):jU N l=some l.reverse:=by
 unfold jU;have:=qrr (l0:=l) rfl hb N 0 l rfl (by omega) (by omega) (fun k hk=>by rw[if_neg (by omega)]);rw[qE (by omega) (by omega),show((l.length:Int)-1)=(l.length:Int)-1-((0:Nat):Int)by omega,show(0:Int)=((0:Nat):Int)from rfl];rw[this];rfl
theorem qsJ (n:Nat):(xZ n).reverse=(Uf n).li n:=by
 refine U0 (by simp[xX]) fun k hk=>?_
 rw[List.getElem?_reverse (by rw[xX];exact hk),xX,qc9 (by omega)];show _=some ((rv5 n k:Nat):Int);unfold rv5;rw[if_pos hk]
theorem qoZ {N n:Nat} (hN:2000<N) (hn:n<=300):qcq N (n:Int)=some ((Uf n).li n):=by
 unfold qcq;rw[qfT hN (by omega),ZB,qlB (by rw[xX];omega) (by rw[xX];omega),ZB,if_pos (by simp),ZB,qsJ]
end Go.Av
end
section
namespace Go.Av
def SB.comp (s t:SB):SB:=⟨fun k=>t.f (s.f k),fun k=>s.g (t.g k),fun k=>by rw[t.gf,s.gf],fun k=>by rw[s.fg,t.fg]⟩
section
variable {n:Nat} (hn:n<=300)
include hn
theorem qod {s:SB} (hs:s.Ok n): ∀(K i:Nat) (l:List Int),l.length=n->i<=n->n<K+i->(∀k,k<i->l[n-1-k]? =some ((n-1-s.f k:Nat):Int))->zk (s.li n) K l (i:Int)=some ((s.flip n).li n)
 |0,i,l,hl,h,hK,hk=>by omega
 |K+1,i,l,hl,h,hK,hk=>by
  unfold zk;rw[Ug];by_cases hi:i<n
  ·have hf:=hs.f_ i hi;have e0:w64 ((n:Int)-1)=(n:Int)-1:=qE (by omega) (by omega)
   have e1:w64 ((n:Int)-1-(i:Int))=((n-1-i:Nat):Int):=by rw[qE (by omega) (by omega)];omega
   have e2:w64 ((n:Int)-1-(s.f i:Int))=((n-1-s.f i:Nat):Int):=by rw[qE (by omega) (by omega)];omega
   rw[if_pos (by omega),Un hi,ZB,e0,e1,e2,qp,Ya (by omega),ZB,kg (by omega),ZB,qH (by omega)];refine qod hs K (i+1) _ (by simpa using hl) (by omega) (by omega) (fun k hki=>?_);by_cases e:k=i
   ·subst e;rw[List.getElem?_set_self (by omega)]
   rw[Yw (by omega)];exact hk k (by omega)
  rw[if_neg (by omega)];congr 1
  refine U0 hl fun v hv=>?_
  have:=hk (n-1-v) (by omega);rw[show n-1-(n-1-v)=v by omega]at this;rw[this];show _=some ((rv5 n (s.f (rv5 n v)):Nat):Int)
  have h2:rv5 n v=n-1-v:=by unfold rv5;rw[if_pos hv]
  have h3:=hs.f_ (n-1-v) (by omega);rw[h2];unfold rv5;rw[if_pos h3]
theorem qm7 {N:Nat} (hN:2000<N) {s:SB} (hs:s.Ok n):vK N (s.li n)=some ((s.flip n).li n):=by
 unfold vK;have:=qod hn hs N 0 (List.replicate n 0) (by simp) (by omega) (by omega) (fun k hk=>by omega);rw[show((0:Nat):Int)=0 from rfl]at this;rw[Ug,qjF (by omega),ZB,this,ZB]
end
def qaM (n:Nat) (l:List SB):List (List Int):=l.map (SB.li n)
theorem qbG (n:Nat) (l:List SB):(qaM n l).length=l.length:=by simp[qaM]
theorem qkR {n k:Nat} {l:List SB} (h:k<l.length):(qaM n l)[k]? =some (l[k].li n):=by
 unfold qaM;rw[YA,Ya h];rfl
section
variable {n:Nat} (hn:n<=12) {N:Nat} (hN:2000<N)
include hn hN
theorem qlU {l:List SB} (hl:l.length<=300) (ho: ∀s∈l,s.Ok n): ∀(K i:Nat),i<=l.length->l.length<K+i->ky N (qaM n l) K (qaM n ((l.take i).map (SB.flip n))) (i:Int)=some (qaM n (l.map (SB.flip n)))
 |0,i,h,hK=>by omega
 |K+1,i,h,hK=>by
  unfold ky;rw[qbG];by_cases hi:i<l.length
  ·rw[if_pos (by omega),qp,qkR hi,ZB,qm7 (by omega) hN (ho _ (List.getElem_mem hi)),ZB,qbh (by rw[qbG];simp;omega) (by rw[qbG];simp;omega),ZB,qH (by omega)]
   have e:qaM n ((l.take i).map (SB.flip n))++[(l[i].flip n).li n]=qaM n ((l.take (i+1)).map (SB.flip n)):=by
    rw[List.take_succ_eq_append_getElem hi,List.map_append];unfold qaM;rw[List.map_append];rfl
   rw[e];exact qlU hl ho K (i+1) (by omega) (by omega)
  rw[if_neg (by omega),List.take_of_length_le (by omega)]
theorem qmj {l:List SB} (hl:l.length<=300) (ho: ∀s∈l,s.Ok n):jM N (qaM n l)=some (qaM n (l.map (SB.flip n))):=by
 unfold jM;have:=qlU hn hN hl ho N 0 (by omega) (by omega);rw[show((0:Nat):Int)=0 from rfl,List.take_zero]at this;rw[show([]:List (List Int))=qaM n (([]:List SB).map (SB.flip n))from rfl,this,ZB]
end
end Go.Av
end
section
namespace Go.Av
structure MdOK (n:Int) (k:Nat) (r:List Int×Int):Prop where
 bad:r.2≠0->r.1=[]
 len:r.2=0->r.1.length<=k
 let_:r.2=0-> ∀c∈r.1,qbF n c=true
theorem qmT {l:List zy} (hl:l.length*32<=140737488355328): ∀(K i:Nat),i<=l.length->l.length<K+i->yK l K (l.take i) (i:Int)=some l
 |0,i,h,hK=>by omega
 |K+1,i,h,hK=>by
  unfold yK;by_cases hi:i<l.length
  ·rw[if_pos (by omega),qp,Ya hi,ZB,qbh (by simp only[Ym,Yr,List.length_nil];omega) (by simp only[Ym,Yr,List.length_nil];omega),ZB,qH (by omega),<-List.take_succ_eq_append_getElem hi];exact qmT hl K (i+1) (by omega) (by omega)
  rw[if_neg (by omega),List.take_of_length_le (by omega)]
theorem qpI {N:Nat} {l:List zy} (hN:l.length<N) (hl:l.length*32<=140737488355328):qcF N l=some l:=by
 unfold qcF;have:=qmT hl N 0 (by omega) (by omega);rw[show((0:Nat):Int)=0 from rfl,List.take_zero]at this;rw[this,ZB]
theorem qpj {l:List zy} (hl:l.length<=200000): ∀(K i:Nat),i<=l.length->l.length<K+i-> ∃r,zY l K (i:Int)=some r/\(r= .inl ()\/r= .inr false)
 |0,i,h,hK=>by omega
 |K+1,i,h,hK=>by
  unfold zY;by_cases hi:i<l.length
  ·rw[if_pos (by omega),qp,Ya hi,ZB,qH (by omega)];split
   ·exact⟨_,rfl,.inr rfl⟩
   exact qpj hl K (i+1) (by omega) (by omega)
  rw[if_neg (by omega)];exact⟨_,rfl,.inl rfl⟩
theorem qoC {a b:List Int} (hl:a.length<=100000) (hab:a.length=b.length): ∀(K i:Nat),i<=a.length->a.length<K+i->jG a b K (i:Int)=some (if a.drop i=b.drop i then .inl ()else .inr false)
 |0,i,h,hK=>by omega
 |K+1,i,h,hK=>by
  unfold jG;by_cases hi:i<a.length
  ·have hb:i<b.length:=by omega
   rw[if_pos (by omega),qp,Ya hi,qp,Ya hb,ZB,ZB,YG hi,YG hb];by_cases c:a[i]=b[i]
   ·rw[decide_eq_true c,if_neg (by decide),qH (by omega),qoC hl hab K (i+1) (by omega) (by omega),c];simp only[List.cons.injEq,true_and]
   rw[decide_eq_false c,if_pos (by decide),if_neg (fun h=>c (List.cons.inj h).1)]
  rw[if_neg (by omega),List.drop_eq_nil_of_le (by omega),List.drop_eq_nil_of_le (by omega),if_pos rfl]
theorem qg6 {N:Nat} {a b:List Int} (hl:a.length<=100000) (hN:a.length<N):yA N a b=some (decide (a=b)):=by
 unfold yA;by_cases c:(a.length:Int)=(b.length:Int)
 ·have:=qoC hl (b:=b) (by omega) N 0 (by omega) (by omega);rw[show((0:Nat):Int)=0 from rfl,YR,YR]at this;rw[decide_eq_true c,if_neg (by decide),this];by_cases e:a=b
  ·rw[if_pos e,decide_eq_true e];rfl
  rw[if_neg e,decide_eq_false e];rfl
 rw[decide_eq_false c,if_pos (by decide),decide_eq_false (fun e=>c (by rw[e]))]
theorem qmk {a b:List Int} (hl:a.length<=100000) (hab:a.length=b.length): ∀(K i:Nat),i<=a.length->a.length<K+i->zG a b K (i:Int)=some (if a.drop i=b.drop i then .inl ()else .inr false)
 |0,i,h,hK=>by omega
 |K+1,i,h,hK=>by
  unfold zG;by_cases hi:i<a.length
  ·have hb:i<b.length:=by omega
   rw[if_pos (by omega),qp,Ya hi,qp,Ya hb,ZB,ZB,YG hi,YG hb];by_cases c:a[i]=b[i]
   ·rw[decide_eq_true c,if_neg (by decide),qH (by omega),qmk hl hab K (i+1) (by omega) (by omega),c];simp only[List.cons.injEq,true_and]
   rw[decide_eq_false c,if_pos (by decide),if_neg (fun h=>c (List.cons.inj h).1)]
  rw[if_neg (by omega),List.drop_eq_nil_of_le (by omega),List.drop_eq_nil_of_le (by omega),if_pos rfl]
theorem qhu {N:Nat} {a b:List Int} (hl:a.length<=100000) (hN:a.length<N):jr N a b=some (decide (a=b)):=by
 unfold jr;by_cases c:(a.length:Int)=(b.length:Int)
 ·have:=qmk hl (b:=b) (by omega) N 0 (by omega) (by omega);rw[show((0:Nat):Int)=0 from rfl,YR,YR]at this;rw[decide_eq_true c,if_neg (by decide),this];by_cases e:a=b
  ·rw[if_pos e,decide_eq_true e];rfl
  rw[if_neg e,decide_eq_false e];rfl
 rw[decide_eq_false c,if_pos (by decide),decide_eq_false (fun e=>c (by rw[e]))]
end Go.Av
end
section
namespace Go.Av
theorem qp6 {a b:List Int} (hl:a.length<=100000) (hab:a.length=b.length): ∀(K i:Nat),i<=a.length->a.length<K+i->jb a b K (i:Int)=some (if a.drop i=b.drop i then .inl ()else .inr false)
 |0,i,h,hK=>by omega
 |K+1,i,h,hK=>by
  unfold jb;by_cases hi:i<a.length
  ·have hb:i<b.length:=by omega
   rw[if_pos (by omega),qp,Ya hi,qp,Ya hb,ZB,ZB,YG hi,YG hb];by_cases c:a[i]=b[i]
   ·rw[decide_eq_true c,if_neg (by decide),qH (by omega),qp6 hl hab K (i+1) (by omega) (by omega),c];simp only[List.cons.injEq,true_and]
   rw[decide_eq_false c,if_pos (by decide),if_neg (fun h=>c (List.cons.inj h).1)]
  rw[if_neg (by omega),List.drop_eq_nil_of_le (by omega),List.drop_eq_nil_of_le (by omega),if_pos rfl]
theorem qss {N:Nat} {a b:List Int} (hl:a.length<=100000) (hN:a.length<N):slices_Equal_int N a b=some (decide (a=b)):=by
 unfold slices_Equal_int;by_cases c:(a.length:Int)=(b.length:Int)
 ·have:=qp6 hl (b:=b) (by omega) N 0 (by omega) (by omega);rw[show((0:Nat):Int)=0 from rfl,YR,YR]at this;rw[decide_eq_true c,if_neg (by decide),this];by_cases e:a=b
  ·rw[if_pos e,decide_eq_true e];rfl
  rw[if_neg e,decide_eq_false e];rfl
 rw[decide_eq_false c,if_pos (by decide),decide_eq_false (fun e=>c (by rw[e]))]
inductive WdB (n:Nat):SB->List Int->Prop
 |nil {s:SB} (h: ∀q,q+1<n-> ¬s.Begs q):WdB n s []
 |cons {s:SB} {i:Nat} {W:List Int} (hi:i+1<n) (hb:s.Begs i) (hm: ∀q,q<i-> ¬s.Begs q) (h:WdB n (s.fr i) W):WdB n s (((i+1:Nat):Int)::W)
theorem qoo: ∀l:List Nat,qhO l<=l.length*l.length
 |[]=>Nat.le_refl _
 |x::r=>by
  have h1:r.countP (fun y=>decide (y<x))<=r.length:=List.countP_le_length;have h2:=qoo r;simp only[qhO,Yr,Nat.add_mul,Nat.mul_add,Nat.one_mul,Nat.mul_one];omega
theorem SB.inv_le (n:Nat) (s:SB):s.inv n<=n*n:=by
 have:=qoo (s.row n)
 rwa [Uo]at this
theorem qth (x y:Int):cmp_Less_int x y=some (decide (x<y)):=by
 unfold cmp_Less_int cmp_isNaN_int;simp
section
variable {n:Nat} (hn:n<=12) (n1:1<=n)
include hn n1
theorem ql5 (s:SB): ∀(K i:Nat),i<n->i<K->(∀q,i<=q->q+1<n-> ¬s.Begs q)-> ∃r,zu (s.li n) K (i:Int)=some r/\((r= .inl ()/\ ∀q,q+1<n-> ¬s.Begs q)\/(r= .inr false/\ ∃q,q+1<n/\s.Begs q))
 |0,i,h,hK,hd=>by omega
 |K+1,i,h,hK,hd=>by
  unfold zu
  cases i with
  |zero=>
   rw[if_neg (by omega)];exact⟨_,rfl,.inl ⟨rfl,fun q hq=>hd q (Nat.zero_le _) hq⟩⟩
  |succ i=>
   have e:w64 (((i+1:Nat):Int)-1)=(i:Int):=by rw[qE (by omega) (by omega)];omega
   rw[if_pos (by omega),e,Un h,Un (by omega)];simp only[ZB,qth];by_cases a:s.f (i+1)<s.f i
   ·rw[decide_eq_true (show((s.f (i+1):Nat):Int)<(s.f i:Int)by omega),if_pos rfl];exact⟨_,rfl,.inr ⟨rfl,i,h,a⟩⟩
   rw[decide_eq_false (show¬((s.f (i+1):Nat):Int)<(s.f i:Int)by omega),if_neg (by decide)]
   refine ql5 s K i (by omega) (by omega) fun q h1 h2=>?_
   by_cases c:q=i
   ·subst c;exact a
   exact hd q (by omega) h2
theorem qrt {N:Nat} (hN:2000<N) (s:SB): ∃b,yL N (s.li n)=some b/\(b=true↔ ∀q,q+1<n-> ¬s.Begs q):=by
 unfold yL slices_IsSorted_int
 have e:w64 ((((s.li n).length:Nat):Int)-1)=((n-1:Nat):Int):=by rw[Ug,qE (by omega) (by omega)];omega
 obtain⟨r,r1,r2⟩:=ql5 hn n1 s N (n-1) (by omega) (by omega) (fun q h1 h2=>by omega);rw[e,r1];rcases r2 with⟨rfl,r3⟩|⟨rfl,q,q1,q2⟩
 ·exact⟨true,rfl,fun _=>r3,fun _=>rfl⟩
 exact⟨false,rfl,fun h=>(by cases h),fun h=>absurd q2 (h q q1)⟩
theorem qt2 {s:SB} (hs:s.Ok n):(∀q,q+1<n-> ¬s.Begs q)↔s.li n=xZ n:=by
 constructor
 ·intro h
  have lo: ∀k,k<n->k<=s.f k:=by
   intro k
   induction k with
   |zero=>exact fun _=>Nat.zero_le _
   |succ k ih=>
    intro hk;have h1:=ih (by omega);have h2:=h k hk
    have h3:s.f k≠s.f (k+1):=fun c=>by have:=s.finj c;omega
    have h4: ¬s.f (k+1)<s.f k:=h2;omega
  have hi: ∀d,d<n->s.f (n-1-d)<=n-1-d:=by
   intro d
   induction d with
   |zero=>
    intro hd;have:=hs.f_ (n-1-0) (by omega);omega
   |succ d ih=>
    intro hd;have h1:=ih (by omega);have h2: ¬s.f (n-1-(d+1)+1)<s.f (n-1-(d+1)):=h (n-1-(d+1)) (by omega)
    have h3:s.f (n-1-(d+1))≠s.f (n-1-(d+1)+1):=fun c=>by have:=s.finj c;omega
    have e:n-1-(d+1)+1=n-1-d:=by omega
    rw[e]at h2 h3;omega
  refine(U0 (xX n) fun k hk=>?_).symm;rw[qc9 hk];have h1:=lo k hk;have h2:=hi (n-1-k) (by omega);rw[show n-1-(n-1-k)=k by omega]at h2;congr 1;omega
 intro h q hq hb
 have e: ∀k,k<n->s.f k=k:=fun k hk=>SB.li_inj (t:=Uh) h hk
 have hb:s.f (q+1)<s.f q:=hb;rw[e _ hq,e _ (by omega)]at hb;omega
end
end Go.Av
end
section
namespace Go.Av
def yG (n m:Nat) (L:Nat->SB):List (List Int):=(List.range m).map fun q=>(L q).li n
theorem zK (n m:Nat) (L:Nat->SB):(yG n m L).length=m:=by simp[yG]
theorem xE {n m q:Nat} {L:Nat->SB} (h:q<m):(yG n m L)[q]? =some ((L q).li n):=by simp[yG,List.getElem?_range h]
theorem qmM {n m:Nat} {L:Nat->SB} {R:List (List Int)} (hl:R.length=m) (h: ∀q,q<m->R[q]? =some ((L q).li n)):R=yG n m L:=by
 apply List.ext_getElem?;intro q;by_cases hq:q<m
 ·rw[h q hq,xE hq]
 rw[Yg (by omega),Yg (by rw[zK];omega)]
theorem qpF {n m k i:Nat} {L:Nat->SB} (hk:k+1<m):((yG n m L).set k (((L k).bk i).li n)).set (k+1) (((L (k+1)).fr i).li n)=yG n m (psh L k i):=by
 refine qmM (by simp[zK]) fun q hq=>?_
 by_cases a:q=k+1
 ·subst a;rw[List.getElem?_set_self (by simp[zK];omega),jh]
 by_cases b:q=k
 ·subst b;rw[Yw (by omega),List.getElem?_set_self (by rw[zK];omega),yo]
 rw[Yw (by omega),Yw (by omega),xE hq,zV L b a]
def OkM (n m:Nat) (L:Nat->SB):Prop:= ∀q,q<m->(L q).Ok n
theorem OkM.psh {n m k i:Nat} {L:Nat->SB} (h:OkM n m L) (hk:k+1<m) (hi:i+1<n):OkM n m (psh L k i):=fun q hq=>by
 by_cases a:q=k
 ·subst a;rw[yo];exact(h q hq).bk hi
 by_cases b:q=k+1
 ·subst b;rw[jh];exact(h (k+1) hq).fr hi
 rw[zV L a b];exact h q hq
theorem qrb {n:Nat} {L:Nat->SB}: ∀m,mu5 n L m<=m*(m*(n*n))
 |0=>Nat.zero_le _
 |m+1=>by
  have h1:=qrb (n:=n) (L:=L) m;have h2:=Nat.mul_le_mul_left m ((L m).inv_le n);simp only[mu5,Nat.add_mul,Nat.mul_add,Nat.one_mul]at*;omega
section
variable {n m:Nat} (hn:n<=12) (n1:1<=n) (hm:m<=300) {N:Nat} (hN:2000<N)
include hn n1 hm hN
theorem qsv {L:Nat->SB} (hL:OkM n m L) {k:Nat} (hk:k+1<m):
 (∃i,qaN n m L k i/\yu N (k:Int) (yG n m L)=some (yG n m (psh L k i),true))\/((∀i,¬qaN n m L k i)/\yu N (k:Int) (yG n m L)=some (yG n m L,false)):=by
 unfold yu;rw[qp,xE (by omega),ZB,qH (by omega),qp,xE hk,ZB];rcases qnI (n:=n) (by omega) hN n1 (t:=L (k+1)) (hL k (by omega))with⟨j,j1,j2,j3,j4⟩|⟨j1,j2⟩
 ·left;refine⟨j,⟨hk,j1,j2,j3⟩,?_⟩;rw[j4,ZB];simp only[if_true];rw[qkh (by omega) hN (hL k (by omega)) j1,ZB,qgG (by omega) _ j1,ZB,kg (by rw[zK];omega),ZB,qp,Yw (by omega),xE hk,ZB,kg (by simp[zK];omega),ZB,ZB,qpF hk]
 right;refine⟨fun i c=>c.e_ (j1 i c.i_ c.b_),?_⟩;rw[j2,ZB];rfl
theorem qo8 {k:Nat} (hk:k+1<m): ∀(K:Nat) (L:Nat->SB) (b:Bool),OkM n m L->mu5 n L m<K->
 ∃(L':Nat->SB) (b':Bool),j5 N (k:Int) K (yG n m L) b=some (yG n m L',b')/\Pst n m L L'/\OkM n m L'/\(∀i,¬qaN n m L' k i)/\(∀q,q≠k->q≠k+1->L' q=L q)/\((b'=b/\L'=L)\/(b'=true/\mu5 n L' m<mu5 n L m))
 |0,L,b,hL,h=>by omega
 |K+1,L,b,hL,h=>by
  unfold j5;rcases qsv hn n1 hm hN hL hk with⟨i,c,e⟩|⟨c,e⟩
  ·have hmu:=qiw c;obtain⟨L',b',h1,h2,h3,h4,h5,h6⟩:=qo8 hk K (psh L k i) true (hL.psh hk c.i_) (by omega);rw[e,ZB];simp only[zK,if_true,ZB];refine⟨L',b',h1,.head (.mk c) h2,h3,h4,fun q q1 q2=>by rw[h5 q q1 q2,zV L q1 q2],?_⟩;rcases h6 with⟨g1,g2⟩|⟨g1,g2⟩
   ·subst g1 g2;exact .inr ⟨rfl,hmu⟩
   exact .inr ⟨g1,by omega⟩
  rw[e,ZB];simp only[zK,if_true,ZB,ZF,if_false];exact⟨L,b,rfl,.refl,hL,c,fun q _ _=>rfl,.inl ⟨rfl,rfl⟩⟩
theorem qlg (hmu: ∀L:Nat->SB,mu5 n L m<N): ∀(K k:Nat) (L:Nat->SB),OkM n m L->k<=m->2*mu5 n L m+(m-k)<K->(∀j,j<k-> ∀i,¬qaN n m L j i)->
 ∃A,j6 N K (yG n m L) (k:Int)=some (yG n m A)/\Pst n m L A/\Nf n m A/\OkM n m A
 |0,k,L,hL,hk,h,ht=>by omega
 |K+1,k,L,hL,hk,h,ht=>by
  unfold j6;rw[zK,qH (by omega)];by_cases c:k+1<m
  ·obtain⟨L',b',h1,h2,h3,h4,h5,h6⟩:=qo8 hn n1 hm hN c N L false hL (hmu L);rw[if_pos (by omega),h1];simp only[ZB]
   have tight: ∀j,j+1<k-> ∀i,¬qaN n m L' j i:=fun j hj i d=>ht j (by omega) i ⟨d.k_,d.i_,by have:=d.b_;rwa [h5 (j+1) (by omega) (by omega)]at this,by have:=d.e_;rwa [h5 j (by omega) (by omega)]at this⟩
   by_cases d:b'=true/\0<k
   ·obtain⟨d1,d2⟩:=d;subst d1;rcases h6 with⟨g1,_⟩|⟨_,g2⟩
    ·cases g1
    rw[if_pos rfl,decide_eq_true (show(k:Int)>0 by omega)];simp only[ZB,if_true];rw[show w64 ((k:Int)-1)=((k-1:Nat):Int)from qnK (by omega) d2];obtain⟨A,a1,a2,a3,a4⟩:=qlg hmu K (k-1) L' h3 (by omega) (by omega) (fun j hj=>tight j (by omega));exact⟨A,a1,h2.trans a2,a3,a4⟩
   have e:(if b'=true then some (decide ((k:Int)>0))else some false:Option Bool)=some false:=by
    cases b' with
    |false=>rfl
    |true=>rw[if_pos rfl,decide_eq_false (by have: ¬0<k:=fun g=>d ⟨rfl,g⟩;omega)]
   rw[e];simp only[ZB,ZF,if_false]
   have hmu2:mu5 n L' m<=mu5 n L m:=by
    rcases h6 with⟨_,g2⟩|⟨_,g2⟩
    ·rw[g2];exact Nat.le_refl _
    omega
   obtain⟨A,a1,a2,a3,a4⟩:=qlg hmu K (k+1) L' h3 (by omega) (by omega) (fun j hj i g=>by
    by_cases f:j=k
    ·subst f;exact h4 i g
    rcases h6 with⟨_,g2⟩|⟨g1,_⟩
    ·rw[g2]at g;exact ht j (by omega) i g
    exact d ⟨g1,by omega⟩)
   exact⟨A,a1,h2.trans a2,a3,a4⟩
  rw[if_neg (by omega)];exact⟨L,rfl,.refl,fun j i g=>by have:=g.k_;exact ht j (by omega) i g,hL⟩
end
end Go.Av
end
section
namespace Go.Av
def qbk (i:Nat) (p:List Nat):List Nat:=p.map (tr5 i)
def qfr:Nat->List Nat->List Nat
 |0,a::b::l=>b::a::l
 |i+1,a::l=>a::qfr i l
 |_,l=>l
def qnJ:List Nat->Nat->Nat
 |[],_=>0
 |a::_,0=>a
 |_::l,k+1=>qnJ l k
def qn3 (v:Nat):List Nat->Nat
 |[]=>0
 |a::l=>bif Nat.beq a v then 0 else qn3 v l+1
def qmw (i:Nat) (p:List Nat):Bool:=Nat.blt (qnJ p (i+1)) (qnJ p i)
def qlM (i:Nat) (p:List Nat):Bool:=Nat.blt (qn3 (i+1) p) (qn3 i p)
def qmA (s t:List Nat):Nat->Option Nat
 |0=>none
 |i+1=>bif qmw i t&&!qlM i s then some i else qmA s t i
def qgN (n:Nat):Nat->List Nat->List Nat->List Nat×List Nat
 |0,s,t=>(s,t)
 |K+1,s,t=>match qmA s t (n-1)with
  |none=>(s,t)
  |some i=>qgN n K (qbk i s) (qfr i t)
def qky (n:Nat):List Nat->List (List Nat)->List (List Nat)
 |x,[]=>[x]
 |x,s::r=>match qgN n (n*n) s x with
  |(s',x')=>x'::qky n s' r
theorem qpb: ∀(l:List Nat) (k:Nat),qnJ l k=l.getD k 0
 |[],k=>by simp[qnJ]
 |a::l,0=>rfl
 |a::l,k+1=>by rw[qnJ,qpb l k];rfl
theorem qoW: ∀(i:Nat) (l:List Nat) (k:Nat),i+1<l.length->(qfr i l)[k]? =l[tr5 i k]?
 |0,[],k,h=>by simp at h
 |0,[a],k,h=>by simp at h
 |0,a::b::l,0,h=>by simp[qfr,tr5]
 |0,a::b::l,1,h=>by simp[qfr,tr5]
 |0,a::b::l,k+2,h=>by simp[qfr,tr5]
 |i+1,[],k,h=>by simp at h
 |i+1,a::l,0,h=>by simp[qfr,tr5]
 |i+1,a::l,k+1,h=>by
  rw[qfr,YK,qoW i l k (by simp at h;omega)];rcases xH i k with⟨c,e⟩|⟨c,e⟩|⟨c,c',e⟩<;>rw[e]
  ·subst c;rw[qcO,YK]
  ·subst c;rw[qcM,YK]
  rw[vS (by omega) (by omega),YK]
theorem qlq (n i:Nat) (s:SB):(s.bk i).row n=qbk i (s.row n):=by
 unfold SB.row qbk;rw[List.map_map];rfl
theorem qlu {n i:Nat} (hi:i+1<n) (s:SB):(s.fr i).row n=qfr i (s.row n):=by
 apply List.ext_getElem?;intro k;rw[qoW i _ k (by rw[Uo];exact hi)];by_cases hk:k<n
 ·rw[Ul _ hk,Ul _ (qjG hi hk)];rfl
 rw[vS (by omega) (by omega),Yg (by rw[Uo];omega),Yg (by rw[Uo];omega)]
theorem qmI {n k:Nat} (s:SB) (h:k<n):qnJ (s.row n) k=s.f k:=by
 rw[qpb,Yy,Ul s h];rfl
theorem qo9: ∀(l:List Nat) (k v:Nat),l[k]? =some v->(∀j,j<k->l[j]? ≠some v)->qn3 v l=k
 |[],k,v,h,hj=>by simp at h
 |a::l,0,v,h,hj=>by
  simp at h;subst h;simp[qn3]
 |a::l,k+1,v,h,hj=>by
  have:=hj 0 (by omega)
  have ne:a≠v:=fun e=>this (by simp[e])
  have hb:Nat.beq a v=false:=by
   cases c:Nat.beq a v with
   |false=>rfl
   |true=>exact absurd (Nat.eq_of_beq_eq_true c) ne
  rw[qn3,hb,cond_false,qo9 l k v (by simpa using h) (fun j hjk=>by have:=hj (j+1) (by omega);simpa using this)]
theorem qmo {n v:Nat} {s:SB} (hs:s.Ok n) (h:v<n):qn3 v (s.row n)=s.g v:=by
 refine qo9 _ _ _ (by rw[Ul s (hs.g_ v h),s.fg]) (fun j hj=>?_);rw[Ul s (by have:=hs.g_ v h;omega)];intro e;have:=Ye e
 have e2:j=s.g v:=by rw[<-this,s.gf]
 omega
theorem qpJ {n i:Nat} (hi:i+1<n) (s:SB):qmw i (s.row n)=true↔s.Begs i:=by
 unfold qmw SB.Begs;rw[qmI s hi,qmI s (by omega)];simp[Nat.blt_eq]
theorem qpo {n i:Nat} (hi:i+1<n) {s:SB} (hs:s.Ok n):qlM i (s.row n)=true↔s.Ends i:=by
 unfold qlM SB.Ends;rw[qmo hs hi,qmo hs (by omega)];simp[Nat.blt_eq]
theorem qjc {s t:List Nat}: ∀{j i:Nat},qmA s t j=some i->i<j/\qmw i t=true/\qlM i s=false
 |0,i,h=>by cases h
 |j+1,i,h=>by
  unfold qmA at h
  cases c:(qmw j t&&!qlM j s)with
  |false=>
   rw[c,cond_false]at h;have:=qjc h;exact⟨by omega,this.2⟩
  |true=>
   rw[c,cond_true]at h;have:=Ye h;subst this;simp only[Bool.and_eq_true,Bool.not_eq_true']at c;exact⟨by omega,c⟩
theorem qi8 {n m k:Nat} (hk:k+1<m): ∀(K:Nat) (L:Nat->SB),OkM n m L-> ∃A,Pst n m L A/\qgN n K ((L k).row n) ((L (k+1)).row n)=((A k).row n,(A (k+1)).row n)/\(∀q,q≠k->q≠k+1->A q=L q)/\OkM n m A
 |0,L,hL=>⟨L,.refl,rfl,fun _ _ _=>rfl,hL⟩
 |K+1,L,hL=>by
  unfold qgN
  cases c:qmA ((L k).row n) ((L (k+1)).row n) (n-1)with
  |none=>exact⟨L,.refl,rfl,fun _ _ _=>rfl,hL⟩
  |some i=>
   obtain⟨h1,h2,h3⟩:=qjc c
   have hi:i+1<n:=by omega
   have can:qaN n m L k i:=⟨hk,hi,(qpJ hi _).1 h2,fun e=>by
    have:=(qpo hi (hL k (by omega))).2 e;rw[h3]at this
    cases this⟩
   obtain⟨A,a1,a2,a3,a4⟩:=qi8 hk K (psh L k i) (hL.psh hk hi);refine⟨A,.head (.mk can) a1,?_,fun q q1 q2=>by rw[a3 q q1 q2,zV L q1 q2],a4⟩;dsimp only;rw[yo,jh,qlq,qlu hi]at a2;exact a2
def qbO (n:Nat) (L:Nat->SB):Nat->List (List Nat)
 |0=>[]
 |k+1=>(L k).row n::qbO n L k
theorem qjO {n:Nat} {L A:Nat->SB}: ∀{k:Nat},(∀q,q<k->A q=L q)->qbO n A k=qbO n L k
 |0,h=>rfl
 |k+1,h=>by rw[qbO,qbO,h k (by omega),qjO fun q hq=>h q (by omega)]
theorem qmP {n m:Nat}: ∀(k:Nat) (L:Nat->SB),k<m->OkM n m L-> ∃A,Pst n m L A/\qky n ((L k).row n) (qbO n L k)=qbO n A (k+1)/\(∀q,k<q->A q=L q)/\OkM n m A
 |0,L,hk,hL=>⟨L,.refl,rfl,fun _ _=>rfl,hL⟩
 |k+1,L,hk,hL=>by
  obtain⟨B,b1,b2,b3,b4⟩:=qi8 (n:=n) (m:=m) (k:=k) hk (n*n) L hL;obtain⟨A,a1,a2,a3,a4⟩:=qmP k B (by omega) b4;refine⟨A,b1.trans a1,?_,fun q hq=>by rw[a3 q (by omega),b3 q (by omega) (by omega)],a4⟩;rw[qbO,qky,b2];dsimp only;rw[qjO (A:=L) (L:=B) fun q hq=>(b3 q (by omega) (by omega)).symm,a2,<-a3 (k+1) (by omega)];rfl
end Go.Av
end
section
namespace Go.Av
theorem qaN.up {n m k i:Nat} {L:Nat->SB} (h:qaN n m L k i):qaN n (m+1) L k i:=⟨by have:=h.k_;omega,h.i_,h.b_,h.e_⟩
theorem Pst.up {n m:Nat} {L A:Nat->SB} (h:Pst n m L A):Pst n (m+1) L A:=by
 induction h with
 |refl=>exact .refl
 |head h _ ih=>cases h with|mk h=>exact .head (.mk h.up) ih
def qjl (L:Nat->SB) (m:Nat) (s:SB):Nat->SB:=fun q=>if q=m then s else L q
theorem qiL (L:Nat->SB) (m:Nat) (s:SB):qjl L m s m=s:=if_pos rfl
theorem qfD {L:Nat->SB} {m q:Nat} {s:SB} (h:q≠m):qjl L m s q=L q:=if_neg h
theorem qrf {L:Nat->SB} {m k i:Nat} {s:SB} (h:k+1<m):psh (qjl L m s) k i=qjl (psh L k i) m s:=by
 funext q;by_cases a:q=m
 ·subst a;rw[qiL,zV _ (by omega) (by omega),qiL]
 rw[qfD a];by_cases b:q=k
 ·subst b;rw[yo,yo,qfD a]
 by_cases c:q=k+1
 ·subst c;rw[jh,jh,qfD a]
 rw[zV _ b c,zV _ b c,qfD a]
theorem Pst.upd {n m:Nat} {L A:Nat->SB} (h:Pst n m L A) (s:SB):Pst n m (qjl L m s) (qjl A m s):=by
 induction h with
 |refl=>exact .refl
 |head h _ ih=>
  cases h with
  |@mk k i h=>
   have hk:=h.k_;refine .head (L1:=qjl (psh _ k i) m s) ?_ ih;rw[<-qrf hk];refine .mk ⟨hk,h.i_,?_,?_⟩
   ·rw[qfD (by omega)];exact h.b_
   rw[qfD (by omega)];exact h.e_
theorem Pst.beyond {n m:Nat} {L A:Nat->SB} (h:Pst n m L A): ∀q,m<=q->A q=L q:=by
 induction h with
 |refl=>exact fun _ _=>rfl
 |head h _ ih=>
  cases h with
  |mk h=>
   intro q hq;have:=h.k_;rw[ih q hq,zV _ (by omega) (by omega)]
theorem qbg {n k:Nat} (h:k<n):rv5 n k=n-1-k:=if_pos h
theorem qqK {n i:Nat} (hi:i+1<n) (k:Nat):rv5 n (tr5 i k)=tr5 (n-2-i) (rv5 n k):=by
 by_cases hk:k<n
 ·have e:=qbg hk;rcases xH i k with⟨a,b⟩|⟨a,b⟩|⟨a,a',b⟩<;>rw[b]
  ·subst a;rw[e,qbg (by omega),show n-1-k=n-2-k+1 by omega,qcM];omega
  ·subst a;rw[e,qbg (by omega),show n-1-(i+1)=n-2-i by omega,qcO];omega
  rw[e,vS (by omega) (by omega)]
 rw[vS (by omega) (by omega)];have:rv5 n k=k:=if_neg hk;rw[this,vS (by omega) (by omega)]
theorem qoR {n i:Nat} (hi:i+1<n) (s:SB):(s.bk i).flip n=(s.flip n).bk (n-2-i):=SB.ext fun k=>by
 show rv5 n (tr5 i (s.f (rv5 n k)))=tr5 (n-2-i) (rv5 n (s.f (rv5 n k)));exact qqK hi _
theorem qoN {n i:Nat} (hi:i+1<n) (s:SB):(s.fr i).flip n=(s.flip n).fr (n-2-i):=SB.ext fun k=>by
 show rv5 n (s.f (tr5 i (rv5 n k)))=rv5 n (s.f (rv5 n (tr5 (n-2-i) k)));have:=qqK (n:=n) (i:=n-2-i) (by omega) k;rw[show n-2-(n-2-i)=i by omega]at this;rw[this]
theorem qpy {n i:Nat} (hi:i+1<n) {s:SB} (hs:s.Ok n) (h:s.Begs i):(s.flip n).Begs (n-2-i):=by
 unfold SB.Begs at*;show rv5 n (s.f (rv5 n (n-2-i+1)))<rv5 n (s.f (rv5 n (n-2-i)));have h1:=hs.f_ i (by omega);have h2:=hs.f_ (i+1) hi;rw[qbg (k:=n-2-i+1) (by omega),qbg (k:=n-2-i) (by omega),show n-1-(n-2-i+1)=i by omega,show n-1-(n-2-i)=i+1 by omega,qbg h1,qbg h2];omega
theorem qpC {n i:Nat} (hi:i+1<n) {s:SB} (hs:s.Ok n) (h: ¬s.Ends i): ¬(s.flip n).Ends (n-2-i):=by
 have h:=SB.nEnds h;unfold SB.Ends;show¬rv5 n (s.g (rv5 n (n-2-i+1)))<rv5 n (s.g (rv5 n (n-2-i)));have h1:=hs.g_ i (by omega);have h2:=hs.g_ (i+1) hi;rw[qbg (k:=n-2-i+1) (by omega),qbg (k:=n-2-i) (by omega),show n-1-(n-2-i+1)=i by omega,show n-1-(n-2-i)=i+1 by omega,qbg h1,qbg h2];omega
def qeq (n:Nat) (L:Nat->SB):Nat->SB:=fun q=>(L q).flip n
theorem qpD {n k i:Nat} (hi:i+1<n) (L:Nat->SB):psh (qeq n L) k (n-2-i)=qeq n (psh L k i):=by
 funext q;by_cases b:q=k
 ·subst b;rw[yo];unfold qeq;rw[yo,qoR hi]
 by_cases c:q=k+1
 ·subst c;rw[jh];unfold qeq;rw[jh,qoN hi]
 rw[zV _ b c];unfold qeq;rw[zV _ b c]
theorem OkM.flip {n m:Nat} {L:Nat->SB} (h:OkM n m L):OkM n m (qeq n L):=fun q hq=>(h q hq).flip
theorem Pst.flip {n m:Nat} {L A:Nat->SB} (h:Pst n m L A) (hL:OkM n m L):Pst n m (qeq n L) (qeq n A)/\OkM n m A:=by
 induction h with
 |refl=>exact⟨.refl,hL⟩
 |head h _ ih=>
  cases h with
  |@mk k i h=>
   have hk:=h.k_;have hi:=h.i_;obtain⟨a,b⟩:=ih (hL.psh hk hi);refine⟨.head (L1:=qeq n (psh _ k i)) ?_ a,b⟩;rw[<-qpD hi];exact .mk ⟨hk,by omega,qpy hi (hL _ hk) h.b_,qpC hi (hL _ (by omega)) h.e_⟩
def qkS (n:Nat) (p:List Nat):List Nat:=p.reverse.map fun k=>n-1-k
def qe6 (n:Nat):List Nat:=(List.range n).reverse
theorem qfi (n:Nat):(Uf n).row n=qe6 n:=by
 apply List.ext_getElem?;intro k;unfold qe6;by_cases hk:k<n
 ·rw[Ul _ hk,List.getElem?_reverse (by simpa using hk)];simp only[List.length_range];rw[List.getElem?_range (by omega)];show some (rv5 n k)=_;rw[qbg hk]
 rw[Yg (by rw[Uo];omega),Yg (by simp;omega)]
theorem qjw (n:Nat):Uh.row n=List.range n:=by
 unfold SB.row;exact List.map_id' _
theorem qlX {n:Nat} {s:SB} (hs:s.Ok n):(s.flip n).row n=qkS n (s.row n):=by
 apply List.ext_getElem?;intro k;unfold qkS;by_cases hk:k<n
 ·rw[Ul _ hk,YA,List.getElem?_reverse (by rw[Uo];exact hk),Uo,Ul _ (by omega)];show some (rv5 n (s.f (rv5 n k)))=_;rw[qbg hk,qbg (hs.f_ _ (by omega))];rfl
 rw[Yg (by rw[Uo];omega),Yg (by simp[Uo];omega)]
theorem qjt {n m:Nat} {L:Nat->SB} (hL:OkM n m L): ∀{k:Nat},k<=m->qbO n (qeq n L) k=(qbO n L k).map (qkS n)
 |0,h=>rfl
 |k+1,h=>by
  rw[qbO,qbO,List.map_cons,qjt hL (k:=k) (by omega),<-qlX (hL k (by omega))];rfl
def qae (l:List SB):Nat->SB:=fun q=>l.getD q Uh
def qei (n:Nat) (l:List SB) (c:Int):List SB:=if 0<c then l++[Uh.fr (c.natAbs-1)]else l.map (SB.flip n)++[(Uf n).bk (c.natAbs-1)]
theorem qrh (l:List SB) (s:SB):qae (l++[s])=qjl (qae l) l.length s:=by
 funext q
 show(l++[s]).getD q Uh=if q=l.length then s else l.getD q Uh
 rw[Yy,Yy];by_cases h:q=l.length
 ·subst h;simp
 rw[if_neg h];by_cases h2:q<l.length
 ·rw[Yf h2]
 rw[Yg (by simp;omega),Yg (by omega)]
theorem qhN (n:Nat) (l:List SB):qae (l.map (SB.flip n))=qeq n (qae l):=by
 funext q;show(l.map (SB.flip n)).getD q Uh=(l.getD q Uh).flip n;rw[Yy,Yy,YA]
 cases l[q]? with
 |some s=>rfl
 |none=>
  refine SB.ext fun k=>?_
  show k=rv5 n (rv5 n k);rw[qb1]
def qoI (n:Nat) (R:List (List Nat)) (c:Int):List (List Nat):=
 if 0<c then qky n (qfr (c.natAbs-1) (List.range n)) R else qky n (qbk (c.natAbs-1) (qe6 n)) (R.map (qkS n))
structure QOK (n:Nat) (l:List SB) (R:List (List Nat)):Prop where
 ok: ∀s∈l,s.Ok n
 ex: ∃A,Pst n l.length (qae l) A/\OkM n l.length A/\R=qbO n A l.length
theorem qfY {n:Nat} {l:List SB} (h: ∀s∈l,s.Ok n):OkM n l.length (qae l):=fun q hq=>by
 unfold qae;rw[Yy,Ya hq];exact h _ (List.getElem_mem hq)
theorem QOK.step {n:Nat} {l:List SB} {R:List (List Nat)} (h:QOK n l R) {c:Int} (hc:c≠0/\ -(n:Int)<c/\c<n):QOK n (qei n l c) (qoI n R c)/\(qei n l c).length=l.length+1:=by
 obtain⟨i,hi⟩: ∃i,c.natAbs=i+1:=⟨c.natAbs-1,by omega⟩
 have hin:i+1<n:=by omega
 obtain⟨A,a1,a2,rfl⟩:=h.ex
 have key: ∀{l':List SB} {B:Nat->SB} {s:SB},l'.length=l.length->(∀t∈l',t.Ok n)->s.Ok n->Pst n l.length (qae l') B->OkM n l.length B->QOK n (l'++[s]) (qky n (s.row n) (qbO n B l.length)):=fun {l' B s} hl hk hs p ok=>by
  refine⟨fun t ht=>(List.mem_append.1 ht).elim (hk t) (fun e=>by rw[List.mem_singleton.1 e];exact hs),?_⟩
  have ok':OkM n (l.length+1) (qjl B l.length s):=fun q hq=>by
   by_cases e:q=l.length
   ·subst e;rw[qiL];exact hs
   rw[qfD e];exact ok q (by omega)
  obtain⟨D,d1,d2,d3,d4⟩:=qmP (n:=n) (m:=l.length+1) l.length (qjl B l.length s) (by omega) ok';rw[qiL,qjO (A:=qjl B l.length s) (L:=B) fun q hq=>qfD (by omega)]at d2;rw[qrh,Yq,hl];refine⟨D,?_,d4,d2⟩;have:=(p.upd s).up;exact this.trans d1
 unfold qei qoI;rw[hi,Nat.add_sub_cancel];by_cases hp:0<c
 ·rw[if_pos hp,if_pos hp];refine⟨?_,by simp⟩;have:=key (s:=Uh.fr i) rfl h.ok ((Uv n).fr hin) a1 a2
  rwa [qlu hin,qjw]at this
 rw[if_neg hp,if_neg hp];refine⟨?_,by simp⟩;obtain⟨f1,f2⟩:=a1.flip (qfY h.ok)
 have:=key (l':=l.map (SB.flip n)) (B:=qeq n A) (s:=(Uf n).bk i) (by simp) (fun t ht=>by
  obtain⟨u,hu,rfl⟩:=List.mem_map.1 ht
  exact(h.ok u hu).flip) ((Us n).bk hin) (by rw[qhN];exact f1) a2.flip
 rwa [qlq,qfi,qjt a2 (Nat.le_refl _)]at this
end Go.Av
end
section
namespace Go.Av
def jnL (a:Nat) (P L:Nat->SB):Nat->SB:=fun q=>if q<a then P q else L (q-a)
theorem qcj {a q:Nat} {P L:Nat->SB} (h:q<a):jnL a P L q=P q:=if_pos h
theorem qcH {a k:Nat} {P L:Nat->SB}:jnL a P L (a+k)=L k:=by
 unfold jnL;rw[if_neg (by omega),Nat.add_sub_cancel_left]
theorem qgU (p l:List SB):qae (p++l)=jnL p.length (qae p) (qae l):=by
 funext q;unfold jnL qae;by_cases h:q<p.length
 ·rw[if_pos h,Yy,Yf h,Yy]
 rw[if_neg h,Yy,Yo (by omega),Yy]
theorem qr4 {a k i:Nat} {P L:Nat->SB}:psh (jnL a P L) (a+k) i=jnL a P (psh L k i):=by
 funext q;by_cases h:q<a
 ·rw[zV _ (by omega) (by omega),qcj h,qcj h]
 obtain⟨j,rfl⟩: ∃j,q=a+j:=⟨q-a,by omega⟩;rw[qcH];by_cases h1:j=k
 ·subst h1;rw[yo,yo,qcH]
 by_cases h2:j=k+1
 ·subst h2;rw[show a+(k+1)=a+k+1 by omega,jh,jh,show a+k+1=a+(k+1)by omega,qcH]
 rw[zV _ (by omega) (by omega),zV _ h1 h2,qcH]
theorem qqB {a k i:Nat} {P L:Nat->SB} (hk:k+1<a):psh (jnL a P L) k i=jnL a (psh P k i) L:=by
 funext q;by_cases h1:q=k
 ·subst h1;rw[yo,qcj (by omega),qcj (by omega),yo]
 by_cases h2:q=k+1
 ·subst h2;rw[jh,qcj hk,qcj hk,jh]
 rw[zV _ h1 h2];by_cases h:q<a
 ·rw[qcj h,qcj h,zV _ h1 h2]
 unfold jnL;rw[if_neg h,if_neg h]
theorem Pst.pre {n m a:Nat} {P L A:Nat->SB} (h:Pst n m L A):Pst n (a+m) (jnL a P L) (jnL a P A):=by
 induction h with
 |refl=>exact .refl
 |head h _ ih=>
  cases h with
  |@mk k i h=>
   refine .head (L1:=jnL a P (psh _ k i)) ?_ ih;rw[<-qr4];refine .mk ⟨by have:=h.k_;omega,h.i_,?_,?_⟩
   ·rw[show a+k+1=a+(k+1)by omega,qcH];exact h.b_
   rw[qcH];exact h.e_
theorem Pst.suf {n m a:Nat} {P A L:Nat->SB} (h:Pst n a P A):Pst n (a+m) (jnL a P L) (jnL a A L):=by
 induction h with
 |refl=>exact .refl
 |head h _ ih=>
  cases h with
  |@mk k i h=>
   have hk:=h.k_;refine .head (L1:=jnL a (psh _ k i) L) ?_ ih;rw[<-qqB hk];refine .mk ⟨by omega,h.i_,?_,?_⟩
   ·rw[qcj hk];exact h.b_
   rw[qcj (by omega)];exact h.e_
structure Jn (n:Nat) (l l':List SB):Prop where
 len:l.length=l'.length
 o1: ∀s∈l,s.Ok n
 o2: ∀s∈l',s.Ok n
 meet: ∃D,Pst n l.length (qae l) D/\Pst n l.length (qae l') D
theorem Jn.refl {n:Nat} {l:List SB} (h: ∀s∈l,s.Ok n):Jn n l l:=⟨rfl,h,h,_,.refl,.refl⟩
theorem Jn.symm {n:Nat} {l l':List SB} (h:Jn n l l'):Jn n l' l:=by
 obtain⟨D,a,b⟩:=h.meet;exact⟨h.len.symm,h.o2,h.o1,D,h.len▸b,h.len▸a⟩
theorem Jn.trans {n:Nat} {l l' l2:List SB} (h:Jn n l l') (k:Jn n l' l2):Jn n l l2:=by
 obtain⟨D,a,b⟩:=h.meet;obtain⟨E,c,d⟩:=k.meet;rw[<-h.len]at c d;obtain⟨F,f1,f2⟩:=qkN _ D (Nat.le_refl _);obtain⟨G,g1,g2⟩:=qkN _ E (Nat.le_refl _);obtain rfl:=qgM _ (Nat.le_refl _) (b.trans f1) (c.trans g1) f2 g2;exact⟨h.len.trans k.len,h.o1,k.o2,F,a.trans f1,d.trans g1⟩
theorem Jn.app {n:Nat} {p p' l l':List SB} (h:Jn n p p') (k:Jn n l l'):Jn n (p++l) (p'++l'):=by
 obtain⟨D,a,b⟩:=h.meet;obtain⟨E,c,d⟩:=k.meet;refine⟨by rw[Yq,Yq,h.len,k.len],fun s hs=>(List.mem_append.1 hs).elim (h.o1 s) (k.o1 s),fun s hs=>(List.mem_append.1 hs).elim (h.o2 s) (k.o2 s),jnL p.length D E,?_,?_⟩
 ·rw[qgU,Yq];exact a.suf.trans c.pre
 rw[qgU,Yq,<-h.len];exact b.suf.trans d.pre
theorem Jn.flip {n:Nat} {l l':List SB} (h:Jn n l l'):Jn n (l.map (SB.flip n)) (l'.map (SB.flip n)):=by
 obtain⟨D,a,b⟩:=h.meet;have f1:=(a.flip (qfY h.o1)).1;have f2:=(b.flip (by rw[h.len];exact qfY h.o2)).1;refine⟨by simp[h.len],fun s hs=>?_,fun s hs=>?_,qeq n D,?_,?_⟩
 ·obtain⟨u,hu,rfl⟩:=List.mem_map.1 hs;exact(h.o1 u hu).flip
 ·obtain⟨u,hu,rfl⟩:=List.mem_map.1 hs;exact(h.o2 u hu).flip
 ·rw[qhN,List.length_map];exact f1
 rw[qhN,List.length_map];exact f2
theorem Jn.nf {n:Nat} {l l':List SB} (h:Jn n l l') {A:Nat->SB} (a:Pst n l.length (qae l) A) (nA:Nf n l.length A):Pst n l'.length (qae l') A:=by
 obtain⟨D,d1,d2⟩:=h.meet;obtain⟨E,e1,e2⟩:=qkN _ D (Nat.le_refl _);obtain rfl:=qgM _ (Nat.le_refl _) a (d1.trans e1) nA e2;rw[<-h.len];exact d2.trans e1
def SB.Fix (n:Nat) (s:SB):Prop:= ∀k,n<=k->s.f k=k
theorem SB.Fix.fr {n i:Nat} {s:SB} (h:s.Fix n) (hi:i+1<n):(s.fr i).Fix n:=fun k hk=>by
 show s.f (tr5 i k)=k;rw[vS (by omega) (by omega)];exact h k hk
theorem SB.Fix.bk {n i:Nat} {s:SB} (h:s.Fix n) (hi:i+1<n):(s.bk i).Fix n:=fun k hk=>by
 show tr5 i (s.f k)=k;rw[h k hk,vS (by omega) (by omega)]
theorem qnn {n k:Nat} (h:n<=k):rv5 n k=k:=if_neg (by omega)
theorem SB.Fix.flip {n:Nat} {s:SB} (h:s.Fix n):(s.flip n).Fix n:=fun k hk=>by
 show rv5 n (s.f (rv5 n k))=k;rw[qnn hk,h k hk,qnn hk]
theorem U9 (n:Nat):Uh.Fix n:=fun _ _=>rfl
theorem U7 (n:Nat):(Uf n).Fix n:=fun k hk=>qnn hk
theorem qtd {n:Nat} {s t:SB} (hs:s.Fix n) (ht:t.Fix n) (h:s.row n=t.row n):s=t:=SB.ext fun k=>by
 by_cases hk:k<n
 ·have a:=Ul s hk;rw[h,Ul t hk]at a;exact(Ye a).symm
 rw[hs k (by omega),ht k (by omega)]
theorem Pst.fix {n m:Nat} {L A:Nat->SB} (h:Pst n m L A) (hL: ∀q,(L q).Fix n): ∀q,(A q).Fix n:=by
 induction h with
 |refl=>exact hL
 |head h _ ih=>
  cases h with
  |@mk k i h=>
   refine ih fun q=>?_
   by_cases h1:q=k
   ·subst h1;rw[yo];exact(hL q).bk h.i_
   by_cases h2:q=k+1
   ·subst h2;rw[jh];exact(hL _).fr h.i_
   rw[zV _ h1 h2];exact hL q
theorem qlL {n:Nat} {l:List SB} (h: ∀s∈l,s.Fix n): ∀q,(qae l q).Fix n:=fun q=>by
 unfold qae;rw[Yy]
 cases e:l[q]? with
 |none=>exact U9 n
 |some s=>exact h s (Yn e)
theorem qh8 {l:List SB} {q:Nat} (h:l.length<=q):qae l q=Uh:=by
 unfold qae;rw[Yy,Yg h];rfl
theorem qhJ (n:Nat) (L:Nat->SB): ∀k,(qbO n L k).length=k
 |0=>rfl
 |k+1=>by rw[qbO,Yr,qhJ n L k]
theorem qkT {n:Nat} {A B:Nat->SB}: ∀{k:Nat},qbO n A k=qbO n B k-> ∀q,q<k->(A q).row n=(B q).row n
 |0,h,q,hq=>by omega
 |k+1,h,q,hq=>by
  rw[qbO,qbO]at h;injection h with h1 h2;by_cases e:q=k
  ·subst e;exact h1
  exact qkT h2 q (by omega)
theorem qiG {n:Nat} {l l':List SB} {R:List (List Nat)} (h:QOK n l R) (h':QOK n l' R) (f: ∀s∈l,s.Fix n) (f': ∀s∈l',s.Fix n):Jn n l l':=by
 obtain⟨A,a1,a2,a3⟩:=h.ex;obtain⟨B,b1,b2,b3⟩:=h'.ex
 have hl:l.length=l'.length:=by
  have:=congrArg List.length a3;rw[b3,qhJ,qhJ]at this;exact this.symm
 have e:A=B:=by
  funext q;by_cases hq:q<l.length
  ·refine qtd (a1.fix (qlL f) q) (b1.fix (qlL f') q) ?_;rw[<-hl]at b3;exact qkT (a3.symm.trans b3) q hq
  rw[a1.beyond q (by omega),b1.beyond q (by omega),qh8 (by omega),qh8 (by omega)]
 subst e;exact⟨hl,h.ok,h'.ok,A,a1,hl▸b1⟩
def fac (n:Nat) (w:List Int):List SB:=w.foldl (qei n) []
def flW (n:Nat) (w:List Int) (p:List SB):List SB:=w.foldl (fun p c=>if 0<c then p else p.map (SB.flip n)) p
theorem qrq (n:Nat) (p l:List SB) (c:Int):qei n (p++l) c=(if 0<c then p else p.map (SB.flip n))++qei n l c:=by
 unfold qei;split
 ·rw[Yz]
 rw[List.map_append,Yz]
theorem qku (n:Nat): ∀(w:List Int) (p l:List SB),w.foldl (qei n) (p++l)=flW n w p++w.foldl (qei n) l
 |[],p,l=>rfl
 |c::w,p,l=>by
  rw[List.foldl_cons,qrq,qku n w,List.foldl_cons];rfl
theorem qex (n:Nat) (u v:List Int):fac n (u++v)=flW n v (fac n u)++fac n v:=by
 unfold fac;rw[List.foldl_append];have:=qku n v (u.foldl (qei n) []) [];rw[YQ]at this;exact this
def qap (n:Nat) (w:List Int):Prop:= ∀c∈w,c≠0/\ -(n:Int)<c/\c<n
theorem qap.app {n:Nat} {u v:List Int} (h:qap n u) (k:qap n v):qap n (u++v):=fun c hc=>(List.mem_append.1 hc).elim (h c) (k c)
theorem qap.left {n:Nat} {u v:List Int} (h:qap n (u++v)):qap n u:=fun c hc=>h c (List.mem_append_left _ hc)
theorem qap.right {n:Nat} {u v:List Int} (h:qap n (u++v)):qap n v:=fun c hc=>h c (List.mem_append_right _ hc)
def Gd (n:Nat) (s:SB):Prop:= ∃i,i+1<n/\(s=Uh.fr i\/s=(Uf n).bk i)
theorem qot (n:Nat):Uh.flip n=Uh:=SB.ext fun k=>qb1 n k
theorem qkL (n:Nat):(Uf n).flip n=Uf n:=SB.ext fun k=>by
 show rv5 n (rv5 n (rv5 n k))=rv5 n k;rw[qb1]
theorem Gd.flip {n:Nat} {s:SB} (h:Gd n s):Gd n (s.flip n):=by
 obtain⟨i,hi,h|h⟩:=h<;>subst h
 ·exact⟨n-2-i,by omega,.inl (by rw[qoN hi,qot])⟩
 exact⟨n-2-i,by omega,.inr (by rw[qoR hi,qkL])⟩
theorem Gd.ok {n:Nat} {s:SB} (h:Gd n s):s.Ok n:=by
 obtain⟨i,hi,h|h⟩:=h<;>subst h
 ·exact(Uv n).fr hi
 exact(Us n).bk hi
theorem Gd.fix {n:Nat} {s:SB} (h:Gd n s):s.Fix n:=by
 obtain⟨i,hi,h|h⟩:=h<;>subst h
 ·exact(U9 n).fr hi
 exact(U7 n).bk hi
theorem qsS {n:Nat} {l:List SB} (h: ∀s∈l,Gd n s) {c:Int} (hc:c≠0/\ -(n:Int)<c/\c<n): ∀s∈qei n l c,Gd n s:=fun s hs=>by
 unfold qei at hs;split at hs
 ·rcases List.mem_append.1 hs with hs|hs
  ·exact h s hs
  rw[List.mem_singleton.1 hs];exact⟨c.natAbs-1,by omega,.inl rfl⟩
 rcases List.mem_append.1 hs with hs|hs
 ·obtain⟨u,hu,rfl⟩:=List.mem_map.1 hs;exact(h u hu).flip
 rw[List.mem_singleton.1 hs];exact⟨c.natAbs-1,by omega,.inr rfl⟩
theorem qpe {n:Nat}: ∀{w:List Int} {l:List SB},(∀s∈l,Gd n s)->qap n w-> ∀s∈w.foldl (qei n) l,Gd n s
 |[],l,h,hw=>h
 |c::w,l,h,hw=>qpe (w:=w) (qsS h (hw c (List.mem_cons_self ..))) (fun d hd=>hw d (List.mem_cons_of_mem _ hd))
theorem qdz {n:Nat} {w:List Int} (hw:qap n w): ∀s∈fac n w,Gd n s:=qpe (fun s hs=>by cases hs) hw
theorem qrV (n:Nat) (l:List SB) (c:Int):(qei n l c).length=l.length+1:=by unfold qei;split<;>simp
theorem qkw (n:Nat): ∀(w:List Int) (l:List SB),(w.foldl (qei n) l).length=l.length+w.length
 |[],l=>rfl
 |c::w,l=>by rw[List.foldl_cons,qkw n w,qrV,Yr];omega
theorem qcu (n:Nat) (w:List Int):(fac n w).length=w.length:=by unfold fac;rw[qkw];simp
def qW (n:Nat) (w:List Int):List (List Nat):=w.foldl (qoI n) []
theorem qqD {n:Nat}: ∀(w:List Int) {l:List SB} {R:List (List Nat)},QOK n l R->qap n w->QOK n (w.foldl (qei n) l) (w.foldl (qoI n) R)
 |[],l,R,h,hw=>h
 |c::w,l,R,h,hw=>qqD w (h.step (hw c (List.mem_cons_self ..))).1 (fun d hd=>hw d (List.mem_cons_of_mem _ hd))
theorem qlS {n:Nat} {w:List Int} (hw:qap n w):QOK n (fac n w) (qW n w):=
 qqD w ⟨fun s h=>(by cases h),⟨qae [],Pst.refl,fun q hq=>absurd hq (Nat.not_lt_zero q),rfl⟩⟩ hw
theorem qnd {n:Nat}: ∀(w:List Int) {l l':List SB},Jn n l l'->Jn n (flW n w l) (flW n w l')
 |[],l,l',h=>h
 |c::w,l,l',h=>by
  unfold flW;rw[List.foldl_cons,List.foldl_cons];refine qnd w ?_;split
  ·exact h
  exact h.flip
theorem qiB (n:Nat): ∀(w:List Int) (p q:List SB),flW n w (p++q)=flW n w p++flW n w q
 |[],p,q=>rfl
 |c::w,p,q=>by
  unfold flW;rw[List.foldl_cons,List.foldl_cons,List.foldl_cons];split
  ·exact qiB n w p q
  rw[List.map_append];exact qiB n w _ _
theorem qnE {n:Nat}: ∀(w:List Int) {l:List SB},(∀s∈l,Gd n s)-> ∀s∈flW n w l,Gd n s
 |[],l,h=>h
 |c::w,l,h=>by
  unfold flW;rw[List.foldl_cons];refine qnE w ?_;split
  ·exact h
  intro s hs;obtain⟨u,hu,rfl⟩:=List.mem_map.1 hs;exact(h u hu).flip
theorem qiE {n:Nat} {s:SB} (h:s.flip n=s): ∀w:List Int,flW n w [s]=[s]
 |[]=>rfl
 |c::w=>by
  unfold flW;rw[List.foldl_cons];split
  ·exact qiE h w
  rw[List.map_singleton,h];exact qiE h w
theorem qjp {n:Nat} {l:List SB} (h: ∀s∈l,Gd n s):Jn n l l:= .refl fun s hs=>(h s hs).ok
theorem qqv {n:Nat} {u m m' v:List Int} (hu:qap n u) (hv:qap n v) (j:Jn n (fac n m) (fac n m')) (hf: ∀p,flW n m p=flW n m' p):Jn n (fac n (u++m++v)) (fac n (u++m'++v)):=by
 rw[qex,qex n u m,qex n (u++m') v,qex n u m',hf];exact(qnd v ((qjp (qnE m' (qdz hu))).app j)).app (qjp (qdz hv))
end Go.Av
end
section
namespace Go.Av
section
variable {n m:Nat} (hn:n<=12) (n2:2<=n)
include hn n2
theorem qoS:(Uf n).li n≠xZ n:=fun h=>by
 have:=SB.li_inj (t:=Uh) h (k:=0) (by omega);have e:rv5 n 0=0:=this;unfold rv5 at e;rw[if_pos (by omega)]at e;omega
variable {N:Nat} (hN:2000<N)
include hN
theorem qiM {A:Nat->SB} (hm:m<=300) (hA:OkM n m A): ∀(K i:Nat) (h:Int) (out:List (List Int)),i<=m->m<K+i-> -1000<=h->h<=300+i->out.length<=i->
 vU N (n:Int) (yG n m A) K h out (i:Int)=some (h+((((yG n m A).drop i).countP fun x=>decide (x=(Uf n).li n):Nat):Int),out++((yG n m A).drop i).filter fun x=>!decide (x=xZ n)&&!decide (x=(Uf n).li n))
 |0,i,h,out,hi,hK,h1,h2,ho=>by omega
 |K+1,i,h,out,hi,hK,h1,h2,ho=>by
  unfold vU;rw[zK];by_cases c:i<m
  ·have hl:i<(yG n m A).length:=by rw[zK];exact c
   have hg:(yG n m A)[i]=(A i).li n:=by
    have:=xE (n:=n) (L:=A) c;rw[Ya hl]at this;exact Ye this
   obtain⟨b,b1,b2⟩:=qrt hn (by omega) (N:=N) hN (A i);rw[qt2 hn (by omega) (hA i c)]at b2
   have e24: ∀o:List (List Int),o.length<=i->app 24 o [(A i).li n]=some (o++[(A i).li n]):=fun o ho=>qbh (by simp;omega) (by simp;omega)
   rw[if_pos (by omega),qp,xE c,YG hl,hg,List.countP_cons,List.filter_cons];simp only[ZB,b1];by_cases p:(A i).li n=xZ n
   ·have q:(A i).li n≠(Uf n).li n:=fun e=>qoS hn n2 (e▸p)
    rw[b2.2 p];simp only[if_true,ZB];rw[qH (by omega),qiM hm hA K (i+1) h out (by omega) (by omega) (by omega) (by omega) (by omega),decide_eq_true p,decide_eq_false q];simp
   have bf:b=false:=by
    cases b with
    |false=>rfl
    |true=>exact absurd (b2.1 rfl) p
   subst bf;simp only[ZF,if_false];rw[qoZ hN (by omega)];simp only[ZB];have hln:=Ug n (A i);rw[qss (by omega) (by omega)];simp only[ZB];by_cases q:(A i).li n=(Uf n).li n
   ·rw[decide_eq_true q,decide_eq_false p];simp only[if_true,ZB];rw[qH (by omega),qE (n:=h+1) (by omega) (by omega),qiM hm hA K (i+1) (h+1) out (by omega) (by omega) (by omega) (by omega) (by omega)];simp;omega
   rw[decide_eq_false q,decide_eq_false p,e24 out ho];simp only[ZF,if_false,ZB];rw[qH (by omega),qiM hm hA K (i+1) h _ (by omega) (by omega) (by omega) (by omega) (by simp;omega)];simp
  rw[if_neg (by omega),List.drop_eq_nil_of_le (by rw[zK];omega)];simp
end
end Go.Av
end
section
namespace Go.Av
def lets (n:Nat):List Int:=(List.range (n-1)).flatMap fun i=>[((i+1:Nat):Int),-((i+1:Nat):Int)]
theorem qed {n:Nat} {c:Int} (h:c≠0/\ -(n:Int)<c/\c<n):c∈lets n:=by
 refine List.mem_flatMap.2 ⟨c.natAbs-1,List.mem_range.2 (by omega),?_⟩;by_cases p:0<c
 ·exact List.mem_cons.2 (.inl (by omega))
 exact List.mem_cons_of_mem _ (List.mem_singleton.2 (by omega))
def qlm (x y:Int):Bool:=Nat.ble (x.natAbs+2) y.natAbs||Nat.ble (y.natAbs+2) x.natAbs
def sg5 (c:Int):Int:=if c<0 then-1 else 1
def qhc (x y z:Int):Option (List Int):=
 if x.natAbs=z.natAbs/\(x.natAbs=y.natAbs+1\/y.natAbs=x.natAbs+1)then
  if sg5 x=sg5 y then some [sg5 z*(y.natAbs:Int),x,y]else if sg5 y=sg5 z then some [y,z,sg5 x*(y.natAbs:Int)]else none
 else none
def ngs (w:List Int):Nat:=w.countP fun c=>!decide (0<c)
def qgj:List (List Nat)->List (List Nat)->Bool
 |[],[]=>true
 |x::a,y::b=>rowB x y&&qgj a b
 |_,_=>false
where rowB:List Nat->List Nat->Bool
 |[],[]=>true
 |x::a,y::b=>Nat.beq x y&&rowB a b
 |_,_=>false
theorem qor: ∀{a b:List Nat},qgj.rowB a b=true->a=b
 |[],[],h=>rfl
 |x::a,y::b,h=>by
  unfold qgj.rowB at h;simp only[Bool.and_eq_true]at h;rw[Nat.eq_of_beq_eq_true h.1,qor h.2]
 |[],y::b,h=>by cases h
 |x::a,[],h=>by cases h
theorem qfd: ∀{a b:List (List Nat)},qgj a b=true->a=b
 |[],[],h=>rfl
 |x::a,y::b,h=>by
  unfold qgj at h;simp only[Bool.and_eq_true]at h;rw[qor h.1,qfd h.2]
 |[],y::b,h=>by cases h
 |x::a,[],h=>by cases h
def okIns (n:Nat):Bool:=(lets n).all fun x=>qgj (qW n [x,-x]) [List.range n,qe6 n]
def okSwp (n:Nat):Bool:=(lets n).all fun x=>(lets n).all fun y=>!qlm x y||(qgj (qW n [x,y]) (qW n [y,x]))
def okTrn (n:Nat):Bool:=(lets n).all fun x=>(lets n).all fun y=>(lets n).all fun z=>match qhc x y z with
 |none=>true
 |some l=>qgj (qW n [x,y,z]) (qW n l)&&Nat.beq (ngs [x,y,z]) (ngs l)
def qmQ (n:Nat) (s t s' t':List Nat):Bool:=qgj [(qgN n (n*n) s t).1,(qgN n (n*n) s t).2] [s',t']
def okGd (n:Nat):Bool:=(List.range (n-1)).all fun i=>
 (qmQ n (qfr i (List.range n)) (qe6 n) (qe6 n) (qkS n (qfr i (List.range n)))&&qmQ n (qbk i (qe6 n)) (qe6 n) (qe6 n) (qkS n (qbk i (qe6 n))))&&
 (qmQ n (List.range n) (qfr i (List.range n)) (qfr i (List.range n)) (List.range n)&&qmQ n (List.range n) (qbk i (qe6 n)) (qbk i (qe6 n)) (List.range n))
theorem quA:((List.range 7).all okIns)=true:=by kernel_rfl
theorem quf:((List.range 7).all okSwp)=true:=by kernel_rfl
theorem quB:((List.range 7).all okTrn)=true:=by kernel_rfl
theorem qtK:((List.range 7).all okGd)=true:=by kernel_rfl
theorem qjh {f:Nat->Bool} (h:((List.range 7).all f)=true) {n:Nat} (hn:n<=6):f n=true:=Yp.1 h n (List.mem_range.2 (by omega))
theorem qub {n:Nat} {s t:SB} (hs:s.Ok n) (ht:t.Ok n):QOK n [s,t] [(qgN n (n*n) (s.row n) (t.row n)).2,(qgN n (n*n) (s.row n) (t.row n)).1]:=by
 have ho: ∀u∈[s,t],u.Ok n:=fun u hu=>by
  rcases List.mem_cons.1 hu with rfl|hu
  ·exact hs
  rw[List.mem_singleton.1 hu];exact ht
 obtain⟨A,a1,a2,a3,a4⟩:=qi8 (n:=n) (m:=2) (k:=0) (by omega) (n*n) (qae [s,t]) (qfY ho);refine⟨ho,A,a1,a4,?_⟩;have e:qgN n (n*n) (s.row n) (t.row n)=((A 0).row n,(A 1).row n):=a2;rw[e];rfl
theorem qtG {n:Nat} {s t:SB} (hs:s.Ok n) (ht:t.Ok n):QOK n [s,t] [t.row n,s.row n]:=by
 have ho: ∀u∈[s,t],u.Ok n:=fun u hu=>by
  rcases List.mem_cons.1 hu with rfl|hu
  ·exact hs
  rw[List.mem_singleton.1 hu];exact ht
 exact⟨ho,_,.refl,qfY ho,rfl⟩
theorem ql4 {n:Nat} {s t s' t':SB} (hs:s.Ok n) (ht:t.Ok n) (hs':s'.Ok n) (ht':t'.Ok n) (f1:s.Fix n) (f2:t.Fix n) (f3:s'.Fix n) (f4:t'.Fix n) (h:qmQ n (s.row n) (t.row n) (s'.row n) (t'.row n)=true):Jn n [s,t] [s',t']:=by
 have e:=qfd h;injection e with e1 e2;injection e2 with e2 _;have q:=qub hs ht;rw[e1,e2]at q;refine qiG q (qtG hs' ht') (fun u hu=>?_) (fun u hu=>?_)
 ·rcases List.mem_cons.1 hu with rfl|hu
  ·exact f1
  rw[List.mem_singleton.1 hu];exact f2
 rcases List.mem_cons.1 hu with rfl|hu
 ·exact f3
 rw[List.mem_singleton.1 hu];exact f4
theorem qne (n:Nat) (s:SB):(s.flip n).flip n=s:=SB.ext fun k=>by
 show rv5 n (rv5 n (s.f (rv5 n (rv5 n k))))=s.f k;rw[qb1,qb1]
theorem qhy {n:Nat} {s:SB} (h:s.Ok n): ∀t∈[s],t.Ok n:=fun t ht=>by rw[List.mem_singleton.1 ht];exact h
theorem qo3 (n:Nat): ∀(w v:List Int) (p:List SB),ngs w=ngs v->flW n w p=flW n v p:=by
 have key: ∀(w:List Int) (p:List SB),flW n w p=Nat.repeat (fun p=>p.map (SB.flip n)) (ngs w) p:=by
  intro w
  induction w with
  |nil=>intro p;rfl
  |cons c w ih=>
   intro p
   have sh: ∀(k:Nat) (q:List SB),Nat.repeat (fun p=>p.map (SB.flip n)) k (q.map (SB.flip n))=(Nat.repeat (fun p=>p.map (SB.flip n)) k q).map (SB.flip n):=by
    intro k
    induction k with
    |zero=>intro q;rfl
    |succ k ih=>intro q;show List.map _ (Nat.repeat _ k _)=_;rw[ih];rfl
   unfold flW at ih⊢;rw[List.foldl_cons,ih];unfold ngs;rw[List.countP_cons];by_cases h:0<c
   ·simp[h]
   rw[if_neg h,if_pos (by simp[h]),sh];rfl
 intro w v p h;rw[key,key,h]
section
variable {n:Nat} (hn:n<=6)
include hn
theorem qtb {s:SB} (h:Gd n s):Jn n [s,Uf n] [Uf n,s.flip n]:=by
 refine ql4 h.ok (Us n) (Us n) h.ok.flip h.fix (U7 n) (U7 n) h.fix.flip ?_;rw[qlX h.ok,qfi];obtain⟨i,hi,h⟩:=h;have c:=Yp.1 (qjh qtK hn) i (List.mem_range.2 (by omega));simp only[Bool.and_eq_true]at c;rcases h with rfl|rfl
 ·rw[qlu hi,qjw];exact c.1.1
 rw[qlq,qfi];exact c.1.2
theorem gd_id {s:SB} (h:Gd n s):Jn n [Uh,s] [s,Uh]:=by
 refine ql4 (Uv n) h.ok h.ok (Uv n) (U9 n) h.fix h.fix (U9 n) ?_;rw[qjw];obtain⟨i,hi,h⟩:=h;have c:=Yp.1 (qjh qtK hn) i (List.mem_range.2 (by omega));simp only[Bool.and_eq_true]at c;rcases h with rfl|rfl
 ·rw[qlu hi,qjw];exact c.2.1
 rw[qlq,qfi];exact c.2.2
theorem qoJ: ∀{l:List SB},(∀s∈l,Gd n s)->Jn n (l.map (SB.flip n)++[Uf n]) (Uf n::l)
 |[],h=> .refl (qhy (Us n))
 |s::l,h=>by
  have hs:=h s (List.mem_cons_self ..)
  have hl:=fun t ht=>h t (List.mem_cons_of_mem s ht)
  have a:Jn n ([s.flip n]++(l.map (SB.flip n)++[Uf n])) ([s.flip n]++(Uf n::l)):=(Jn.refl (qhy hs.flip.ok)).app (qoJ hl)
  have b:Jn n ([s.flip n,Uf n]++l) ([Uf n,s]++l):=by
   have:=qtb hn hs.flip;rw[qne]at this;exact this.app (qjp hl)
  exact a.trans b
theorem qtz: ∀{l:List SB},(∀s∈l,Gd n s)->Jn n (Uh::l) (l++[Uh])
 |[],h=> .refl (qhy (Uv n))
 |s::l,h=>by
  have hs:=h s (List.mem_cons_self ..)
  have hl:=fun t ht=>h t (List.mem_cons_of_mem s ht)
  have b:Jn n ([Uh,s]++l) ([s,Uh]++l):=(gd_id hn hs).app (qjp hl);have a:Jn n ([s]++(Uh::l)) ([s]++(l++[Uh])):=(Jn.refl (qhy hs.ok)).app (qtz hl);exact b.trans a
theorem quO {x y:Int} (hx:x≠0/\ -(n:Int)<x/\x<n) (hy:y≠0/\ -(n:Int)<y/\y<n) (h:qlm x y=true):Jn n (fac n [x,y]) (fac n [y,x]):=by
 have c:=Yp.1 (Yp.1 (qjh quf hn) x (qed hx)) y (qed hy);rw[h]at c
 have l1:qap n [x,y]:=fun c hc=>by
  rcases List.mem_cons.1 hc with rfl|hc
  ·exact hx
  rw[List.mem_singleton.1 hc];exact hy
 have l2:qap n [y,x]:=fun c hc=>by
  rcases List.mem_cons.1 hc with rfl|hc
  ·exact hy
  rw[List.mem_singleton.1 hc];exact hx
 have c2:qgj (qW n [x,y]) (qW n [y,x])=true:=by simpa using c
 have q:=qlS l1;rw[qfd c2]at q;exact qiG q (qlS l2) (fun s hs=>(qdz l1 s hs).fix) (fun s hs=>(qdz l2 s hs).fix)
theorem qur {x y z:Int} {l:List Int} (hx:x≠0/\ -(n:Int)<x/\x<n) (hy:y≠0/\ -(n:Int)<y/\y<n) (hz:z≠0/\ -(n:Int)<z/\z<n) (hl:qap n l) (h:qhc x y z=some l):Jn n (fac n [x,y,z]) (fac n l)/\ngs [x,y,z]=ngs l:=by
 have c:=Yp.1 (Yp.1 (Yp.1 (qjh quB hn) x (qed hx)) y (qed hy)) z (qed hz);rw[h]at c;simp only[Bool.and_eq_true]at c
 have l1:qap n [x,y,z]:=fun c hc=>by
  rcases List.mem_cons.1 hc with rfl|hc
  ·exact hx
  rcases List.mem_cons.1 hc with rfl|hc
  ·exact hy
  rw[List.mem_singleton.1 hc];exact hz
 have q:=qlS l1;rw[qfd c.1]at q;exact⟨qiG q (qlS hl) (fun s hs=>(qdz l1 s hs).fix) (fun s hs=>(qdz hl s hs).fix),Nat.eq_of_beq_eq_true c.2⟩
theorem qtY {x:Int} (hx:x≠0/\ -(n:Int)<x/\x<n):Jn n (fac n [x,-x]) [Uf n,Uh]:=by
 have c:=Yp.1 (qjh quA hn) x (qed hx)
 have l1:qap n [x,-x]:=fun c hc=>by
  rcases List.mem_cons.1 hc with rfl|hc
  ·exact hx
  rw[List.mem_singleton.1 hc];omega
 have q:=qlS l1;rw[qfd c]at q;have q2:=qtG (Us n) (Uv n);rw[qjw,qfi]at q2;refine qiG q q2 (fun s hs=>(qdz l1 s hs).fix) (fun s hs=>?_);rcases List.mem_cons.1 hs with rfl|hs
 ·exact U7 n
 rw[List.mem_singleton.1 hs];exact U9 n
theorem qsF {u v:List Int} {x:Int} (hu:qap n u) (hv:qap n v) (hx:x≠0/\ -(n:Int)<x/\x<n):Jn n (fac n (u++[x,-x]++v)) (Uf n::(fac n (u++v)++[Uh])):=by
 have e1:flW n [x,-x] (fac n u)=(fac n u).map (SB.flip n):=by
  unfold flW;rw[List.foldl_cons,List.foldl_cons,List.foldl_nil];by_cases p:0<x
  ·rw[if_pos p,if_neg (by omega)]
  rw[if_neg p,if_pos (by omega)]
 have g1:=qdz hu
 have a:Jn n (fac n (u++[x,-x])) ((Uf n::fac n u)++[Uh]):=by
  rw[qex,e1];have a1:Jn n ((fac n u).map (SB.flip n)++fac n [x,-x]) ((fac n u).map (SB.flip n)++[Uf n,Uh]):=(qjp g1).flip.app (qtY hn hx);have a2:Jn n (((fac n u).map (SB.flip n)++[Uf n])++[Uh]) ((Uf n::fac n u)++[Uh]):=(qoJ hn g1).app (.refl (qhy (Uv n)));rw[Yz]at a2;exact a1.trans a2
 rw[qex,qex n u v];have b:=(qnd v a).app (qjp (qdz hv));rw[qiB,show Uf n::fac n u=[Uf n]++fac n u from rfl,qiB,qiE (qkL n),qiE (qot n)]at b;refine b.trans ?_;have c:Jn n (Uh::fac n v) (fac n v++[Uh]):=qtz hn (qdz hv);have d:=((Jn.refl (qhy (Us n))).app (qjp (qnE v g1))).app c;simpa using d
end
end Go.Av
end
section
namespace Go.Av
section
variable {k:Nat} (hk:k<=12) (k1:1<=k)
include hk k1
end
structure FmOK (k:Nat) (f:qaF):Prop where
 k1:1<=k
 k2:k<=12
 half: -200<=f.Half/\f.Half<=200
 one:k=1->f.Half=0
 few:f.Factors.length<=200
 at_: ∀j,j<f.Factors.length-> ∃s:SB,s.Ok k/\f.Factors[j]? =some (s.li k)
end Go.Av
end
section
namespace Go.Av
def qlk (n m:Nat) (A:Nat->SB) (h:Int):qaF:=⟨h+(((yG n m A).countP fun x=>decide (x=(Uf n).li n):Nat):Int),(yG n m A).filter fun x=>!decide (x=xZ n)&&!decide (x=(Uf n).li n)⟩
def qbB (n:Nat) (w:List Int) (f:qaF):Prop:= ∃A,Pst n w.length (qae (fac n w)) A/\Nf n w.length A/\f=qlk n w.length A (-((ngs w:Nat):Int))
theorem qbB.uniq {n:Nat} {w:List Int} {f g:qaF} (h:qbB n w f) (k:qbB n w g):f=g:=by
 obtain⟨A,a1,a2,a3⟩:=h;obtain⟨B,b1,b2,b3⟩:=k;obtain rfl:=qgM _ (Nat.le_refl _) a1 b1 a2 b2;rw[a3,b3]
theorem qbB.jn {n:Nat} {w v:List Int} {f:qaF} (h:qbB n w f) (j:Jn n (fac n w) (fac n v)) (hg:ngs w=ngs v):qbB n v f:=by
 obtain⟨A,a1,a2,a3⟩:=h
 have hl:w.length=v.length:=by have:=j.len;rw[qcu,qcu]at this;exact this
 have a:=j.nf (A:=A) (by rw[qcu];exact a1) (by rw[qcu];exact a2);rw[qcu]at a;exact⟨A,a,hl▸a2,by rw[a3,hl,hg]⟩
theorem qpP {n i:Nat} (hi:i+1<n):(Uf n).Ends i:=by
 show rv5 n (i+1)<rv5 n i;rw[qbg hi,qbg (by omega)];omega
theorem qso (i:Nat): ¬Uh.Begs i:=fun h=>by
 have h:i+1<i:=h;omega
theorem qs3 {n:Nat} {l:List SB} {A:Nat->SB} (a:Pst n l.length (qae l) A) (nA:Nf n l.length A): ∃B,Pst n (l.length+2) (qae (Uf n::(l++[Uh]))) B/\Nf n (l.length+2) B/\yG n (l.length+2) B=(Uf n).li n::(yG n l.length A++[Uh.li n]):=by
 have e:qae (Uf n::(l++[Uh]))=jnL 1 (qae [Uf n]) (jnL l.length (qae l) (qae [Uh])):=by
  rw[show Uf n::(l++[Uh])=[Uf n]++(l++[Uh])from rfl,qgU,qgU];rfl
 refine⟨jnL 1 (qae [Uf n]) (jnL l.length A (qae [Uh])),?_,fun k i c=>?_,?_⟩
 ·rw[e,show l.length+2=1+(l.length+1)by omega];exact(a.suf (m:=1)).pre
 ·obtain⟨k1,k2,k3,k4⟩:=c
  cases k with
  |zero=>exact k4 (qpP k2)
  |succ j=>
   rw[show j+1=1+j by omega,qcH]at k4;rw[show j+1+1=1+(j+1)by omega,qcH]at k3;by_cases h:j+1<l.length
   ·rw[qcj h]at k3;rw[qcj (by omega)]at k4;exact nA j i ⟨h,k2,k3,k4⟩
   have h2:j+1=l.length+0:=by omega
   rw[h2,qcH]at k3;exact qso i k3
 apply List.ext_getElem?;intro q
 cases q with
 |zero=>rw[xE (by omega)];rfl
 |succ q=>
  rw[YK];by_cases h:q<l.length
  ·rw[xE (by omega),Yf (by rw[zK];exact h),xE h,show q+1=1+q by omega,qcH,qcj h]
  by_cases h2:q=l.length
  ·subst h2;rw[xE (by omega),Yo (by rw[zK];omega),zK,show l.length+1=1+(l.length+0)by omega,qcH,qcH];simp;rfl
  rw[Yg (by rw[zK];omega),Yg (by simp[zK];omega)]
theorem qbu (u v:List Int):ngs (u++v)=ngs u+ngs v:=List.countP_append ..
theorem qsh {x:Int} (hx:x≠0):ngs [x,-x]=1:=by
 unfold ngs;rw[List.countP_cons,List.countP_cons,List.countP_nil];by_cases h:0<x
 ·simp[h];omega
 simp[h];omega
section
variable {n:Nat} (hn:n<=6)
include hn
theorem qbB.ins (n2:2<=n) {u v:List Int} {x:Int} (hu:qap n u) (hv:qap n v) (hx:x≠0/\ -(n:Int)<x/\x<n) {f:qaF} (h:qbB n (u++v) f):qbB n (u++[x,-x]++v) f:=by
 obtain⟨A,a1,a2,a3⟩:=h;have j:=qsF hn hu hv hx;rw[<-qcu n]at a1 a2;obtain⟨B,b1,b2,b3⟩:=qs3 a1 a2
 have hl:(u++[x,-x]++v).length=(fac n (u++v)).length+2:=by rw[qcu];simp;omega
 have hl2:(Uf n::(fac n (u++v)++[Uh])).length=(fac n (u++v)).length+2:=by simp
 have c:=j.symm.nf (A:=B) (by rw[hl2];exact b1) (by rw[hl2];exact b2);rw[qcu,hl]at c;refine⟨B,by rw[hl];exact c,by rw[hl];exact b2,?_⟩;rw[a3,hl];unfold qlk;rw[b3,qcu];have ne:(Uf n).li n≠xZ n:=qoS (n:=n) (by omega) n2
 have hg:ngs (u++[x,-x]++v)=ngs (u++v)+1:=by
  rw[qbu,qbu,qbu,qsh hx.1];omega
 rw[hg,SB.id_li];simp[List.countP_cons,List.filter_cons,List.filter_append,ne,Ne.symm ne];omega
end
inductive Mv (n:Nat):List Int->List Int->Prop
 |ins {u v:List Int} {x:Int} (hx:x≠0/\ -(n:Int)<x/\x<n):Mv n (u++v) (u++[x,-x]++v)
 |can {u v:List Int} {x:Int}:Mv n (u++[x,-x]++v) (u++v)
 |swp {u v:List Int} {x y:Int} (h:qlm x y=true):Mv n (u++[x,y]++v) (u++[y,x]++v)
 |trn {u v l:List Int} {x y z:Int} (h:qhc x y z=some l):Mv n (u++[x,y,z]++v) (u++l++v)
theorem qmU {n:Nat} {x y z:Int} {l:List Int} (hx:x≠0/\ -(n:Int)<x/\x<n) (hy:y≠0/\ -(n:Int)<y/\y<n) (hz:z≠0/\ -(n:Int)<z/\z<n) (h:qhc x y z=some l):qap n l:=by
 have sg: ∀c d:Int,d≠0/\ -(n:Int)<d/\d<n->sg5 c*(d.natAbs:Int)≠0/\ -(n:Int)<sg5 c*(d.natAbs:Int)/\sg5 c*(d.natAbs:Int)<n:=fun c d hd=>by
  unfold sg5;split<;>omega
 unfold qhc at h;split at h
 ·split at h
  ·have h:=Ye h;subst h;intro c hc;rcases List.mem_cons.1 hc with rfl|hc
   ·exact sg z y hy
   rcases List.mem_cons.1 hc with rfl|hc
   ·exact hx
   rw[List.mem_singleton.1 hc];exact hy
  split at h
  ·have h:=Ye h;subst h;intro c hc;rcases List.mem_cons.1 hc with rfl|hc
   ·exact hy
   rcases List.mem_cons.1 hc with rfl|hc
   ·exact hz
   rw[List.mem_singleton.1 hc];exact sg x y hy
  cases h
 cases h
theorem Mv.let_ {n:Nat} {w v:List Int} (h:Mv n w v) (hw:qap n w):qap n v:=by
 cases h with
 |ins hx=>exact(hw.left.app (fun c hc=>by
  rcases List.mem_cons.1 hc with rfl|hc
  ·exact hx
  rw[List.mem_singleton.1 hc];omega)).app hw.right
 |can=>exact hw.left.left.app hw.right
 |swp h=>exact(hw.left.left.app fun c hc=>hw c (by simp at hc⊢;rcases hc with rfl|rfl<;>simp)).app hw.right
 |trn h=>exact(hw.left.left.app (qmU (hw _ (by simp)) (hw _ (by simp)) (hw _ (by simp)) h)).app hw.right
theorem Mv.form {n:Nat} (hn:n<=6) (n2:2<=n) {w v:List Int} (h:Mv n w v) (hw:qap n w) {f:qaF} (k:qbB n v f):qbB n w f:=by
 have hv:=h.let_ hw
 cases h with
 |@ins u v x hx=>
  have hA:qbB n (u++v) (qlk n 0 (qae []) 0)\/ ∃g,qbB n (u++v) g:=by
   obtain⟨A,a1,a2⟩:=qkN _ (qae (fac n (u++v))) (Nat.le_refl (mu5 n _ (u++v).length));exact .inr ⟨_,A,a1,a2,rfl⟩
  obtain⟨g,hg⟩: ∃g,qbB n (u++v) g:=by
   rcases hA with h|h
   ·exact⟨_,h⟩
   exact h
  obtain rfl:=(hg.ins hn n2 hw.left hw.right hx).uniq k;exact hg
 |@can u v x=>
  exact k.ins hn n2 hv.left hv.right (hw x (by simp))
 |@swp u v x y h=>
  exact k.jn (qqv hw.left.left hw.right (quO hn (hw x (by simp)) (hw y (by simp)) h).symm (fun p=>qo3 n _ _ p (by unfold ngs;simp[List.countP_cons];omega))) (by rw[qbu,qbu,qbu,qbu];congr 2;unfold ngs;simp[List.countP_cons];omega)
 |@trn u v l x y z h=>
  obtain⟨j,g⟩:=qur hn (hw x (by simp)) (hw y (by simp)) (hw z (by simp)) (qmU (hw x (by simp)) (hw y (by simp)) (hw z (by simp)) h) h;exact k.jn (qqv hw.left.left hw.right j.symm (fun p=>qo3 n _ _ p g.symm)) (by rw[qbu,qbu,qbu,qbu,g])
end Go.Av
end
section
namespace Go.Av
section
variable {n:Nat} (hn:n<=12) {N:Nat} (hN:2000<N)
include hn hN
theorem qjD {w:List Int} (W:vW n w) (n2:2<=n): ∀(K i k:Nat) (l:List SB),l.length=i->(∀s∈l,s.Ok n)->k<=i->i<=w.length->w.length<K+i->
 vV N (n:Int) w K (-(k:Int)) (qaM n l) (i:Int)=some (-((k+ngs (w.drop i):Nat):Int),qaM n ((w.drop i).foldl (qei n) l))
 |0,i,k,l,hl,ho,h1,hi,hK=>by omega
 |K+1,i,k,l,hl,ho,h1,hiw,hK=>by
  have wl:=W.len;unfold vV;by_cases hi:i<w.length
  ·have hx:w[i]? =some w[i]:=Ya hi;have hc:=W.let_ _ (List.getElem_mem hi);rw[YG hi,List.foldl_cons];generalize w[i]=c at*;obtain⟨m,hm⟩: ∃m:Nat,c.natAbs=m+1:=⟨c.natAbs-1,by omega⟩
   have hm2:m+1<n:=by omega
   have q1:w64 (((m+1:Nat):Int)-1)=(m:Int):=by rw[qE (by omega) (by omega)];omega
   rw[if_pos (by omega),qp,hx];simp only[ZB,qb2 (show-1000<c/\c<1000 by omega),hm,q1];unfold ngs qei;rw[hm,Nat.add_sub_cancel,List.countP_cons];by_cases pos:c>0
   ·rw[if_pos pos,qfT hN (by omega),ZB,<-SB.id_li,qgG (by omega) Uh hm2];simp only[ZB];rw[qbh (by rw[qbG];simp;omega) (by rw[qbG];simp;omega)];simp only[ZB];rw[qH (by omega),show qaM n l++[(Uh.fr m).li n]=qaM n (l++[Uh.fr m])by simp[qaM],if_pos (show 0<c from pos),decide_eq_true (show 0<c from pos)]
    exact qjD W n2 K (i+1) k _ (by simp[hl]) (fun s hs=>by
     rcases List.mem_append.1 hs with hs|hs
     ·exact ho s hs
     rw[List.mem_singleton.1 hs];exact(Uv n).fr hm2) (by omega) (by omega) (by omega)
   rw[if_neg pos,qmj hn hN (by omega) ho,ZB,qoZ hN (by omega),ZB,qkh (by omega) hN (Us n) hm2];simp only[ZB];rw[qbh (by rw[qbG];simp;omega) (by rw[qbG];simp;omega)];simp only[ZB];rw[qH (by omega),qE (n:= -(k:Int)-1) (by omega) (by omega),if_neg (show¬0<c from pos),decide_eq_false (show¬0<c from pos),show-(k:Int)-1= -((k+1:Nat):Int)by omega,show qaM n (l.map (SB.flip n))++[((Uf n).bk m).li n]=qaM n (l.map (SB.flip n)++[(Uf n).bk m])by simp[qaM]]
   have:=qjD W n2 K (i+1) (k+1) (l.map (SB.flip n)++[(Uf n).bk m]) (by simp[hl]) (fun s hs=>by
    rcases List.mem_append.1 hs with hs|hs
    ·obtain⟨u,hu,rfl⟩:=List.mem_map.1 hs;exact(ho u hu).flip
    rw[List.mem_singleton.1 hs];exact(Us n).bk hm2) (by omega) (by omega) (by omega)
   rw[this];unfold ngs;simp only[Bool.not_false,if_true];congr 3;omega
  rw[if_neg (by omega),List.drop_eq_nil_of_le (by omega)];rfl
end
theorem qtJ {n:Nat} (n2:2<=n) (n6:n<=6) {N:Nat} (hN:300000<N) {w:List Int} (W:vW n w) (hl:w.length<=60):
 ∃f,qa7 N (n:Int) w=some f/\qbB n w f/\f.Factors.length<=300/\ ∀x∈f.Factors,x.length<=300:=by
 have hw:qap n w:=W.let_
 have lok:=qfY (n:=n) (l:=fac n w) fun s hs=>(qdz hw s hs).ok
 have ll:=qcu n w;rw[ll]at lok
 have hmu: ∀L:Nat->SB,mu5 n L w.length<=129600:=fun L=>by
  refine Nat.le_trans (qrb w.length) ?_;have h1:n*n<=6*6:=Nat.mul_le_mul n6 n6;have h2:w.length*(n*n)<=60*36:=Nat.mul_le_mul hl h1;exact Nat.mul_le_mul hl h2
 have hmu0:=hmu (qae (fac n w));obtain⟨A,a1,a2,a3,a4⟩:=qlg (n:=n) (m:=w.length) (by omega) (by omega) (by omega) (N:=N) (by omega) (fun L=>by have:=hmu L;omega) N 0 (qae (fac n w)) lok (Nat.zero_le _) (by omega) (fun j hj=>by omega);refine⟨qlk n w.length A (-((ngs w:Nat):Int)),?_,⟨A,a2,a3,rfl⟩,?_,?_⟩
 ·unfold qa7;have b0:=qjD (n:=n) (by omega) (N:=N) (by omega) W n2 N 0 0 [] rfl (fun s hs=>by cases hs) (Nat.le_refl _) (Nat.zero_le _) (by omega);rw[show qaM n ([]:List SB)=[]from rfl,show(-((0:Nat):Int))=0 from rfl,show((0:Nat):Int)=0 from rfl,YR,Nat.zero_add]at b0
  have rF:qaM n (fac n w)=yG n w.length (qae (fac n w)):=qmM (by rw[qbG,ll]) fun q hq=>by
   rw[qkR (by rw[ll];exact hq)];unfold qae;rw[Yy,Ya (by rw[ll];exact hq)];rfl
  have rF':qaM n (w.foldl (qei n) [])=yG n w.length (qae (fac n w)):=rF;rw[if_neg (by omega),b0,ZB,rF']
  have p0:qbl N (yG n w.length (qae (fac n w)))=some (yG n w.length A):=by
   unfold qbl;rw[show((0:Nat):Int)=0 from rfl]at a1;rw[a1,ZB]
  dsimp only;rw[p0,ZB,zK,zK,if_pos rfl,ZB];have hk:ngs w<=w.length:=List.countP_le_length;have f0:=qiM (n:=n) (by omega) n2 (N:=N) (by omega) (by omega) a4 N 0 (-((ngs w:Nat):Int)) [] (Nat.zero_le _) (by omega) (by omega) (by omega) (Nat.zero_le _);rw[show((0:Nat):Int)=0 from rfl,YR,List.nil_append]at f0;rw[f0,ZB];rfl
 ·show(List.filter _ (yG n w.length A)).length<=300;have:=List.length_filter_le (fun x=>!decide (x=xZ n)&&!decide (x=(Uf n).li n)) (yG n w.length A);rw[zK]at this;omega
 intro x hx;have hx:x∈(yG n w.length A).filter _:=hx;obtain⟨q,_,rfl⟩:=List.mem_map.1 (List.mem_filter.1 hx).1;rw[Ug];omega
def pmF (s:SB) (w:List Int):SB:=w.foldl (fun s c=>s.bk (c.natAbs-1)) s
theorem xw (s:SB) (u v:List Int):pmF s (u++v)=pmF (pmF s u) v:=List.foldl_append ..
section
variable {n:Nat} (hn:n<=12) {N:Nat} (hN:2000<N)
include hn hN
theorem qoU {w:List Int} (W:vW n w): ∀(K i:Nat) (s:SB),s.Ok n->i<=w.length->w.length<K+i->qL w K (s.li n) (s.rev.li n) (i:Int)=some ((pmF s (w.drop i)).li n)
 |0,i,s,hs,h,hK=>by omega
 |K+1,i,s,hs,hiw,hK=>by
  have wl:=W.len;unfold qL qaA;by_cases hi:i<w.length
  ·have hx:w[i]? =some w[i]:=Ya hi;have hc:=W.let_ _ (List.getElem_mem hi);rw[YG hi];unfold pmF;rw[List.foldl_cons];generalize w[i]=c at*;obtain⟨m,hm⟩: ∃m:Nat,c.natAbs=m+1:=⟨c.natAbs-1,by omega⟩
   have hm2:m+1<n:=by omega
   have q1:w64 (((m+1:Nat):Int)-1)=(m:Int):=by rw[qE (by omega) (by omega)];omega
   have q2:w64 ((m:Int)+1)=((m+1:Nat):Int):=qH (by omega);have g0:=hs.g_ m (by omega);have g1:=hs.g_ (m+1) hm2;have r0:idx (s.rev.li n) (m:Int)=some ((s.g m:Nat):Int):=Un (by omega);have r1:idx (s.rev.li n) ((m+1:Nat):Int)=some ((s.g (m+1):Nat):Int):=Un hm2
   have ne:s.g m≠s.g (m+1):=fun e=>by have:=s.ginj e;omega
   have p0:idx (s.li n) ((s.g m:Nat):Int)=some (m:Int):=by rw[Un g0,s.fg]
   have lset:((s.li n).set (s.g m) ((m+1:Nat):Int)).length=n:=by simp[Ug]
   have p1:idx ((s.li n).set (s.g m) ((m+1:Nat):Int)) ((s.g (m+1):Nat):Int)=some ((m+1:Nat):Int):=by
    rw[qp,Yw ne,Up s g1,s.fg]
   have q3:w64 (((m+1:Nat):Int)-1)=(m:Int):=q1;rw[if_pos (by omega),qp,hx];simp only[ZB,qb2 (show-1000<c/\c<1000 by omega),hm,q1,q2,r0,r1,p0];rw[kg (by rw[Ug];exact g0)];simp only[ZB,p1,q3];rw[kg (by rw[lset];exact g1)];simp only[ZB];rw[kg (by rw[Ug];omega)];simp only[ZB]
   have e17:idx ((s.rev.li n).set m ((s.g (m+1):Nat):Int)) ((m+1:Nat):Int)=some ((s.g (m+1):Nat):Int):=by
    rw[qp,Yw (by omega),Up s.rev hm2];rfl
   rw[e17];simp only[ZB];rw[kg (by simp[Ug];omega)];simp only[ZB]
   have e1:((s.li n).set (s.g m) ((m+1:Nat):Int)).set (s.g (m+1)) (m:Int)=(s.bk m).li n:=U0 (by simp[Ug]) fun k hk=>by
    show _=some ((tr5 m (s.f k):Nat):Int);by_cases a:k=s.g (m+1)
    ·subst a;rw[List.getElem?_set_self (by rw[lset];exact g1),s.fg,qcM]
    rw[Yw (fun e=>a e.symm)];by_cases b:k=s.g m
    ·subst b;rw[List.getElem?_set_self (by rw[Ug];exact g0),s.fg,qcO]
    rw[Yw (fun e=>b e.symm),Up s hk,vS (fun e=>b (by rw[<-e,s.gf])) (fun e=>a (by rw[<-e,s.gf]))]
   have e2:((s.rev.li n).set m ((s.g (m+1):Nat):Int)).set (m+1) ((s.g m:Nat):Int)=(s.bk m).rev.li n:=U0 (by simp[Ug]) fun k hk=>by
    show _=some ((s.g (tr5 m k):Nat):Int);by_cases a:k=m+1
    ·subst a;rw[List.getElem?_set_self (by simp[Ug];omega),qcM]
    rw[Yw (fun e=>a e.symm)];by_cases b:k=m
    ·subst b;rw[List.getElem?_set_self (by rw[Ug];omega),qcO]
    rw[Yw (fun e=>b e.symm),Up s.rev hk,vS b a];rfl
   rw[e1,e2,qH (by omega)];rw[show(m+1-1:Nat)=m by omega];exact qoU W K (i+1) _ (hs.bk hm2) (by omega) (by omega)
  rw[if_neg (by omega),List.drop_eq_nil_of_le (by omega)];rfl
theorem qir {w:List Int} (W:vW n w):qaZ N (n:Int) w=some ((pmF Uh w).li n):=by
 unfold qaZ jV;have wl:=W.len;have:=qoU hn hN W N 0 Uh (Uv n) (Nat.zero_le _) (by omega);rw[YR,show Uh.rev=Uh from rfl,SB.id_li,show((0:Nat):Int)=0 from rfl]at this;rw[qfT hN (by omega),ZB,ZB,this];rfl
end
theorem bk_bk (s:SB) (i:Nat):(s.bk i).bk i=s:=SB.ext fun k=>qhp i (s.f k)
theorem quk {i j:Nat} (h:i+1<j\/j+1<i) (s:SB):(s.bk i).bk j=(s.bk j).bk i:=SB.ext fun k=>(qju h (s.f k)).symm
theorem qou (s:SB) (i:Nat):((s.bk i).bk (i+1)).bk i=((s.bk (i+1)).bk i).bk (i+1):=SB.ext fun k=>qhD i (s.f k)
theorem qiy (s:SB) (x:Int):pmF s [x,-x]=s:=by
 show(s.bk (x.natAbs-1)).bk ((-x).natAbs-1)=s;rw[Int.natAbs_neg,bk_bk]
theorem qqS (c:Int) (k:Nat):(sg5 c*(k:Int)).natAbs=k:=by unfold sg5;split<;>omega
theorem qqE {s:SB} {x y z:Int} {l:List Int} (hx:x≠0) (hy:y≠0) (h:qhc x y z=some l):pmF s [x,y,z]=pmF s l:=by
 have key:x.natAbs=z.natAbs->(x.natAbs=y.natAbs+1\/y.natAbs=x.natAbs+1)->((s.bk (x.natAbs-1)).bk (y.natAbs-1)).bk (z.natAbs-1)=((s.bk (y.natAbs-1)).bk (x.natAbs-1)).bk (y.natAbs-1):=fun a b=>by
  rw[<-a];rcases b with b|b
  ·rw[show x.natAbs-1=(y.natAbs-1)+1 by omega,qou]
  rw[show y.natAbs-1=(x.natAbs-1)+1 by omega,qou]
 unfold qhc at h;split at h
 ·rename_i a;split at h
  ·obtain rfl:=Ye h;show _=((s.bk ((sg5 z*(y.natAbs:Int)).natAbs-1)).bk (x.natAbs-1)).bk (y.natAbs-1);rw[qqS];exact key a.1 a.2
  split at h
  ·obtain rfl:=Ye h;show _=((s.bk (y.natAbs-1)).bk (z.natAbs-1)).bk ((sg5 x*(y.natAbs:Int)).natAbs-1);have:=key a.1 a.2;rw[qqS];rw[<-a.1]at this⊢;show((s.bk (x.natAbs-1)).bk (y.natAbs-1)).bk (z.natAbs-1)=_;rw[<-a.1];exact this
  cases h
 cases h
theorem Mv.pm {n:Nat} {w v:List Int} (h:Mv n w v) (hw:qap n w) (s:SB):pmF s w=pmF s v:=by
 cases h with
 |@ins u v x hx=>rw[xw,xw,xw,qiy]
 |@can u v x=>rw[xw,xw,xw,qiy]
 |@swp u v x y h=>
  have hx:=hw x (by simp);have hy:=hw y (by simp);rw[xw,xw,xw,xw];congr 1;show((pmF s u).bk _).bk _=((pmF s u).bk _).bk _;refine quk ?_ _;unfold qlm at h;simp only[Bool.or_eq_true,Nat.ble_eq]at h;omega
 |@trn u v l x y z h=>
  rw[xw,xw,xw,xw,qqE (hw x (by simp)).1 (hw y (by simp)).1 h]
end Go.Av
end
section
namespace Go.Av
section
variable {n:Nat} (hn:n<=6)
include hn
end
end Go.Av
end
section
namespace Go.Av
theorem qof {N:Nat} (hN:1000<N) {a:List (List Int)} (ha: ∀x∈a,x.length<=300) (hl:a.length<=300): ∀(K i:Nat),i<=a.length->a.length<K+i->zx N a a K (i:Int)=some (.inl ())
 |0,i,h,hK=>by omega
 |K+1,i,h,hK=>by
  unfold zx;by_cases hi:i<a.length
  ·have hx:=ha _ (List.getElem_mem hi);rw[if_pos (by omega),qp,Ya hi,ZB,ZB,qg6 (by omega) (by omega),ZB,decide_eq_true rfl,if_neg (by decide),qH (by omega),qof hN ha hl K (i+1) (by omega) (by omega)]
  rw[if_neg (by omega)]
theorem qmg {N:Nat} (hN:1000<N) {a:List (List Int)} (ha: ∀x∈a,x.length<=300) (hl:a.length<=300):zU N a a=some true:=by
 unfold zU;have:=qof hN ha hl N 0 (by omega) (by omega);rw[show((0:Nat):Int)=0 from rfl]at this;rw[decide_eq_true rfl,if_neg (by decide),this];rfl
theorem qty {N:Nat} (hN:1000<N) {a:List (List Int)} (ha: ∀x∈a,x.length<=300) (hl:a.length<=300): ∀(K i:Nat),i<=a.length->a.length<K+i->ko N a a K (i:Int)=some (.inl ())
 |0,i,h,hK=>by omega
 |K+1,i,h,hK=>by
  unfold ko;by_cases hi:i<a.length
  ·have hx:=ha _ (List.getElem_mem hi);rw[if_pos (by omega),qp,Ya hi,ZB,ZB,qhu (by omega) (by omega),ZB,decide_eq_true rfl,if_neg (by decide),qH (by omega),qty hN ha hl K (i+1) (by omega) (by omega)]
  rw[if_neg (by omega)]
theorem qtZ {N:Nat} (hN:1000<N) {a:List (List Int)} (ha: ∀x∈a,x.length<=300) (hl:a.length<=300):jE N a a=some true:=by
 unfold jE;have:=qty hN ha hl N 0 (by omega) (by omega);rw[show((0:Nat):Int)=0 from rfl]at this;rw[decide_eq_true rfl,if_neg (by decide),this];rfl
def exS (w:List Int):Int:=(w.length:Int)-2*(ngs w:Int)
theorem qah (u v:List Int):exS (u++v)=exS u+exS v:=by
 unfold exS;rw[qbu,Yq];omega
theorem qmD {c:Int} (h:c≠0):zi c=some (if 0<c then 1 else-1):=by
 unfold zi;by_cases p:0<c
 ·rw[if_neg (show¬c<1 by omega),if_pos (by decide),if_pos p]
 rw[if_pos (show c<1 by omega),if_neg p];by_cases q:c> -1
 ·omega
 rw[if_neg q]
theorem qnh {n:Nat} {w:List Int} (W:vW n w): ∀(K i:Nat) (x:Int),i<=w.length->w.length<K+i-> -(i:Int)<=x->x<=i->zH w K x (i:Int)=some (x+exS (w.drop i))
 |0,i,x,h,hK,h1,h2=>by omega
 |K+1,i,x,h,hK,h1,h2=>by
  have wl:=W.len;unfold zH;by_cases hi:i<w.length
  ·have hc:=W.let_ _ (List.getElem_mem hi);rw[if_pos (by omega),qp,Ya hi,YG hi];generalize w[i]=c at*;rw[ZB,qmD hc.1,ZB,qH (by omega)]
   have e:exS (c::w.drop (i+1))=(if 0<c then 1 else-1)+exS (w.drop (i+1)):=by
    unfold exS ngs;rw[List.countP_cons,Yr];by_cases p:0<c
    ·simp[p];omega
    simp[p];omega
   rw[e];by_cases p:0<c
   ·rw[if_pos p,qE (by omega) (by omega),qnh W K (i+1) _ (by omega) (by omega) (by omega) (by omega)];congr 1;omega
   rw[if_neg p,qE (by omega) (by omega),qnh W K (i+1) _ (by omega) (by omega) (by omega) (by omega)];congr 1;omega
  rw[if_neg (by omega),List.drop_eq_nil_of_le (by omega)];show some x=some (x+exS []);congr 1;unfold exS ngs;simp
theorem qhU {n:Nat} {w:List Int} (W:vW n w):qj3 (n:Int) w=0:=by
 have:=W.n1;have:=W.n2;have:=W.len;unfold qj3;rw[if_neg (by omega),if_neg (by omega),if_pos (Yp.2 fun c hc=>qkt.2 (W.let_ c hc))]
theorem qoM {N:Nat} (hN:2000<N) {n:Nat} {a b:List Int} (A:vW n a) (B:vW n b):yR N (n:Int) a b=some 0:=by
 have:=A.len;have:=B.len;unfold yR;rw[qev hN (by omega),qev hN (by omega),qhU A,qhU B,ZB,ZB,qkc (by simp) (by simp;omega),ZB,qsd,qul]
end Go.Av
end
section
namespace Go.Av
def MvR (n:Nat) (w:List Int) (r:List Int×Int):Prop:=(r.2≠0/\r.1=[])\/(r.2=0/\Mv n w r.1/\r.1.length<=w.length+2/\w.length<=r.1.length+2)
theorem qtF {w:List Int} {i:Nat}:w=w.take i++w.drop i:=(List.take_append_drop i w).symm
theorem qtq {w:List Int} {i:Nat} {x y:Int} (hx:w[i]? =some x) (hy:w[i+1]? =some y):w=w.take i++[x,y]++w.drop (i+2):=by
 obtain⟨h1,e1⟩:=Yb.1 hx;obtain⟨h2,e2⟩:=Yb.1 hy
 conv=>lhs;rw[qtF (w:=w) (i:=i),YG h1,YG h2,e1,e2]
 simp
theorem splW3 {w:List Int} {i:Nat} {x y z:Int} (hx:w[i]? =some x) (hy:w[i+1]? =some y) (hz:w[i+2]? =some z):w=w.take i++[x,y,z]++w.drop (i+3):=by
 obtain⟨h1,e1⟩:=Yb.1 hx;obtain⟨h2,e2⟩:=Yb.1 hy;obtain⟨h3,e3⟩:=Yb.1 hz
 conv=>lhs;rw[qtF (w:=w) (i:=i),YG h1,YG h2,YG h3,e1,e2,e3]
 simp
theorem qnS {c:Int} (h:c≠0):zi c=some (sg5 c):=by
 rw[qmD h];unfold sg5;by_cases p:0<c
 ·rw[if_pos p,if_neg (by omega)]
 rw[if_neg p,if_pos (by omega)]
theorem qq0 {n x y z:Int} (bx:x≠0/\ -n<x/\x<n) (by_:y≠0/\ -n<y/\y<n) (bz:z≠0/\ -n<z/\z<n) (h2:n<=12) (A:Int):
 (qbJ [x,y,z]=some false)\/ ∃l,qhc x y z=some l/\l.length=3/\qbJ [x,y,z]=some true/\qav [x,y,z] [116,117,114,110] A 0=some l:=by
 have k0:idx [x,y,z] 0=some x:=rfl;have k1:idx [x,y,z] 1=some y:=rfl;have k2:idx [x,y,z] 2=some z:=rfl;have ax:=qb2 (show-1000<x/\x<1000 by omega);have ay:=qb2 (show-1000<y/\y<1000 by omega);have az:=qb2 (show-1000<z/\z<1000 by omega);have e0:w64 (((x.natAbs:Nat):Int)-((y.natAbs:Nat):Int))=(x.natAbs:Int)-(y.natAbs:Int):=qE (by omega) (by omega);have ad:=qb2 (show-1000<(x.natAbs:Int)-(y.natAbs:Int)/\(x.natAbs:Int)-(y.natAbs:Int)<1000 by omega);have hx:=qnS bx.1;have hy:=qnS by_.1;have hz:=qnS bz.1
 have rX:sg5 x= -1\/sg5 x=1:=by unfold sg5;split<;>omega
 have rZ:sg5 z= -1\/sg5 z=1:=by unfold sg5;split<;>omega
 have wZ:w64 (sg5 z*(y.natAbs:Int))=sg5 z*(y.natAbs:Int):=by rcases rZ with e|e<;>rw[e]<;>exact qE (by omega) (by omega)
 have wX:w64 (sg5 x*(y.natAbs:Int))=sg5 x*(y.natAbs:Int):=by rcases rX with e|e<;>rw[e]<;>exact qE (by omega) (by omega)
 unfold qbJ qav qhc;simp only[k0,k1,k2,ZB,ax,ay,az,e0,ad,hx,hy,hz];by_cases c1:x.natAbs=z.natAbs
 ·by_cases c2:x.natAbs=y.natAbs+1\/y.natAbs=x.natAbs+1
  ·have c2':((((x.natAbs:Int)-(y.natAbs:Int)).natAbs:Nat):Int)=1:=by omega
   rw[if_pos (show x.natAbs=z.natAbs/\(x.natAbs=y.natAbs+1\/y.natAbs=x.natAbs+1)from⟨c1,c2⟩),if_pos (show((x.natAbs:Nat):Int)=((z.natAbs:Nat):Int)by omega),if_pos c2'];by_cases d1:sg5 x=sg5 y
   ·simp only[if_pos d1,wZ];exact .inr ⟨_,rfl,rfl,rfl,rfl⟩
   simp only[if_neg d1,wX];by_cases d2:sg5 y=sg5 z
   ·simp only[if_pos d2,decide_eq_true d2];exact .inr ⟨_,rfl,rfl,rfl,rfl⟩
   rw[decide_eq_false d2];exact .inl rfl
  rw[if_pos (show((x.natAbs:Nat):Int)=((z.natAbs:Nat):Int)by omega),if_neg (show¬((((x.natAbs:Int)-(y.natAbs:Int)).natAbs:Nat):Int)=1 by omega)];exact .inl rfl
 rw[if_neg (show¬((x.natAbs:Nat):Int)=((z.natAbs:Nat):Int)by omega)];exact .inl rfl
section
variable {N:Nat} (hN:2000<N) {n:Nat} (h1:1<=n) (h2:n<=12) {w:List Int} (hw:w.length<=400) (hv:qap n w)
include hN h1 h2 hw hv
theorem qrw (m:zy): ∃r,qaa N (n:Int) w m=some r/\MvR n w r:=by
 obtain⟨K,A,L⟩:=m
 have bf: ∀a b c d:Int,ku N [a,b,c,d]=some (qip [a,b,c,d]):=fun a b c d=>qkc (by simp) (by simp;omega)
 have bad: ∀e:Int,e≠0->MvR n w ([],e):=fun e h=> .inl ⟨h,rfl⟩
 unfold qaa qdP;simp only[ZB,qb3,bf];have pre: ∀(k:Nat) (F:Int->Option (List Int×Int)),k<=10->(∀e:Int,e≠0->F e=some ([],e))->(∀i:Nat,A=i->L=0->i+k<=w.length-> ∃r,F 0=some r/\MvR n w r)->
  ∃r,(((if A<0 then some ((if false=true then(13:Int)else 0),(if(!decide (L=0))=true then(1:Int)else 0),(if false=true then(3:Int)else 0),(if true=true then(3:Int)else 0),qip [(if false=true then(13:Int)else 0),(if(!decide (L=0))=true then(1:Int)else 0),(if false=true then(3:Int)else 0),(if true=true then(3:Int)else 0)])
   else some ((if false=true then(13:Int)else 0),(if(!decide (L=0))=true then(1:Int)else 0),(if false=true then(3:Int)else 0),(if decide (A>w64 ((w.length:Int)-k))=true then(3:Int)else 0),qip [(if false=true then(13:Int)else 0),(if(!decide (L=0))=true then(1:Int)else 0),(if false=true then(3:Int)else 0),(if decide (A>w64 ((w.length:Int)-k))=true then(3:Int)else 0)]):Option (Int×Int×Int×Int×Int))).bind fun x=>F x.2.2.2.2)=some r/\MvR n w r:=by
  intro k F hk F1 F2;have z:(if false=true then(13:Int)else 0)=0:=rfl;have z3:(if false=true then(3:Int)else 0)=0:=rfl;rw[z,z3];by_cases hL:L=0
  ·have d:(if(!decide (L=0))=true then(1:Int)else 0)=0:=by rw[hL];rfl
   rw[d];rcases qm0 A w.length k (by omega) hk with⟨a,_⟩|⟨a,b⟩|⟨a,b,i,e,hi⟩
   ·rw[if_pos a,ZB];exact⟨_,F1 3 (by decide),bad 3 (by decide)⟩
   ·rw[if_neg a,decide_eq_true b,ZB];exact⟨_,F1 3 (by decide),bad 3 (by decide)⟩
   rw[if_neg a,decide_eq_false b,ZB];exact F2 i e hL hi
  have d:(if(!decide (L=0))=true then(1:Int)else 0)=1:=by rw[decide_eq_false hL];rfl
  rw[d];by_cases a:A<0
  ·rw[if_pos a,ZB];exact⟨_,F1 1 (by decide),bad 1 (by decide)⟩
  rw[if_neg a,ZB]
  have:qip [0,1,0,(if decide (A>w64 ((w.length:Int)-k))=true then(3:Int)else 0)]=1:=by rw[qsd,qrD (by decide)]
  dsimp only;rw[this];exact⟨_,F1 1 (by decide),bad 1 (by decide)⟩
 have err: ∀{e:Int} {a b:Option (List Int×Int)},e≠0->a=some ([],e)->(if(!decide (e=0))=true then a else b)=some ([],e):=fun {e a b} h k=>by rw[decide_eq_false h];exact k
 by_cases k1:(K==([105,110,115,101,114,116]:Str))=true
 ·rw[if_pos k1,qiR (by omega) (by omega)];simp only[ZB];have z:(if false=true then(13:Int)else 0)=0:=rfl;have z3:(if false=true then(1:Int)else 0)=0:=rfl;rw[z,z3]
  cases hL:qbF (n:Int) L with
  |false=>
   by_cases a:A<0
   ·rw[if_pos a,ZB];exact⟨([],3),rfl,bad 3 (by decide)⟩
   rw[if_neg a,ZB];exact⟨([],3),rfl,bad 3 (by decide)⟩
  |true=>
   rcases qm0 A w.length 0 (by omega) (by omega)with⟨a,_⟩|⟨a,b⟩|⟨a,b,i,rfl,hi⟩
   ·rw[if_pos a,ZB];exact⟨([],3),rfl,bad 3 (by decide)⟩
   ·have b:decide (A>w64 ((w.length:Int)-0))=true:=decide_eq_true b;rw[if_neg a,b,ZB];exact⟨([],3),rfl,bad 3 (by decide)⟩
   have b:decide ((i:Int)>w64 ((w.length:Int)-0))=false:=decide_eq_false b
   have z:w64 ((i:Int)+0)=(i:Int):=by rw[qE (by omega) (by omega)];omega
   have hl:=qkt.1 hL
   have wL:w64 (0-L)= -L:=by rw[qE (by omega) (by omega)];omega
   have r2:qie w (i:Int) (i:Int) L (-L)=some (w.take i++[L,-L]++w.drop i):=by
    unfold qie;rw[if_pos (.inl rfl),qiI (Nat.le_refl _) (by omega) (by omega)]
   rw[if_neg a,b,ZB];dsimp only;rw[if_neg (by decide),z,qnP (Nat.le_refl _) (by omega),ZB];unfold qbZ;rw[ZB,if_neg (by decide),qcr (by omega),ZB];unfold qaI;rw[ZB,wL,r2,ZB];refine⟨_,rfl,.inr ⟨rfl,?_,?_,?_⟩⟩
   ·have:=Mv.ins (u:=w.take i) (v:=w.drop i) (n:=n) hl
    rwa [List.take_append_drop]at this
   ·simp;omega
   simp;omega
 rw[if_neg k1];by_cases k2:(K==([99,97,110,99,101,108]:Str))=true
 ·rw[if_pos k2];refine pre 2 (fun e=>if(!decide (e=0))=true then some ([],e)else _) (by omega) (fun e he=>err he rfl) (fun i hA hL hi=>?_);subst hA;obtain⟨x,hx⟩: ∃x,w[i]? =some x:=⟨_,Ya (by omega)⟩;obtain⟨y,hy⟩: ∃x,w[i+1]? =some x:=⟨_,Ya (by omega)⟩;have by_:=hv y (Yn hy)
  have z:w64 ((i:Int)+2)=((i+2:Nat):Int):=by rw[qE (by omega) (by omega)];rfl
  have k3:qb4 [x,y]=some (decide (x=w64 (0-y))):=rfl
  have wy:w64 (0-y)= -y:=by rw[qE (by omega) (by omega)];omega
  rw[if_neg (by decide),z,qpl hx hy,ZB,k3,ZB,wy];by_cases e:x= -y
  ·have r0:qm8 w (i:Int) ((i+2:Nat):Int)=some (w.take i++[]++w.drop (i+2)):=by
    unfold qm8;rw[if_pos (by omega),qiI (by omega) (by omega) (by omega)]
   rw[decide_eq_true e,if_neg (by decide),qcr (by omega),ZB];unfold qaK;rw[ZB,r0,ZB];refine⟨_,rfl,.inr ⟨rfl,?_,?_,?_⟩⟩
   ·have q:=Mv.can (n:=n) (u:=w.take i) (v:=w.drop (i+2)) (x:=x);rw[show-x=y by omega,<-qtq hx hy]at q;rw[YQ];exact q
   ·simp;omega
   simp;omega
  rw[decide_eq_false e,if_pos (by decide)];exact⟨_,rfl,bad 18 (by decide)⟩
 rw[if_neg k2];by_cases k3:(K==([115,119,97,112]:Str))=true
 ·rw[if_pos k3];refine pre 2 (fun e=>if(!decide (e=0))=true then some ([],e)else _) (by omega) (fun e he=>err he rfl) (fun i hA hL hi=>?_);subst hA hL;obtain⟨x,hx⟩: ∃x,w[i]? =some x:=⟨_,Ya (by omega)⟩;obtain⟨y,hy⟩: ∃x,w[i+1]? =some x:=⟨_,Ya (by omega)⟩;have bx:=hv x (Yn hx);have by_:=hv y (Yn hy)
  have z:w64 ((i:Int)+2)=((i+2:Nat):Int):=by rw[qE (by omega) (by omega)];rfl
  have k0:idx [x,y] 0=some x:=rfl;have k1:idx [x,y] 1=some y:=rfl;have e0:w64 (((x.natAbs:Nat):Int)-((y.natAbs:Nat):Int))=(x.natAbs:Int)-(y.natAbs:Int):=qE (by omega) (by omega)
  have k5:qa1 [x,y]=some (decide (((((x.natAbs:Int)-(y.natAbs:Int)).natAbs:Nat):Int)>=2)):=by
   unfold qa1;simp only[k0,k1,ZB,qb2 (show-1000<x/\x<1000 by omega),qb2 (show-1000<y/\y<1000 by omega),e0,qb2 (show-1000<(x.natAbs:Int)-(y.natAbs:Int)/\(x.natAbs:Int)-(y.natAbs:Int)<1000 by omega)]
  have k6:qaG [x,y] K (i:Int) 0=some (y,x):=rfl;rw[if_neg (by decide),z,qpl hx hy,ZB,k5,ZB];by_cases e:((((x.natAbs:Int)-(y.natAbs:Int)).natAbs:Nat):Int)>=2
  ·have r2:qie w (i:Int) ((i+2:Nat):Int) y x=some (w.take i++[y,x]++w.drop (i+2)):=by
    unfold qie;rw[if_pos (.inr (by omega)),qiI (by omega) (by omega) (by omega)]
   rw[decide_eq_true e,if_neg (by decide),qcr (by omega),ZB,k6,ZB];dsimp only;rw[r2,ZB];refine⟨_,rfl,.inr ⟨rfl,?_,?_,?_⟩⟩
   ·have q:=Mv.swp (n:=n) (u:=w.take i) (v:=w.drop (i+2)) (x:=x) (y:=y) (by unfold qlm;rw[Bool.or_eq_true,Nat.ble_eq,Nat.ble_eq];omega);rw[<-qtq hx hy]at q;exact q
   ·simp;omega
   simp;omega
  rw[decide_eq_false e,if_pos (by decide)];exact⟨_,rfl,bad 18 (by decide)⟩
 rw[if_neg k3];by_cases k4:(K==([116,117,114,110]:Str))=true
 ·have hK:K=[116,117,114,110]:=beq_iff_eq.1 k4;rw[if_pos k4];refine pre 3 (fun e=>if(!decide (e=0))=true then some ([],e)else _) (by omega) (fun e he=>err he rfl) (fun i hA hL hi=>?_);subst hA hL hK;obtain⟨x,hx⟩: ∃x,w[i]? =some x:=⟨_,Ya (by omega)⟩;obtain⟨y,hy⟩: ∃x,w[i+1]? =some x:=⟨_,Ya (by omega)⟩;obtain⟨v,hz⟩: ∃x,w[i+2]? =some x:=⟨_,Ya (by omega)⟩;have bx:=hv x (Yn hx);have by_:=hv y (Yn hy);have bz:=hv v (Yn hz)
  have z:w64 ((i:Int)+3)=((i+3:Nat):Int):=by rw[qE (by omega) (by omega)];rfl
  rw[if_neg (by decide),z,qsr hx hy hz,ZB];rcases qq0 bx by_ bz (by omega) (i:Int)with e|⟨l,t1,t2,t3,t4⟩
  ·rw[e,ZB,if_pos (by decide)];exact⟨_,rfl,bad 18 (by decide)⟩
  have r2:qmX w (i:Int) ((i+3:Nat):Int) l=some (w.take i++l++w.drop (i+3)):=by
   unfold qmX;rw[if_pos ⟨by omega,by rw[t2];omega⟩,qiI (by omega) (by omega) (by omega)]
  rw[t3,ZB,if_neg (by decide),qcr (by omega),ZB,t4,ZB,r2,ZB];refine⟨_,rfl,.inr ⟨rfl,?_,?_,?_⟩⟩
  ·have q:=Mv.trn (n:=n) (u:=w.take i) (v:=w.drop (i+3)) t1;rw[<-splW3 hx hy hz]at q;exact q
  ·simp[t2];omega
  simp[t2];omega
 rw[if_neg k4];refine⟨([],13),?_,bad 13 (by decide)⟩;by_cases a:A<0
 ·rw[if_pos a,ZB];rfl
 rw[if_neg a,ZB];rfl
end
end Go.Av
end
section
namespace Go.Av
def qce (s:List Int) (x:Int):List Int:=match s with
 |[]=>[x]
 |y::t=>if y= -x then t else x::y::t
theorem qkP (x:Int):qce [] x=[x]:=rfl
theorem qfo {x y:Int} (t:List Int) (h:y= -x):qce (y::t) x=t:=if_pos h
theorem qfP {x y:Int} (t:List Int) (h: ¬y= -x):qce (y::t) x=x::y::t:=if_neg h
def fact (s w:List Int):List Int:=w.foldl qce s
def fred (w:List Int):List Int:=(fact [] w).reverse
def yP (w:List Int):List Int:=(w.map fun x=> -x).reverse
def qeC:List Int->Prop
 |[]=>True
 |x::t=>x≠0/\(∀y∈t.head?,y≠ -x)/\qeC t
def Nz (w:List Int):Prop:= ∀x∈w,x≠0
theorem Nz.app {u v:List Int} (h:Nz u) (k:Nz v):Nz (u++v):=fun x hx=>(List.mem_append.1 hx).elim (h x) (k x)
theorem Nz.inv {u:List Int} (h:Nz u):Nz (yP u):=fun x hx=>by
 simp only[yP,List.mem_reverse,List.mem_map]at hx;obtain⟨y,hy,rfl⟩:=hx;have:=h y hy;omega
theorem qmR (u v:List Int):yP (u++v)=yP v++yP u:=by simp[yP]
theorem qpN (x:Int) (u:List Int):yP (x::u)=yP u++[-x]:=by simp[yP]
theorem qkl (u:List Int):yP (yP u)=u:=by simp[yP,List.map_reverse,Function.comp_def]
theorem qhl (u:List Int):(yP u).length=u.length:=by simp[yP]
theorem zS (s u v:List Int):fact s (u++v)=fact (fact s u) v:=by simp[fact]
theorem qek (s:List Int) (x:Int):fact s [x]=qce s x:=rfl
theorem qpT (s:List Int) (x:Int) (w:List Int):fact s (x::w)=fact (qce s x) w:=rfl
theorem qpR {s:List Int} {x:Int} (h:qeC s) (hx:x≠0):qeC (qce s x):=by
 cases s with
 |nil=>exact⟨hx,by simp,trivial⟩
 |cons y t=>
  unfold qce;dsimp only;split
  ·exact h.2.2
  rename_i n;exact⟨hx,by intro z hz;simp at hz;subst hz;exact n,h⟩
theorem vY {s w:List Int} (h:qeC s) (hw:Nz w):qeC (fact s w):=by
 induction w generalizing s with
 |nil=>exact h
 |cons x w ih=>exact ih (qpR h (hw x (List.mem_cons_self ..))) (fun y hy=>hw y (List.mem_cons_of_mem _ hy))
theorem qiO {s:List Int} {x:Int} (h:qeC s) (hx:x≠0):qce (qce s x) (-x)=s:=by
 cases s with
 |nil=>rw[qkP,qfo _ (by omega)]
 |cons y t=>
  by_cases n:y= -x
  ·rw[qfo t n]
   cases t with
   |nil=>rw[qkP,n]
   |cons z t=>
    have:=h.2.1 z (by simp);rw[qfP _ (by omega),n]
  rw[qfP t n,qfo _ (by omega)]
theorem qqT {s w:List Int} {x:Int} (h:x∈fact s w):x∈s\/x∈w:=by
 induction w generalizing s with
 |nil=>exact .inl h
 |cons y w ih=>
  rcases ih h with h|h
  ·cases s with
   |nil=>simp[qce]at h;exact .inr (by simp[h])
   |cons z t=>
    unfold qce at h;dsimp only at h;split at h
    ·exact .inl (List.mem_cons_of_mem _ h)
    rcases List.mem_cons.1 h with h|h
    ·exact .inr (by simp[h])
    exact .inl h
  exact .inr (List.mem_cons_of_mem _ h)
theorem qlV {w:List Int} {x:Int} (h:x∈fred w):x∈w:=by
 rcases qqT (List.mem_reverse.1 h)with h|h
 ·cases h
 exact h
theorem qpd {w:List Int} (h:Nz w):Nz (fred w):=fun x hx=>h x (qlV hx)
theorem qmB (s w:List Int):(fact s w).length<=s.length+w.length:=by
 induction w generalizing s with
 |nil=>simp[fact]
 |cons x w ih=>
  have:=ih (qce s x)
  have h:(qce s x).length<=s.length+1:=by
   cases s with
   |nil=>simp[qce]
   |cons y t=>
    unfold qce;dsimp only;split
    ·simp;omega
    simp
  rw[qpT];simp only[Yr];omega
theorem ql8 (w:List Int):(fred w).length<=w.length:=by
 have:=qmB [] w;simpa[fred]using this
theorem qcY {w:List Int} (hw:Nz w): ∀{s:List Int},qeC s->fact s (fred w)=fact s w:=by
 suffices∀(r:List Int),Nz r-> ∀{s:List Int},qeC s->fact s (fred r.reverse)=fact s r.reverse by
  intro s hs;have:=this w.reverse (fun x hx=>hw x (List.mem_reverse.1 hx)) hs;simpa using this
 intro r
 induction r with
 |nil=>intro _ s _;rfl
 |cons x r ih=>
  intro hr s hs;have hx:x≠0:=hr x (List.mem_cons_self ..)
  have hr':Nz r:=fun y hy=>hr y (List.mem_cons_of_mem _ hy)
  have hrr:Nz r.reverse:=fun y hy=>hr' y (List.mem_reverse.1 hy)
  have e:=ih hr' hs;have hR:qeC (fact [] r.reverse):=vY trivial hrr;rw[List.reverse_cons,zS,<-e,qek]
  have g:fred (r.reverse++[x])=(qce (fact [] r.reverse) x).reverse:=by
   unfold fred;rw[zS,qek]
  rw[g];have f:fred r.reverse=(fact [] r.reverse).reverse:=rfl;rw[f]
  cases c:fact [] r.reverse with
  |nil=>rfl
  |cons y t=>
   rw[c]at hR;by_cases n:y= -x
   ·rw[qfo t n,List.reverse_cons,zS,qek]
    have hS:qeC (fact s t.reverse):=by
     refine vY hs (fun z hz=>?_);refine qpd hrr z ?_;rw[f,c,List.reverse_cons];exact List.mem_append_left _ hz
    have:=qiO hS (x:= -x) (by omega);rw[Int.neg_neg]at this;rw[n,this]
   rw[qfP t n,List.reverse_cons,zS,qek]
end Go.Av
end
section
namespace Go.Av
def Feq (u v:List Int):Prop:= ∀s,qeC s->fact s u=fact s v
theorem Feq.rfl_ {u:List Int}:Feq u u:=fun s _=>rfl
theorem Feq.trans {u v w:List Int} (h:Feq u v) (k:Feq v w):Feq u w:=fun s hs=>(h s hs).trans (k s hs)
theorem Feq.app {u v x y:List Int} (hu:Nz u) (h:Feq u v) (k:Feq x y):Feq (u++x) (v++y):=fun s hs=>by
 rw[zS,zS,<-h s hs,k _ (vY hs hu)]
theorem Feq.fred {u v:List Int} (h:Feq u v):fred u=fred v:=by
 unfold Go.Av.fred;rw[h [] trivial]
theorem qpw {s:List Int} (h:qeC s):fact [] s.reverse=s:=by
 induction s with
 |nil=>rfl
 |cons x t ih=>
  rw[List.reverse_cons,zS,ih h.2.2,qek]
  cases t with
  |nil=>rfl
  |cons y t=>exact qfP _ (h.2.1 y (by simp))
def FR (w:List Int):Prop:=qeC w.reverse
theorem FR.fix {w:List Int} (h:FR w):fred w=w:=by
 have:=qpw h;rw[List.reverse_reverse]at this;unfold fred;rw[this,List.reverse_reverse]
theorem qoE {w:List Int} (h:Nz w):FR (fred w):=by
 unfold FR fred;rw[List.reverse_reverse];exact vY trivial h
theorem Feq.uniq {u v:List Int} (hv:FR v) (h:Feq u v):Go.Av.fred u=v:=by rw[h.fred,hv.fix]
theorem qrC (x:Int) (hx:x≠0):Feq [x,-x] []:=fun s hs=>qiO hs hx
theorem qoH {u:List Int} (h:Nz u):Feq (u++yP u) []:=by
 induction u with
 |nil=>exact .rfl_
 |cons x u ih=>
  have hx:=h x (List.mem_cons_self ..)
  have hu:Nz u:=fun y hy=>h y (List.mem_cons_of_mem _ hy)
  rw[qpN,show x::u++(yP u++[-x])=[x]++((u++yP u)++[-x])by simp];refine Feq.trans (Feq.app (fun y hy=>?_) .rfl_ (Feq.app (hu.app hu.inv) (ih hu) .rfl_)) (qrC x hx);simp at hy;omega
theorem qqp {u:List Int} (h:Nz u):Feq (yP u++u) []:=by
 have:=qoH h.inv
 rwa [qkl]at this
def fimg (x:List (List Int)) (g:Int):List Int:=if 0<g then x.getD (g-1).toNat []else yP (x.getD (-g-1).toNat [])
def fsub (x:List (List Int)) (w:List Int):List Int:=w.flatMap (fimg x)
def Nzs (x:List (List Int)):Prop:= ∀w∈x,Nz w
structure FConj (w:List Int) (u:List Int) (g:Int):Prop where
 eq_:w=u++[g]++yP u
 pos:0<g
 red:FR w
end Go.Av
end
section
namespace Go.Av
theorem qeC.nz {w:List Int} (h:qeC w):Nz w:=by
 induction w with
 |nil=>intro x hx;simp at hx
 |cons y t ih=>
  intro x hx;rcases List.mem_cons.1 hx with e|e
  ·rw[e];exact h.1
  exact ih h.2.2 x e
def qz (im:List (List Int)) (c:Int):List (List Int):=
 let i:=c.natAbs-1;let a:=im.getD i [];let b:=im.getD (i+1) []
 if 0<c then(im.set i (fred (a++b++yP a))).set (i+1) a else(im.set i b).set (i+1) (fred (yP b++a++b))
theorem qf3 (im:List (List Int)) (c:Int):(qz im c).length=im.length:=by
 unfold qz;dsimp only;split<;>simp
theorem qt0 {im:List (List Int)} {i:Nat} (h:i+1<im.length): ∃p a b q,im=p++a::b::q/\p.length=i:=by
 refine⟨im.take i,im[i],im[i+1],im.drop (i+2),?_,by simp;omega⟩;rw[<-YG h,<-YG (by omega),List.take_append_drop]
theorem set2 (p:List (List Int)) (a b A B:List Int) (q:List (List Int)):((p++a::b::q).set p.length A).set (p.length+1) B=p++A::B::q:=by
 induction p with
 |nil=>rfl
 |cons x p ih=>
  simp only[List.cons_append,Yr,List.set_cons_succ];rw[ih]
theorem qrT (p:List (List Int)) (a b:List Int) (q:List (List Int)):(p++a::b::q).getD p.length []=a:=by
 simp[List.getD_eq_getElem?_getD]
theorem qrH (p:List (List Int)) (a b:List Int) (q:List (List Int)):(p++a::b::q).getD (p.length+1) []=b:=by
 rw[Yy,Yo (by omega)];simp
theorem qrv {p:List (List Int)} {a b:List Int} {q:List (List Int)} {c:Int} (h:c.natAbs-1=p.length):
 qz (p++a::b::q) c=if 0<c then p++fred (a++b++yP a)::a::q else p++b::fred (yP b++a++b)::q:=by
 unfold qz;dsimp only;rw[h,qrT,qrH,set2,set2]
def iota1 (n:Nat):List Int:=(List.range n).map fun k:Nat=>((k:Nat):Int)+1
def fid (n:Nat):List (List Int):=(List.range n).map fun k:Nat=>[((k:Nat):Int)+1]
theorem qcP (n:Nat):(fid n).length=n:=by simp[fid]
theorem qs8 {n k:Nat} (h:k<n):(fid n).getD k []=[(k:Int)+1]:=by
 rw[Yy];simp[fid,List.getElem?_map,List.getElem?_range h]
structure FOK (n:Nat) (im:List (List Int)) (row:List Int):Prop where
 len:im.length=n
 at_: ∀k,k<n-> ∃(u:List Int) (v:Nat),v<n/\row[k]? =some (v:Int)/\FConj (im.getD k []) u ((v:Int)+1)
 let_: ∀w∈im,∀y∈w,y≠0/\ -(n:Int)<=y/\y<=n
 prod:Feq im.flatten (iota1 n)
end Go.Av
end
section
namespace Go.Av
theorem getDo {p:List (List Int)} {a b A B:List Int} {q:List (List Int)} {k:Nat} (h0:k≠p.length) (h1:k≠p.length+1):(p++A::B::q).getD k []=(p++a::b::q).getD k []:=by
 rw[Yy,Yy];rcases Nat.lt_or_ge k p.length with hlt|hge
 ·rw[Yf hlt,Yf hlt]
 obtain⟨j,rfl⟩: ∃j,k=p.length+(j+2):=⟨k-p.length-2,by omega⟩;rw[Yo (by omega),Yo (by omega),Nat.add_sub_cancel_left];rfl
theorem xC {im:List (List Int)} {c:Int} {i:Nat} (hi:c.natAbs=i+1) (hl:i+1<im.length) (k:Nat):
 (qz im c).getD k []=if k=i then(if 0<c then fred (im.getD i []++im.getD (i+1) []++yP (im.getD i []))else im.getD (i+1) [])
  else if k=i+1 then(if 0<c then im.getD i []else fred (yP (im.getD (i+1) [])++im.getD i []++im.getD (i+1) []))else im.getD k []:=by
 obtain⟨p,a,b,q,e,hp⟩:=qt0 (im:=im) (i:=i) hl;subst e hp;rw[qrv (by omega),qrT,qrH];by_cases k0:k=p.length
 ·rw[if_pos k0,k0];split<;>rw[qrT]
 rw[if_neg k0];by_cases k1:k=p.length+1
 ·rw[if_pos k1,k1];split<;>rw[qrH]
 rw[if_neg k1];split<;>exact getDo k0 k1
structure FRel (n:Nat) (x Y Z:List (List Int)):Prop where
 yl:Y.length=n
 zl:Z.length=n
 yn:Nzs Y
 zn:Nzs Z
 eq_: ∀k,k<n->Feq (fsub x (Y.getD k [])) (Z.getD k [])
def qbq (n:Nat) (w:List Int):List (List Int):=w.foldl qz (fid n)
theorem qes (n:Nat) (a b:List Int):qbq n (a++b)=b.foldl qz (qbq n a):=by simp[qbq]
def qnM (n:Nat) (w:List Int):Prop:= ∀c∈w,c≠0/\ -(n:Int)<c/\c<n
theorem qh3 (n:Nat): ∀(w:List Int) (im:List (List Int)),(w.foldl qz im).length=im.length
 |[],im=>rfl
 |c::w,im=>by rw[List.foldl_cons,qh3 n w,qf3]
theorem qnN {im:List (List Int)} {M:Nat} (h: ∀w∈im,w.length<=M) {c:Int} {i:Nat} (hi:c.natAbs=i+1) (hl:i+1<im.length): ∀w∈qz im c,w.length<=3*M:=by
 have g: ∀k,(im.getD k []).length<=M:=fun k=>by
  rw[Yy]
  cases e:im[k]? with
  |none=>simp
  |some w=>exact h w (Yn e)
 intro w hw;obtain⟨k,hk,rfl⟩:=List.getElem_of_mem hw
 have e:(qz im c)[k]=(qz im c).getD k []:=by rw[Yy,Ya hk];rfl
 rw[e,xC hi hl];have g0:=g i;have g1:=g (i+1);have gk:=g k;split
 ·split
  ·refine Nat.le_trans (ql8 _) ?_;rw[Yq,Yq,qhl];omega
  omega
 split
 ·split
  ·omega
  refine Nat.le_trans (ql8 _) ?_;rw[Yq,Yq,qhl];omega
 omega
theorem qhW {n:Nat}: ∀{w:List Int} {im:List (List Int)} {M:Nat},qnM n w->im.length=n->(∀v∈im,v.length<=M)-> ∀v∈w.foldl qz im,v.length<=3^w.length*M
 |[],im,M,hw,hl,h=>by simpa using h
 |c::w,im,M,hw,hl,h=>by
  have hc:=hw c (List.mem_cons_self ..);obtain⟨i,hi⟩: ∃i,c.natAbs=i+1:=⟨c.natAbs-1,by omega⟩;have:=qhW (w:=w) (fun d hd=>hw d (List.mem_cons_of_mem _ hd)) (by rw[qf3,hl]) (qnN h hi (by omega));intro v hv;have:=this v hv;rw[Yr,Nat.pow_succ,Nat.mul_assoc];exact this
end Go.Av
end
section
namespace Go.Av
theorem qoe {w:List Int} (hl:w.length<=2000000000): ∀(K i:Nat) (l:List Int),i<=w.length->i<K->l.length+i=w.length->vz w K l ((i:Int)-1)=some (l++((w.take i).reverse.map fun x=>w64 (0-x)))
 |0,i,l,h,hK,hs=>by omega
 |K+1,i,l,h,hK,hs=>by
  unfold vz
  cases i with
  |zero=>rw[if_neg (by omega),List.take_zero];simp
  |succ i=>
   have hi:i<w.length:=by omega
   rw[show((i+1:Nat):Int)-1=(i:Int)by omega,if_pos (by omega),qp,Ya hi,ZB,qbh (by simp only[Yr,List.length_nil];omega) (by simp only[Yr,List.length_nil];omega),ZB,show w64 ((i:Int)-1)=(i:Int)-1 from qE (by omega) (by omega),
    qoe hl K i _ (by omega) (by omega) (by simp;omega),List.take_succ_eq_append_getElem hi,List.reverse_append,List.map_append,Yz]
   rfl
theorem qhq {N:Nat} {w:List Int} (hN:w.length+2<N) (hl:w.length<=2000000000):qaz N w=some ((w.map fun x=>w64 (0-x)).reverse):=by
 unfold qaz;rw[qE (by omega) (by omega),qoe hl N w.length [] (by omega) (by omega) (by simp),List.take_length];simp
theorem qhk {a b:List Int} (ha:a.length<=2000000000) (hb:b.length<=2000000000):y9 a b=some (a++b):=by
 unfold y9;rw[qbh (by simp;omega) (by simp;omega),ZB,qbh (by simp;omega) (by simp;omega),ZB,List.nil_append]
theorem qm1 {w:List Int} (h: ∀y∈w,-1000<y/\y<1000):(w.map fun x=>w64 (0-x)).reverse=yP w:=by
 unfold yP;congr 1;refine List.map_congr_left (fun y hy=>?_);have:=h y hy;rw[qE (by omega) (by omega)];omega
theorem qew {w:List Int} (hl:w.length<=2000000000) (hw: ∀y∈w,-1000<y/\y<1000): ∀(K i:Nat) (o:Option (List Int)),hof o=(fact [] (w.take i)).reverse->i<=w.length->w.length<K+i-> ∃r,jo w K o (i:Int)=some r/\hof r=fred w
 |0,i,o,ho,h,hK=>by omega
 |K+1,i,o,ho,h,hK=>by
  unfold jo;by_cases hi:i<w.length
  ·have hx:w[i]? =some w[i]:=Ya hi
   have hs:fact [] (w.take (i+1))=qce (fact [] (w.take i)) w[i]:=by
    rw[List.take_succ_eq_append_getElem hi,zS,qek]
   have hb:=hw w[i] (List.getElem_mem hi);have hlen:=qmB [] (w.take i);simp only[List.length_nil,Nat.zero_add,Ym]at hlen;rw[if_pos (by omega),qp,hx];generalize w[i]=x at*
   have wx:w64 (0-x)= -x:=by rw[qE (by omega) (by omega)];omega
   generalize fact [] (w.take i)=s at*
   cases o with
   |none=>
    have:s=[]:=by
     have:s.reverse=[]:=ho.symm;simpa using this
    subst this;simp only[ZB];rw[if_neg (by decide)];simp only[ZB,ZF,if_false];rw[qH (by omega)];exact qew hl hw K (i+1) (some [x]) (by rw[hs];rfl) (by omega) (by omega)
   |some l=>
    have hls:l=s.reverse:=ho;subst hls;simp only[ZB]
    cases s with
    |nil=>
     rw[if_neg (by simp)];simp only[ZB,ZF,if_false];rw[qbh (by simp) (by simp)];simp only[ZB];rw[qH (by omega)];exact qew hl hw K (i+1) _ (by rw[hs];rfl) (by omega) (by omega)
    |cons y t=>
     simp only[Yr]at hlen
     have e1:w64 (((y::t).reverse.length:Int)-1)=((t.length:Nat):Int):=by
      rw[List.length_reverse,Yr,qE (by omega) (by omega)];omega
     have hy:(y::t).reverse[t.length]? =some y:=by simp
     rw[if_pos (by rw[List.length_reverse,Yr];omega),e1,qp,hy];simp only[ZB,wx];by_cases hc:y= -x
     ·rw[decide_eq_true hc];simp only[if_true]
      have hct:cut (y::t).reverse 0 (t.length:Int)=some t.reverse:=by
       rw[qi4 (by simp),List.reverse_cons,List.take_left' (by simp)]
      simp only[e1,hct,ZB];rw[qH (by omega)];exact qew hl hw K (i+1) _ (by rw[hs,qfo t hc];rfl) (by omega) (by omega)
     rw[decide_eq_false hc];simp only[ZF,if_false];rw[qbh (by simp;omega) (by simp;omega)];simp only[ZB];rw[qH (by omega)];exact qew hl hw K (i+1) _ (by rw[hs,qfP t hc];simp[hof]) (by omega) (by omega)
  rw[if_neg (by omega)];refine⟨o,rfl,?_⟩;rw[ho,List.take_of_length_le (by omega)];rfl
theorem qjA {N:Nat} {w:List Int} (hN:w.length<N) (hl:w.length<=2000000000) (hw: ∀y∈w,-1000<y/\y<1000):yS N w=some (fred w):=by
 unfold yS;obtain⟨r,h1,h2⟩:=qew hl hw N 0 none (by rfl) (by omega) (by omega);rw[show(0:Int)=((0:Nat):Int)from rfl,h1,ZB,h2]
def qge (n:Nat) (w:List Int):Prop:= ∀y∈w,y≠0/\ -(n:Int)<=y/\y<=n
theorem ginv {n:Nat} {w:List Int} (h:qge n w):qge n (yP w):=fun y hy=>by
 simp only[yP,List.mem_reverse,List.mem_map]at hy;obtain⟨z,hz,rfl⟩:=hy;have:=h z hz;omega
theorem gbnd {n:Nat} (hn:n<=12) {w:List Int} (h:qge n w): ∀y∈w,-1000<y/\y<1000:=fun y hy=>by
 have:=h y hy;omega
theorem qhd {n:Nat} {im:List (List Int)} (h: ∀w∈im,qge n w) (k:Nat):qge n (im.getD k []):=by
 rw[Yy]
 cases e:im[k]? with
 |none=>intro y hy;simp at hy
 |some w=>exact h w (Yn e)
theorem lgetD {M:Nat} {im:List (List Int)} (h: ∀w∈im,w.length<=M) (k:Nat):(im.getD k []).length<=M:=by
 rw[Yy]
 cases e:im[k]? with
 |none=>simp
 |some w=>exact h w (Yn e)
theorem qmq {N:Nat} (hN:100000<N) {a b:List (List Int)} (ha: ∀x∈a,x.length<=100000) (hl:a.length<=300) (hab:a.length=b.length): ∀(K i:Nat),i<=a.length->a.length<K+i->zx N a b K (i:Int)=some (if a.drop i=b.drop i then .inl ()else .inr false)
 |0,i,h,hK=>by omega
 |K+1,i,h,hK=>by
  unfold zx;by_cases hi:i<a.length
  ·have hb:i<b.length:=by omega
   have hx:=ha _ (List.getElem_mem hi);rw[if_pos (by omega),qp,Ya hi,qp,Ya hb,ZB,ZB,qg6 (by omega) (by omega),ZB,YG hi,YG hb];by_cases c:a[i]=b[i]
   ·rw[decide_eq_true c,if_neg (by decide),qH (by omega),qmq hN ha hl hab K (i+1) (by omega) (by omega),c];simp only[List.cons.injEq,true_and]
   rw[decide_eq_false c,if_pos (by decide),if_neg (fun h=>c (List.cons.inj h).1)]
  rw[if_neg (by omega),List.drop_eq_nil_of_le (by omega),List.drop_eq_nil_of_le (by omega),if_pos rfl]
theorem qpx {N:Nat} (hN:100000<N) {a b:List (List Int)} (ha: ∀x∈a,x.length<=100000) (hl:a.length<=300):zU N a b=some (decide (a=b)):=by
 unfold zU;by_cases c:(a.length:Int)=(b.length:Int)
 ·have:=qmq hN ha hl (b:=b) (by omega) N 0 (by omega) (by omega);rw[show((0:Nat):Int)=0 from rfl,YR,YR]at this;rw[decide_eq_true c,if_neg (by decide),this];by_cases e:a=b
  ·rw[if_pos e,decide_eq_true e];rfl
  rw[if_neg e,decide_eq_false e];rfl
 rw[decide_eq_false c,if_pos (by decide),decide_eq_false (fun e=>c (by rw[e]))]
theorem qrU (n:Nat): ∀w∈fid n,qge n w:=fun w hw y hy=>by
 simp only[fid,List.mem_map,List.mem_range]at hw;obtain⟨k,hk,rfl⟩:=hw;simp at hy;omega
theorem qmW {n:Nat} {u v:List Int} (h:qge n u) (k:qge n v):qge n (u++v):=fun y hy=>(List.mem_append.1 hy).elim (h y) (k y)
theorem gred {n:Nat} {u:List Int} (h:qge n u):qge n (fred u):=fun y hy=>h y (qlV hy)
theorem qn6 {n:Nat} {im:List (List Int)} (h: ∀w∈im,qge n w) (hl:im.length=n) {c:Int} (hc:c≠0/\ -(n:Int)<c/\c<n): ∀w∈qz im c,qge n w:=fun w hw=>by
 obtain⟨i,hi⟩: ∃i,c.natAbs=i+1:=⟨c.natAbs-1,by omega⟩;obtain⟨k,hk,rfl⟩:=List.getElem_of_mem hw
 have e:(qz im c)[k]=(qz im c).getD k []:=by rw[Yy,Ya hk];rfl
 rw[e,xC hi (by omega)];have g:=qhd h;split
 ·split
  ·exact gred (qmW (qmW (g _) (g _)) (ginv (g _)))
  exact g _
 split
 ·split
  ·exact g _
  exact gred (qmW (qmW (ginv (g _)) (g _)) (g _))
 exact g _
theorem qkd {im:List (List Int)} {k:Nat} (h:k<im.length):im[k]? =some (im.getD k []):=by
 rw[Yy,Ya h];rfl
theorem qpg {n N:Nat} (hn:n<=12) (hN:2000000100<N) {w:List Int} (hw:qnM n w) (hwl:w.length<=18): ∀(K i:Nat),i<=w.length->w.length<K+i->xn N w K (qbq n (w.take i)) (i:Int)=some (qbq n w)
 |0,i,h,hK=>by omega
 |K+1,i,h,hK=>by
  unfold xn;by_cases hi:i<w.length
  ·have hx:w[i]? =some w[i]:=Ya hi;have hc:=hw _ (List.getElem_mem hi);have hrec:=qpg hn hN hw hwl K (i+1) (by omega) (by omega)
   have ht:qnM n (w.take i):=fun c hc=>hw c (List.mem_of_mem_take hc)
   rw[List.take_succ_eq_append_getElem hi,qes,List.foldl_cons,List.foldl_nil]at hrec
   have hl:(qbq n (w.take i)).length=n:=by unfold qbq;rw[qh3 n,qcP]
   have hlong:=qhW (M:=1) ht (qcP n) (fun v hv=>by
    simp only[fid,List.mem_map,List.mem_range]at hv;obtain⟨k,hk,rfl⟩:=hv
    simp)
   have hp:3^(w.take i).length<=3^17:=Nat.pow_le_pow_right (by omega) (by rw[Ym];omega)
   have h17:(3:Nat)^17=129140163:=by decide
   have hg: ∀v∈qbq n (w.take i),qge n v:=by
    have: ∀(u:List Int) (im:List (List Int)),qnM n u->im.length=n->(∀v∈im,qge n v)-> ∀v∈u.foldl qz im,qge n v:=by
     intro u
     induction u with
     |nil=>intro im _ _ h;exact h
     |cons c u ih=>
      intro im hu hl h;rw[List.foldl_cons];exact ih _ (fun d hd=>hu d (List.mem_cons_of_mem _ hd)) (by rw[qf3,hl]) (qn6 h hl (hu c (List.mem_cons_self ..)))
    exact this _ _ ht (qcP n) (qrU n)
   have hlen: ∀k,((qbq n (w.take i)).getD k []).length<=129140163:=fun k=>by
    have:((qbq n (w.take i)).getD k []).length<=3^(w.take i).length*1:=lgetD hlong k;omega
   rw[if_pos (by omega),qp,hx];generalize w[i]=c at*;generalize qbq n (w.take i)=im at*;obtain⟨m,hm⟩: ∃m,c.natAbs=m+1:=⟨c.natAbs-1,by omega⟩
   have hmn:m+1<n:=by omega
   have la:=hlen m;have lb:=hlen (m+1);have ga:=gbnd hn (qhd hg m);have gb:=gbnd hn (qhd hg (m+1))
   have q1:w64 (((m+1:Nat):Int)-1)=(m:Int):=by rw[qE (by omega) (by omega)];omega
   simp only[ZB,qjR (show-1000<c/\c<1000 by omega),hm,q1];rw[qp,qkd (by omega),ZB,qp,qkd (by omega),ZB];unfold qz at hrec;rw[hm,Nat.add_sub_cancel]at hrec;dsimp only at hrec;have lia:(yP (im.getD m [])).length=(im.getD m []).length:=qhl _;have lib:(yP (im.getD (m+1) [])).length=(im.getD (m+1) []).length:=qhl _;by_cases hp:c>0
   ·rw[if_pos (show 0<c from hp)]at hrec;have hlet: ∀y∈im.getD m []++im.getD (m+1) []++yP (im.getD m []),-1000<y/\y<1000:=gbnd hn (qmW (qmW (qhd hg m) (qhd hg (m+1))) (ginv (qhd hg m)));rw[if_pos hp,qhk (by omega) (by omega),ZB,qhq (by omega) (by omega),qm1 ga,ZB,qhk (by rw[Yq];omega) (by omega),ZB,qjA (by simp only[Yq];omega) (by simp only[Yq];omega) hlet,ZB,kg (by omega),ZB,qp,Yw (by omega),qkd (by omega),ZB,kg (by rw[Yk];omega)];simp only[ZB];rw[qH (by omega)];exact hrec
   rw[if_neg (show¬0<c from hp)]at hrec;have hlet: ∀y∈yP (im.getD (m+1) [])++im.getD m []++im.getD (m+1) [],-1000<y/\y<1000:=gbnd hn (qmW (qmW (ginv (qhd hg (m+1))) (qhd hg m)) (qhd hg (m+1)));rw[if_neg hp,qhq (by omega) (by omega),qm1 gb,ZB,qhk (by omega) (by omega),ZB,qhk (by rw[Yq];omega) (by omega),ZB,qjA (by simp only[Yq];omega) (by simp only[Yq];omega) hlet,ZB,kg (by omega),ZB,qp,Yw (by omega),qkd (by omega),ZB,kg (by rw[Yk];omega)];simp only[ZB];rw[qH (by omega)];exact hrec
  rw[if_neg (by omega),List.take_of_length_le (by omega)]
theorem qlP {n:Nat} (hn:n<=12): ∀(K i:Nat),i<=n->n<K+i->xh (n:Int) K ((fid n).take i) ((i+1:Nat):Int)=some (fid n)
 |0,i,h,hK=>by omega
 |K+1,i,h,hK=>by
  unfold xh;by_cases hi:i<n
  ·have e:(fid n).take (i+1)=(fid n).take i++[[((i+1:Nat):Int)]]:=by
    rw[List.take_succ_eq_append_getElem (by rw[qcP];exact hi)];simp[fid]
   rw[if_pos (by omega),qbh (by simp[fid];omega) (by simp[fid];omega),ZB,qH (by omega),<-e];exact qlP hn K (i+1) (by omega) (by omega)
  rw[if_neg (by omega),List.take_of_length_le (by rw[qcP];omega)]
theorem qmG {n N:Nat} (hn:n<=12) (hN:2000000100<N) {w:List Int} (hw:qnM n w) (hwl:w.length<=18):qaV N (n:Int) w=some (qbq n w):=by
 unfold qaV;have h0:=qlP hn N 0 (by omega) (by omega);have h1:=qpg hn hN hw hwl N 0 (by omega) (by omega);rw[List.take_zero]at h0 h1;rw[show((0+1:Nat):Int)=1 from rfl]at h0;rw[show qbq n []=fid n from rfl,show((0:Nat):Int)=0 from rfl]at h1;rw[h0,ZB,h1,ZB]
theorem qp0 (n:Nat) (w:List Int):(qbq n w).length=n:=by
 unfold qbq;rw[qh3 n,qcP]
end Go.Av
end
