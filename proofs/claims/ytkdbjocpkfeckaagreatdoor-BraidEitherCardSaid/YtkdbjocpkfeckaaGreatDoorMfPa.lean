/-
  Words of crossings: what the program and the reference make of them, and the law of words.
-/
import Derived.Test.YtkdbjocpkfeckaaGreatDoorQGenEr
import Derived.Test.YtkdbjocpkfeckaaGreatDoorAvPt
import Derived.KernelRfl
noncomputable section
set_option linter.unusedVariables false
set_option linter.unusedSimpArgs false
set_option maxRecDepth 100000
set_option linter.unusedSectionVars false
section
namespace Go.Av
def qa8 (n c:Int):Bool:=decide (c≠0)&&decide (-n<c)&&decide (c<n)
def qid (n:Int) (w:List Int):Int:=if n<1\/12<n then 3 else if 200<w.length then 5 else if w.all (qa8 n)=true then 0 else 3
theorem letter_eq {n:Int} (h1:1<=n) (h2:n<=12) (c:Int):qbo n c=some (qa8 n c):=by
 unfold qbo qa8
 have hw:w64 (0-n)= -n:=by rw[qF (by omega) (by omega)];omega
 rw[hw];by_cases a:c=0
 ·simp[a]
 by_cases b: -n<c
 ·simp[a,b]
 simp[a,b]
theorem qhL {n:Int} (h1:1<=n) (h2:n<=12) (c:Int):xX n c=some (!qa8 n c):=by
 unfold xX qa8
 have hw:w64 (0-n)= -n:=by rw[qF (by omega) (by omega)];omega
 rw[hw];by_cases a:c=0
 ·simp[a]
 by_cases b: -n<c
 ·rw[if_neg a,if_neg (by omega)];by_cases d:c<n
  ·simp[a,b,d]
  simp[a,b,d];omega
 rw[if_neg a,if_pos (by omega)];simp[a,b]
theorem qlM {n:Int} {w:List Int} {i:Nat} (h:i<w.length):(w.drop i).all (qa8 n)=(qa8 n w[i]&&(w.drop (i+1)).all (qa8 n)):=by
 rw[YG h,List.all_cons]
theorem qrf {n:Int} (h1:1<=n) (h2:n<=12) {w:List Int} (hl:w.length<=300): ∀(K i:Nat),i<=w.length->w.length<K+i->jJ n w K (i:Int)=some (if(w.drop i).all (qa8 n)=true then .inl ()else .inr 3)
 |0,i,h,hK=>by omega
 |K+1,i,h,hK=>by
  unfold jJ;by_cases hi:i<w.length
  ·rw[if_pos (by omega),qC,Ya hi,ZB,letter_eq h1 h2,ZB,qlM hi]
   cases c:qa8 n w[i]with
   |false=>rfl
   |true=>
    rw[if_neg (by decide),zF (by omega),qrf h1 h2 hl K (i+1) (by omega) (by omega),Bool.true_and]
  rw[if_neg (by omega),List.drop_eq_nil_of_le (by omega)];rfl
theorem qm0 {N:Nat} (hN:2000<N) {n:Int} {w:List Int} (hl:w.length<=300):xS N n w=some (qid n w):=by
 unfold xS qid;by_cases a:n<1
 ·rw[if_pos a,ZB,if_pos rfl,if_pos (.inl a)]
 by_cases b:12<n
 ·rw[if_neg a,decide_eq_true (by omega),ZB,if_pos rfl,if_pos (.inr b)]
 rw[if_neg a,decide_eq_false (by omega),ZB,if_neg (by decide),if_neg (show¬(n<1\/12<n)by omega)];by_cases c:200<w.length
 ·rw[if_pos (by omega),if_pos c]
 rw[if_neg (by omega),if_neg c,show(0:Int)=((0:Nat):Int)from rfl,qrf (by omega) (by omega) hl N 0 (by omega) (by omega),YR];cases w.all (qa8 n)<;>rfl
theorem qr2 {n:Int} (h1:1<=n) (h2:n<=12) {w:List Int} (hl:w.length<=300): ∀(K i:Nat),i<=w.length->w.length<K+i->((w.drop i).all (qa8 n)=true/\qX w n K (i:Int)=some (.inl ()))\/((w.drop i).all (qa8 n)=false/\ ∃j:Nat,qX w n K (i:Int)=some (.inr (j:Int)))
 |0,i,h,hK=>by omega
 |K+1,i,h,hK=>by
  unfold qX yP;by_cases hi:i<w.length
  ·rw[if_pos (by omega),qC,Ya hi,ZB,qhL h1 h2,ZB,ZB,qlM hi]
   cases c:qa8 n w[i]with
   |false=>exact .inr ⟨rfl,i,rfl⟩
   |true=>
    rw[if_neg (by decide),zF (by omega),Bool.true_and];exact qr2 h1 h2 hl K (i+1) (by omega) (by omega)
  rw[if_neg (by omega),List.drop_eq_nil_of_le (by omega)];exact .inl ⟨rfl,rfl⟩
theorem qnL {N:Nat} (hN:10<N) (a b:Int):ky N [a,b]=some (if a=0 then b else a):=by
 obtain⟨K,rfl⟩: ∃K,N=K+1+1+1:=⟨N-3,by omega⟩;have w1:w64 1=1:=rfl;have w2:w64 2=2:=rfl
 have i0: ∀a b:Int,idx [a,b] 0=some a:=fun _ _=>rfl
 have i1: ∀a b:Int,idx [a,b] 1=some b:=fun _ _=>rfl
 unfold ky;by_cases ha:a=0
 ·by_cases hb:b=0
  ·simp[jy,i0,i1,ha,hb,w1,w2]
  simp[jy,i0,i1,ha,hb,w1,w2]
 simp[jy,i0,ha]
theorem yA (b:Bool) (e:Int):qx b e=some (if b=true then e else 0):=by
 unfold qx;cases b<;>rfl
theorem qjF {N:Nat} (hN:2000<N) {n:Int} {w:List Int} (hl:w.length<=300):yR N n w=some (qid n w):=by
 unfold yR xL qid;by_cases a:n<1\/12<n
 ·have:(Option.bind (if n<1 then(qx true 3).bind fun r2=>some r2 else(qx (decide (n>12)) 3).bind fun r3=>some r3:Option Int) fun n4=>some n4)=some 3:=by
   by_cases b:n<1
   ·rw[if_pos b];rfl
   rw[if_neg b,decide_eq_true (by omega)];rfl
  rw[this,ZB,yA,ZB,qnL (by omega),if_neg (by decide),ZB,if_pos (by decide),if_pos a]
 have:(Option.bind (if n<1 then(qx true 3).bind fun r2=>some r2 else(qx (decide (n>12)) 3).bind fun r3=>some r3:Option Int) fun n4=>some n4)=some 0:=by
  rw[if_neg (by omega),decide_eq_false (by omega)];rfl
 rw[this,ZB,yA,ZB,qnL (by omega),if_pos rfl,ZB,if_neg a];by_cases c:200<w.length
 ·rw[decide_eq_true (show(w.length:Int)>200 by omega),if_pos rfl,if_pos (by decide),if_pos c]
 rw[decide_eq_false (show¬(w.length:Int)>200 by omega),if_neg Bool.false_ne_true,if_neg (show¬(!decide ((0:Int)=0))=true by decide),if_neg c];unfold jN vP;rcases qr2 (n:=n) (by omega) (by omega) hl N 0 (by omega) (by omega)with⟨g1,g2⟩|⟨g1,j,g2⟩<;>rw[show((0:Nat):Int)=0 from rfl]at g2
 ·rw[g2,<-YR (l:=w),g1];rfl
 rw[g2,<-YR (l:=w),g1];simp only[ZB];rw[decide_eq_true (show(j:Int)>=0 by omega),yA];rfl
structure jT (n:Nat) (w:List Int):Prop where
 n1:1<=n
 n2:n<=12
 len:w.length<=200
 let_: ∀c∈w,c≠0/\ -(n:Int)<c/\c<n
theorem qnO {n:Int} {w:List Int} (h:qid n w=0): ∃k:Nat,n=k/\jT k w:=by
 unfold qid at h;split at h
 ·omega
 rename_i a;split at h
 ·omega
 rename_i b;split at h
 ·rename_i c;refine⟨n.toNat,by omega,by omega,by omega,by omega,fun x hx=>?_⟩;have:=Yp.1 c x hx;simp only[qa8,Bool.and_eq_true,decide_eq_true_eq]at this;omega
 omega
end Go.Av
end
section
namespace Go.Av
def qbr (n:Nat):List Int:=(List.range n).map fun k:Nat=>(k:Int)
theorem qbL (n:Nat):(qbr n).length=n:=by simp[qbr]
theorem qgL {n k:Nat} (h:k<n):(qbr n)[k]? =some (k:Int):=by
 simp[qbr,List.getElem?_map,List.getElem?_range h]
theorem vZ {c:Int} (h: -1000<c/\c<1000):qQ c=some ((c.natAbs:Nat):Int):=by
 unfold qQ;rw[qF (by omega) (by omega)];by_cases a:0-c>c
 ·rw[if_pos a];congr 1;omega
 rw[if_neg a];congr 1;omega
theorem qon {n:Nat} (hn:n<=1000) {l2:List Int} (h2:l2.length=n): ∀(K i:Nat) (l:List Int),l.length=n->i<=n->n<K+i->(∀k,k<i->l[k]? =some (k:Int))->je l2 K l (i:Int)=some (qbr n)
 |0,i,l,hl,h,hK,hk=>by omega
 |K+1,i,l,hl,h,hK,hk=>by
  unfold je;by_cases hi:i<n
  ·rw[if_pos (by omega),qC,Ya (by omega),ZB,vM (by omega),ZB,zF (by omega)];refine qon hn h2 K (i+1) _ (by simpa using hl) (by omega) (by omega) (fun k hki=>?_);by_cases e:k=i
   ·subst e;rw[List.getElem?_set_self (by omega)]
   rw[Yw (fun c=>e c.symm)];exact hk k (by omega)
  rw[if_neg (by omega)];congr 1;apply List.ext_getElem?;intro k;by_cases hkn:k<n
  ·rw[hk k (by omega),qgL hkn]
  rw[Yg (by omega),Yg (by rw[qbL];omega)]
theorem qkr {n:Nat} (hn:n<=1000):mk 8 (n:Int) (0:Int)=some (List.replicate n 0):=by
 unfold mk;rw[if_pos (by omega)];simp
theorem qfL {N n:Nat} (hN:2000<N) (hn:n<=1000):z8 N (n:Int)=some (qbr n):=by
 unfold z8;rw[qkr hn,ZB,show(0:Int)=((0:Nat):Int)from rfl,qon hn (by simp) N 0 _ (by simp) (by omega) (by omega) (fun k hk=>by omega),ZB]
structure PInv (n:Nat) (row p:List Int):Prop where
 rl:row.length=n
 pl:p.length=n
 at_: ∀k,k<n-> ∃v:Nat,v<n/\row[k]? =some (v:Int)/\p[v]? =some (k:Int)
 all: ∀v,v<n-> ∃k,k<n/\row[k]? =some (v:Int)
theorem PInv.back {n:Nat} {row p:List Int} (h:PInv n row p) {k v:Nat} (hk:k<n) (e:row[k]? =some (v:Int)):v<n/\p[v]? =some (k:Int):=by
 obtain⟨u,hu,e1,e2⟩:=h.at_ k hk;rw[e]at e1
 have:v=u:=by have:=Ye e1;omega
 subst this;exact⟨hu,e2⟩
theorem PInv.inj {n:Nat} {row p:List Int} (h:PInv n row p) {k k' v:Nat} (hk:k<n) (hk':k'<n) (e:row[k]? =some (v:Int)) (e':row[k']? =some (v:Int)):k=k':=by
 have h1:=(h.back hk e).2;have h2:=(h.back hk' e').2;rw[h1]at h2;have:=Ye h2;omega
end Go.Av
end
section
namespace Go.Av
end Go.Av
end
section
namespace Go.Av
def qkN (l:List Int):Int:=(l.find? fun x=>!decide (x=0)).getD 0
theorem qlt {l:List Int} (hl:l.length<=100): ∀(K i:Nat),i<=l.length->l.length<K+i->jy l K (i:Int)=some (match(l.drop i).find? (fun x=>!decide (x=0))with|some x=> .inr x|none=> .inl ())
 |0,i,h,hK=>by omega
 |K+1,i,h,hK=>by
  unfold jy;by_cases hi:i<l.length
  ·rw[if_pos (by omega),qC,Ya hi,ZB,YG hi,List.find?_cons];by_cases c:l[i]=0
   ·rw[if_neg (by simp[c]),zF (by omega),qlt hl K (i+1) (by omega) (by omega)];simp[c]
   rw[if_pos (by simp[c])];simp[c]
  rw[if_neg (by omega),List.drop_eq_nil_of_le (by omega)];rfl
theorem qdq {N:Nat} {l:List Int} (hl:l.length<=100) (hN:l.length<N):ky N l=some (qkN l):=by
 unfold ky qkN;have:=qlt hl N 0 (by omega) (by omega);rw[YR,show((0:Nat):Int)=0 from rfl]at this;rw[this];cases l.find? (fun x=>!decide (x=0))<;>rfl
theorem quj (l:List Int):qkN (0::l)=qkN l:=by simp[qkN]
theorem qu7 {x:Int} (h:x≠0) (l:List Int):qkN (x::l)=x:=by simp[qkN,h]
theorem quQ (x:Int):qkN [x]=x:=by
 by_cases h:x=0
 ·subst h;rfl
 exact qu7 h []
theorem qhe {w xs:List Int} {i j:Nat} (h1:i<=j) (h2:j<=w.length) (hl:w.length<=100000):qjY w xs (i:Int) (j:Int)=some (w.take i++xs++w.drop j):=by
 unfold qjY;rw[if_pos ⟨by omega,by omega,by omega,hl⟩];simp
theorem qjR {n c:Int}:qa8 n c=true↔c≠0/\ -n<c/\c<n:=by
 unfold qa8;simp only[Bool.and_eq_true,decide_eq_true_eq];constructor
 ·rintro⟨⟨a,b⟩,c⟩;exact⟨a,b,c⟩
 rintro⟨a,b,c⟩;exact⟨⟨a,b⟩,c⟩
def MvOK (n:Int) (w:List Int) (r:List Int×Int):Prop:=(r.2≠0->r.1=[])/\(r.2=0->r.1.length<=w.length+2/\ ∀c∈r.1,qa8 n c=true)
theorem MvOK.bad {n:Int} {w:List Int} {e:Int} (h:e≠0):MvOK n w ([],e):=⟨fun _=>rfl,fun g=>absurd g h⟩
theorem qbG {w:List Int} (h:w.length<=100000):qdh w=some ():=by
 unfold qdh;rw[if_pos (by omega)]
theorem qmJ {w:List Int} {i j:Nat} (h1:i<=j) (h2:j<=w.length):cut w (i:Int) (j:Int)=some ((w.drop i).take (j-i)):=by
 unfold cut;rw[if_pos ⟨by omega,by omega,by omega⟩];simp
theorem qnU {w:List Int} {i:Nat} {x y:Int} (hx:w[i]? =some x) (hy:w[i+1]? =some y):cut w (i:Int) ((i+2:Nat):Int)=some [x,y]:=by
 obtain⟨h1,e1⟩:=Yb.1 hx;obtain⟨h2,e2⟩:=Yb.1 hy;rw[qmJ (by omega) (by omega),show i+2-i=2 by omega,YG h1,YG h2,e1,e2];rfl
theorem qsK {w:List Int} {i:Nat} {x y z:Int} (hx:w[i]? =some x) (hy:w[i+1]? =some y) (hz:w[i+2]? =some z):cut w (i:Int) ((i+3:Nat):Int)=some [x,y,z]:=by
 obtain⟨h1,e1⟩:=Yb.1 hx;obtain⟨h2,e2⟩:=Yb.1 hy;obtain⟨h3,e3⟩:=Yb.1 hz;rw[qmJ (by omega) (by omega),show i+3-i=3 by omega,YG h1,YG h2,YG h3,e1,e2,e3];rfl
section
variable {N:Nat} (hN:2000<N) {n:Int} (h1:1<=n) (h2:n<=12) {w:List Int} (hw:w.length<=400) (hv: ∀c∈w,qa8 n c=true) {m:qG}
include hN h1 h2 hw hv
end
end Go.Av
end
section
namespace Go.Av
def tr5 (i k:Nat):Nat:=if k=i then i+1 else if k=i+1 then i else k
theorem qf6 (i k:Nat):tr5 i (tr5 i k)=k:=by
 unfold tr5;by_cases a:k=i
 ·subst a;simp
 by_cases b:k=i+1
 ·subst b;simp
 simp[a,b]
theorem qbV (i:Nat):tr5 i i=i+1:=by simp[tr5]
theorem qb3 (i:Nat):tr5 i (i+1)=i:=by simp[tr5]
theorem vN {i k:Nat} (a:k≠i) (b:k≠i+1):tr5 i k=k:=by simp[tr5,a,b]
theorem yg (i k:Nat):(k=i/\tr5 i k=i+1)\/(k=i+1/\tr5 i k=i)\/(k≠i/\k≠i+1/\tr5 i k=k):=by
 by_cases a:k=i
 ·subst a;exact .inl ⟨rfl,qbV k⟩
 by_cases b:k=i+1
 ·subst b;exact .inr (.inl ⟨rfl,qb3 i⟩)
 exact .inr (.inr ⟨a,b,vN a b⟩)
theorem qiI {i j:Nat} (h:i+1<j\/j+1<i) (k:Nat):tr5 i (tr5 j k)=tr5 j (tr5 i k):=by
 by_cases a:k=i
 ·subst a;rw[vN (i:=j) (k:=k) (by omega) (by omega),qbV,vN (i:=j) (k:=k+1) (by omega) (by omega)]
 by_cases b:k=i+1
 ·subst b;rw[vN (i:=j) (k:=i+1) (by omega) (by omega),qb3,vN (i:=j) (k:=i) (by omega) (by omega)]
 rw[vN (i:=i) (k:=k) a b];rcases yg j k with⟨c,e⟩|⟨c,e⟩|⟨c,c',e⟩<;>rw[e]
 ·exact vN (by omega) (by omega)
 ·exact vN (by omega) (by omega)
 exact vN a b
theorem qgu (i k:Nat):tr5 i (tr5 (i+1) (tr5 i k))=tr5 (i+1) (tr5 i (tr5 (i+1) k)):=by
 have a1:=qbV i;have a2:=qb3 i;have a3:tr5 i (i+1+1)=i+1+1:=vN (by omega) (by omega);have b1:=qbV (i+1);have b2:=qb3 (i+1);have b3:tr5 (i+1) i=i:=vN (by omega) (by omega);by_cases a:k=i
 ·subst a;rw[a1,b1,a3,b3,a1,b1]
 by_cases b:k=i+1
 ·subst b;rw[a2,b3,a1,b1,a3,b2]
 by_cases c:k=i+1+1
 ·subst c;rw[a3,b2,a2,b3]
 rw[vN (i:=i) (k:=k) a b,vN (i:=i+1) (k:=k) b c,vN (i:=i) (k:=k) a b,vN (i:=i+1) (k:=k) b c]
structure SB where
 f:Nat->Nat
 g:Nat->Nat
 gf: ∀k,g (f k)=k
 fg: ∀k,f (g k)=k
theorem SB.ext {s t:SB} (h: ∀k,s.f k=t.f k):s=t:=by
 obtain⟨f,g,a,b⟩:=s;obtain⟨f',g',a',b'⟩:=t;have e:f=f':=funext h;subst e
 have e:g=g':=funext fun k=>by
  have:=a (g' k)
  rwa [b']at this
 subst e;rfl
theorem SB.finj (s:SB) {a b:Nat} (h:s.f a=s.f b):a=b:=by
 have:=congrArg s.g h
 rwa [s.gf,s.gf]at this
theorem SB.ginj (s:SB) {a b:Nat} (h:s.g a=s.g b):a=b:=by
 have:=congrArg s.f h
 rwa [s.fg,s.fg]at this
def SB.fr (s:SB) (i:Nat):SB:=⟨fun k=>s.f (tr5 i k),fun k=>tr5 i (s.g k),fun k=>by rw[s.gf,qf6],fun k=>by rw[qf6,s.fg]⟩
def SB.bk (s:SB) (i:Nat):SB:=⟨fun k=>tr5 i (s.f k),fun k=>s.g (tr5 i k),fun k=>by rw[qf6,s.gf],fun k=>by rw[s.fg,qf6]⟩
def SB.Begs (s:SB) (i:Nat):Prop:=s.f (i+1)<s.f i
def SB.Ends (s:SB) (i:Nat):Prop:=s.g (i+1)<s.g i
theorem SB.nEnds {s:SB} {i:Nat} (h: ¬s.Ends i):s.g i<s.g (i+1):=by
 unfold SB.Ends at h
 have:s.g i≠s.g (i+1):=fun e=>by have:=s.ginj e;omega
 omega
def psh (L:Nat->SB) (k i:Nat):Nat->SB:=fun q=>if q=k then(L k).bk i else if q=k+1 then(L (k+1)).fr i else L q
theorem yf (L:Nat->SB) (k i:Nat):psh L k i k=(L k).bk i:=by simp[psh]
theorem jE (L:Nat->SB) (k i:Nat):psh L k i (k+1)=(L (k+1)).fr i:=by simp[psh]
theorem ji (L:Nat->SB) {k i q:Nat} (a:q≠k) (b:q≠k+1):psh L k i q=L q:=by simp[psh,a,b]
structure qaa (n m:Nat) (L:Nat->SB) (k i:Nat):Prop where
 k_:k+1<m
 i_:i+1<n
 b_:(L (k+1)).Begs i
 e_: ¬(L k).Ends i
inductive Psh (n m:Nat):(Nat->SB)->(Nat->SB)->Prop
 |mk {L:Nat->SB} {k i:Nat} (h:qaa n m L k i):Psh n m L (psh L k i)
inductive Pst (n m:Nat):(Nat->SB)->(Nat->SB)->Prop
 |refl {L:Nat->SB}:Pst n m L L
 |head {L L1 A:Nat->SB} (h:Psh n m L L1) (t:Pst n m L1 A):Pst n m L A
theorem Pst.trans {n m:Nat} {L A B:Nat->SB} (h:Pst n m L A) (k:Pst n m A B):Pst n m L B:=by
 induction h with
 |refl=>exact k
 |head h _ ih=>exact .head h (ih k)
theorem Pst.one {n m:Nat} {L A:Nat->SB} (h:Psh n m L A):Pst n m L A:= .head h .refl
def Nf (n m:Nat) (L:Nat->SB):Prop:= ∀k i,¬qaa n m L k i
def qgr:List Nat->Nat
 |[]=>0
 |x::r=>r.countP (fun y=>decide (y<x))+qgr r
theorem qjm {x y:Nat} (h:y<x) (b:List Nat): ∀a:List Nat,qgr (a++y::x::b)+1=qgr (a++x::y::b)
 |[]=>by
  simp only[List.nil_append,qgr,List.countP_cons];rw[decide_eq_true h,decide_eq_false (show¬x<y by omega)];simp only[if_true,ZF,if_false];omega
 |z::a=>by
  simp only[List.cons_append,qgr];have:=qjm h b a;simp only[List.countP_append,List.countP_cons];omega
theorem qt5 {i:Nat}: ∀r:List Nat,r.Nodup->i∉r->r.countP (fun y=>decide (tr5 i y<i+1))<=r.countP (fun y=>decide (y<i))+(if i+1∈r then 1 else 0)
 |[],_,_=>by simp
 |y::r,hn,hi=>by
  have hn2:=(List.nodup_cons.1 hn)
  have hi2:i∉r:=fun h=>hi (List.mem_cons_of_mem _ h)
  have hy:y≠i:=fun e=>hi (e▸List.mem_cons_self)
  have ih:=qt5 r hn2.2 hi2;rw[List.countP_cons,List.countP_cons];by_cases c:y=i+1
  ·subst c;rw[qb3,decide_eq_true (by omega),decide_eq_false (by omega),if_pos rfl,if_neg (by decide),if_pos List.mem_cons_self];rw[if_neg hn2.1]at ih;omega
  rw[vN hy c]
  have e1:decide (y<i+1)=decide (y<i):=by
   by_cases d:y<i
   ·rw[decide_eq_true d,decide_eq_true (by omega)]
   rw[decide_eq_false d,decide_eq_false (by omega)]
  rw[e1]
  have e2:(if i+1∈y::r then 1 else 0)=(if i+1∈r then 1 else 0:Nat):=by
   by_cases d:i+1∈r
   ·rw[if_pos d,if_pos (List.mem_cons_of_mem _ d)]
   rw[if_neg d,if_neg (fun h=>by rcases List.mem_cons.1 h with h|h;exact c h.symm;exact d h)]
  rw[e2];omega
theorem qlS {i:Nat}: ∀p:List Nat,p.Nodup->qgr (p.map (tr5 i))<=qgr p+(if i∈p then 1 else 0)
 |[],_=>by simp[qgr]
 |x::r,hn=>by
  have hn2:=(List.nodup_cons.1 hn);have ih:=qlS (i:=i) r hn2.2;simp only[List.map_cons,qgr,List.countP_map]
  have e:(fun y=>decide (y<tr5 i x))∘tr5 i=fun y=>decide (tr5 i y<tr5 i x):=rfl
  rw[e];by_cases c:x=i
  ·subst c;have hc:=qt5 r hn2.2 hn2.1;rw[qbV,if_pos List.mem_cons_self];rw[if_neg hn2.1]at ih
   have:(if x+1∈r then 1 else 0:Nat)<=1:=by split<;>omega
   omega
  have h1:r.countP (fun y=>decide (tr5 i y<tr5 i x))<=r.countP (fun y=>decide (y<x)):=by
   refine List.countP_mono_left fun y hy h=>?_
   have hyx:y≠x:=fun e=>hn2.1 (e▸hy)
   simp only[decide_eq_true_eq]at h⊢;rcases yg i x with⟨a,ea⟩|⟨a,ea⟩|⟨a,a',ea⟩<;>rcases yg i y with⟨b,eb⟩|⟨b,eb⟩|⟨b,b',eb⟩<;>rw[ea,eb]at h<;>omega
  have e2:(if i∈x::r then 1 else 0)=(if i∈r then 1 else 0:Nat):=by
   by_cases d:i∈r
   ·rw[if_pos d,if_pos (List.mem_cons_of_mem _ d)]
   rw[if_neg d,if_neg (fun h=>by rcases List.mem_cons.1 h with h|h;exact c h.symm;exact d h)]
  rw[e2];omega
def SB.row (n:Nat) (s:SB):List Nat:=(List.range n).map s.f
theorem Uj (n:Nat) (s:SB):(s.row n).length=n:=by simp[SB.row]
theorem Ui {n k:Nat} (s:SB) (h:k<n):(s.row n)[k]? =some (s.f k):=by simp[SB.row,List.getElem?_range h]
theorem qim {f:Nat->Nat} (hf: ∀a b,f a=f b->a=b): ∀l:List Nat,l.Nodup->(l.map f).Nodup
 |[],_=>List.nodup_nil
 |x::l,h=>by
  have h2:=List.nodup_cons.1 h;rw[List.map_cons,List.nodup_cons];refine⟨fun hx=>?_,qim hf l h2.2⟩;obtain⟨y,hy,e⟩:=List.mem_map.1 hx;exact h2.1 (hf _ _ e▸hy)
theorem SB.row_nodup (n:Nat) (s:SB):(s.row n).Nodup:=qim (fun _ _ h=>s.finj h) _ List.nodup_range
def SB.inv (n:Nat) (s:SB):Nat:=qgr (s.row n)
theorem qsv {l:List Nat} {i:Nat} (h:i+1<l.length):l=l.take i++l[i]::l[i+1]::l.drop (i+2):=by
 rw[<-YG h,<-YG (by omega),List.take_append_drop]
theorem SB.inv_fr {n i:Nat} {s:SB} (hi:i+1<n) (h:s.Begs i):(s.fr i).inv n+1=s.inv n:=by
 unfold SB.inv;have e1:=qsv (l:=s.row n) (i:=i) (by rw[Uj];omega);have e2:=qsv (l:=(s.fr i).row n) (i:=i) (by rw[Uj];omega)
 have g: ∀(t:SB) (k:Nat) (hk:k<(t.row n).length),(t.row n)[k]=t.f k:=fun t k hk=>by simp[SB.row]
 have t1:((s.fr i).row n).take i=(s.row n).take i:=by
  apply List.ext_getElem?;intro k;by_cases hk:k<i
  ·rw[List.getElem?_take_of_lt hk,List.getElem?_take_of_lt hk,Ui _ (by omega),Ui _ (by omega)];show some (s.f (tr5 i k))=_;rw[vN (by omega) (by omega)]
  rw[Yg (by simp;omega),Yg (by simp;omega)]
 have t2:((s.fr i).row n).drop (i+2)=(s.row n).drop (i+2):=by
  apply List.ext_getElem?;intro k;rw[YI,YI];by_cases hk:i+2+k<n
  ·rw[Ui _ hk,Ui _ hk];show some (s.f (tr5 i _))=_;rw[vN (by omega) (by omega)]
  rw[Yg (by rw[Uj];omega),Yg (by rw[Uj];omega)]
 rw[e1,e2,t1,t2,g,g,g,g];show qgr (_++s.f (tr5 i i)::s.f (tr5 i (i+1))::_)+1=_;rw[qbV,qb3];exact qjm h _ _
theorem SB.inv_bk (n i:Nat) (s:SB):(s.bk i).inv n<=s.inv n+1:=by
 unfold SB.inv
 have e:(s.bk i).row n=(s.row n).map (tr5 i):=by
  unfold SB.row;rw[List.map_map];rfl
 rw[e];have:=qlS (i:=i) (s.row n) (s.row_nodup n)
 have h2:(if i∈s.row n then 1 else 0:Nat)<=1:=by split<;>omega
 omega
def mu5 (n:Nat) (L:Nat->SB):Nat->Nat
 |0=>0
 |m+1=>mu5 n L m+m*(L m).inv n
theorem qpG {n k:Nat} {L L':Nat->SB} (h: ∀q,q<k->L' q=L q): ∀m,m<=k->mu5 n L' m=mu5 n L m
 |0,_=>rfl
 |m+1,hm=>by simp only[mu5];rw[qpG h m (by omega),h m (by omega)]
theorem qfJ {n m k i:Nat} {L:Nat->SB} (h:qaa n m L k i):mu5 n (psh L k i) m<mu5 n L m:=by
 have base:mu5 n (psh L k i) (k+2)+1<=mu5 n L (k+2):=by
  simp only[mu5];rw[qpG (L':=psh L k i) (L:=L) (k:=k) (fun q hq=>ji L (by omega) (by omega)) k (Nat.le_refl _),yf,jE];have a:=SB.inv_fr h.i_ h.b_;have b:=Nat.mul_le_mul_left k (SB.inv_bk n i (L k));rw[<-a,Nat.mul_add,Nat.mul_one];rw[Nat.mul_add,Nat.mul_one]at b;omega
 have up: ∀d,mu5 n (psh L k i) (k+2+d)+1<=mu5 n L (k+2+d):=by
  intro d
  induction d with
  |zero=>exact base
  |succ d ih=>
   show mu5 n (psh L k i) (k+2+d)+(k+2+d)*(psh L k i (k+2+d)).inv n+1<=mu5 n L (k+2+d)+(k+2+d)*(L (k+2+d)).inv n;rw[ji L (q:=k+2+d) (by omega) (by omega)];omega
 have hk:=h.k_;have:=up (m-(k+2));rw[show k+2+(m-(k+2))=m by omega]at this;omega
theorem Psh.lt {n m:Nat} {L A:Nat->SB} (h:Psh n m L A):mu5 n A m<mu5 n L m:=by
 cases h with
 |mk h=>exact qfJ h
theorem qk0 {n m:Nat}: ∀(M:Nat) (L:Nat->SB),mu5 n L m<=M-> ∃A,Pst n m L A/\Nf n m A
 |M,L,hM=>by
  by_cases h: ∃k i,qaa n m L k i
  ·obtain⟨k,i,h⟩:=h;have:=qfJ h
   cases M with
   |zero=>omega
   |succ M=>
    obtain⟨A,h1,h2⟩:=qk0 (n:=n) (m:=m) M (psh L k i) (by omega);exact⟨A,.head (.mk h) h1,h2⟩
  exact⟨L,.refl,fun k i c=>h ⟨k,i,c⟩⟩
theorem qmg {s:SB} {i j:Nat} (h:i+1<j\/j+1<i):(s.fr i).Begs j↔s.Begs j:=by
 show s.f (tr5 i (j+1))<s.f (tr5 i j)↔_;rw[vN (by omega) (by omega),vN (by omega) (by omega)];rfl
theorem qlX {s:SB} {i j:Nat} (h:i+1<j\/j+1<i):(s.bk i).Ends j↔s.Ends j:=by
 show s.g (tr5 i (j+1))<s.g (tr5 i j)↔_;rw[vN (by omega) (by omega),vN (by omega) (by omega)];rfl
theorem pst3 {n m k i j l:Nat} {L:Nat->SB} (h1:qaa n m L k i) (h2:qaa n m (psh L k i) k j) (h3:qaa n m (psh (psh L k i) k j) k l):Pst n m (psh L k i) (psh (psh (psh L k i) k j) k l):=
 .head (.mk h2) (.one (.mk h3))
theorem qts {L:Nat->SB} {k i:Nat}:psh (psh (psh L k i) k (i+1)) k i=psh (psh (psh L k (i+1)) k i) k (i+1):=by
 funext q;by_cases a:q=k
 ·subst a;simp only[yf]
  exact SB.ext fun x=>qgu i _
 by_cases b:q=k+1
 ·subst b;simp only[jE]
  exact SB.ext fun x=>congrArg (L (k+1)).f (qgu i x)
 simp only[ji _ a b]
theorem qi9 {n m k i:Nat} {L:Nat->SB} (h:qaa n m L k i) (h':qaa n m L k (i+1)): ∃D,Pst n m (psh L k i) D/\Pst n m (psh L k (i+1)) D:=by
 have b1:(L (k+1)).f (i+1)<(L (k+1)).f i:=h.b_;have b2:(L (k+1)).f (i+2)<(L (k+1)).f (i+1):=h'.b_;have e1:=SB.nEnds h.e_;have e2:(L k).g (i+1)<(L k).g (i+2):=SB.nEnds h'.e_;have ki:=h.k_;have ii:=h.i_;have ii':=h'.i_;have t1:tr5 i (i+2)=i+2:=vN (by omega) (by omega);have t2:tr5 (i+1) i=i:=vN (by omega) (by omega);have t3:tr5 (i+1) (i+2)=i+1:=qb3 (i+1);have t4:tr5 (i+1) (i+1)=i+2:=qbV (i+1)
 have p1:qaa n m (psh L k i) k (i+1):=by
  refine⟨ki,ii',?_,?_⟩
  ·rw[jE];show(L (k+1)).f (tr5 i (i+2))<(L (k+1)).f (tr5 i (i+1));rw[t1,qb3];omega
  rw[yf];show¬(L k).g (tr5 i (i+2))<(L k).g (tr5 i (i+1));rw[t1,qb3];omega
 have p2:qaa n m (psh (psh L k i) k (i+1)) k i:=by
  refine⟨ki,ii,?_,?_⟩
  ·rw[jE,jE];show(L (k+1)).f (tr5 i (tr5 (i+1) (i+1)))<(L (k+1)).f (tr5 i (tr5 (i+1) i));rw[qbV,t1,t2,qbV];omega
  rw[yf,yf];show¬(L k).g (tr5 i (tr5 (i+1) (i+1)))<(L k).g (tr5 i (tr5 (i+1) i));rw[qbV,t1,t2,qbV];omega
 have q1:qaa n m (psh L k (i+1)) k i:=by
  refine⟨ki,ii,?_,?_⟩
  ·rw[jE];show(L (k+1)).f (tr5 (i+1) (i+1))<(L (k+1)).f (tr5 (i+1) i);rw[t4,t2];omega
  rw[yf];show¬(L k).g (tr5 (i+1) (i+1))<(L k).g (tr5 (i+1) i);rw[t4,t2];omega
 have q2:qaa n m (psh (psh L k (i+1)) k i) k (i+1):=by
  refine⟨ki,ii',?_,?_⟩
  ·rw[jE,jE];show(L (k+1)).f (tr5 (i+1) (tr5 i (i+2)))<(L (k+1)).f (tr5 (i+1) (tr5 i (i+1)));rw[t1,t3,qb3,t2];omega
  rw[yf,yf];show¬(L k).g (tr5 (i+1) (tr5 i (i+2)))<(L k).g (tr5 (i+1) (tr5 i (i+1)));rw[t1,t3,qb3,t2];omega
 exact⟨_,pst3 h p1 p2,qts▸pst3 h' q1 q2⟩
theorem qr5 {n m k i j:Nat} {L:Nat->SB} (hd:i+1<j\/j+1<i) (h:qaa n m L k i) (h':qaa n m L k j): ∃D,Pst n m (psh L k i) D/\Pst n m (psh L k j) D:=by
 have p1:qaa n m (psh L k i) k j:=⟨h.k_,h'.i_,by rw[jE,qmg hd];exact h'.b_,by rw[yf,qlX hd];exact h'.e_⟩;have p2:qaa n m (psh L k j) k i:=⟨h.k_,h.i_,by rw[jE,qmg (i:=j) (j:=i) (by omega)];exact h.b_,by rw[yf,qlX (i:=j) (j:=i) (by omega)];exact h.e_⟩
 have e:psh (psh L k i) k j=psh (psh L k j) k i:=by
  funext q;by_cases a:q=k
  ·subst a;simp only[yf]
   exact SB.ext fun x=>qiI (i:=j) (j:=i) (by omega) _
  by_cases b:q=k+1
  ·subst b;simp only[jE]
   exact SB.ext fun x=>congrArg (L (k+1)).f (qiI (i:=i) (j:=j) (by omega) x)
  simp only[ji _ a b]
 exact⟨_,.one (.mk p1),e▸ .one (.mk p2)⟩
theorem qjg {n m k i j:Nat} {L:Nat->SB} (h:qaa n m L k i) (h':qaa n m L (k+1) j): ∃D,Pst n m (psh L k i) D/\Pst n m (psh L (k+1) j) D:=by
 have b1:(L (k+1)).f (i+1)<(L (k+1)).f i:=h.b_;have e2:(L (k+1)).g j<(L (k+1)).g (j+1):=SB.nEnds h'.e_;have gf:=(L (k+1)).gf;have fg:=(L (k+1)).fg
 have p1:qaa n m (psh L k i) (k+1) j:=by
  refine⟨h'.k_,h'.i_,?_,?_⟩
  ·rw[ji L (q:=k+1+1) (by omega) (by omega)];exact h'.b_
  rw[jE];show¬tr5 i ((L (k+1)).g (j+1))<tr5 i ((L (k+1)).g j);rcases yg i ((L (k+1)).g (j+1))with⟨a,ea⟩|⟨a,ea⟩|⟨a,a',ea⟩<;>rcases yg i ((L (k+1)).g j)with⟨b,eb⟩|⟨b,eb⟩|⟨b,b',eb⟩<;>rw[ea,eb]<;>try omega
  have x1:=fg (j+1);have x2:=fg j;rw[a]at x1;rw[b]at x2;omega
 have p2:qaa n m (psh L (k+1) j) k i:=by
  refine⟨h.k_,h.i_,?_,?_⟩
  ·rw[yf];show tr5 j ((L (k+1)).f (i+1))<tr5 j ((L (k+1)).f i);rcases yg j ((L (k+1)).f (i+1))with⟨a,ea⟩|⟨a,ea⟩|⟨a,a',ea⟩<;>rcases yg j ((L (k+1)).f i)with⟨b,eb⟩|⟨b,eb⟩|⟨b,b',eb⟩<;>rw[ea,eb]<;>try omega
   have x1:=gf (i+1);have x2:=gf i;rw[a]at x1;rw[b]at x2;omega
  rw[ji L (q:=k) (by omega) (by omega)];exact h.e_
 have e:psh (psh L k i) (k+1) j=psh (psh L (k+1) j) k i:=by
  funext q;by_cases a:q=k
  ·subst a;rw[ji _ (q:=q) (by omega) (by omega),yf,yf,ji _ (q:=q) (by omega) (by omega)]
  by_cases b:q=k+1
  ·subst b;rw[yf,jE,jE,yf];rfl
  by_cases c:q=k+1+1
  ·subst c;rw[jE,ji _ (q:=k+1+1) (by omega) (by omega),ji _ (q:=k+1+1) (by omega) (by omega),jE]
  rw[ji _ b c,ji _ a b,ji _ a b,ji _ b c]
 exact⟨_,.one (.mk p1),e▸ .one (.mk p2)⟩
theorem qhE {n m k k' i j:Nat} {L:Nat->SB} (hk:k+1<k') (h:qaa n m L k i) (h':qaa n m L k' j): ∃D,Pst n m (psh L k i) D/\Pst n m (psh L k' j) D:=by
 have p1:qaa n m (psh L k i) k' j:=⟨h'.k_,h'.i_,by rw[ji L (q:=k'+1) (by omega) (by omega)];exact h'.b_,by rw[ji L (q:=k') (by omega) (by omega)];exact h'.e_⟩;have p2:qaa n m (psh L k' j) k i:=⟨h.k_,h.i_,by rw[ji L (q:=k+1) (by omega) (by omega)];exact h.b_,by rw[ji L (q:=k) (by omega) (by omega)];exact h.e_⟩
 have e:psh (psh L k i) k' j=psh (psh L k' j) k i:=by
  funext q;by_cases a:q=k
  ·subst a;rw[ji _ (q:=q) (by omega) (by omega),yf,yf,ji _ (q:=q) (by omega) (by omega)]
  by_cases b:q=k+1
  ·subst b;rw[ji _ (q:=k+1) (by omega) (by omega),jE,jE,ji _ (q:=k+1) (by omega) (by omega)]
  by_cases c:q=k'
  ·subst c;rw[yf,ji _ a b,ji _ a b,yf]
  by_cases d:q=k'+1
  ·subst d;rw[jE,ji _ a b,ji _ a b,jE]
  rw[ji _ c d,ji _ a b,ji _ a b,ji _ c d]
 exact⟨_,.one (.mk p1),e▸ .one (.mk p2)⟩
theorem meet5 {n m k k' i j:Nat} {L:Nat->SB} (h:qaa n m L k i) (h':qaa n m L k' j): ∃D,Pst n m (psh L k i) D/\Pst n m (psh L k' j) D:=by
 have sw: ∀{A B:Nat->SB},(∃D,Pst n m A D/\Pst n m B D)-> ∃D,Pst n m B D/\Pst n m A D:=fun⟨D,a,b⟩=>⟨D,b,a⟩
 by_cases e:k=k'
 ·subst e;by_cases c:i=j
  ·subst c;exact⟨_,.refl,.refl⟩
  by_cases c1:j=i+1
  ·subst c1;exact qi9 h h'
  by_cases c2:i=j+1
  ·subst c2;exact sw (qi9 h' h)
  exact qr5 (by omega) h h'
 by_cases e1:k'=k+1
 ·subst e1;exact qjg h h'
 by_cases e2:k=k'+1
 ·subst e2;exact sw (qjg h' h)
 by_cases e3:k<k'
 ·exact qhE (by omega) h h'
 exact sw (qhE (by omega) h' h)
theorem qe2 {n m:Nat}: ∀(M:Nat) {L A B:Nat->SB},mu5 n L m<=M->Pst n m L A->Pst n m L B->Nf n m A->Nf n m B->A=B
 |M,L,A,B,hM,hA,hB,nA,nB=>by
  cases hA with
  |refl=>
   cases hB with
   |refl=>rfl
   |head h _=>cases h with|mk h=>exact absurd h (nA _ _)
  |head h tA=>
   cases hB with
   |refl=>cases h with|mk h=>exact absurd h (nB _ _)
   |head h' tB=>
    cases h with
    |mk h=>
     cases h' with
     |mk h'=>
      obtain⟨D,d1,d2⟩:=meet5 h h';obtain⟨E,e1,e2⟩:=qk0 _ D (Nat.le_refl _);have l1:=qfJ h;have l2:=qfJ h'
      cases M with
      |zero=>omega
      |succ M=>rw[qe2 M (by omega) tA (d1.trans e1) nA e2,qe2 M (by omega) tB (d2.trans e1) nB e2]
end Go.Av
end
section
namespace Go.Av
structure IsP (p:List Int):Prop where
 few:p.length<=256
 at_: ∀k,k<p.length-> ∃v:Nat,v<p.length/\p[k]? =some (v:Int)
 inj: ∀(k k':Nat) (v:Int),p[k]? =some v->p[k']? =some v->k=k'
structure SB.Ok (n:Nat) (s:SB):Prop where
 f_: ∀k,k<n->s.f k<n
 g_: ∀k,k<n->s.g k<n
def SB.li (n:Nat) (s:SB):List Int:=(List.range n).map fun k=>(s.f k:Int)
theorem Uf (n:Nat) (s:SB):(s.li n).length=n:=by simp[SB.li]
theorem Un {n k:Nat} (s:SB) (h:k<n):(s.li n)[k]? =some (s.f k:Int):=by simp[SB.li,List.getElem?_range h]
theorem Uw {n:Nat} {s:SB} {p:List Int} (hl:p.length=n) (h: ∀k,k<n->p[k]? =some (s.f k:Int)):p=s.li n:=by
 apply List.ext_getElem?;intro k;by_cases hk:k<n
 ·rw[h k hk,Un s hk]
 rw[Yg (by omega),Yg (by rw[Uf];omega)]
theorem SB.li_inj {n:Nat} {s t:SB} (h:s.li n=t.li n) {k:Nat} (hk:k<n):s.f k=t.f k:=by
 have h1:=Un s hk;have h2:=Un t hk;rw[h,h2]at h1;have:=Ye h1;omega
theorem qih {n i k:Nat} (hi:i+1<n) (h:k<n):tr5 i k<n:=by
 rcases yg i k with⟨a,e⟩|⟨a,e⟩|⟨a,a',e⟩<;>omega
theorem SB.Ok.fr {n i:Nat} {s:SB} (h:s.Ok n) (hi:i+1<n):(s.fr i).Ok n:=⟨fun k hk=>h.f_ _ (qih hi hk),fun k hk=>qih hi (h.g_ k hk)⟩
theorem SB.Ok.bk {n i:Nat} {s:SB} (h:s.Ok n) (hi:i+1<n):(s.bk i).Ok n:=⟨fun k hk=>qih hi (h.f_ k hk),fun k hk=>h.g_ _ (qih hi hk)⟩
def SB.rev (s:SB):SB:=⟨s.g,s.f,s.fg,s.gf⟩
theorem SB.Ok.rev {n:Nat} {s:SB} (h:s.Ok n):s.rev.Ok n:=⟨h.g_,h.f_⟩
def SB.id:SB:=⟨fun k=>k,fun k=>k,fun _=>rfl,fun _=>rfl⟩
theorem Us (n:Nat):SB.id.Ok n:=⟨fun _ h=>h,fun _ h=>h⟩
theorem SB.id_li (n:Nat):SB.id.li n=qbr n:=rfl
def rv5 (n k:Nat):Nat:=if k<n then n-1-k else k
theorem qbq (n k:Nat):rv5 n (rv5 n k)=k:=by
 unfold rv5;by_cases h:k<n
 ·rw[if_pos h,if_pos (by omega)];omega
 rw[if_neg h,if_neg h]
theorem qgQ {n k:Nat} (h:k<n):rv5 n k<n:=by unfold rv5;rw[if_pos h];omega
def Ue (n:Nat):SB:=⟨rv5 n,rv5 n,qbq n,qbq n⟩
theorem Up (n:Nat):(Ue n).Ok n:=⟨fun _ h=>qgQ h,fun _ h=>qgQ h⟩
def SB.flip (n:Nat) (s:SB):SB:=⟨fun k=>rv5 n (s.f (rv5 n k)),fun k=>rv5 n (s.g (rv5 n k)),fun k=>by rw[qbq,s.gf,qbq],fun k=>by rw[qbq,s.fg,qbq]⟩
theorem SB.Ok.flip {n:Nat} {s:SB} (h:s.Ok n):(s.flip n).Ok n:=⟨fun k hk=>qgQ (h.f_ _ (qgQ hk)),fun k hk=>qgQ (h.g_ _ (qgQ hk))⟩
end Go.Av
end
section
namespace Go.Av
theorem Uk {n k:Nat} {s:SB} (h:k<n):idx (s.li n) (k:Int)=some (s.f k:Int):=by rw[qC,Un s h]
section
variable {n:Nat} (hn:n<=300)
include hn
theorem qoq {s:SB} (hs:s.Ok n): ∀(K i:Nat) (l:List Int),l.length=n->i<=n->n<K+i->(∀k,k<i->l[s.f k]? =some (k:Int))->zV (s.li n) K l (i:Int)=some (s.rev.li n)
 |0,i,l,hl,h,hK,hk=>by omega
 |K+1,i,l,hl,h,hK,hk=>by
  unfold zV;rw[Uf];by_cases hi:i<n
  ·have hf:=hs.f_ i hi;rw[if_pos (by omega),Uk hi,ZB,qC,Ya (by omega),ZB,vM (by omega),ZB,zF (by omega)];refine qoq hs K (i+1) _ (by simpa using hl) (by omega) (by omega) (fun k hki=>?_);by_cases e:k=i
   ·subst e;rw[List.getElem?_set_self (by omega)]
   rw[Yw (fun c=>e (s.finj c.symm))];exact hk k (by omega)
  rw[if_neg (by omega)];congr 1
  refine Uw hl fun v hv=>?_
  have:=hk (s.g v) (by have:=hs.g_ v hv;omega);rw[s.fg]at this;exact this
theorem qiO {N:Nat} (hN:2000<N) {s:SB} (hs:s.Ok n):jI N (s.li n)=some (s.rev.li n):=by
 unfold jI;have:=qoq hn hs N 0 (List.replicate n 0) (by simp) (by omega) (by omega) (fun k hk=>by omega);rw[show((0:Nat):Int)=0 from rfl]at this;rw[Uf,qkr (by omega),ZB,this,ZB]
theorem qfv (s:SB) {i:Nat} (hi:i+1<n):jd (s.li n) (i:Int)=some ((s.fr i).li n):=by
 unfold jd;have hl:=Uf n s
 have hc:qio (s.li n)=some ():=by
  unfold qio;rw[if_pos (by omega)]
 rw[hc,ZB,zF (by omega),Uk hi,ZB,Uk (by omega),ZB,vM (by omega),ZB,qC,Yw (by omega),Un _ hi,ZB,vM (by simp;omega),ZB];congr 1
 refine Uw (by simp[hl]) fun k hk=>?_
 show _=some ((s.f (tr5 i k):Nat):Int);rcases yg i k with⟨rfl,e⟩|⟨rfl,e⟩|⟨a,b,e⟩<;>rw[e]
 ·rw[Yw (by omega),List.getElem?_set_self (by omega)]
 ·rw[List.getElem?_set_self (by simp;omega)]
 rw[Yw (by omega),Yw (by omega),Un s hk]
theorem qja {N:Nat} (hN:2000<N) {s:SB} (hs:s.Ok n) {i:Nat} (hi:i+1<n):jU N (s.li n) (i:Int)=some ((s.bk i).li n):=by
 unfold jU;rw[qiO hn hN hs,ZB,qfv hn s.rev hi,ZB,qiO hn hN (hs.rev.fr hi),ZB];rfl
theorem qjp (s:SB) {i:Nat} (hi:i+1<n):jV (s.li n) (i:Int)=some (decide (s.f (i+1)<s.f i)):=by
 unfold jV;rw[Uk (by omega),ZB,zF (by omega),Uk hi,ZB];congr 1;exact decide_eq_decide.2 (by omega)
theorem qtm {N:Nat} (hN:2000<N) {s:SB} (hs:s.Ok n) {i:Nat} (hi:i+1<n):yT N (s.li n) (i:Int)=some (decide (s.g (i+1)<s.g i)):=by
 unfold yT;rw[qiO hn hN hs,ZB,qjp hn s.rev hi,ZB];rfl
theorem qgD {N:Nat} (hN:2000<N) {s t:SB} (hs:s.Ok n): ∀(K i:Nat),i+1<=n->n<K+i->
 (∃j,i<=j/\j+1<n/\t.Begs j/\ ¬s.Ends j/\jK N (s.li n) (t.li n) K (i:Int)=some (.inr ((j:Int),true)))\/
 ((∀j,i<=j->j+1<n->t.Begs j->s.Ends j)/\jK N (s.li n) (t.li n) K (i:Int)=some (.inl ()))
 |0,i,h,hK=>by omega
 |K+1,i,h,hK=>by
  unfold jK;rw[Uf,qF (n:=(n:Int)-1) (by omega) (by omega)];by_cases hi:i+1<n
  ·rw[if_pos (by omega),qjp hn t hi,ZB];by_cases a:t.f (i+1)<t.f i
   ·rw[decide_eq_true a,if_pos rfl,qtm hn hN hs hi,ZB,ZB];by_cases b:s.g (i+1)<s.g i
    ·rw[decide_eq_true b,if_neg (by decide),zF (by omega)];rcases qgD hN hs K (i+1) (by omega) (by omega)with⟨j,h1,h2⟩|⟨h1,h2⟩
     ·exact .inl ⟨j,by omega,h2⟩
     refine .inr ⟨fun j hj hj2 hb=>?_,h2⟩;by_cases e:j=i
     ·subst e;exact b
     exact h1 j (by omega) hj2 hb
    rw[decide_eq_false b,if_pos (by decide)];exact .inl ⟨i,Nat.le_refl _,hi,a,b,rfl⟩
   rw[decide_eq_false a,if_neg (by decide),ZB,if_neg (by decide),zF (by omega)];rcases qgD hN hs K (i+1) (by omega) (by omega)with⟨j,h1,h2⟩|⟨h1,h2⟩
   ·exact .inl ⟨j,by omega,h2⟩
   refine .inr ⟨fun j hj hj2 hb=>?_,h2⟩;by_cases e:j=i
   ·subst e;exact absurd hb a
   exact h1 j (by omega) hj2 hb
  rw[if_neg (by omega)];exact .inr ⟨fun j hj hj2=>by omega,rfl⟩
theorem qnd {N:Nat} (hN:2000<N) (n1:1<=n) {s t:SB} (hs:s.Ok n):
 (∃j:Nat,j+1<n/\t.Begs j/\ ¬s.Ends j/\xY N (s.li n) (t.li n)=some ((j:Int),true))\/((∀j,j+1<n->t.Begs j->s.Ends j)/\xY N (s.li n) (t.li n)=some (0,false)):=by
 unfold xY;have:=qgD hn hN (t:=t) hs N 0 (by omega) (by omega);rw[show((0:Nat):Int)=0 from rfl]at this;rcases this with⟨j,_,h2,h3,h4,h5⟩|⟨h1,h2⟩
 ·exact .inl ⟨j,h2,h3,h4,by rw[h5];rfl⟩
 exact .inr ⟨fun j=>h1 j (Nat.zero_le _),by rw[h2];rfl⟩
end
theorem qrO {l0:List Int} {n:Nat} (hn:l0.length=n) (hb:n<=100000): ∀(K i:Nat) (l:List Int),l.length=n->2*i<=n+1->n+1<K+2*i->(∀k:Nat,k<n->l[k]? =if k<i\/n<=k+i then l0[n-1-k]? else l0[k]?)->zA K l (i:Int) ((n:Int)-1-i)=some l0.reverse
 |0,i,l,hl,h2,hK,hk=>by omega
 |K+1,i,l,hl,h2,hK,hk=>by
  unfold zA;by_cases hi:(i:Int)<(n:Int)-1-i
  ·have e1:(n:Int)-1-i=((n-1-i:Nat):Int):=by omega
   have e2:w64 (((n-1-i:Nat):Int)-1)=(n:Int)-1-((i+1:Nat):Int):=by rw[qF (by omega) (by omega)];omega
   have q1:=hk (n-1-i) (by omega);have q2:=hk i (by omega);rw[if_neg (by omega)]at q1 q2;have g1:l0[n-1-i]? =some l0[n-1-i]:=Ya (by omega);have g2:l0[i]? =some l0[i]:=Ya (by omega);rw[g1]at q1;rw[g2]at q2;rw[if_pos hi,e1,qC,q1,ZB,qC,q2,ZB,vM (by omega),ZB,qC,Yw (by omega),q1,ZB,vM (by simp;omega),ZB,zF (by omega),e2];refine qrO hn hb K (i+1) _ (by simp;omega) (by omega) (by omega) (fun k hkn=>?_);by_cases c1:k=n-1-i
   ·subst c1;rw[List.getElem?_set_self (by simp;omega),if_pos (by omega),show n-1-(n-1-i)=i by omega,g2]
   rw[Yw (fun e=>c1 e.symm)];by_cases c2:k=i
   ·subst c2;rw[List.getElem?_set_self (by omega),if_pos (by omega),g1]
   rw[Yw (fun e=>c2 e.symm),hk k hkn];by_cases c3:k<i\/n<=k+i
   ·rw[if_pos c3,if_pos (by omega)]
   rw[if_neg c3,if_neg (by omega)]
  rw[if_neg hi];congr 1;apply List.ext_getElem?;intro k;by_cases hkn:k<n
  ·rw[hk k hkn,List.getElem?_reverse (by omega),hn];by_cases c3:k<i\/n<=k+i
   ·rw[if_pos c3]
   rw[if_neg c3,show n-1-k=k by omega]
  rw[Yg (by omega),Yg (by simp;omega)]
theorem ql6 {N:Nat} {l:List Int} (hN:l.length+1<N) (hb:l.length<=100000):j6 N l=some l.reverse:=by
 unfold j6;have:=qrO (l0:=l) rfl hb N 0 l rfl (by omega) (by omega) (fun k hk=>by rw[if_neg (by omega)]);rw[qF (by omega) (by omega),show((l.length:Int)-1)=(l.length:Int)-1-((0:Nat):Int)by omega,show(0:Int)=((0:Nat):Int)from rfl];rw[this];rfl
theorem qsI (n:Nat):(qbr n).reverse=(Ue n).li n:=by
 refine Uw (by simp[qbL]) fun k hk=>?_
 rw[List.getElem?_reverse (by rw[qbL];exact hk),qbL,qgL (by omega)];show _=some ((rv5 n k:Nat):Int);unfold rv5;rw[if_pos hk]
theorem qnQ {N n:Nat} (hN:2000<N) (hn:n<=300):qbE N (n:Int)=some ((Ue n).li n):=by
 unfold qbE;rw[qfL hN (by omega),ZB,ql6 (by rw[qbL];omega) (by rw[qbL];omega),ZB,if_pos (by simp),ZB,qsI]
end Go.Av
end
section
namespace Go.Av
def SB.comp (s t:SB):SB:=⟨fun k=>t.f (s.f k),fun k=>s.g (t.g k),fun k=>by rw[t.gf,s.gf],fun k=>by rw[s.fg,t.fg]⟩
theorem SB.Ok.comp {n:Nat} {s t:SB} (hs:s.Ok n) (ht:t.Ok n):(s.comp t).Ok n:=⟨fun k hk=>ht.f_ _ (hs.f_ k hk),fun k hk=>hs.g_ _ (ht.g_ k hk)⟩
section
variable {n:Nat} (hn:n<=300)
include hn
theorem qok {s:SB} (hs:s.Ok n): ∀(K i:Nat) (l:List Int),l.length=n->i<=n->n<K+i->(∀k,k<i->l[n-1-k]? =some ((n-1-s.f k:Nat):Int))->zI (s.li n) K l (i:Int)=some ((s.flip n).li n)
 |0,i,l,hl,h,hK,hk=>by omega
 |K+1,i,l,hl,h,hK,hk=>by
  unfold zI;rw[Uf];by_cases hi:i<n
  ·have hf:=hs.f_ i hi;have e0:w64 ((n:Int)-1)=(n:Int)-1:=qF (by omega) (by omega)
   have e1:w64 ((n:Int)-1-(i:Int))=((n-1-i:Nat):Int):=by rw[qF (by omega) (by omega)];omega
   have e2:w64 ((n:Int)-1-(s.f i:Int))=((n-1-s.f i:Nat):Int):=by rw[qF (by omega) (by omega)];omega
   rw[if_pos (by omega),Uk hi,ZB,e0,e1,e2,qC,Ya (by omega),ZB,vM (by omega),ZB,zF (by omega)];refine qok hs K (i+1) _ (by simpa using hl) (by omega) (by omega) (fun k hki=>?_);by_cases e:k=i
   ·subst e;rw[List.getElem?_set_self (by omega)]
   rw[Yw (by omega)];exact hk k (by omega)
  rw[if_neg (by omega)];congr 1
  refine Uw hl fun v hv=>?_
  have:=hk (n-1-v) (by omega);rw[show n-1-(n-1-v)=v by omega]at this;rw[this];show _=some ((rv5 n (s.f (rv5 n v)):Nat):Int)
  have h2:rv5 n v=n-1-v:=by unfold rv5;rw[if_pos hv]
  have h3:=hs.f_ (n-1-v) (by omega);rw[h2];unfold rv5;rw[if_pos h3]
theorem qly {N:Nat} (hN:2000<N) {s:SB} (hs:s.Ok n):vJ N (s.li n)=some ((s.flip n).li n):=by
 unfold vJ;have:=qok hn hs N 0 (List.replicate n 0) (by simp) (by omega) (by omega) (fun k hk=>by omega);rw[show((0:Nat):Int)=0 from rfl]at this;rw[Uf,qkr (by omega),ZB,this,ZB]
end
def qaz (n:Nat) (l:List SB):List (List Int):=l.map (SB.li n)
theorem qba (n:Nat) (l:List SB):(qaz n l).length=l.length:=by simp[qaz]
theorem qjk {n k:Nat} {l:List SB} (h:k<l.length):(qaz n l)[k]? =some (l[k].li n):=by
 unfold qaz;rw[YA,Ya h];rfl
section
variable {n:Nat} (hn:n<=12) {N:Nat} (hN:2000<N)
include hn hN
theorem ql3 {l:List SB} (hl:l.length<=300) (ho: ∀s∈l,s.Ok n): ∀(K i:Nat),i<=l.length->l.length<K+i->zk N (qaz n l) K (qaz n ((l.take i).map (SB.flip n))) (i:Int)=some (qaz n (l.map (SB.flip n)))
 |0,i,h,hK=>by omega
 |K+1,i,h,hK=>by
  unfold zk;rw[qba];by_cases hi:i<l.length
  ·rw[if_pos (by omega),qC,qjk hi,ZB,qly (by omega) hN (ho _ (List.getElem_mem hi)),ZB,qgM (by rw[qba];simp;omega) (by rw[qba];simp;omega),ZB,zF (by omega)]
   have e:qaz n ((l.take i).map (SB.flip n))++[(l[i].flip n).li n]=qaz n ((l.take (i+1)).map (SB.flip n)):=by
    rw[List.take_succ_eq_append_getElem hi,List.map_append];unfold qaz;rw[List.map_append];rfl
   rw[e];exact ql3 hl ho K (i+1) (by omega) (by omega)
  rw[if_neg (by omega),List.take_of_length_le (by omega)]
theorem qlo {l:List SB} (hl:l.length<=300) (ho: ∀s∈l,s.Ok n):jP N (qaz n l)=some (qaz n (l.map (SB.flip n))):=by
 unfold jP;have:=ql3 hn hN hl ho N 0 (by omega) (by omega);rw[show((0:Nat):Int)=0 from rfl,List.take_zero]at this;rw[show([]:List (List Int))=qaz n (([]:List SB).map (SB.flip n))from rfl,this,ZB]
end
end Go.Av
end
section
namespace Go.Av
structure MdOK (n:Int) (k:Nat) (r:List Int×Int):Prop where
 bad:r.2≠0->r.1=[]
 len:r.2=0->r.1.length<=k
 let_:r.2=0-> ∀c∈r.1,qa8 n c=true
theorem qlQ {a b:List Int} (hl:a.length<=100000) (hab:a.length=b.length): ∀(K i:Nat),i<=a.length->a.length<K+i->jm a b K (i:Int)=some (if a.drop i=b.drop i then .inl ()else .inr false)
 |0,i,h,hK=>by omega
 |K+1,i,h,hK=>by
  unfold jm;by_cases hi:i<a.length
  ·have hb:i<b.length:=by omega
   rw[if_pos (by omega),qC,Ya hi,qC,Ya hb,ZB,ZB,YG hi,YG hb];by_cases c:a[i]=b[i]
   ·rw[decide_eq_true c,if_neg (by decide),zF (by omega),qlQ hl hab K (i+1) (by omega) (by omega),c];simp only[List.cons.injEq,true_and]
   rw[decide_eq_false c,if_pos (by decide),if_neg (fun h=>c (List.cons.inj h).1)]
  rw[if_neg (by omega),List.drop_eq_nil_of_le (by omega),List.drop_eq_nil_of_le (by omega),if_pos rfl]
theorem qdp {N:Nat} {a b:List Int} (hl:a.length<=100000) (hN:a.length<N):slices_Equal_int N a b=some (decide (a=b)):=by
 unfold slices_Equal_int;by_cases c:(a.length:Int)=(b.length:Int)
 ·have:=qlQ hl (b:=b) (by omega) N 0 (by omega) (by omega);rw[show((0:Nat):Int)=0 from rfl,YR,YR]at this;rw[decide_eq_true c,if_neg (by decide),this];by_cases e:a=b
  ·rw[if_pos e,decide_eq_true e];rfl
  rw[if_neg e,decide_eq_false e];rfl
 rw[decide_eq_false c,if_pos (by decide),decide_eq_false (fun e=>c (by rw[e]))]
end Go.Av
end
section
namespace Go.Av
theorem qq7 {a b:List Int} (hl:a.length<=100000) (hab:a.length=b.length): ∀(K i:Nat),i<=a.length->a.length<K+i->zN a b K (i:Int)=some (if a.drop i=b.drop i then .inl ()else .inr false)
 |0,i,h,hK=>by omega
 |K+1,i,h,hK=>by
  unfold zN;by_cases hi:i<a.length
  ·have hb:i<b.length:=by omega
   rw[if_pos (by omega),qC,Ya hi,qC,Ya hb,ZB,ZB,YG hi,YG hb];by_cases c:a[i]=b[i]
   ·rw[decide_eq_true c,if_neg (by decide),zF (by omega),qq7 hl hab K (i+1) (by omega) (by omega),c];simp only[List.cons.injEq,true_and]
   rw[decide_eq_false c,if_pos (by decide),if_neg (fun h=>c (List.cons.inj h).1)]
  rw[if_neg (by omega),List.drop_eq_nil_of_le (by omega),List.drop_eq_nil_of_le (by omega),if_pos rfl]
theorem qtv {N:Nat} {a b:List Int} (hl:a.length<=100000) (hN:a.length<N):vW N a b=some (decide (a=b)):=by
 unfold vW;by_cases c:(a.length:Int)=(b.length:Int)
 ·have:=qq7 hl (b:=b) (by omega) N 0 (by omega) (by omega);rw[show((0:Nat):Int)=0 from rfl,YR,YR]at this;rw[decide_eq_true c,if_neg (by decide),this];by_cases e:a=b
  ·rw[if_pos e,decide_eq_true e];rfl
  rw[if_neg e,decide_eq_false e];rfl
 rw[decide_eq_false c,if_pos (by decide),decide_eq_false (fun e=>c (by rw[e]))]
inductive WdB (n:Nat):SB->List Int->Prop
 |nil {s:SB} (h: ∀q,q+1<n-> ¬s.Begs q):WdB n s []
 |cons {s:SB} {i:Nat} {W:List Int} (hi:i+1<n) (hb:s.Begs i) (hm: ∀q,q<i-> ¬s.Begs q) (h:WdB n (s.fr i) W):WdB n s (((i+1:Nat):Int)::W)
theorem qn7: ∀l:List Nat,qgr l<=l.length*l.length
 |[]=>Nat.le_refl _
 |x::r=>by
  have h1:r.countP (fun y=>decide (y<x))<=r.length:=List.countP_le_length;have h2:=qn7 r;simp only[qgr,Yr,Nat.add_mul,Nat.mul_add,Nat.one_mul,Nat.mul_one];omega
theorem SB.inv_le (n:Nat) (s:SB):s.inv n<=n*n:=by
 have:=qn7 (s.row n)
 rwa [Uj]at this
theorem qs5 (x y:Int):cmp_Less_int x y=some (decide (x<y)):=by
 unfold cmp_Less_int cmp_isNaN_int;simp
section
variable {n:Nat} (hn:n<=12) (n1:1<=n)
include hn n1
theorem qlP (s:SB): ∀(K i:Nat),i<n->i<K->(∀q,i<=q->q+1<n-> ¬s.Begs q)-> ∃r,zO (s.li n) K (i:Int)=some r/\((r= .inl ()/\ ∀q,q+1<n-> ¬s.Begs q)\/(r= .inr false/\ ∃q,q+1<n/\s.Begs q))
 |0,i,h,hK,hd=>by omega
 |K+1,i,h,hK,hd=>by
  unfold zO
  cases i with
  |zero=>
   rw[if_neg (by omega)];exact⟨_,rfl,.inl ⟨rfl,fun q hq=>hd q (Nat.zero_le _) hq⟩⟩
  |succ i=>
   have e:w64 (((i+1:Nat):Int)-1)=(i:Int):=by rw[qF (by omega) (by omega)];omega
   rw[if_pos (by omega),e,Uk h,Uk (by omega)];simp only[ZB,qs5];by_cases a:s.f (i+1)<s.f i
   ·rw[decide_eq_true (show((s.f (i+1):Nat):Int)<(s.f i:Int)by omega),if_pos rfl];exact⟨_,rfl,.inr ⟨rfl,i,h,a⟩⟩
   rw[decide_eq_false (show¬((s.f (i+1):Nat):Int)<(s.f i:Int)by omega),if_neg (by decide)]
   refine qlP s K i (by omega) (by omega) fun q h1 h2=>?_
   by_cases c:q=i
   ·subst c;exact a
   exact hd q (by omega) h2
theorem qrA {N:Nat} (hN:2000<N) (s:SB): ∃b,yu N (s.li n)=some b/\(b=true↔ ∀q,q+1<n-> ¬s.Begs q):=by
 unfold yu slices_IsSorted_int
 have e:w64 ((((s.li n).length:Nat):Int)-1)=((n-1:Nat):Int):=by rw[Uf,qF (by omega) (by omega)];omega
 obtain⟨r,r1,r2⟩:=qlP hn n1 s N (n-1) (by omega) (by omega) (fun q h1 h2=>by omega);rw[e,r1];rcases r2 with⟨rfl,r3⟩|⟨rfl,q,q1,q2⟩
 ·exact⟨true,rfl,fun _=>r3,fun _=>rfl⟩
 exact⟨false,rfl,fun h=>(by cases h),fun h=>absurd q2 (h q q1)⟩
theorem qvo {s:SB} (hs:s.Ok n):(∀q,q+1<n-> ¬s.Begs q)↔s.li n=qbr n:=by
 constructor
 ·intro h
  have lo: ∀k,k<n->k<=s.f k:=by
   intro k
   induction k with
   |zero=>exact fun _=>Nat.zero_le _
   |succ k ih=>
    intro hk;have h1:=ih (by omega);have h2:=h k hk
    have h3:s.f k≠s.f (k+1):=fun c=>by have:=s.finj c;omega
    have h4: ¬s.f (k+1)<s.f k:=h2;omega
  have hi: ∀d,d<n->s.f (n-1-d)<=n-1-d:=by
   intro d
   induction d with
   |zero=>
    intro hd;have:=hs.f_ (n-1-0) (by omega);omega
   |succ d ih=>
    intro hd;have h1:=ih (by omega);have h2: ¬s.f (n-1-(d+1)+1)<s.f (n-1-(d+1)):=h (n-1-(d+1)) (by omega)
    have h3:s.f (n-1-(d+1))≠s.f (n-1-(d+1)+1):=fun c=>by have:=s.finj c;omega
    have e:n-1-(d+1)+1=n-1-d:=by omega
    rw[e]at h2 h3;omega
  refine(Uw (qbL n) fun k hk=>?_).symm;rw[qgL hk];have h1:=lo k hk;have h2:=hi (n-1-k) (by omega);rw[show n-1-(n-1-k)=k by omega]at h2;congr 1;omega
 intro h q hq hb
 have e: ∀k,k<n->s.f k=k:=fun k hk=>SB.li_inj (t:=SB.id) h hk
 have hb:s.f (q+1)<s.f q:=hb;rw[e _ hq,e _ (by omega)]at hb;omega
end
end Go.Av
end
section
namespace Go.Av
def yc (n m:Nat) (L:Nat->SB):List (List Int):=(List.range m).map fun q=>(L q).li n
theorem ja (n m:Nat) (L:Nat->SB):(yc n m L).length=m:=by simp[yc]
theorem xB {n m q:Nat} {L:Nat->SB} (h:q<m):(yc n m L)[q]? =some ((L q).li n):=by simp[yc,List.getElem?_range h]
theorem qk2 {n m:Nat} {L:Nat->SB} {R:List (List Int)} (hl:R.length=m) (h: ∀q,q<m->R[q]? =some ((L q).li n)):R=yc n m L:=by
 apply List.ext_getElem?;intro q;by_cases hq:q<m
 ·rw[h q hq,xB hq]
 rw[Yg (by omega),Yg (by rw[ja];omega)]
theorem qo6 {n m k i:Nat} {L:Nat->SB} (hk:k+1<m):((yc n m L).set k (((L k).bk i).li n)).set (k+1) (((L (k+1)).fr i).li n)=yc n m (psh L k i):=by
 refine qk2 (by simp[ja]) fun q hq=>?_
 by_cases a:q=k+1
 ·subst a;rw[List.getElem?_set_self (by simp[ja];omega),jE]
 by_cases b:q=k
 ·subst b;rw[Yw (by omega),List.getElem?_set_self (by rw[ja];omega),yf]
 rw[Yw (by omega),Yw (by omega),xB hq,ji L b a]
def OkM (n m:Nat) (L:Nat->SB):Prop:= ∀q,q<m->(L q).Ok n
theorem OkM.psh {n m k i:Nat} {L:Nat->SB} (h:OkM n m L) (hk:k+1<m) (hi:i+1<n):OkM n m (psh L k i):=fun q hq=>by
 by_cases a:q=k
 ·subst a;rw[yf];exact(h q hq).bk hi
 by_cases b:q=k+1
 ·subst b;rw[jE];exact(h (k+1) hq).fr hi
 rw[ji L a b];exact h q hq
theorem qqR {n:Nat} {L:Nat->SB}: ∀m,mu5 n L m<=m*(m*(n*n))
 |0=>Nat.zero_le _
 |m+1=>by
  have h1:=qqR (n:=n) (L:=L) m;have h2:=Nat.mul_le_mul_left m ((L m).inv_le n);simp only[mu5,Nat.add_mul,Nat.mul_add,Nat.one_mul]at*;omega
section
variable {n m:Nat} (hn:n<=12) (n1:1<=n) (hm:m<=300) {N:Nat} (hN:2000<N)
include hn n1 hm hN
theorem qtj {L:Nat->SB} (hL:OkM n m L) {k:Nat} (hk:k+1<m):
 (∃i,qaa n m L k i/\ym N (k:Int) (yc n m L)=some (yc n m (psh L k i),true))\/((∀i,¬qaa n m L k i)/\ym N (k:Int) (yc n m L)=some (yc n m L,false)):=by
 unfold ym;rw[qC,xB (by omega),ZB,zF (by omega),qC,xB hk,ZB];rcases qnd (n:=n) (by omega) hN n1 (t:=L (k+1)) (hL k (by omega))with⟨j,j1,j2,j3,j4⟩|⟨j1,j2⟩
 ·left;refine⟨j,⟨hk,j1,j2,j3⟩,?_⟩;rw[j4,ZB];simp only[if_true];rw[qja (by omega) hN (hL k (by omega)) j1,ZB,qfv (by omega) _ j1,ZB,vM (by rw[ja];omega),ZB,qC,Yw (by omega),xB hk,ZB,vM (by simp[ja];omega),ZB,ZB,qo6 hk]
 right;refine⟨fun i c=>c.e_ (j1 i c.i_ c.b_),?_⟩;rw[j2,ZB];rfl
theorem qoB {k:Nat} (hk:k+1<m): ∀(K:Nat) (L:Nat->SB) (b:Bool),OkM n m L->mu5 n L m<K->
 ∃(L':Nat->SB) (b':Bool),vB N (k:Int) K (yc n m L) b=some (yc n m L',b')/\Pst n m L L'/\OkM n m L'/\(∀i,¬qaa n m L' k i)/\(∀q,q≠k->q≠k+1->L' q=L q)/\((b'=b/\L'=L)\/(b'=true/\mu5 n L' m<mu5 n L m))
 |0,L,b,hL,h=>by omega
 |K+1,L,b,hL,h=>by
  unfold vB;rcases qtj hn n1 hm hN hL hk with⟨i,c,e⟩|⟨c,e⟩
  ·have hmu:=qfJ c;obtain⟨L',b',h1,h2,h3,h4,h5,h6⟩:=qoB hk K (psh L k i) true (hL.psh hk c.i_) (by omega);rw[e,ZB];simp only[ja,if_true,ZB];refine⟨L',b',h1,.head (.mk c) h2,h3,h4,fun q q1 q2=>by rw[h5 q q1 q2,ji L q1 q2],?_⟩;rcases h6 with⟨g1,g2⟩|⟨g1,g2⟩
   ·subst g1 g2;exact .inr ⟨rfl,hmu⟩
   exact .inr ⟨g1,by omega⟩
  rw[e,ZB];simp only[ja,if_true,ZB,ZF,if_false];exact⟨L,b,rfl,.refl,hL,c,fun q _ _=>rfl,.inl ⟨rfl,rfl⟩⟩
theorem qke (hmu: ∀L:Nat->SB,mu5 n L m<N): ∀(K k:Nat) (L:Nat->SB),OkM n m L->k<=m->2*mu5 n L m+(m-k)<K->(∀j,j<k-> ∀i,¬qaa n m L j i)->
 ∃A,vz N K (yc n m L) (k:Int)=some (yc n m A)/\Pst n m L A/\Nf n m A/\OkM n m A
 |0,k,L,hL,hk,h,ht=>by omega
 |K+1,k,L,hL,hk,h,ht=>by
  unfold vz;rw[ja,zF (by omega)];by_cases c:k+1<m
  ·obtain⟨L',b',h1,h2,h3,h4,h5,h6⟩:=qoB hn n1 hm hN c N L false hL (hmu L);rw[if_pos (by omega),h1];simp only[ZB]
   have tight: ∀j,j+1<k-> ∀i,¬qaa n m L' j i:=fun j hj i d=>ht j (by omega) i ⟨d.k_,d.i_,by have:=d.b_;rwa [h5 (j+1) (by omega) (by omega)]at this,by have:=d.e_;rwa [h5 j (by omega) (by omega)]at this⟩
   by_cases d:b'=true/\0<k
   ·obtain⟨d1,d2⟩:=d;subst d1;rcases h6 with⟨g1,_⟩|⟨_,g2⟩
    ·cases g1
    rw[if_pos rfl,decide_eq_true (show(k:Int)>0 by omega)];simp only[ZB,if_true];rw[show w64 ((k:Int)-1)=((k-1:Nat):Int)from qrK (by omega) d2];obtain⟨A,a1,a2,a3,a4⟩:=qke hmu K (k-1) L' h3 (by omega) (by omega) (fun j hj=>tight j (by omega));exact⟨A,a1,h2.trans a2,a3,a4⟩
   have e:(if b'=true then some (decide ((k:Int)>0))else some false:Option Bool)=some false:=by
    cases b' with
    |false=>rfl
    |true=>rw[if_pos rfl,decide_eq_false (by have: ¬0<k:=fun g=>d ⟨rfl,g⟩;omega)]
   rw[e];simp only[ZB,ZF,if_false]
   have hmu2:mu5 n L' m<=mu5 n L m:=by
    rcases h6 with⟨_,g2⟩|⟨_,g2⟩
    ·rw[g2];exact Nat.le_refl _
    omega
   obtain⟨A,a1,a2,a3,a4⟩:=qke hmu K (k+1) L' h3 (by omega) (by omega) (fun j hj i g=>by
    by_cases f:j=k
    ·subst f;exact h4 i g
    rcases h6 with⟨_,g2⟩|⟨g1,_⟩
    ·rw[g2]at g;exact ht j (by omega) i g
    exact d ⟨g1,by omega⟩)
   exact⟨A,a1,h2.trans a2,a3,a4⟩
  rw[if_neg (by omega)];exact⟨L,rfl,.refl,fun j i g=>by have:=g.k_;exact ht j (by omega) i g,hL⟩
end
end Go.Av
end
section
namespace Go.Av
def qbk (i:Nat) (p:List Nat):List Nat:=p.map (tr5 i)
def qfr:Nat->List Nat->List Nat
 |0,a::b::l=>b::a::l
 |i+1,a::l=>a::qfr i l
 |_,l=>l
def qne:List Nat->Nat->Nat
 |[],_=>0
 |a::_,0=>a
 |_::l,k+1=>qne l k
def qnr (v:Nat):List Nat->Nat
 |[]=>0
 |a::l=>bif Nat.beq a v then 0 else qnr v l+1
def qgV (i:Nat) (p:List Nat):Bool:=Nat.blt (qne p (i+1)) (qne p i)
def qg0 (i:Nat) (p:List Nat):Bool:=Nat.blt (qnr (i+1) p) (qnr i p)
def qeo (s t:List Nat):Nat->Option Nat
 |0=>none
 |i+1=>bif qgV i t&&!qg0 i s then some i else qeo s t i
def qdF (n:Nat):Nat->List Nat->List Nat->List Nat×List Nat
 |0,s,t=>(s,t)
 |K+1,s,t=>match qeo s t (n-1)with
  |none=>(s,t)
  |some i=>qdF n K (qbk i s) (qfr i t)
def qgX (n:Nat):List Nat->List (List Nat)->List (List Nat)
 |x,[]=>[x]
 |x,s::r=>match qdF n (n*n) s x with
  |(s',x')=>x'::qgX n s' r
def qnf (n:Nat):List (List Nat)->Bool
 |[]=>true
 |x::r=>match r with
  |[]=>true
  |s::_=>(qeo s x (n-1)).isNone&&qnf n r
theorem qnH: ∀(l:List Nat) (k:Nat),qne l k=l.getD k 0
 |[],k=>by simp[qne]
 |a::l,0=>rfl
 |a::l,k+1=>by rw[qne,qnH l k];rfl
theorem qoG: ∀(i:Nat) (l:List Nat) (k:Nat),i+1<l.length->(qfr i l)[k]? =l[tr5 i k]?
 |0,[],k,h=>by simp at h
 |0,[a],k,h=>by simp at h
 |0,a::b::l,0,h=>by simp[qfr,tr5]
 |0,a::b::l,1,h=>by simp[qfr,tr5]
 |0,a::b::l,k+2,h=>by simp[qfr,tr5]
 |i+1,[],k,h=>by simp at h
 |i+1,a::l,0,h=>by simp[qfr,tr5]
 |i+1,a::l,k+1,h=>by
  rw[qfr,YK,qoG i l k (by simp at h;omega)];rcases yg i k with⟨c,e⟩|⟨c,e⟩|⟨c,c',e⟩<;>rw[e]
  ·subst c;rw[qbV,YK]
  ·subst c;rw[qb3,YK]
  rw[vN (by omega) (by omega),YK]
theorem qko (n i:Nat) (s:SB):(s.bk i).row n=qbk i (s.row n):=by
 unfold SB.row qbk;rw[List.map_map];rfl
theorem qjU {n i:Nat} (hi:i+1<n) (s:SB):(s.fr i).row n=qfr i (s.row n):=by
 apply List.ext_getElem?;intro k;rw[qoG i _ k (by rw[Uj];exact hi)];by_cases hk:k<n
 ·rw[Ui _ hk,Ui _ (qih hi hk)];rfl
 rw[vN (by omega) (by omega),Yg (by rw[Uj];omega),Yg (by rw[Uj];omega)]
theorem ql8 {n k:Nat} (s:SB) (h:k<n):qne (s.row n) k=s.f k:=by
 rw[qnH,Yy,Ui s h];rfl
theorem qnK: ∀(l:List Nat) (k v:Nat),l[k]? =some v->(∀j,j<k->l[j]? ≠some v)->qnr v l=k
 |[],k,v,h,hj=>by simp at h
 |a::l,0,v,h,hj=>by
  simp at h;subst h;simp[qnr]
 |a::l,k+1,v,h,hj=>by
  have:=hj 0 (by omega)
  have ne:a≠v:=fun e=>this (by simp[e])
  have hb:Nat.beq a v=false:=by
   cases c:Nat.beq a v with
   |false=>rfl
   |true=>exact absurd (Nat.eq_of_beq_eq_true c) ne
  rw[qnr,hb,cond_false,qnK l k v (by simpa using h) (fun j hjk=>by have:=hj (j+1) (by omega);simpa using this)]
theorem qli {n v:Nat} {s:SB} (hs:s.Ok n) (h:v<n):qnr v (s.row n)=s.g v:=by
 refine qnK _ _ _ (by rw[Ui s (hs.g_ v h),s.fg]) (fun j hj=>?_);rw[Ui s (by have:=hs.g_ v h;omega)];intro e;have:=Ye e
 have e2:j=s.g v:=by rw[<-this,s.gf]
 omega
theorem qjL {n i:Nat} (hi:i+1<n) (s:SB):qgV i (s.row n)=true↔s.Begs i:=by
 unfold qgV SB.Begs;rw[ql8 s hi,ql8 s (by omega)];simp[Nat.blt_eq]
theorem qjr {n i:Nat} (hi:i+1<n) {s:SB} (hs:s.Ok n):qg0 i (s.row n)=true↔s.Ends i:=by
 unfold qg0 SB.Ends;rw[qli hs hi,qli hs (by omega)];simp[Nat.blt_eq]
theorem qiv {s t:List Nat}: ∀{j i:Nat},qeo s t j=some i->i<j/\qgV i t=true/\qg0 i s=false
 |0,i,h=>by cases h
 |j+1,i,h=>by
  unfold qeo at h
  cases c:(qgV j t&&!qg0 j s)with
  |false=>
   rw[c,cond_false]at h;have:=qiv h;exact⟨by omega,this.2⟩
  |true=>
   rw[c,cond_true]at h;have:=Ye h;subst this;simp only[Bool.and_eq_true,Bool.not_eq_true']at c;exact⟨by omega,c⟩
theorem qiR {s t:List Nat}: ∀{j:Nat},qeo s t j=none-> ∀i,i<j-> ¬(qgV i t=true/\qg0 i s=false)
 |0,h,i,hi=>by omega
 |j+1,h,i,hi=>by
  unfold qeo at h
  cases c:(qgV j t&&!qg0 j s)with
  |true=>rw[c,cond_true]at h;cases h
  |false=>
   rw[c,cond_false]at h;by_cases e:i=j
   ·subst e;rintro⟨h1,h2⟩;rw[h1,h2]at c;cases c
   exact qiR h i (by omega)
theorem qhQ {n m k:Nat} (hk:k+1<m): ∀(K:Nat) (L:Nat->SB),OkM n m L-> ∃A,Pst n m L A/\qdF n K ((L k).row n) ((L (k+1)).row n)=((A k).row n,(A (k+1)).row n)/\(∀q,q≠k->q≠k+1->A q=L q)/\OkM n m A
 |0,L,hL=>⟨L,.refl,rfl,fun _ _ _=>rfl,hL⟩
 |K+1,L,hL=>by
  unfold qdF
  cases c:qeo ((L k).row n) ((L (k+1)).row n) (n-1)with
  |none=>exact⟨L,.refl,rfl,fun _ _ _=>rfl,hL⟩
  |some i=>
   obtain⟨h1,h2,h3⟩:=qiv c
   have hi:i+1<n:=by omega
   have can:qaa n m L k i:=⟨hk,hi,(qjL hi _).1 h2,fun e=>by
    have:=(qjr hi (hL k (by omega))).2 e;rw[h3]at this
    cases this⟩
   obtain⟨A,a1,a2,a3,a4⟩:=qhQ hk K (psh L k i) (hL.psh hk hi);refine⟨A,.head (.mk can) a1,?_,fun q q1 q2=>by rw[a3 q q1 q2,ji L q1 q2],a4⟩;dsimp only;rw[yf,jE,qko,qjU hi]at a2;exact a2
def xk (n:Nat) (L:Nat->SB):Nat->List (List Nat)
 |0=>[]
 |k+1=>(L k).row n::xk n L k
theorem qij {n:Nat} {L A:Nat->SB}: ∀{k:Nat},(∀q,q<k->A q=L q)->xk n A k=xk n L k
 |0,h=>rfl
 |k+1,h=>by rw[xk,xk,h k (by omega),qij fun q hq=>h q (by omega)]
theorem qlm {n m:Nat}: ∀(k:Nat) (L:Nat->SB),k<m->OkM n m L-> ∃A,Pst n m L A/\qgX n ((L k).row n) (xk n L k)=xk n A (k+1)/\(∀q,k<q->A q=L q)/\OkM n m A
 |0,L,hk,hL=>⟨L,.refl,rfl,fun _ _=>rfl,hL⟩
 |k+1,L,hk,hL=>by
  obtain⟨B,b1,b2,b3,b4⟩:=qhQ (n:=n) (m:=m) (k:=k) hk (n*n) L hL;obtain⟨A,a1,a2,a3,a4⟩:=qlm k B (by omega) b4;refine⟨A,b1.trans a1,?_,fun q hq=>by rw[a3 q (by omega),b3 q (by omega) (by omega)],a4⟩;rw[xk,qgX,b2];dsimp only;rw[qij (A:=L) (L:=B) fun q hq=>(b3 q (by omega) (by omega)).symm,a2,<-a3 (k+1) (by omega)];rfl
theorem qqb {n m:Nat} {A:Nat->SB} (hA:OkM n m A): ∀{k:Nat},k<=m->qnf n (xk n A k)=true-> ∀j i,j+1<k-> ¬qaa n m A j i
 |0,hk,h,j,i,hj=>by omega
 |1,hk,h,j,i,hj=>by omega
 |k+2,hk,h,j,i,hj=>by
  rw[xk,xk,qnf]at h;simp only[Bool.and_eq_true]at h;by_cases e:j=k
  ·subst e;intro c;have hn:=qiR (Option.isNone_iff_eq_none.1 h.1) i (by have:=c.i_;omega);refine hn ⟨(qjL c.i_ _).2 c.b_,?_⟩
   cases g:qg0 i ((A j).row n)with
   |false=>rfl
   |true=>exact absurd ((qjr c.i_ (hA j (by omega))).1 g) c.e_
  exact qqb hA (k:=k+1) (by omega) (by rw[xk];exact h.2) j i (by omega)
end Go.Av
end
section
namespace Go.Av
theorem qaa.up {n m k i:Nat} {L:Nat->SB} (h:qaa n m L k i):qaa n (m+1) L k i:=⟨by have:=h.k_;omega,h.i_,h.b_,h.e_⟩
theorem Pst.up {n m:Nat} {L A:Nat->SB} (h:Pst n m L A):Pst n (m+1) L A:=by
 induction h with
 |refl=>exact .refl
 |head h _ ih=>cases h with|mk h=>exact .head (.mk h.up) ih
def qir (L:Nat->SB) (m:Nat) (s:SB):Nat->SB:=fun q=>if q=m then s else L q
theorem qhx (L:Nat->SB) (m:Nat) (s:SB):qir L m s m=s:=if_pos rfl
theorem qew {L:Nat->SB} {m q:Nat} {s:SB} (h:q≠m):qir L m s q=L q:=if_neg h
theorem qpW {L:Nat->SB} {m k i:Nat} {s:SB} (h:k+1<m):psh (qir L m s) k i=qir (psh L k i) m s:=by
 funext q;by_cases a:q=m
 ·subst a;rw[qhx,ji _ (by omega) (by omega),qhx]
 rw[qew a];by_cases b:q=k
 ·subst b;rw[yf,yf,qew a]
 by_cases c:q=k+1
 ·subst c;rw[jE,jE,qew a]
 rw[ji _ b c,ji _ b c,qew a]
theorem Pst.upd {n m:Nat} {L A:Nat->SB} (h:Pst n m L A) (s:SB):Pst n m (qir L m s) (qir A m s):=by
 induction h with
 |refl=>exact .refl
 |head h _ ih=>
  cases h with
  |@mk k i h=>
   have hk:=h.k_;refine .head (L1:=qir (psh _ k i) m s) ?_ ih;rw[<-qpW hk];refine .mk ⟨hk,h.i_,?_,?_⟩
   ·rw[qew (by omega)];exact h.b_
   rw[qew (by omega)];exact h.e_
theorem Pst.beyond {n m:Nat} {L A:Nat->SB} (h:Pst n m L A): ∀q,m<=q->A q=L q:=by
 induction h with
 |refl=>exact fun _ _=>rfl
 |head h _ ih=>
  cases h with
  |mk h=>
   intro q hq;have:=h.k_;rw[ih q hq,ji _ (by omega) (by omega)]
theorem qaK {n k:Nat} (h:k<n):rv5 n k=n-1-k:=if_pos h
theorem qrQ {n i:Nat} (hi:i+1<n) (k:Nat):rv5 n (tr5 i k)=tr5 (n-2-i) (rv5 n k):=by
 by_cases hk:k<n
 ·have e:=qaK hk;rcases yg i k with⟨a,b⟩|⟨a,b⟩|⟨a,a',b⟩<;>rw[b]
  ·subst a;rw[e,qaK (by omega),show n-1-k=n-2-k+1 by omega,qb3];omega
  ·subst a;rw[e,qaK (by omega),show n-1-(i+1)=n-2-i by omega,qbV];omega
  rw[e,vN (by omega) (by omega)]
 rw[vN (by omega) (by omega)];have:rv5 n k=k:=if_neg hk;rw[this,vN (by omega) (by omega)]
theorem qn6 {n i:Nat} (hi:i+1<n) (s:SB):(s.bk i).flip n=(s.flip n).bk (n-2-i):=SB.ext fun k=>by
 show rv5 n (tr5 i (s.f (rv5 n k)))=tr5 (n-2-i) (rv5 n (s.f (rv5 n k)));exact qrQ hi _
theorem qnN {n i:Nat} (hi:i+1<n) (s:SB):(s.fr i).flip n=(s.flip n).fr (n-2-i):=SB.ext fun k=>by
 show rv5 n (s.f (tr5 i (rv5 n k)))=rv5 n (s.f (rv5 n (tr5 (n-2-i) k)));have:=qrQ (n:=n) (i:=n-2-i) (by omega) k;rw[show n-2-(n-2-i)=i by omega]at this;rw[this]
theorem qpk {n i:Nat} (hi:i+1<n) {s:SB} (hs:s.Ok n) (h:s.Begs i):(s.flip n).Begs (n-2-i):=by
 unfold SB.Begs at*;show rv5 n (s.f (rv5 n (n-2-i+1)))<rv5 n (s.f (rv5 n (n-2-i)));have h1:=hs.f_ i (by omega);have h2:=hs.f_ (i+1) hi;rw[qaK (k:=n-2-i+1) (by omega),qaK (k:=n-2-i) (by omega),show n-1-(n-2-i+1)=i by omega,show n-1-(n-2-i)=i+1 by omega,qaK h1,qaK h2];omega
theorem qpE {n i:Nat} (hi:i+1<n) {s:SB} (hs:s.Ok n) (h: ¬s.Ends i): ¬(s.flip n).Ends (n-2-i):=by
 have h:=SB.nEnds h;unfold SB.Ends;show¬rv5 n (s.g (rv5 n (n-2-i+1)))<rv5 n (s.g (rv5 n (n-2-i)));have h1:=hs.g_ i (by omega);have h2:=hs.g_ (i+1) hi;rw[qaK (k:=n-2-i+1) (by omega),qaK (k:=n-2-i) (by omega),show n-1-(n-2-i+1)=i by omega,show n-1-(n-2-i)=i+1 by omega,qaK h1,qaK h2];omega
def qdw (n:Nat) (L:Nat->SB):Nat->SB:=fun q=>(L q).flip n
theorem qo0 {n k i:Nat} (hi:i+1<n) (L:Nat->SB):psh (qdw n L) k (n-2-i)=qdw n (psh L k i):=by
 funext q;by_cases b:q=k
 ·subst b;rw[yf];unfold qdw;rw[yf,qn6 hi]
 by_cases c:q=k+1
 ·subst c;rw[jE];unfold qdw;rw[jE,qnN hi]
 rw[ji _ b c];unfold qdw;rw[ji _ b c]
theorem OkM.flip {n m:Nat} {L:Nat->SB} (h:OkM n m L):OkM n m (qdw n L):=fun q hq=>(h q hq).flip
theorem Pst.flip {n m:Nat} {L A:Nat->SB} (h:Pst n m L A) (hL:OkM n m L):Pst n m (qdw n L) (qdw n A)/\OkM n m A:=by
 induction h with
 |refl=>exact⟨.refl,hL⟩
 |head h _ ih=>
  cases h with
  |@mk k i h=>
   have hk:=h.k_;have hi:=h.i_;obtain⟨a,b⟩:=ih (hL.psh hk hi);refine⟨.head (L1:=qdw n (psh _ k i)) ?_ a,b⟩;rw[<-qo0 hi];exact .mk ⟨hk,by omega,qpk hi (hL _ hk) h.b_,qpE hi (hL _ (by omega)) h.e_⟩
def qfk (n:Nat) (p:List Nat):List Nat:=p.reverse.map fun k=>n-1-k
def qbW (n:Nat):List Nat:=(List.range n).reverse
theorem qds (n:Nat):(Ue n).row n=qbW n:=by
 apply List.ext_getElem?;intro k;unfold qbW;by_cases hk:k<n
 ·rw[Ui _ hk,List.getElem?_reverse (by simpa using hk)];simp only[List.length_range];rw[List.getElem?_range (by omega)];show some (rv5 n k)=_;rw[qaK hk]
 rw[Yg (by rw[Uj];omega),Yg (by simp;omega)]
theorem qh2 (n:Nat):SB.id.row n=List.range n:=by
 unfold SB.row;exact List.map_id' _
theorem qk4 {n:Nat} {s:SB} (hs:s.Ok n):(s.flip n).row n=qfk n (s.row n):=by
 apply List.ext_getElem?;intro k;unfold qfk;by_cases hk:k<n
 ·rw[Ui _ hk,YA,List.getElem?_reverse (by rw[Uj];exact hk),Uj,Ui _ (by omega)];show some (rv5 n (s.f (rv5 n k)))=_;rw[qaK hk,qaK (hs.f_ _ (by omega))];rfl
 rw[Yg (by rw[Uj];omega),Yg (by simp[Uj];omega)]
theorem qhN {n m:Nat} {L:Nat->SB} (hL:OkM n m L): ∀{k:Nat},k<=m->xk n (qdw n L) k=(xk n L k).map (qfk n)
 |0,h=>rfl
 |k+1,h=>by
  rw[xk,xk,List.map_cons,qhN hL (k:=k) (by omega),<-qk4 (hL k (by omega))];rfl
def qad (l:List SB):Nat->SB:=fun q=>l.getD q SB.id
def qbt (n:Nat) (l:List SB) (c:Int):List SB:=if 0<c then l++[SB.id.fr (c.natAbs-1)]else l.map (SB.flip n)++[(Ue n).bk (c.natAbs-1)]
theorem qq6 (l:List SB) (s:SB):qad (l++[s])=qir (qad l) l.length s:=by
 funext q
 show(l++[s]).getD q SB.id=if q=l.length then s else l.getD q SB.id
 rw[Yy,Yy];by_cases h:q=l.length
 ·subst h;simp
 rw[if_neg h];by_cases h2:q<l.length
 ·rw[Yf h2]
 rw[Yg (by simp;omega),Yg (by omega)]
theorem qgS (n:Nat) (l:List SB):qad (l.map (SB.flip n))=qdw n (qad l):=by
 funext q;show(l.map (SB.flip n)).getD q SB.id=(l.getD q SB.id).flip n;rw[Yy,Yy,YA]
 cases l[q]? with
 |some s=>rfl
 |none=>
  refine SB.ext fun k=>?_
  show k=rv5 n (rv5 n k);rw[qbq]
def qjJ (n:Nat) (R:List (List Nat)) (c:Int):List (List Nat):=
 if 0<c then qgX n (qfr (c.natAbs-1) (List.range n)) R else qgX n (qbk (c.natAbs-1) (qbW n)) (R.map (qfk n))
structure QOK (n:Nat) (l:List SB) (R:List (List Nat)):Prop where
 ok: ∀s∈l,s.Ok n
 ex: ∃A,Pst n l.length (qad l) A/\OkM n l.length A/\R=xk n A l.length
theorem qeW {n:Nat} {l:List SB} (h: ∀s∈l,s.Ok n):OkM n l.length (qad l):=fun q hq=>by
 unfold qad;rw[Yy,Ya hq];exact h _ (List.getElem_mem hq)
theorem QOK.step {n:Nat} {l:List SB} {R:List (List Nat)} (h:QOK n l R) {c:Int} (hc:c≠0/\ -(n:Int)<c/\c<n):QOK n (qbt n l c) (qjJ n R c)/\(qbt n l c).length=l.length+1:=by
 obtain⟨i,hi⟩: ∃i,c.natAbs=i+1:=⟨c.natAbs-1,by omega⟩
 have hin:i+1<n:=by omega
 obtain⟨A,a1,a2,rfl⟩:=h.ex
 have key: ∀{l':List SB} {B:Nat->SB} {s:SB},l'.length=l.length->(∀t∈l',t.Ok n)->s.Ok n->Pst n l.length (qad l') B->OkM n l.length B->QOK n (l'++[s]) (qgX n (s.row n) (xk n B l.length)):=fun {l' B s} hl hk hs p ok=>by
  refine⟨fun t ht=>(List.mem_append.1 ht).elim (hk t) (fun e=>by rw[List.mem_singleton.1 e];exact hs),?_⟩
  have ok':OkM n (l.length+1) (qir B l.length s):=fun q hq=>by
   by_cases e:q=l.length
   ·subst e;rw[qhx];exact hs
   rw[qew e];exact ok q (by omega)
  obtain⟨D,d1,d2,d3,d4⟩:=qlm (n:=n) (m:=l.length+1) l.length (qir B l.length s) (by omega) ok';rw[qhx,qij (A:=qir B l.length s) (L:=B) fun q hq=>qew (by omega)]at d2;rw[qq6,Yq,hl];refine⟨D,?_,d4,d2⟩;have:=(p.upd s).up;exact this.trans d1
 unfold qbt qjJ;rw[hi,Nat.add_sub_cancel];by_cases hp:0<c
 ·rw[if_pos hp,if_pos hp];refine⟨?_,by simp⟩;have:=key (s:=SB.id.fr i) rfl h.ok ((Us n).fr hin) a1 a2
  rwa [qjU hin,qh2]at this
 rw[if_neg hp,if_neg hp];refine⟨?_,by simp⟩;obtain⟨f1,f2⟩:=a1.flip (qeW h.ok)
 have:=key (l':=l.map (SB.flip n)) (B:=qdw n A) (s:=(Ue n).bk i) (by simp) (fun t ht=>by
  obtain⟨u,hu,rfl⟩:=List.mem_map.1 ht
  exact(h.ok u hu).flip) ((Up n).bk hin) (by rw[qgS];exact f1) a2.flip
 rwa [qko,qds,qhN a2 (Nat.le_refl _)]at this
end Go.Av
end
section
namespace Go.Av
def jnL (a:Nat) (P L:Nat->SB):Nat->SB:=fun q=>if q<a then P q else L (q-a)
theorem qbM {a q:Nat} {P L:Nat->SB} (h:q<a):jnL a P L q=P q:=if_pos h
theorem qcg {a k:Nat} {P L:Nat->SB}:jnL a P L (a+k)=L k:=by
 unfold jnL;rw[if_neg (by omega),Nat.add_sub_cancel_left]
theorem qfM (p l:List SB):qad (p++l)=jnL p.length (qad p) (qad l):=by
 funext q;unfold jnL qad;by_cases h:q<p.length
 ·rw[if_pos h,Yy,Yf h,Yy]
 rw[if_neg h,Yy,Yo (by omega),Yy]
theorem qsf {a k i:Nat} {P L:Nat->SB}:psh (jnL a P L) (a+k) i=jnL a P (psh L k i):=by
 funext q;by_cases h:q<a
 ·rw[ji _ (by omega) (by omega),qbM h,qbM h]
 obtain⟨j,rfl⟩: ∃j,q=a+j:=⟨q-a,by omega⟩;rw[qcg];by_cases h1:j=k
 ·subst h1;rw[yf,yf,qcg]
 by_cases h2:j=k+1
 ·subst h2;rw[show a+(k+1)=a+k+1 by omega,jE,jE,show a+k+1=a+(k+1)by omega,qcg]
 rw[ji _ (by omega) (by omega),ji _ h1 h2,qcg]
theorem qqY {a k i:Nat} {P L:Nat->SB} (hk:k+1<a):psh (jnL a P L) k i=jnL a (psh P k i) L:=by
 funext q;by_cases h1:q=k
 ·subst h1;rw[yf,qbM (by omega),qbM (by omega),yf]
 by_cases h2:q=k+1
 ·subst h2;rw[jE,qbM hk,qbM hk,jE]
 rw[ji _ h1 h2];by_cases h:q<a
 ·rw[qbM h,qbM h,ji _ h1 h2]
 unfold jnL;rw[if_neg h,if_neg h]
theorem Pst.pre {n m a:Nat} {P L A:Nat->SB} (h:Pst n m L A):Pst n (a+m) (jnL a P L) (jnL a P A):=by
 induction h with
 |refl=>exact .refl
 |head h _ ih=>
  cases h with
  |@mk k i h=>
   refine .head (L1:=jnL a P (psh _ k i)) ?_ ih;rw[<-qsf];refine .mk ⟨by have:=h.k_;omega,h.i_,?_,?_⟩
   ·rw[show a+k+1=a+(k+1)by omega,qcg];exact h.b_
   rw[qcg];exact h.e_
theorem Pst.suf {n m a:Nat} {P A L:Nat->SB} (h:Pst n a P A):Pst n (a+m) (jnL a P L) (jnL a A L):=by
 induction h with
 |refl=>exact .refl
 |head h _ ih=>
  cases h with
  |@mk k i h=>
   have hk:=h.k_;refine .head (L1:=jnL a (psh _ k i) L) ?_ ih;rw[<-qqY hk];refine .mk ⟨by omega,h.i_,?_,?_⟩
   ·rw[qbM hk];exact h.b_
   rw[qbM (by omega)];exact h.e_
structure Jn (n:Nat) (l l':List SB):Prop where
 len:l.length=l'.length
 o1: ∀s∈l,s.Ok n
 o2: ∀s∈l',s.Ok n
 meet: ∃D,Pst n l.length (qad l) D/\Pst n l.length (qad l') D
theorem Jn.refl {n:Nat} {l:List SB} (h: ∀s∈l,s.Ok n):Jn n l l:=⟨rfl,h,h,_,.refl,.refl⟩
theorem Jn.symm {n:Nat} {l l':List SB} (h:Jn n l l'):Jn n l' l:=by
 obtain⟨D,a,b⟩:=h.meet;exact⟨h.len.symm,h.o2,h.o1,D,h.len▸b,h.len▸a⟩
theorem Jn.trans {n:Nat} {l l' l2:List SB} (h:Jn n l l') (k:Jn n l' l2):Jn n l l2:=by
 obtain⟨D,a,b⟩:=h.meet;obtain⟨E,c,d⟩:=k.meet;rw[<-h.len]at c d;obtain⟨F,f1,f2⟩:=qk0 _ D (Nat.le_refl _);obtain⟨G,g1,g2⟩:=qk0 _ E (Nat.le_refl _);obtain rfl:=qe2 _ (Nat.le_refl _) (b.trans f1) (c.trans g1) f2 g2;exact⟨h.len.trans k.len,h.o1,k.o2,F,a.trans f1,d.trans g1⟩
theorem Jn.app {n:Nat} {p p' l l':List SB} (h:Jn n p p') (k:Jn n l l'):Jn n (p++l) (p'++l'):=by
 obtain⟨D,a,b⟩:=h.meet;obtain⟨E,c,d⟩:=k.meet;refine⟨by rw[Yq,Yq,h.len,k.len],fun s hs=>(List.mem_append.1 hs).elim (h.o1 s) (k.o1 s),fun s hs=>(List.mem_append.1 hs).elim (h.o2 s) (k.o2 s),jnL p.length D E,?_,?_⟩
 ·rw[qfM,Yq];exact a.suf.trans c.pre
 rw[qfM,Yq,<-h.len];exact b.suf.trans d.pre
theorem Jn.flip {n:Nat} {l l':List SB} (h:Jn n l l'):Jn n (l.map (SB.flip n)) (l'.map (SB.flip n)):=by
 obtain⟨D,a,b⟩:=h.meet;have f1:=(a.flip (qeW h.o1)).1;have f2:=(b.flip (by rw[h.len];exact qeW h.o2)).1;refine⟨by simp[h.len],fun s hs=>?_,fun s hs=>?_,qdw n D,?_,?_⟩
 ·obtain⟨u,hu,rfl⟩:=List.mem_map.1 hs;exact(h.o1 u hu).flip
 ·obtain⟨u,hu,rfl⟩:=List.mem_map.1 hs;exact(h.o2 u hu).flip
 ·rw[qgS,List.length_map];exact f1
 rw[qgS,List.length_map];exact f2
theorem Jn.nf {n:Nat} {l l':List SB} (h:Jn n l l') {A:Nat->SB} (a:Pst n l.length (qad l) A) (nA:Nf n l.length A):Pst n l'.length (qad l') A:=by
 obtain⟨D,d1,d2⟩:=h.meet;obtain⟨E,e1,e2⟩:=qk0 _ D (Nat.le_refl _);obtain rfl:=qe2 _ (Nat.le_refl _) a (d1.trans e1) nA e2;rw[<-h.len];exact d2.trans e1
def SB.Fix (n:Nat) (s:SB):Prop:= ∀k,n<=k->s.f k=k
theorem SB.Fix.fr {n i:Nat} {s:SB} (h:s.Fix n) (hi:i+1<n):(s.fr i).Fix n:=fun k hk=>by
 show s.f (tr5 i k)=k;rw[vN (by omega) (by omega)];exact h k hk
theorem SB.Fix.bk {n i:Nat} {s:SB} (h:s.Fix n) (hi:i+1<n):(s.bk i).Fix n:=fun k hk=>by
 show tr5 i (s.f k)=k;rw[h k hk,vN (by omega) (by omega)]
theorem qmA {n k:Nat} (h:n<=k):rv5 n k=k:=if_neg (by omega)
theorem SB.Fix.flip {n:Nat} {s:SB} (h:s.Fix n):(s.flip n).Fix n:=fun k hk=>by
 show rv5 n (s.f (rv5 n k))=k;rw[qmA hk,h k hk,qmA hk]
theorem U7 (n:Nat):SB.id.Fix n:=fun _ _=>rfl
theorem U4 (n:Nat):(Ue n).Fix n:=fun k hk=>qmA hk
theorem qth {n:Nat} {s t:SB} (hs:s.Fix n) (ht:t.Fix n) (h:s.row n=t.row n):s=t:=SB.ext fun k=>by
 by_cases hk:k<n
 ·have a:=Ui s hk;rw[h,Ui t hk]at a;exact(Ye a).symm
 rw[hs k (by omega),ht k (by omega)]
theorem Pst.fix {n m:Nat} {L A:Nat->SB} (h:Pst n m L A) (hL: ∀q,(L q).Fix n): ∀q,(A q).Fix n:=by
 induction h with
 |refl=>exact hL
 |head h _ ih=>
  cases h with
  |@mk k i h=>
   refine ih fun q=>?_
   by_cases h1:q=k
   ·subst h1;rw[yf];exact(hL q).bk h.i_
   by_cases h2:q=k+1
   ·subst h2;rw[jE];exact(hL _).fr h.i_
   rw[ji _ h1 h2];exact hL q
theorem qlV {n:Nat} {l:List SB} (h: ∀s∈l,s.Fix n): ∀q,(qad l q).Fix n:=fun q=>by
 unfold qad;rw[Yy]
 cases e:l[q]? with
 |none=>exact U7 n
 |some s=>exact h s (Yn e)
theorem qgZ {l:List SB} {q:Nat} (h:l.length<=q):qad l q=SB.id:=by
 unfold qad;rw[Yy,Yg h];rfl
theorem qgs (n:Nat) (L:Nat->SB): ∀k,(xk n L k).length=k
 |0=>rfl
 |k+1=>by rw[xk,Yr,qgs n L k]
theorem qjd {n:Nat} {A B:Nat->SB}: ∀{k:Nat},xk n A k=xk n B k-> ∀q,q<k->(A q).row n=(B q).row n
 |0,h,q,hq=>by omega
 |k+1,h,q,hq=>by
  rw[xk,xk]at h;injection h with h1 h2;by_cases e:q=k
  ·subst e;exact h1
  exact qjd h2 q (by omega)
theorem qoJ {n:Nat} {l l':List SB} {R:List (List Nat)} (h:QOK n l R) (h':QOK n l' R) (f: ∀s∈l,s.Fix n) (f': ∀s∈l',s.Fix n):Jn n l l':=by
 obtain⟨A,a1,a2,a3⟩:=h.ex;obtain⟨B,b1,b2,b3⟩:=h'.ex
 have hl:l.length=l'.length:=by
  have:=congrArg List.length a3;rw[b3,qgs,qgs]at this;exact this.symm
 have e:A=B:=by
  funext q;by_cases hq:q<l.length
  ·refine qth (a1.fix (qlV f) q) (b1.fix (qlV f') q) ?_;rw[<-hl]at b3;exact qjd (a3.symm.trans b3) q hq
  rw[a1.beyond q (by omega),b1.beyond q (by omega),qgZ (by omega),qgZ (by omega)]
 subst e;exact⟨hl,h.ok,h'.ok,A,a1,hl▸b1⟩
def fac (n:Nat) (w:List Int):List SB:=w.foldl (qbt n) []
def flW (n:Nat) (w:List Int) (p:List SB):List SB:=w.foldl (fun p c=>if 0<c then p else p.map (SB.flip n)) p
theorem qqk (n:Nat) (p l:List SB) (c:Int):qbt n (p++l) c=(if 0<c then p else p.map (SB.flip n))++qbt n l c:=by
 unfold qbt;split
 ·rw[Yz]
 rw[List.map_append,Yz]
theorem qjt (n:Nat): ∀(w:List Int) (p l:List SB),w.foldl (qbt n) (p++l)=flW n w p++w.foldl (qbt n) l
 |[],p,l=>rfl
 |c::w,p,l=>by
  rw[List.foldl_cons,qqk,qjt n w,List.foldl_cons];rfl
theorem qkD (n:Nat) (u v:List Int):fac n (u++v)=flW n v (fac n u)++fac n v:=by
 unfold fac;rw[List.foldl_append];have:=qjt n v (u.foldl (qbt n) []) [];rw[YQ]at this;exact this
def qaf (n:Nat) (w:List Int):Prop:= ∀c∈w,c≠0/\ -(n:Int)<c/\c<n
theorem qaf.app {n:Nat} {u v:List Int} (h:qaf n u) (k:qaf n v):qaf n (u++v):=fun c hc=>(List.mem_append.1 hc).elim (h c) (k c)
theorem qaf.left {n:Nat} {u v:List Int} (h:qaf n (u++v)):qaf n u:=fun c hc=>h c (List.mem_append_left _ hc)
theorem qaf.right {n:Nat} {u v:List Int} (h:qaf n (u++v)):qaf n v:=fun c hc=>h c (List.mem_append_right _ hc)
def Gd (n:Nat) (s:SB):Prop:= ∃i,i+1<n/\(s=SB.id.fr i\/s=(Ue n).bk i)
theorem qog (n:Nat):SB.id.flip n=SB.id:=SB.ext fun k=>qbq n k
theorem qjS (n:Nat):(Ue n).flip n=Ue n:=SB.ext fun k=>by
 show rv5 n (rv5 n (rv5 n k))=rv5 n k;rw[qbq]
theorem Gd.flip {n:Nat} {s:SB} (h:Gd n s):Gd n (s.flip n):=by
 obtain⟨i,hi,h|h⟩:=h<;>subst h
 ·exact⟨n-2-i,by omega,.inl (by rw[qnN hi,qog])⟩
 exact⟨n-2-i,by omega,.inr (by rw[qn6 hi,qjS])⟩
theorem Gd.ok {n:Nat} {s:SB} (h:Gd n s):s.Ok n:=by
 obtain⟨i,hi,h|h⟩:=h<;>subst h
 ·exact(Us n).fr hi
 exact(Up n).bk hi
theorem Gd.fix {n:Nat} {s:SB} (h:Gd n s):s.Fix n:=by
 obtain⟨i,hi,h|h⟩:=h<;>subst h
 ·exact(U7 n).fr hi
 exact(U4 n).bk hi
theorem qsS {n:Nat} {l:List SB} (h: ∀s∈l,Gd n s) {c:Int} (hc:c≠0/\ -(n:Int)<c/\c<n): ∀s∈qbt n l c,Gd n s:=fun s hs=>by
 unfold qbt at hs;split at hs
 ·rcases List.mem_append.1 hs with hs|hs
  ·exact h s hs
  rw[List.mem_singleton.1 hs];exact⟨c.natAbs-1,by omega,.inl rfl⟩
 rcases List.mem_append.1 hs with hs|hs
 ·obtain⟨u,hu,rfl⟩:=List.mem_map.1 hs;exact(h u hu).flip
 rw[List.mem_singleton.1 hs];exact⟨c.natAbs-1,by omega,.inr rfl⟩
theorem qoA {n:Nat}: ∀{w:List Int} {l:List SB},(∀s∈l,Gd n s)->qaf n w-> ∀s∈w.foldl (qbt n) l,Gd n s
 |[],l,h,hw=>h
 |c::w,l,h,hw=>qoA (w:=w) (qsS h (hw c (List.mem_cons_self ..))) (fun d hd=>hw d (List.mem_cons_of_mem _ hd))
theorem qkd {n:Nat} {w:List Int} (hw:qaf n w): ∀s∈fac n w,Gd n s:=qoA (fun s hs=>by cases hs) hw
theorem qr8 (n:Nat) (l:List SB) (c:Int):(qbt n l c).length=l.length+1:=by unfold qbt;split<;>simp
theorem qjG (n:Nat): ∀(w:List Int) (l:List SB),(w.foldl (qbt n) l).length=l.length+w.length
 |[],l=>rfl
 |c::w,l=>by rw[List.foldl_cons,qjG n w,qr8,Yr];omega
theorem qcn (n:Nat) (w:List Int):(fac n w).length=w.length:=by unfold fac;rw[qjG];simp
def qW (n:Nat) (w:List Int):List (List Nat):=w.foldl (qjJ n) []
theorem qrs {n:Nat}: ∀(w:List Int) {l:List SB} {R:List (List Nat)},QOK n l R->qaf n w->QOK n (w.foldl (qbt n) l) (w.foldl (qjJ n) R)
 |[],l,R,h,hw=>h
 |c::w,l,R,h,hw=>qrs w (h.step (hw c (List.mem_cons_self ..))).1 (fun d hd=>hw d (List.mem_cons_of_mem _ hd))
theorem fac_q {n:Nat} {w:List Int} (hw:qaf n w):QOK n (fac n w) (qW n w):=
 qrs w ⟨fun s h=>(by cases h),⟨qad [],Pst.refl,fun q hq=>absurd hq (Nat.not_lt_zero q),rfl⟩⟩ hw
theorem qqx {n:Nat}: ∀(w:List Int) {l l':List SB},Jn n l l'->Jn n (flW n w l) (flW n w l')
 |[],l,l',h=>h
 |c::w,l,l',h=>by
  unfold flW;rw[List.foldl_cons,List.foldl_cons];refine qqx w ?_;split
  ·exact h
  exact h.flip
theorem qhq (n:Nat): ∀(w:List Int) (p q:List SB),flW n w (p++q)=flW n w p++flW n w q
 |[],p,q=>rfl
 |c::w,p,q=>by
  unfold flW;rw[List.foldl_cons,List.foldl_cons,List.foldl_cons];split
  ·exact qhq n w p q
  rw[List.map_append];exact qhq n w _ _
theorem qr1 {n:Nat}: ∀(w:List Int) {l:List SB},(∀s∈l,Gd n s)-> ∀s∈flW n w l,Gd n s
 |[],l,h=>h
 |c::w,l,h=>by
  unfold flW;rw[List.foldl_cons];refine qr1 w ?_;split
  ·exact h
  intro s hs;obtain⟨u,hu,rfl⟩:=List.mem_map.1 hs;exact(h u hu).flip
theorem qhj {n:Nat} {s:SB} (h:s.flip n=s): ∀w:List Int,flW n w [s]=[s]
 |[]=>rfl
 |c::w=>by
  unfold flW;rw[List.foldl_cons];split
  ·exact qhj h w
  rw[List.map_singleton,h];exact qhj h w
theorem qlT {n:Nat} {l:List SB} (h: ∀s∈l,Gd n s):Jn n l l:= .refl fun s hs=>(h s hs).ok
end Go.Av
end
section
namespace Go.Av
def qil (H I:List Int):List (List Int)->Prop
 |x::y::r=>(y=H->x=H)/\(x=I->y=I)/\qil H I (y::r)
 |_=>True
theorem qil.tail {H I x:List Int} {r:List (List Int)} (h:qil H I (x::r)):qil H I r:=by
 cases r with
 |nil=>trivial
 |cons y r=>exact h.2.2
theorem qil.allI {H I:List Int}: ∀{r:List (List Int)},qil H I (I::r)-> ∀y∈r,y=I
 |[],h,y,hy=>by cases hy
 |z::r,h,y,hy=>by
  have hz:z=I:=h.2.1 rfl;subst hz;rcases List.mem_cons.1 hy with rfl|hy
  ·rfl
  exact qil.allI h.tail y hy
theorem qoh {I:List Int}: ∀{r:List (List Int)},(∀y∈r,y=I)->r=List.replicate r.length I
 |[],_=>rfl
 |z::r,h=>by
  rw[Yr,List.replicate_succ,h z List.mem_cons_self,<-qoh (r:=r) fun y hy=>h y (List.mem_cons_of_mem _ hy)]
theorem qil.split {H I:List Int}: ∀{r:List (List Int)},qil H I r-> ∃(M:List (List Int)) (d:Nat),r=M++List.replicate d I/\I∉M
 |[],_=>⟨[],0,rfl,by simp⟩
 |x::r,h=>by
  by_cases c:x=I
  ·subst c;refine⟨[],(x::r).length,?_,by simp⟩;rw[List.nil_append]
   exact qoh fun y hy=>by
    rcases List.mem_cons.1 hy with rfl|hy
    ·rfl
    exact qil.allI h y hy
  obtain⟨M,d,h1,h2⟩:=qil.split h.tail
  exact⟨x::M,d,by rw[h1];rfl,fun g=>by
   rcases List.mem_cons.1 g with g|g
   ·exact c g.symm
   exact h2 g⟩
section
variable {n m:Nat} (hn:n<=12) (n2:2<=n)
include hn n2
theorem qjX:(Ue n).li n≠qbr n:=fun h=>by
 have:=SB.li_inj (t:=SB.id) h (k:=0) (by omega);have e:rv5 n 0=0:=this;unfold rv5 at e;rw[if_pos (by omega)]at e;omega
variable {N:Nat} (hN:2000<N)
include hN
theorem qhh {A:Nat->SB} (hm:m<=300) (hA:OkM n m A): ∀(K i:Nat) (h:Int) (out:List (List Int)),i<=m->m<K+i-> -1000<=h->h<=300+i->out.length<=i->
 vU N (n:Int) (yc n m A) K h out (i:Int)=some (h+((((yc n m A).drop i).countP fun x=>decide (x=(Ue n).li n):Nat):Int),out++((yc n m A).drop i).filter fun x=>!decide (x=qbr n)&&!decide (x=(Ue n).li n))
 |0,i,h,out,hi,hK,h1,h2,ho=>by omega
 |K+1,i,h,out,hi,hK,h1,h2,ho=>by
  unfold vU;rw[ja];by_cases c:i<m
  ·have hl:i<(yc n m A).length:=by rw[ja];exact c
   have hg:(yc n m A)[i]=(A i).li n:=by
    have:=xB (n:=n) (L:=A) c;rw[Ya hl]at this;exact Ye this
   obtain⟨b,b1,b2⟩:=qrA hn (by omega) (N:=N) hN (A i);rw[qvo hn (by omega) (hA i c)]at b2
   have e24: ∀o:List (List Int),o.length<=i->app 24 o [(A i).li n]=some (o++[(A i).li n]):=fun o ho=>qgM (by simp;omega) (by simp;omega)
   rw[if_pos (by omega),qC,xB c,YG hl,hg,List.countP_cons,List.filter_cons];simp only[ZB,b1];by_cases p:(A i).li n=qbr n
   ·have q:(A i).li n≠(Ue n).li n:=fun e=>qjX hn n2 (e▸p)
    rw[b2.2 p];simp only[if_true,ZB];rw[zF (by omega),qhh hm hA K (i+1) h out (by omega) (by omega) (by omega) (by omega) (by omega),decide_eq_true p,decide_eq_false q];simp
   have bf:b=false:=by
    cases b with
    |false=>rfl
    |true=>exact absurd (b2.1 rfl) p
   subst bf;simp only[ZF,if_false];rw[qnQ hN (by omega)];simp only[ZB];have hln:=Uf n (A i);rw[qtv (by omega) (by omega)];simp only[ZB];by_cases q:(A i).li n=(Ue n).li n
   ·rw[decide_eq_true q,decide_eq_false p];simp only[if_true,ZB];rw[zF (by omega),qF (n:=h+1) (by omega) (by omega),qhh hm hA K (i+1) (h+1) out (by omega) (by omega) (by omega) (by omega) (by omega)];simp;omega
   rw[decide_eq_false q,decide_eq_false p,e24 out ho];simp only[ZF,if_false,ZB];rw[zF (by omega),qhh hm hA K (i+1) h _ (by omega) (by omega) (by omega) (by omega) (by simp;omega)];simp
  rw[if_neg (by omega),List.drop_eq_nil_of_le (by rw[ja];omega)];simp
end
end Go.Av
end
section
namespace Go.Av
def lets (n:Nat):List Int:=(List.range (n-1)).flatMap fun i=>[((i+1:Nat):Int),-((i+1:Nat):Int)]
theorem qpU {n:Nat} {c:Int} (h:c≠0/\ -(n:Int)<c/\c<n):c∈lets n:=by
 refine List.mem_flatMap.2 ⟨c.natAbs-1,List.mem_range.2 (by omega),?_⟩;by_cases p:0<c
 ·exact List.mem_cons.2 (.inl (by omega))
 exact List.mem_cons_of_mem _ (List.mem_singleton.2 (by omega))
def qpd (x y:Int):Bool:=Nat.ble (x.natAbs+2) y.natAbs||Nat.ble (y.natAbs+2) x.natAbs
def sg5 (c:Int):Int:=if c<0 then-1 else 1
def qfD (x y z:Int):Option (List Int):=
 if x.natAbs=z.natAbs/\(x.natAbs=y.natAbs+1\/y.natAbs=x.natAbs+1)then
  if sg5 x=sg5 y then some [sg5 z*(y.natAbs:Int),x,y]else if sg5 y=sg5 z then some [y,z,sg5 x*(y.natAbs:Int)]else none
 else none
def ngs (w:List Int):Nat:=w.countP fun c=>!decide (0<c)
def qhX:List (List Nat)->List (List Nat)->Bool
 |[],[]=>true
 |x::a,y::b=>rowB x y&&qhX a b
 |_,_=>false
where rowB:List Nat->List Nat->Bool
 |[],[]=>true
 |x::a,y::b=>Nat.beq x y&&rowB a b
 |_,_=>false
theorem qn2: ∀{a b:List Nat},qhX.rowB a b=true->a=b
 |[],[],h=>rfl
 |x::a,y::b,h=>by
  unfold qhX.rowB at h;simp only[Bool.and_eq_true]at h;rw[Nat.eq_of_beq_eq_true h.1,qn2 h.2]
 |[],y::b,h=>by cases h
 |x::a,[],h=>by cases h
theorem qh5: ∀{a b:List (List Nat)},qhX a b=true->a=b
 |[],[],h=>rfl
 |x::a,y::b,h=>by
  unfold qhX at h;simp only[Bool.and_eq_true]at h;rw[qn2 h.1,qh5 h.2]
 |[],y::b,h=>by cases h
 |x::a,[],h=>by cases h
def okIns (n:Nat):Bool:=(lets n).all fun x=>qhX (qW n [x,-x]) [List.range n,qbW n]
def qmc (n:Nat) (s t s' t':List Nat):Bool:=qhX [(qdF n (n*n) s t).1,(qdF n (n*n) s t).2] [s',t']
def okGd (n:Nat):Bool:=(List.range (n-1)).all fun i=>
 (qmc n (qfr i (List.range n)) (qbW n) (qbW n) (qfk n (qfr i (List.range n)))&&qmc n (qbk i (qbW n)) (qbW n) (qbW n) (qfk n (qbk i (qbW n))))&&
 (qmc n (List.range n) (qfr i (List.range n)) (qfr i (List.range n)) (List.range n)&&qmc n (List.range n) (qbk i (qbW n)) (qbk i (qbW n)) (List.range n))
theorem quy:((List.range 7).all okIns)=true:=by kernel_rfl
theorem qt1:((List.range 7).all okGd)=true:=by kernel_rfl
theorem qnn {f:Nat->Bool} (h:((List.range 7).all f)=true) {n:Nat} (hn:n<=6):f n=true:=Yp.1 h n (List.mem_range.2 (by omega))
theorem que {n:Nat} {s t:SB} (hs:s.Ok n) (ht:t.Ok n):QOK n [s,t] [(qdF n (n*n) (s.row n) (t.row n)).2,(qdF n (n*n) (s.row n) (t.row n)).1]:=by
 have ho: ∀u∈[s,t],u.Ok n:=fun u hu=>by
  rcases List.mem_cons.1 hu with rfl|hu
  ·exact hs
  rw[List.mem_singleton.1 hu];exact ht
 obtain⟨A,a1,a2,a3,a4⟩:=qhQ (n:=n) (m:=2) (k:=0) (by omega) (n*n) (qad [s,t]) (qeW ho);refine⟨ho,A,a1,a4,?_⟩;have e:qdF n (n*n) (s.row n) (t.row n)=((A 0).row n,(A 1).row n):=a2;rw[e];rfl
theorem qtJ {n:Nat} {s t:SB} (hs:s.Ok n) (ht:t.Ok n):QOK n [s,t] [t.row n,s.row n]:=by
 have ho: ∀u∈[s,t],u.Ok n:=fun u hu=>by
  rcases List.mem_cons.1 hu with rfl|hu
  ·exact hs
  rw[List.mem_singleton.1 hu];exact ht
 exact⟨ho,_,.refl,qeW ho,rfl⟩
theorem qlf {n:Nat} {s t s' t':SB} (hs:s.Ok n) (ht:t.Ok n) (hs':s'.Ok n) (ht':t'.Ok n) (f1:s.Fix n) (f2:t.Fix n) (f3:s'.Fix n) (f4:t'.Fix n) (h:qmc n (s.row n) (t.row n) (s'.row n) (t'.row n)=true):Jn n [s,t] [s',t']:=by
 have e:=qh5 h;injection e with e1 e2;injection e2 with e2 _;have q:=que hs ht;rw[e1,e2]at q;refine qoJ q (qtJ hs' ht') (fun u hu=>?_) (fun u hu=>?_)
 ·rcases List.mem_cons.1 hu with rfl|hu
  ·exact f1
  rw[List.mem_singleton.1 hu];exact f2
 rcases List.mem_cons.1 hu with rfl|hu
 ·exact f3
 rw[List.mem_singleton.1 hu];exact f4
theorem qmx (n:Nat) (s:SB):(s.flip n).flip n=s:=SB.ext fun k=>by
 show rv5 n (rv5 n (s.f (rv5 n (rv5 n k))))=s.f k;rw[qbq,qbq]
theorem qgE {n:Nat} {s:SB} (h:s.Ok n): ∀t∈[s],t.Ok n:=fun t ht=>by rw[List.mem_singleton.1 ht];exact h
section
variable {n:Nat} (hn:n<=6)
include hn
theorem qs6 {s:SB} (h:Gd n s):Jn n [s,Ue n] [Ue n,s.flip n]:=by
 refine qlf h.ok (Up n) (Up n) h.ok.flip h.fix (U4 n) (U4 n) h.fix.flip ?_;rw[qk4 h.ok,qds];obtain⟨i,hi,h⟩:=h;have c:=Yp.1 (qnn qt1 hn) i (List.mem_range.2 (by omega));simp only[Bool.and_eq_true]at c;rcases h with rfl|rfl
 ·rw[qjU hi,qh2];exact c.1.1
 rw[qko,qds];exact c.1.2
theorem gd_id {s:SB} (h:Gd n s):Jn n [SB.id,s] [s,SB.id]:=by
 refine qlf (Us n) h.ok h.ok (Us n) (U7 n) h.fix h.fix (U7 n) ?_;rw[qh2];obtain⟨i,hi,h⟩:=h;have c:=Yp.1 (qnn qt1 hn) i (List.mem_range.2 (by omega));simp only[Bool.and_eq_true]at c;rcases h with rfl|rfl
 ·rw[qjU hi,qh2];exact c.2.1
 rw[qko,qds];exact c.2.2
theorem qod: ∀{l:List SB},(∀s∈l,Gd n s)->Jn n (l.map (SB.flip n)++[Ue n]) (Ue n::l)
 |[],h=> .refl (qgE (Up n))
 |s::l,h=>by
  have hs:=h s (List.mem_cons_self ..)
  have hl:=fun t ht=>h t (List.mem_cons_of_mem s ht)
  have a:Jn n ([s.flip n]++(l.map (SB.flip n)++[Ue n])) ([s.flip n]++(Ue n::l)):=(Jn.refl (qgE hs.flip.ok)).app (qod hl)
  have b:Jn n ([s.flip n,Ue n]++l) ([Ue n,s]++l):=by
   have:=qs6 hn hs.flip;rw[qmx]at this;exact this.app (qlT hl)
  exact a.trans b
theorem qt6: ∀{l:List SB},(∀s∈l,Gd n s)->Jn n (SB.id::l) (l++[SB.id])
 |[],h=> .refl (qgE (Us n))
 |s::l,h=>by
  have hs:=h s (List.mem_cons_self ..)
  have hl:=fun t ht=>h t (List.mem_cons_of_mem s ht)
  have b:Jn n ([SB.id,s]++l) ([s,SB.id]++l):=(gd_id hn hs).app (qlT hl);have a:Jn n ([s]++(SB.id::l)) ([s]++(l++[SB.id])):=(Jn.refl (qgE hs.ok)).app (qt6 hl);exact b.trans a
theorem quS {x:Int} (hx:x≠0/\ -(n:Int)<x/\x<n):Jn n (fac n [x,-x]) [Ue n,SB.id]:=by
 have c:=Yp.1 (qnn quy hn) x (qpU hx)
 have l1:qaf n [x,-x]:=fun c hc=>by
  rcases List.mem_cons.1 hc with rfl|hc
  ·exact hx
  rw[List.mem_singleton.1 hc];omega
 have q:=fac_q l1;rw[qh5 c]at q;have q2:=qtJ (Up n) (Us n);rw[qh2,qds]at q2;refine qoJ q q2 (fun s hs=>(qkd l1 s hs).fix) (fun s hs=>?_);rcases List.mem_cons.1 hs with rfl|hs
 ·exact U4 n
 rw[List.mem_singleton.1 hs];exact U7 n
theorem qs9 {u v:List Int} {x:Int} (hu:qaf n u) (hv:qaf n v) (hx:x≠0/\ -(n:Int)<x/\x<n):Jn n (fac n (u++[x,-x]++v)) (Ue n::(fac n (u++v)++[SB.id])):=by
 have e1:flW n [x,-x] (fac n u)=(fac n u).map (SB.flip n):=by
  unfold flW;rw[List.foldl_cons,List.foldl_cons,List.foldl_nil];by_cases p:0<x
  ·rw[if_pos p,if_neg (by omega)]
  rw[if_neg p,if_pos (by omega)]
 have g1:=qkd hu
 have a:Jn n (fac n (u++[x,-x])) ((Ue n::fac n u)++[SB.id]):=by
  rw[qkD,e1];have a1:Jn n ((fac n u).map (SB.flip n)++fac n [x,-x]) ((fac n u).map (SB.flip n)++[Ue n,SB.id]):=(qlT g1).flip.app (quS hn hx);have a2:Jn n (((fac n u).map (SB.flip n)++[Ue n])++[SB.id]) ((Ue n::fac n u)++[SB.id]):=(qod hn g1).app (.refl (qgE (Us n)));rw[Yz]at a2;exact a1.trans a2
 rw[qkD,qkD n u v];have b:=(qqx v a).app (qlT (qkd hv));rw[qhq,show Ue n::fac n u=[Ue n]++fac n u from rfl,qhq,qhj (qjS n),qhj (qog n)]at b;refine b.trans ?_;have c:Jn n (SB.id::fac n v) (fac n v++[SB.id]):=qt6 hn (qkd hv);have d:=((Jn.refl (qgE (Up n))).app (qlT (qr1 v g1))).app c;simpa using d
end
end Go.Av
end
section
namespace Go.Av
section
variable {k:Nat} (hk:k<=12) (k1:1<=k)
include hk k1
end
structure FmOK (k:Nat) (f:qcl):Prop where
 k1:1<=k
 k2:k<=12
 half: -200<=f.Half/\f.Half<=200
 one:k=1->f.Half=0
 few:f.Factors.length<=200
 at_: ∀j,j<f.Factors.length-> ∃s:SB,s.Ok k/\f.Factors[j]? =some (s.li k)
end Go.Av
end
section
namespace Go.Av
def qp7 (n m:Nat) (A:Nat->SB) (h:Int):qcl:=⟨h+(((yc n m A).countP fun x=>decide (x=(Ue n).li n):Nat):Int),(yc n m A).filter fun x=>!decide (x=qbr n)&&!decide (x=(Ue n).li n)⟩
def qdR (n:Nat) (w:List Int) (f:qcl):Prop:= ∃A,Pst n w.length (qad (fac n w)) A/\Nf n w.length A/\f=qp7 n w.length A (-((ngs w:Nat):Int))
theorem qdR.uniq {n:Nat} {w:List Int} {f g:qcl} (h:qdR n w f) (k:qdR n w g):f=g:=by
 obtain⟨A,a1,a2,a3⟩:=h;obtain⟨B,b1,b2,b3⟩:=k;obtain rfl:=qe2 _ (Nat.le_refl _) a1 b1 a2 b2;rw[a3,b3]
theorem qdR.jn {n:Nat} {w v:List Int} {f:qcl} (h:qdR n w f) (j:Jn n (fac n w) (fac n v)) (hg:ngs w=ngs v):qdR n v f:=by
 obtain⟨A,a1,a2,a3⟩:=h
 have hl:w.length=v.length:=by have:=j.len;rw[qcn,qcn]at this;exact this
 have a:=j.nf (A:=A) (by rw[qcn];exact a1) (by rw[qcn];exact a2);rw[qcn]at a;exact⟨A,a,hl▸a2,by rw[a3,hl,hg]⟩
theorem qo2 {n i:Nat} (hi:i+1<n):(Ue n).Ends i:=by
 show rv5 n (i+1)<rv5 n i;rw[qaK hi,qaK (by omega)];omega
theorem qsE (i:Nat): ¬SB.id.Begs i:=fun h=>by
 have h:i+1<i:=h;omega
theorem qtw {n:Nat} {l:List SB} {A:Nat->SB} (a:Pst n l.length (qad l) A) (nA:Nf n l.length A): ∃B,Pst n (l.length+2) (qad (Ue n::(l++[SB.id]))) B/\Nf n (l.length+2) B/\yc n (l.length+2) B=(Ue n).li n::(yc n l.length A++[SB.id.li n]):=by
 have e:qad (Ue n::(l++[SB.id]))=jnL 1 (qad [Ue n]) (jnL l.length (qad l) (qad [SB.id])):=by
  rw[show Ue n::(l++[SB.id])=[Ue n]++(l++[SB.id])from rfl,qfM,qfM];rfl
 refine⟨jnL 1 (qad [Ue n]) (jnL l.length A (qad [SB.id])),?_,fun k i c=>?_,?_⟩
 ·rw[e,show l.length+2=1+(l.length+1)by omega];exact(a.suf (m:=1)).pre
 ·obtain⟨k1,k2,k3,k4⟩:=c
  cases k with
  |zero=>exact k4 (qo2 k2)
  |succ j=>
   rw[show j+1=1+j by omega,qcg]at k4;rw[show j+1+1=1+(j+1)by omega,qcg]at k3;by_cases h:j+1<l.length
   ·rw[qbM h]at k3;rw[qbM (by omega)]at k4;exact nA j i ⟨h,k2,k3,k4⟩
   have h2:j+1=l.length+0:=by omega
   rw[h2,qcg]at k3;exact qsE i k3
 apply List.ext_getElem?;intro q
 cases q with
 |zero=>rw[xB (by omega)];rfl
 |succ q=>
  rw[YK];by_cases h:q<l.length
  ·rw[xB (by omega),Yf (by rw[ja];exact h),xB h,show q+1=1+q by omega,qcg,qbM h]
  by_cases h2:q=l.length
  ·subst h2;rw[xB (by omega),Yo (by rw[ja];omega),ja,show l.length+1=1+(l.length+0)by omega,qcg,qcg];simp;rfl
  rw[Yg (by rw[ja];omega),Yg (by simp[ja];omega)]
theorem qhd (u v:List Int):ngs (u++v)=ngs u+ngs v:=List.countP_append ..
theorem qrr {x:Int} (hx:x≠0):ngs [x,-x]=1:=by
 unfold ngs;rw[List.countP_cons,List.countP_cons,List.countP_nil];by_cases h:0<x
 ·simp[h];omega
 simp[h];omega
section
variable {n:Nat} (hn:n<=6)
include hn
theorem qdR.ins (n2:2<=n) {u v:List Int} {x:Int} (hu:qaf n u) (hv:qaf n v) (hx:x≠0/\ -(n:Int)<x/\x<n) {f:qcl} (h:qdR n (u++v) f):qdR n (u++[x,-x]++v) f:=by
 obtain⟨A,a1,a2,a3⟩:=h;have j:=qs9 hn hu hv hx;rw[<-qcn n]at a1 a2;obtain⟨B,b1,b2,b3⟩:=qtw a1 a2
 have hl:(u++[x,-x]++v).length=(fac n (u++v)).length+2:=by rw[qcn];simp;omega
 have hl2:(Ue n::(fac n (u++v)++[SB.id])).length=(fac n (u++v)).length+2:=by simp
 have c:=j.symm.nf (A:=B) (by rw[hl2];exact b1) (by rw[hl2];exact b2);rw[qcn,hl]at c;refine⟨B,by rw[hl];exact c,by rw[hl];exact b2,?_⟩;rw[a3,hl];unfold qp7;rw[b3,qcn];have ne:(Ue n).li n≠qbr n:=qjX (n:=n) (by omega) n2
 have hg:ngs (u++[x,-x]++v)=ngs (u++v)+1:=by
  rw[qhd,qhd,qhd,qrr hx.1];omega
 rw[hg,SB.id_li];simp[List.countP_cons,List.filter_cons,List.filter_append,ne,Ne.symm ne];omega
end
inductive Mv (n:Nat):List Int->List Int->Prop
 |ins {u v:List Int} {x:Int} (hx:x≠0/\ -(n:Int)<x/\x<n):Mv n (u++v) (u++[x,-x]++v)
 |can {u v:List Int} {x:Int}:Mv n (u++[x,-x]++v) (u++v)
 |swp {u v:List Int} {x y:Int} (h:qpd x y=true):Mv n (u++[x,y]++v) (u++[y,x]++v)
 |trn {u v l:List Int} {x y z:Int} (h:qfD x y z=some l):Mv n (u++[x,y,z]++v) (u++l++v)
theorem qsn {n:Nat} {x y z:Int} {l:List Int} (hx:x≠0/\ -(n:Int)<x/\x<n) (hy:y≠0/\ -(n:Int)<y/\y<n) (hz:z≠0/\ -(n:Int)<z/\z<n) (h:qfD x y z=some l):qaf n l:=by
 have sg: ∀c d:Int,d≠0/\ -(n:Int)<d/\d<n->sg5 c*(d.natAbs:Int)≠0/\ -(n:Int)<sg5 c*(d.natAbs:Int)/\sg5 c*(d.natAbs:Int)<n:=fun c d hd=>by
  unfold sg5;split<;>omega
 unfold qfD at h;split at h
 ·split at h
  ·have h:=Ye h;subst h;intro c hc;rcases List.mem_cons.1 hc with rfl|hc
   ·exact sg z y hy
   rcases List.mem_cons.1 hc with rfl|hc
   ·exact hx
   rw[List.mem_singleton.1 hc];exact hy
  split at h
  ·have h:=Ye h;subst h;intro c hc;rcases List.mem_cons.1 hc with rfl|hc
   ·exact hy
   rcases List.mem_cons.1 hc with rfl|hc
   ·exact hz
   rw[List.mem_singleton.1 hc];exact sg x y hy
  cases h
 cases h
theorem Mv.let_ {n:Nat} {w v:List Int} (h:Mv n w v) (hw:qaf n w):qaf n v:=by
 cases h with
 |ins hx=>exact(hw.left.app (fun c hc=>by
  rcases List.mem_cons.1 hc with rfl|hc
  ·exact hx
  rw[List.mem_singleton.1 hc];omega)).app hw.right
 |can=>exact hw.left.left.app hw.right
 |swp h=>exact(hw.left.left.app fun c hc=>hw c (by simp at hc⊢;rcases hc with rfl|rfl<;>simp)).app hw.right
 |trn h=>exact(hw.left.left.app (qsn (hw _ (by simp)) (hw _ (by simp)) (hw _ (by simp)) h)).app hw.right
end Go.Av
end
section
namespace Go.Av
section
variable {n:Nat} (hn:n<=12) {N:Nat} (hN:2000<N)
include hn hN
end
def pmF (s:SB) (w:List Int):SB:=w.foldl (fun s c=>s.bk (c.natAbs-1)) s
theorem xc (s:SB) (u v:List Int):pmF s (u++v)=pmF (pmF s u) v:=List.foldl_append ..
section
variable {n:Nat} (hn:n<=12) {N:Nat} (hN:2000<N)
include hn hN
theorem qox {w:List Int} (W:jT n w): ∀(K i:Nat) (s:SB),s.Ok n->i<=w.length->w.length<K+i->zB w K (s.li n) (s.rev.li n) (i:Int)=some ((pmF s (w.drop i)).li n)
 |0,i,s,hs,h,hK=>by omega
 |K+1,i,s,hs,hiw,hK=>by
  have wl:=W.len;unfold zB qbO;by_cases hi:i<w.length
  ·have hx:w[i]? =some w[i]:=Ya hi;have hc:=W.let_ _ (List.getElem_mem hi);rw[YG hi];unfold pmF;rw[List.foldl_cons];generalize w[i]=c at*;obtain⟨m,hm⟩: ∃m:Nat,c.natAbs=m+1:=⟨c.natAbs-1,by omega⟩
   have hm2:m+1<n:=by omega
   have q1:w64 (((m+1:Nat):Int)-1)=(m:Int):=by rw[qF (by omega) (by omega)];omega
   have q2:w64 ((m:Int)+1)=((m+1:Nat):Int):=zF (by omega);have g0:=hs.g_ m (by omega);have g1:=hs.g_ (m+1) hm2;have r0:idx (s.rev.li n) (m:Int)=some ((s.g m:Nat):Int):=Uk (by omega);have r1:idx (s.rev.li n) ((m+1:Nat):Int)=some ((s.g (m+1):Nat):Int):=Uk hm2
   have ne:s.g m≠s.g (m+1):=fun e=>by have:=s.ginj e;omega
   have p0:idx (s.li n) ((s.g m:Nat):Int)=some (m:Int):=by rw[Uk g0,s.fg]
   have lset:((s.li n).set (s.g m) ((m+1:Nat):Int)).length=n:=by simp[Uf]
   have p1:idx ((s.li n).set (s.g m) ((m+1:Nat):Int)) ((s.g (m+1):Nat):Int)=some ((m+1:Nat):Int):=by
    rw[qC,Yw ne,Un s g1,s.fg]
   have q3:w64 (((m+1:Nat):Int)-1)=(m:Int):=q1;rw[if_pos (by omega),qC,hx];simp only[ZB,vZ (show-1000<c/\c<1000 by omega),hm,q1,q2,r0,r1,p0];rw[vM (by rw[Uf];exact g0)];simp only[ZB,p1,q3];rw[vM (by rw[lset];exact g1)];simp only[ZB];rw[vM (by rw[Uf];omega)];simp only[ZB]
   have e17:idx ((s.rev.li n).set m ((s.g (m+1):Nat):Int)) ((m+1:Nat):Int)=some ((s.g (m+1):Nat):Int):=by
    rw[qC,Yw (by omega),Un s.rev hm2];rfl
   rw[e17];simp only[ZB];rw[vM (by simp[Uf];omega)];simp only[ZB]
   have e1:((s.li n).set (s.g m) ((m+1:Nat):Int)).set (s.g (m+1)) (m:Int)=(s.bk m).li n:=Uw (by simp[Uf]) fun k hk=>by
    show _=some ((tr5 m (s.f k):Nat):Int);by_cases a:k=s.g (m+1)
    ·subst a;rw[List.getElem?_set_self (by rw[lset];exact g1),s.fg,qb3]
    rw[Yw (fun e=>a e.symm)];by_cases b:k=s.g m
    ·subst b;rw[List.getElem?_set_self (by rw[Uf];exact g0),s.fg,qbV]
    rw[Yw (fun e=>b e.symm),Un s hk,vN (fun e=>b (by rw[<-e,s.gf])) (fun e=>a (by rw[<-e,s.gf]))]
   have e2:((s.rev.li n).set m ((s.g (m+1):Nat):Int)).set (m+1) ((s.g m:Nat):Int)=(s.bk m).rev.li n:=Uw (by simp[Uf]) fun k hk=>by
    show _=some ((s.g (tr5 m k):Nat):Int);by_cases a:k=m+1
    ·subst a;rw[List.getElem?_set_self (by simp[Uf];omega),qb3]
    rw[Yw (fun e=>a e.symm)];by_cases b:k=m
    ·subst b;rw[List.getElem?_set_self (by rw[Uf];omega),qbV]
    rw[Yw (fun e=>b e.symm),Un s.rev hk,vN b a];rfl
   rw[e1,e2,zF (by omega)];rw[show(m+1-1:Nat)=m by omega];exact qox W K (i+1) _ (hs.bk hm2) (by omega) (by omega)
  rw[if_neg (by omega),List.drop_eq_nil_of_le (by omega)];rfl
theorem qhp {w:List Int} (W:jT n w):qbB N (n:Int) w=some ((pmF SB.id w).li n):=by
 unfold qbB yQ;have wl:=W.len;have:=qox hn hN W N 0 SB.id (Us n) (Nat.zero_le _) (by omega);rw[YR,show SB.id.rev=SB.id from rfl,SB.id_li,show((0:Nat):Int)=0 from rfl]at this;rw[qfL hN (by omega),ZB,ZB,this];rfl
end
theorem bk_bk (s:SB) (i:Nat):(s.bk i).bk i=s:=SB.ext fun k=>qf6 i (s.f k)
theorem quT {i j:Nat} (h:i+1<j\/j+1<i) (s:SB):(s.bk i).bk j=(s.bk j).bk i:=SB.ext fun k=>(qiI h (s.f k)).symm
theorem qnF (s:SB) (i:Nat):((s.bk i).bk (i+1)).bk i=((s.bk (i+1)).bk i).bk (i+1):=SB.ext fun k=>qgu i (s.f k)
theorem qho (s:SB) (x:Int):pmF s [x,-x]=s:=by
 show(s.bk (x.natAbs-1)).bk ((-x).natAbs-1)=s;rw[Int.natAbs_neg,bk_bk]
theorem qpL (c:Int) (k:Nat):(sg5 c*(k:Int)).natAbs=k:=by unfold sg5;split<;>omega
theorem qpM {s:SB} {x y z:Int} {l:List Int} (hx:x≠0) (hy:y≠0) (h:qfD x y z=some l):pmF s [x,y,z]=pmF s l:=by
 have key:x.natAbs=z.natAbs->(x.natAbs=y.natAbs+1\/y.natAbs=x.natAbs+1)->((s.bk (x.natAbs-1)).bk (y.natAbs-1)).bk (z.natAbs-1)=((s.bk (y.natAbs-1)).bk (x.natAbs-1)).bk (y.natAbs-1):=fun a b=>by
  rw[<-a];rcases b with b|b
  ·rw[show x.natAbs-1=(y.natAbs-1)+1 by omega,qnF]
  rw[show y.natAbs-1=(x.natAbs-1)+1 by omega,qnF]
 unfold qfD at h;split at h
 ·rename_i a;split at h
  ·obtain rfl:=Ye h;show _=((s.bk ((sg5 z*(y.natAbs:Int)).natAbs-1)).bk (x.natAbs-1)).bk (y.natAbs-1);rw[qpL];exact key a.1 a.2
  split at h
  ·obtain rfl:=Ye h;show _=((s.bk (y.natAbs-1)).bk (z.natAbs-1)).bk ((sg5 x*(y.natAbs:Int)).natAbs-1);have:=key a.1 a.2;rw[qpL];rw[<-a.1]at this⊢;show((s.bk (x.natAbs-1)).bk (y.natAbs-1)).bk (z.natAbs-1)=_;rw[<-a.1];exact this
  cases h
 cases h
theorem Mv.pm {n:Nat} {w v:List Int} (h:Mv n w v) (hw:qaf n w) (s:SB):pmF s w=pmF s v:=by
 cases h with
 |@ins u v x hx=>rw[xc,xc,xc,qho]
 |@can u v x=>rw[xc,xc,xc,qho]
 |@swp u v x y h=>
  have hx:=hw x (by simp);have hy:=hw y (by simp);rw[xc,xc,xc,xc];congr 1;show((pmF s u).bk _).bk _=((pmF s u).bk _).bk _;refine quT ?_ _;unfold qpd at h;simp only[Bool.or_eq_true,Nat.ble_eq]at h;omega
 |@trn u v l x y z h=>
  rw[xc,xc,xc,xc,qpM (hw x (by simp)).1 (hw y (by simp)).1 h]
end Go.Av
end
section
namespace Go.Av
def NoX (u v:SB):Prop:= ∀a b,a<b->u.g b<u.g a->v.f a<v.f b
theorem qsq {j a b:Nat} (h:a<b):tr5 j a<tr5 j b\/(a=j/\b=j+1):=by
 rcases yg j a with⟨e,f⟩|⟨e,f⟩|⟨e,e',f⟩<;>rcases yg j b with⟨g,k⟩|⟨g,k⟩|⟨g,g',k⟩<;>rw[f,k]<;>omega
theorem NoX.psh {u v:SB} {j:Nat} (h:NoX u v) (hb:v.Begs j):NoX (u.bk j) (v.fr j):=fun a b hab hc=>by
 have hc:u.g (tr5 j b)<u.g (tr5 j a):=hc;show v.f (tr5 j a)<v.f (tr5 j b);rcases qsq (j:=j) hab with e|⟨rfl,rfl⟩
 ·exact h _ _ e hc
 rw[qbV,qb3];exact hb
def PosW (w:List Int):Prop:= ∀c∈w,0<c
theorem WdB.pos {n:Nat} {s:SB} {W:List Int} (h:WdB n s W):PosW W/\qaf n W:=by
 induction h with
 |nil h=>exact⟨fun c hc=>(by cases hc),fun c hc=>(by cases hc)⟩
 |@cons s i W hi hb hm h ih=>
  refine⟨fun c hc=>?_,fun c hc=>?_⟩
  ·rcases List.mem_cons.1 hc with rfl|hc
   ·omega
   exact ih.1 c hc
  rcases List.mem_cons.1 hc with rfl|hc
  ·omega
  exact ih.2 c hc
section
variable {n:Nat} (hn:n<=6)
include hn
end
end Go.Av
end
section
namespace Go.Av
theorem qtZ {N:Nat} (hN:1000<N) {a:List (List Int)} (ha: ∀x∈a,x.length<=300) (hl:a.length<=300): ∀(K i:Nat),i<=a.length->a.length<K+i->qM N a a K (i:Int)=some (.inl ())
 |0,i,h,hK=>by omega
 |K+1,i,h,hK=>by
  unfold qM;by_cases hi:i<a.length
  ·have hx:=ha _ (List.getElem_mem hi);rw[if_pos (by omega),qC,Ya hi,ZB,ZB,qdp (by omega) (by omega),ZB,decide_eq_true rfl,if_neg (by decide),zF (by omega),qtZ hN ha hl K (i+1) (by omega) (by omega)]
  rw[if_neg (by omega)]
theorem quJ {N:Nat} (hN:1000<N) {a:List (List Int)} (ha: ∀x∈a,x.length<=300) (hl:a.length<=300):zg N a a=some true:=by
 unfold zg;have:=qtZ hN ha hl N 0 (by omega) (by omega);rw[show((0:Nat):Int)=0 from rfl]at this;rw[decide_eq_true rfl,if_neg (by decide),this];rfl
def exS (w:List Int):Int:=(w.length:Int)-2*(ngs w:Int)
theorem xK (u v:List Int):exS (u++v)=exS u+exS v:=by
 unfold exS;rw[qhd,Yq];omega
theorem qlR {c:Int} (h:c≠0):zW c=some (if 0<c then 1 else-1):=by
 unfold zW;by_cases p:0<c
 ·rw[if_neg (show¬c<1 by omega),if_pos (by decide),if_pos p]
 rw[if_pos (show c<1 by omega),if_neg p];by_cases q:c> -1
 ·omega
 rw[if_neg q]
theorem qnh {n:Nat} {w:List Int} (W:jT n w): ∀(K i:Nat) (x:Int),i<=w.length->w.length<K+i-> -(i:Int)<=x->x<=i->jS w K x (i:Int)=some (x+exS (w.drop i))
 |0,i,x,h,hK,h1,h2=>by omega
 |K+1,i,x,h,hK,h1,h2=>by
  have wl:=W.len;unfold jS;by_cases hi:i<w.length
  ·have hc:=W.let_ _ (List.getElem_mem hi);rw[if_pos (by omega),qC,Ya hi,YG hi];generalize w[i]=c at*;rw[ZB,qlR hc.1,ZB,zF (by omega)]
   have e:exS (c::w.drop (i+1))=(if 0<c then 1 else-1)+exS (w.drop (i+1)):=by
    unfold exS ngs;rw[List.countP_cons,Yr];by_cases p:0<c
    ·simp[p];omega
    simp[p];omega
   rw[e];by_cases p:0<c
   ·rw[if_pos p,qF (by omega) (by omega),qnh W K (i+1) _ (by omega) (by omega) (by omega) (by omega)];congr 1;omega
   rw[if_neg p,qF (by omega) (by omega),qnh W K (i+1) _ (by omega) (by omega) (by omega) (by omega)];congr 1;omega
  rw[if_neg (by omega),List.drop_eq_nil_of_le (by omega)];show some x=some (x+exS []);congr 1;unfold exS ngs;simp
theorem qkc {n:Nat} {w:List Int} (W:jT n w):qid (n:Int) w=0:=by
 have:=W.n1;have:=W.n2;have:=W.len;unfold qid;rw[if_neg (by omega),if_neg (by omega),if_pos (Yp.2 fun c hc=>qjR.2 (W.let_ c hc))]
theorem qbN {N:Nat} (hN:2000<N) {n:Nat} {a b:List Int} (A:jT n a) (B:jT n b):jG N (n:Int) a b=some 0:=by
 have:=A.len;have:=B.len;unfold jG;rw[qjF hN (by omega),qjF hN (by omega),qkc A,qkc B,ZB,ZB,qdq (by simp) (by simp;omega),ZB,quj,quQ]
theorem jT.app {n:Nat} {a b:List Int} (A:jT n a) (B:jT n b) (hl:a.length+b.length<=200):jT n (a++b):=by
 refine⟨A.n1,A.n2,by rw[Yq];exact hl,?_⟩;have h:qaf n (a++b):=qaf.app A.let_ B.let_;exact h
end Go.Av
end
section
namespace Go.Av
theorem qgA {c:Int} (h:c≠0):zW c=some (sg5 c):=by
 rw[qlR h];unfold sg5;by_cases p:0<c
 ·rw[if_pos p,if_neg (by omega)]
 rw[if_neg p,if_pos (by omega)]
theorem qrM {n x y z:Int} (bx:x≠0/\ -n<x/\x<n) (by_:y≠0/\ -n<y/\y<n) (bz:z≠0/\ -n<z/\z<n) (h2:n<=12) (A:Int):
 (qaw [x,y,z]=some false)\/ ∃l,qfD x y z=some l/\l.length=3/\qaw [x,y,z]=some true/\xR [x,y,z] [116,117,114,110] A 0=some l:=by
 have k0:idx [x,y,z] 0=some x:=rfl;have k1:idx [x,y,z] 1=some y:=rfl;have k2:idx [x,y,z] 2=some z:=rfl;have ax:=vZ (show-1000<x/\x<1000 by omega);have ay:=vZ (show-1000<y/\y<1000 by omega);have az:=vZ (show-1000<z/\z<1000 by omega);have e0:w64 (((x.natAbs:Nat):Int)-((y.natAbs:Nat):Int))=(x.natAbs:Int)-(y.natAbs:Int):=qF (by omega) (by omega);have ad:=vZ (show-1000<(x.natAbs:Int)-(y.natAbs:Int)/\(x.natAbs:Int)-(y.natAbs:Int)<1000 by omega);have hx:=qgA bx.1;have hy:=qgA by_.1;have hz:=qgA bz.1
 have rX:sg5 x= -1\/sg5 x=1:=by unfold sg5;split<;>omega
 have rZ:sg5 z= -1\/sg5 z=1:=by unfold sg5;split<;>omega
 have wZ:w64 (sg5 z*(y.natAbs:Int))=sg5 z*(y.natAbs:Int):=by rcases rZ with e|e<;>rw[e]<;>exact qF (by omega) (by omega)
 have wX:w64 (sg5 x*(y.natAbs:Int))=sg5 x*(y.natAbs:Int):=by rcases rX with e|e<;>rw[e]<;>exact qF (by omega) (by omega)
 unfold qaw xR qfD;simp only[k0,k1,k2,ZB,ax,ay,az,e0,ad,hx,hy,hz];by_cases c1:x.natAbs=z.natAbs
 ·by_cases c2:x.natAbs=y.natAbs+1\/y.natAbs=x.natAbs+1
  ·have c2':((((x.natAbs:Int)-(y.natAbs:Int)).natAbs:Nat):Int)=1:=by omega
   rw[if_pos (show x.natAbs=z.natAbs/\(x.natAbs=y.natAbs+1\/y.natAbs=x.natAbs+1)from⟨c1,c2⟩),if_pos (show((x.natAbs:Nat):Int)=((z.natAbs:Nat):Int)by omega),if_pos c2'];by_cases d1:sg5 x=sg5 y
   ·simp only[if_pos d1,wZ];exact .inr ⟨_,rfl,rfl,rfl,rfl⟩
   simp only[if_neg d1,wX];by_cases d2:sg5 y=sg5 z
   ·simp only[if_pos d2,decide_eq_true d2];exact .inr ⟨_,rfl,rfl,rfl,rfl⟩
   rw[decide_eq_false d2];exact .inl rfl
  rw[if_pos (show((x.natAbs:Nat):Int)=((z.natAbs:Nat):Int)by omega),if_neg (show¬((((x.natAbs:Int)-(y.natAbs:Int)).natAbs:Nat):Int)=1 by omega)];exact .inl rfl
 rw[if_neg (show¬((x.natAbs:Nat):Int)=((z.natAbs:Nat):Int)by omega)];exact .inl rfl
section
variable {N:Nat} (hN:2000<N) {n:Nat} (h1:1<=n) (h2:n<=12) {w:List Int} (hw:w.length<=400) (hv:qaf n w)
include hN h1 h2 hw hv
end
end Go.Av
end
section
namespace Go.Av
def qgo (n:Nat) (g:Nat->Int):List Int:=(List.range n).map g
def qcY (n:Nat) (f:Nat->Nat->Int):List (List Int):=(List.range n).map fun i=>qgo n (f i)
theorem qb4 (n:Nat) (g:Nat->Int):(qgo n g).length=n:=by simp[qgo]
theorem qb8 (n:Nat) (f:Nat->Nat->Int):(qcY n f).length=n:=by simp[qcY]
theorem qeE {n k:Nat} {g:Nat->Int} (h:k<n):(qgo n g)[k]? =some (g k):=by simp[qgo,List.getElem?_range h]
theorem qcQ {n k:Nat} {f:Nat->Nat->Int} (h:k<n):(qcY n f)[k]? =some (qgo n (f k)):=by simp[qcY,List.getElem?_range h]
theorem ql2 {n b:Nat} {g:Nat->Int} (h:b<n) (v:Int):(qgo n g).set b v=qgo n (fun k=>if k=b then v else g k):=by
 apply List.ext_getElem?;intro k;by_cases hk:k<n
 ·rw[qeE hk];by_cases e:k=b
  ·subst e;rw[List.getElem?_set_self (by rw[qb4];exact h),if_pos rfl]
  rw[Yw (fun c=>e c.symm),qeE hk,if_neg e]
 rw[Yg (by simp[qb4];omega),Yg (by rw[qb4];omega)]
theorem qmp {n a:Nat} {f:Nat->Nat->Int} (h:a<n) (g:Nat->Int):(qcY n f).set a (qgo n g)=qcY n (fun i=>if i=a then g else f i):=by
 apply List.ext_getElem?;intro k;by_cases hk:k<n
 ·rw[qcQ hk];by_cases e:k=a
  ·subst e;rw[List.getElem?_set_self (by rw[qb8];exact h),if_pos rfl]
  rw[Yw (fun c=>e c.symm),qcQ hk,if_neg e]
 rw[Yg (by simp[qb8];omega),Yg (by rw[qb8];omega)]
theorem qii {α:Type} (l:List α) (a:Nat) (x:α):kz l (a:Int) x=l.set a x:=by
 unfold kz;rw[Int.toNat_natCast]
theorem qiz {n:Nat} {f g:Nat->Nat->Int} (h: ∀i k,f i k=g i k):qcY n f=qcY n g:=by
 have:f=g:=by funext i k;exact h i k
 rw[this]
def qkx (f:Nat->Nat->Int) (a b:Nat) (s:Int):Nat->Nat->Int:=fun i k=>if(i=a/\k=b)\/(i=b/\k=a)then f i k+s else f i k
theorem qqQ {n a b:Nat} {f:Nat->Nat->Int} (ha:a<n) (hb:b<n) (ne:a≠b) (s:Int):
 ((qcY n f).set a ((qgo n (f a)).set b (f a b+s))).set b ((qgo n (f b)).set a (f b a+s))=qcY n (qkx f a b s):=by
 rw[ql2 hb,qmp ha,ql2 ha,qmp hb]
 refine qiz fun i k=>?_
 unfold qkx;by_cases h1:i=b
 ·subst h1;rw[if_pos rfl];by_cases h2:k=a
  ·subst h2;rw[if_pos rfl,if_pos (.inr ⟨rfl,rfl⟩)]
  rw[if_neg h2,if_neg (fun h=>by rcases h with h|h<;>omega)]
 rw[if_neg h1];by_cases h3:i=a
 ·subst h3;rw[if_pos rfl];by_cases h2:k=b
  ·subst h2;rw[if_pos rfl,if_pos (.inl ⟨rfl,rfl⟩)]
  rw[if_neg h2,if_neg (fun h=>by rcases h with h|h<;>omega)]
 rw[if_neg h3,if_neg (fun h=>by rcases h with h|h<;>omega)]
def lkF (s:SB) (f:Nat->Nat->Int):List Int->Nat->Nat->Int
 |[]=>f
 |c::w=>lkF (s.bk (c.natAbs-1)) (qkx f (s.g (c.natAbs-1)) (s.g c.natAbs) (if 0<c then 1 else-1)) w
theorem qo9 {c:Int} (h:c≠0):zW c=some (if 0<c then 1 else-1):=by
 unfold zW;by_cases p:0<c
 ·rw[if_neg (show¬c<1 by omega),if_pos (by decide),if_pos p]
 rw[if_pos (show c<1 by omega),if_neg p];by_cases q:c> -1
 ·omega
 rw[if_neg q]
theorem qmU {n a b:Nat} (hn:n<=1000) {f:Nat->Nat->Int} {B:Nat} (hB:B<=10000) (hf: ∀i k,-(B:Int)<=f i k/\f i k<=B) (ha:a<n) (hb:b<n) (ne:a≠b) {c:Int} (hc:c≠0):
 qaT (qcY n f) c (a:Int) (b:Int)=some (qcY n (qkx f a b (if 0<c then 1 else-1))):=by
 unfold qaT
 have w1: ∀i k,w64 (f i k+(if 0<c then(1:Int)else-1))=f i k+(if 0<c then(1:Int)else-1):=fun i k=>by
  have:=hf i k;exact qF (by split<;>omega) (by split<;>omega)
 rw[qC,qcQ ha,ZB,qC,qeE hb,ZB,qo9 hc,ZB,w1,vM (by rw[qb4];exact hb),ZB,qii,qC,Yw ne,qcQ hb,ZB,qC,qeE ha,ZB,ZB,w1,vM (by rw[qb4];exact ha),ZB,qii,qqQ ha hb ne]
theorem qtl {f:Nat->Nat->Int} {a b:Nat} {s:Int} {B:Nat} (hf: ∀i k,-(B:Int)<=f i k/\f i k<=B) (hs: -1<=s/\s<=1): ∀i k,-((B+1:Nat):Int)<=qkx f a b s i k/\qkx f a b s i k<=((B+1:Nat):Int):=fun i k=>by
 have:=hf i k;unfold qkx;split<;>omega
section
variable {n:Nat} (hn:n<=12) {N:Nat} (hN:2000<N)
include hn hN
theorem qqU {s:SB} {m:Nat} (hm2:m+1<n):((s.rev.li n).set m ((s.g (m+1):Nat):Int)).set (m+1) ((s.g m:Nat):Int)=(s.bk m).rev.li n:=Uw (by simp[Uf]) fun k hk=>by
 show _=some ((s.g (tr5 m k):Nat):Int);by_cases a:k=m+1
 ·subst a;rw[List.getElem?_set_self (by simp[Uf];omega),qb3]
 rw[Yw (fun e=>a e.symm)];by_cases b:k=m
 ·subst b;rw[List.getElem?_set_self (by rw[Uf];omega),qbV]
 rw[Yw (fun e=>b e.symm),Un s.rev hk,vN b a];rfl
theorem qlv {w:List Int} (W:jT n w): ∀(K i:Nat) (s:SB) (f:Nat->Nat->Int),s.Ok n->(∀j k,-(i:Int)<=f j k/\f j k<=i)->i<=w.length->w.length<K+i->zz w K (qcY n f) (s.rev.li n) (i:Int)=some (qcY n (lkF s f (w.drop i)))
 |0,i,s,f,hs,hf,h,hK=>by omega
 |K+1,i,s,f,hs,hf,hiw,hK=>by
  have wl:=W.len;unfold zz;by_cases hi:i<w.length
  ·have hx:w[i]? =some w[i]:=Ya hi;have hc:=W.let_ _ (List.getElem_mem hi);rw[YG hi,lkF];generalize w[i]=c at*;obtain⟨m,hm⟩: ∃m:Nat,c.natAbs=m+1:=⟨c.natAbs-1,by omega⟩
   have hm2:m+1<n:=by omega
   have q1:w64 (((m+1:Nat):Int)-1)=(m:Int):=by rw[qF (by omega) (by omega)];omega
   have q2:w64 ((m:Int)+1)=((m+1:Nat):Int):=zF (by omega);have g0:=hs.g_ m (by omega);have g1:=hs.g_ (m+1) hm2;have r0:idx (s.rev.li n) (m:Int)=some ((s.g m:Nat):Int):=Uk (by omega);have r1:idx (s.rev.li n) ((m+1:Nat):Int)=some ((s.g (m+1):Nat):Int):=Uk hm2
   have ne:s.g m≠s.g (m+1):=fun e=>by have:=s.ginj e;omega
   rw[if_pos (by omega),qC,hx];simp only[ZB,vZ (show-1000<c/\c<1000 by omega),hm,q1,q2,r0,r1];rw[qmU (by omega) (B:=i) (by omega) hf g0 g1 ne hc.1];simp only[ZB];rw[vM (by rw[Uf];omega)];simp only[ZB]
   have e17:idx ((s.rev.li n).set m ((s.g (m+1):Nat):Int)) ((m+1:Nat):Int)=some ((s.g (m+1):Nat):Int):=by
    rw[qC,Yw (by omega),Un s.rev hm2];rfl
   rw[e17];simp only[ZB];rw[vM (by simp[Uf];omega)];simp only[ZB];rw[qqU hn hN hm2,zF (by omega),show(m+1-1:Nat)=m by omega];exact qlv W K (i+1) _ _ (hs.bk hm2) (qtl hf (by split<;>omega)) (by omega) (by omega)
  rw[if_neg (by omega),List.drop_eq_nil_of_le (by omega)];rfl
theorem qvk:mk 8 (n:Int) (0:Int)=some (qgo n fun _=>0):=by
 rw[qkr (by omega)];congr 1;apply List.ext_getElem?;intro k;by_cases hk:k<n
 ·rw[qeE hk];simp[hk]
 rw[Yg (by simp;omega),Yg (by rw[qb4];omega)]
theorem qnX: ∀(K i:Nat) (l1 l:List (List Int)),l1.length=n->l.length=n->i<=n->n<K+i->(∀k,k<i->l[k]? =some (qgo n fun _=>0))->yZ (n:Int) l1 K l (i:Int)=some (qcY n fun _ _=>0)
 |0,i,l1,l,h1,h2,hi,hK,hk=>by omega
 |K+1,i,l1,l,h1,h2,hin,hK,hk=>by
  unfold yZ;rw[h1];by_cases hi:i<n
  ·have hs:idx l (i:Int)=some (l[i]'(by omega)):=by rw[qC];exact Ya _
   rw[if_pos (by omega),qvk hn hN];simp only[ZB];rw[hs,ZB,qii,zF (by omega)];refine qnX K (i+1) l1 _ h1 (by simpa using h2) (by omega) (by omega) (fun k hk1=>?_);by_cases e:k=i
   ·subst e;rw[List.getElem?_set_self (by omega)]
   rw[Yw (fun c=>e c.symm),hk k (by omega)]
  rw[if_neg (by omega)];congr 1;apply List.ext_getElem?;intro k;by_cases hkn:k<n
  ·rw[hk k (by omega),qcQ hkn]
  rw[Yg (by omega),Yg (by rw[qb8];omega)]
theorem qut:mk 24 (n:Int) ([]:List Int)=some (List.replicate n []):=by
 unfold mk;rw[if_pos (by omega)];simp
theorem qhi {w:List Int} (W:jT n w):qbD N (n:Int) w=some (qcY n (lkF SB.id (fun _ _=>0) w)):=by
 have wl:=W.len;unfold qbD yL yH;have a:=qnX hn hN N 0 (List.replicate n []) (List.replicate n []) (by simp) (by simp) (Nat.zero_le _) (by omega) (fun k hk=>by omega);have b:=qlv hn hN W N 0 SB.id (fun _ _=>0) (Us n) (fun _ _=>by simp) (Nat.zero_le _) (by omega);rw[show((0:Nat):Int)=0 from rfl]at a b;rw[YR,show SB.id.rev=SB.id from rfl,SB.id_li]at b;rw[qut hn hN,ZB,a,ZB,ZB,qfL hN (by omega),ZB,b];rfl
end
end Go.Av
end
section
namespace Go.Av
def qbA (c:Int):Int:=if 0<c then 1 else-1
def lkP:List Int->Nat->Nat->Int
 |[],_,_=>0
 |c::w,x,y=>(if(x=c.natAbs-1/\y=c.natAbs-1+1)\/(x=c.natAbs-1+1/\y=c.natAbs-1)then qbA c else 0)+lkP w (tr5 (c.natAbs-1) x) (tr5 (c.natAbs-1) y)
def pfP:List Int->Nat->Nat
 |[],x=>x
 |c::w,x=>pfP w (tr5 (c.natAbs-1) x)
theorem qm8: ∀(w:List Int) (s:SB) (k:Nat),(pmF s w).f k=pfP w (s.f k)
 |[],s,k=>rfl
 |c::w,s,k=>by
  show(pmF (s.bk (c.natAbs-1)) w).f k=_;rw[qm8 w];rfl
theorem qpQ: ∀(w:List Int),(∀c∈w,c≠0)-> ∀(s:SB) (f:Nat->Nat->Int) (i k:Nat),lkF s f w i k=f i k+lkP w (s.f i) (s.f k)
 |[],_,s,f,i,k=>(Int.add_zero _).symm
 |c::w,h,s,f,i,k=>by
  have hc:=h c (List.mem_cons_self ..);obtain⟨m,hm⟩: ∃m,c.natAbs=m+1:=⟨c.natAbs-1,by omega⟩;rw[lkF,qpQ w (fun d hd=>h d (List.mem_cons_of_mem _ hd)),lkP];simp only[hm,Nat.add_sub_cancel]
  have e: ∀a b:Nat,a=s.g b↔s.f a=b:=fun a b=>⟨fun h=>by rw[h,s.fg],fun h=>by rw[<-h,s.gf]⟩
  have hu:qkx f (s.g m) (s.g (m+1)) (if 0<c then 1 else-1) i k=f i k+(if(s.f i=m/\s.f k=m+1)\/(s.f i=m+1/\s.f k=m)then qbA c else 0):=by
   unfold qkx qbA;simp only[e];split<;>simp
  rw[hu];show _+_+lkP w (tr5 m (s.f i)) (tr5 m (s.f k))=_;omega
theorem qfS: ∀(u v:List Int) (x y:Nat),lkP (u++v) x y=lkP u x y+lkP v (pfP u x) (pfP u y)
 |[],v,x,y=>(Int.zero_add _).symm
 |c::u,v,x,y=>by
  rw[List.cons_append,lkP,qfS u v,lkP,pfP,pfP];omega
theorem yB (c:Int) (w:List Int):exS (c::w)=qbA c+exS w:=by
 rw[show c::w=[c]++w from rfl,xK];congr 1;unfold exS ngs qbA;by_cases h:0<c
 ·simp[h]
 simp[h]
end Go.Av
end
section
namespace Go.Av
def dv (B:Int):List Int->Int
 |[]=>0
 |x::l=>x+B*dv B l
def Dg (B:Int) (l:List Int):Prop:= ∀x∈l,0<=x/\x<B
theorem Dg.nil {B:Int}:Dg B []:=fun x h=>by cases h
theorem Dg.cons {B x:Int} {l:List Int} (h:0<=x/\x<B) (k:Dg B l):Dg B (x::l):=fun y hy=>by
 rcases List.mem_cons.1 hy with rfl|hy
 ·exact h
 exact k y hy
theorem Dg.head {B x:Int} {l:List Int} (h:Dg B (x::l)):0<=x/\x<B:=h x (List.mem_cons_self ..)
theorem Dg.tail {B x:Int} {l:List Int} (h:Dg B (x::l)):Dg B l:=fun y hy=>h y (List.mem_cons_of_mem _ hy)
theorem Dg.take {B:Int} {l:List Int} (h:Dg B l) (n:Nat):Dg B (l.take n):=fun y hy=>h y (List.mem_of_mem_take hy)
theorem Dg.drop {B:Int} {l:List Int} (h:Dg B l) (n:Nat):Dg B (l.drop n):=fun y hy=>h y (List.mem_of_mem_drop hy)
theorem Dg.append {B:Int} {l r:List Int} (h:Dg B l) (k:Dg B r):Dg B (l++r):=fun y hy=>by
 rcases List.mem_append.1 hy with hy|hy
 ·exact h y hy
 exact k y hy
theorem Dg.set {B:Int} {l:List Int} (h:Dg B l) {i:Nat} {v:Int} (hv:0<=v/\v<B):Dg B (l.set i v):=fun y hy=>by
 rcases List.mem_or_eq_of_mem_set hy with hy|rfl
 ·exact h y hy
 exact hv
theorem Dg.at {B:Int} {l:List Int} (h:Dg B l) {i:Nat} (hi:i<l.length):0<=l[i]/\l[i]<B:=h _ (List.getElem_mem hi)
theorem Dg.zeros {B:Int} (hB:0<B) (n:Nat):Dg B (List.replicate n 0):=fun y hy=>by
 rw[(List.mem_replicate.1 hy).2];omega
theorem qgF (B:Int):dv B []=0:=rfl
theorem qeN (B x:Int) (l:List Int):dv B (x::l)=x+B*dv B l:=rfl
theorem pow_pos {B:Int} (hB:0<B): ∀n:Nat,0<B^n
 |0=>by simp
 |n+1=>by rw[Int.pow_succ];exact Int.mul_pos (pow_pos hB n) hB
theorem qtI {B:Int} (hB:0<B): ∀{l:List Int},Dg B l->dv B l<B^l.length
 |[],_=>by simp[dv]
 |x::l,h=>by
  have h1:=h.head;have h2:=qtI hB h.tail;have h3:B*(dv B l+1)<=B*B^l.length:=Yc (by omega) (Int.le_of_lt hB);rw[qeN,Yr,Int.pow_succ,Int.mul_comm (B^l.length)];rw[Int.mul_add,Int.mul_one]at h3;omega
def Can (B:Int) (l:List Int):Prop:=Dg B l/\ ∀x,l.getLast? =some x->x≠0
theorem Can.nil {B:Int}:Can B []:=⟨Dg.nil,fun x h=>by simp at h⟩
theorem Can.tail {B x:Int} {l:List Int} (h:Can B (x::l)):Can B l:=⟨h.1.tail,fun y hy=>h.2 y (by
 cases l with
 |nil=>simp at hy
 |cons a l=>rw[List.getLast?_cons_cons];exact hy)⟩
theorem Can.pos {B:Int} (hB:1<B): ∀{l:List Int},Can B l->l≠[]->0<dv B l
 |[],_,h=>absurd rfl h
 |x::l,h,_=>by
  have h1:=h.1.head;rw[qeN]
  cases l with
  |nil=>
   have:=h.2 x (by simp);rw[qgF];omega
  |cons y l=>
   have h2:=h.tail.pos hB (by simp);have h3:0<B*dv B (y::l):=Int.mul_pos (by omega) h2;omega
theorem Can.uniq {B:Int} (hB:1<B): ∀{l r:List Int},Can B l->Can B r->dv B l=dv B r->l=r
 |[],[],_,_,_=>rfl
 |[],y::r,_,k,e=>by have:=k.pos hB (by simp);rw[<-e,qgF]at this;omega
 |x::l,[],h,_,e=>by have:=h.pos hB (by simp);rw[e,qgF]at this;omega
 |x::l,y::r,h,k,e=>by
  rw[qeN,qeN]at e;have h1:=h.1.head;have k1:=k.1.head
  have e1:x=y:=by
   have a:(x+B*dv B l)%B=x:=by rw[Int.add_mul_emod_self_left];exact Int.emod_eq_of_lt h1.1 h1.2
   have b:(y+B*dv B r)%B=y:=by rw[Int.add_mul_emod_self_left];exact Int.emod_eq_of_lt k1.1 k1.2
   rw[<-a,<-b,e]
  have e2:dv B l=dv B r:=Int.eq_of_mul_eq_mul_left (by omega) (show B*dv B l=B*dv B r by omega);rw[e1,h.tail.uniq hB k.tail e2]
theorem Can.low {B:Int} (hB:1<B): ∀{l:List Int} {n:Nat},Can B l->l.length=n+1->B^n<=dv B l
 |[],n,_,h=>by simp at h
 |x::l,0,h,hn=>by
  have:=h.pos hB (by simp);simp only[Int.pow_zero];omega
 |x::l,n+1,h,hn=>by
  have h1:=h.1.head;have h2:=h.tail.low hB (n:=n) (by simpa using hn);have h3:B*B^n<=B*dv B l:=Yc h2 (by omega);rw[qeN,Int.pow_succ,Int.mul_comm (B^n)];omega
def dgF (B:Int):Nat->Int->List Int
 |0,_=>[]
 |t+1,z=>if z<=0 then[]else z%B::dgF B t (z/B)
def dg (B z:Int):List Int:=dgF B z.toNat z
theorem qgl {B:Int} (hB:1<B): ∀(t:Nat) (z:Int),0<=z->z<=t->Can B (dgF B t z)/\dv B (dgF B t z)=z
 |0,z,h1,h2=>⟨Can.nil,by rw[dgF,qgF];omega⟩
 |t+1,z,h1,h2=>by
  rw[dgF];split
  ·exact⟨Can.nil,by rw[qgF];omega⟩
  rename_i hz;have hd:=Int.mul_ediv_add_emod z B;have hm:=Int.emod_nonneg z (show B≠0 by omega);have hm2:=Int.emod_lt_of_pos z (show 0<B by omega);have hq:0<=z/B:=Int.ediv_nonneg h1 (by omega);have hq2:z/B<z:=Int.ediv_lt_self_of_pos_of_ne_one (by omega) (by omega);obtain⟨c,e⟩:=qgl hB t (z/B) hq (by omega);refine⟨⟨Dg.cons ⟨hm,hm2⟩ c.1,fun x hx=>?_⟩,by rw[qeN,e];omega⟩
  cases hl:dgF B t (z/B)with
  |nil=>
   rw[hl]at hx e;rw[qgF]at e;rw[<-e,Int.mul_zero]at hd;simp only[List.getLast?_singleton,ZI]at hx;omega
  |cons a l=>
   rw[hl,List.getLast?_cons_cons]at hx;exact c.2 x (by rw[hl];exact hx)
theorem qqA {B:Int} (hB:1<B) {z:Int} (h:0<=z):Can B (dg B z):=(qgl hB _ z h (by omega)).1
theorem qt4 {B:Int} (hB:1<B) {z:Int} (h:0<=z):dv B (dg B z)=z:=(qgl hB _ z h (by omega)).2
theorem qbQ {B:Int} (hB:1<=B) {m n:Nat} (h:m<=n):B^m<=B^n:=by
 obtain⟨k,rfl⟩:=Nat.exists_eq_add_of_le h;rw[Int.pow_add]
 have h1:1<=B^k:=by have:=pow_pos (show 0<B by omega) k;omega
 have h2:=Yc h1 (Int.le_of_lt (pow_pos (show 0<B by omega) m));omega
theorem qud {B:Int} (hB:1<B) {z:Int} (h:0<=z) {n:Nat}:(dg B z).length<=n↔z<B^n:=by
 constructor
 ·intro hl;have h1:=qtI (show 0<B by omega) (qqA hB h).1;have h2:=qbQ (show 1<=B by omega) hl;rw[qt4 hB h]at h1;omega
 intro hz
 cases e:(dg B z).length with
 |zero=>omega
 |succ m=>
  have h1:=(qqA hB h).low hB e;rw[qt4 hB h]at h1;rcases Nat.lt_or_ge m n with h2|h2
  ·exact h2
  have:=qbQ (show 1<=B by omega) h2;omega
end Go.Av
end
section
namespace Go.Av
abbrev W:Int:=18446744073709551616
theorem wu (n:Int):IntKind.wrap .u64 n=n%18446744073709551616:=rfl
theorem qfa {n:Int} (h0:0<=n) (h:n<18446744073709551616):IntKind.wrap .u64 n=n:=by rw[wu];exact Int.emod_eq_of_lt h0 h
theorem qjA {n:Int} (h0:0<=n) (h:n<18446744073709551616):(BitVec.ofInt 64 n).toNat=n.toNat:=by
 rw[BitVec.toNat_ofInt];have:n%((2:Nat)^64:Nat)=n:=Int.emod_eq_of_lt h0 (by simpa using h);rw[this]
theorem qgt {x:Int} (h0:0<=x) (h:x<18446744073709551616):jf .u64 x 4294967295=x%4294967296:=by
 show IntKind.wrap .u64 _=_
 have e:(BitVec.ofInt IntKind.u64.bits x&&&BitVec.ofInt IntKind.u64.bits 4294967295).toNat=x.toNat%4294967296:=by
  rw[BitVec.toNat_and];show(BitVec.ofInt 64 x).toNat&&&(BitVec.ofInt 64 4294967295).toNat=_;rw[qjA h0 h,qjA (by omega) (by omega)];exact Nat.and_two_pow_sub_one_eq_mod x.toNat 32
 rw[e,wu];omega
theorem qs0 (x:Int) (k:Nat):jl .u64 x (k:Int)=x/2^(min k 64):=by
 show x.fdiv (2^(min (k:Int).toNat 64))=_;rw[Int.toNat_natCast,Int.fdiv_eq_ediv_of_nonneg _ (Int.le_of_lt (pow_pos (by omega) _))]
theorem qmh (x:Int):jl .u64 x 32=x/4294967296:=qs0 x 32
theorem qe6 {a b:Int} (ha:0<=a/\a<4294967296) (hb:0<=b/\b<4294967296):0<=a*b/\a*b<=18446744065119617025:=by
 refine⟨Yv ha.1 hb.1,?_⟩;have:a*b<=4294967295*4294967295:=Int.mul_le_mul (by omega) (by omega) hb.1 (by omega);omega
theorem qsg {x y:Int} (hx:0<=x/\x<18446744073709551616) (hy:0<=y/\y<18446744073709551616):bits_Mul64 x y=some (x*y/18446744073709551616,x*y%18446744073709551616):=by
 unfold bits_Mul64;rw[qgt hx.1 hx.2,qgt hy.1 hy.2,qmh x,qmh y]
 have x1:0<=x/4294967296/\x/4294967296<4294967296:=by omega
 have x0:0<=x%4294967296/\x%4294967296<4294967296:=by omega
 have y1:0<=y/4294967296/\y/4294967296<4294967296:=by omega
 have y0:0<=y%4294967296/\y%4294967296<4294967296:=by omega
 have ex:x=x/4294967296*4294967296+x%4294967296:=by omega
 have ey:y=y/4294967296*4294967296+y%4294967296:=by omega
 have e:x*y=x/4294967296*(y/4294967296)*18446744073709551616+(x/4294967296*(y%4294967296)+x%4294967296*(y/4294967296))*4294967296+x%4294967296*(y%4294967296):=by
  generalize x/4294967296=a at*;generalize x%4294967296=b at*;generalize y/4294967296=c at*;generalize y%4294967296=d at*;subst ex ey;grind
 have b11:=qe6 x1 y1;have b10:=qe6 x1 y0;have b01:=qe6 x0 y1;have b00:=qe6 x0 y0;rw[e];generalize x/4294967296*(y/4294967296)=p11 at*;generalize x/4294967296*(y%4294967296)=p10 at*;generalize x%4294967296*(y/4294967296)=p01 at*;generalize x%4294967296*(y%4294967296)=p00 at*;rw[qfa b11.1 (by omega),qfa b10.1 (by omega),qfa b01.1 (by omega),qfa b00.1 (by omega),qmh p00,qfa (n:=p10+p00/4294967296) (by omega) (by omega),qmh (p10+_),qgt (by omega) (by omega),qfa (n:=_+p01) (by omega) (by omega),qmh,qfa (n:=p11+(p10+p00/4294967296)/4294967296) (by omega) (by omega),qfa (by omega) (by omega),wu];congr 2;omega
end Go.Av
end
section
namespace Go.Av
theorem W1:(1:Int)<W:=by decide
theorem W0:(0:Int)<W:=by decide
end Go.Av
end
section
namespace Go.Av
abbrev E9:Int:=1000000000
theorem E1:(1:Int)<E9:=by decide
end Go.Av
end
section
namespace Go.Av
end Go.Av
end
section
namespace Go.Av
end Go.Av
end
section
namespace Go.Av
end Go.Av
end
section
namespace Go.Av
end Go.Av
end
section
namespace Go.Av
theorem qk9 {a b:Int} (ha:0<=a) (hb:0<=b):Int.gcd a b=Int.gcd b (a%b):=by
 obtain⟨m,rfl⟩:=Int.eq_ofNat_of_zero_le ha;obtain⟨n,rfl⟩:=Int.eq_ofNat_of_zero_le hb;show Nat.gcd m n=Nat.gcd n (m%n);rw[Nat.gcd_comm m n,Nat.gcd_rec n m,Nat.gcd_comm]
theorem qnv (a:Int) {g:Int} (hg:0<g):((a/g).natAbs:Int)<=(a.natAbs:Int):=by
 have:=Int.natAbs_ediv_le_natAbs a g;omega
theorem qmR (p q:Rat):p+q=Rat.divInt (p.num*q.den+q.num*p.den) ((p.den:Int)*q.den):=by
 rw[Rat.add_def',<-Rat.divInt_ofNat,Int.natCast_mul]
theorem qmI (p q:Rat):p*q=Rat.divInt (p.num*q.num) ((p.den:Int)*q.den):=by
 rw[Rat.mul_def',<-Rat.divInt_ofNat,Int.natCast_mul]
theorem qsi (p q:Rat):(p.den:Int)*q.den≠0:=Int.mul_ne_zero (by have:=p.den_pos;omega) (by have:=q.den_pos;omega)
end Go.Av
end
section
namespace Go.Av
abbrev qlx (z:Int) (n:Nat):Prop:=(z.natAbs:Int)<E9^n
theorem qlx.len {z:Int} {n:Nat} (h:qlx z n):(dg E9 z.natAbs).length<=n:=(qud E1 (by omega)).2 h
theorem qlx.mono {z:Int} {m n:Nat} (h:qlx z m) (hn:m<=n):qlx z n:=Int.lt_of_lt_of_le h (qbQ (by decide) hn)
end Go.Av
end
section
namespace Go.Av
def digB (c:UInt8):Bool:=decide (48<=c.toNat)&&decide (c.toNat<=57)
def qdj (n:Nat) (s:List UInt8):Nat:=s.foldl (fun a c=>a*10+(c.toNat-48)) n
theorem qf8 (n:Nat):qdj n []=n:=List.foldl_nil
theorem qeX (n:Nat) (c:UInt8) (s:List UInt8):qdj n (c::s)=qdj (n*10+(c.toNat-48)) s:=by
 unfold qdj;rw[List.foldl_cons]
theorem qrN (s:List UInt8): ∀n:Nat,qdj n s=n*10^s.length+qdj 0 s:=by
 induction s with
 |nil=>intro n;rw[qf8,qf8];simp
 |cons c s ih=>
  intro n;rw[qeX,qeX,ih,ih (0*10+_),Yr,Nat.pow_succ,Nat.zero_mul,Nat.zero_add,Nat.add_mul];rw[Nat.mul_assoc,Nat.mul_comm 10,<-Nat.add_assoc]
theorem ql5 (s t:List UInt8):qdj 0 (s++t)=qdj 0 s*10^t.length+qdj 0 t:=by
 have:qdj 0 (s++t)=qdj (qdj 0 s) t:=by unfold qdj;rw[List.foldl_append]
 rw[this,qrN]
theorem qpi (s:List UInt8) (c:UInt8):qdj 0 (s++[c])=qdj 0 s*10+(c.toNat-48):=by
 rw[ql5];simp[qeX,qf8]
def dch (n:Nat):UInt8:=UInt8.ofNat (48+n)
theorem qtq {n:Nat} (h:n<10):(dch n).toNat=48+n:=by
 unfold dch;rw[UInt8.toNat_ofNat'];omega
theorem qtC {c:UInt8} (h:digB c=true):c=dch (c.toNat-48)/\c.toNat-48<10:=by
 unfold digB at h;rw[Bool.and_eq_true,decide_eq_true_eq,decide_eq_true_eq]at h;refine⟨?_,by omega⟩;rw[<-UInt8.toNat_inj,qtq (by omega)];omega
theorem qml {n:Nat} (h:n<10):Lib.decDigits n=[dch n]:=by rw[Lib.decDigits,dif_pos h];rfl
theorem qva {n:Nat} (h: ¬n<10):Lib.decDigits n=Lib.decDigits (n/10)++[dch (n%10)]:=by rw[Lib.decDigits,dif_neg h];rfl
def Dec (s:Str):Prop:=0<s.length/\s.all digB=true/\(s[0]? =some 48->s=[48])
instance (s:Str):Decidable (Dec s):=by unfold Dec;infer_instance
theorem qrm: ∀(k:Nat) (s:Str),s.length<=k->Dec s->s=Lib.decDigits (qdj 0 s)
 |0,s,h,hd=>by have:=hd.1;omega
 |k+1,s,h,hd=>by
  rcases List.eq_nil_or_concat s with e|⟨t,c,e⟩
  ·rw[e]at hd;exact absurd hd.1 (by simp)
  rw[List.concat_eq_append]at e;subst e;have ha:=hd.2.1;rw[List.all_append,Bool.and_eq_true,List.all_cons,List.all_nil,Bool.and_true]at ha;obtain⟨ec,hc⟩:=qtC ha.2;by_cases ht:t=[]
  ·subst ht;rw[List.nil_append,qeX,qf8,Nat.zero_mul,Nat.zero_add,qml hc,<-ec]
  have htl:0<t.length:=List.length_pos_iff.2 ht
  have h0:t[0]? ≠some 48:=fun e=>by
   have:=hd.2.2 (by rw[Yf htl];exact e);have:=congrArg List.length this;rw[Yq,List.length_singleton,List.length_singleton]at this;omega
  have hD:Dec t:=⟨htl,ha.1,fun e=>absurd e h0⟩;have ih:=qrm k t (by simp at h;omega) hD
  have hv:qdj 0 t≠0:=fun e=>by
   rw[e]at ih;exact h0 (by rw[ih,qml (by decide)];rfl)
  rw[qpi,qva (by omega),show(qdj 0 t*10+(c.toNat-48))/10=qdj 0 t by omega,show(qdj 0 t*10+(c.toNat-48))%10=c.toNat-48 by omega,<-ih,<-ec]
theorem Dec.eq {s:Str} (h:Dec s):s=Lib.decDigits (qdj 0 s):=qrm s.length s (Nat.le_refl _) h
end Go.Av
end
