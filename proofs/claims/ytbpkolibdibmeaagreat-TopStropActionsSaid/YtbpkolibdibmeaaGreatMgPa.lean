/-
  Words of crossings: what the program and the reference make of them, and the law of words.
-/
import Derived.Test.YtbpkolibdibmeaaGreatQGenAc
import Derived.Test.YtbpkolibdibmeaaGreatAvPt
import Derived.KernelRfl
noncomputable section
set_option linter.unusedVariables false
set_option linter.unusedSimpArgs false
set_option maxRecDepth 100000
set_option linter.unusedSectionVars false
noncomputable section
namespace Go.Av
def qaH (n c:Int):Bool:=decide (c≠0)&&decide (-n<c)&&decide (c<n)
def qje (n:Int) (w:List Int):Int:=if n<1\/12<n then 3 else if 200<w.length then 5 else if w.all (qaH n)=true then 0 else 3
theorem letter_eq {n:Int} (h1:1<=n) (h2:n<=12) (c:Int):qbg n c=some (qaH n c):=by
 unfold qbg qaH
 have hw:w64 (0-n)= -n:=by rw[qz (by omega) (by omega)];omega
 rw[hw];by_cases a:c=0
 ·simp[a]
 by_cases b: -n<c
 ·simp[a,b]
 simp[a,b]
theorem qeh {n:Int} (h1:1<=n) (h2:n<=12) (c:Int):qaL n c=some (!qaH n c):=by
 unfold qaL qaH
 have hw:w64 (0-n)= -n:=by rw[qz (by omega) (by omega)];omega
 rw[hw];by_cases a:c=0
 ·simp[a]
 by_cases b: -n<c
 ·rw[if_neg a,if_neg (by omega)];by_cases d:c<n
  ·simp[a,b,d]
  simp[a,b,d];omega
 rw[if_neg a,if_pos (by omega)];simp[a,b]
theorem qlO {n:Int} {w:List Int} {i:Nat} (h:i<w.length):(w.drop i).all (qaH n)=(qaH n w[i]&&(w.drop (i+1)).all (qaH n)):=by
 rw[YG h,List.all_cons]
theorem qsc {n:Int} (h1:1<=n) (h2:n<=12) {w:List Int} (hl:w.length<=300): ∀(K i:Nat),i<=w.length->w.length<K+i->jO n w K (i:Int)=some (if(w.drop i).all (qaH n)=true then .inl ()else .inr 3)
 |0,i,h,hK=>by omega
 |K+1,i,h,hK=>by
  unfold jO;by_cases hi:i<w.length
  ·rw[if_pos (by omega),qw,Ya hi,ZB,letter_eq h1 h2,ZB,qlO hi]
   cases c:qaH n w[i]with
   |false=>rfl
   |true=>
    rw[if_neg (by decide),qR (by omega),qsc h1 h2 hl K (i+1) (by omega) (by omega),Bool.true_and]
  rw[if_neg (by omega),List.drop_eq_nil_of_le (by omega)];rfl
theorem qoa {N:Nat} (hN:2000<N) {n:Int} {w:List Int} (hl:w.length<=300):qaI N n w=some (qje n w):=by
 unfold qaI qje;by_cases a:n<1
 ·rw[if_pos a,ZB,if_pos rfl,if_pos (.inl a)]
 by_cases b:12<n
 ·rw[if_neg a,decide_eq_true (by omega),ZB,if_pos rfl,if_pos (.inr b)]
 rw[if_neg a,decide_eq_false (by omega),ZB,if_neg (by decide),if_neg (show¬(n<1\/12<n)by omega)];by_cases c:200<w.length
 ·rw[if_pos (by omega),if_pos c]
 rw[if_neg (by omega),if_neg c,show(0:Int)=((0:Nat):Int)from rfl,qsc (by omega) (by omega) hl N 0 (by omega) (by omega),YR];cases w.all (qaH n)<;>rfl
theorem qqZ {n:Int} (h1:1<=n) (h2:n<=12) {w:List Int} (hl:w.length<=300): ∀(K i:Nat),i<=w.length->w.length<K+i->((w.drop i).all (qaH n)=true/\kg w n K (i:Int)=some (.inl ()))\/((w.drop i).all (qaH n)=false/\ ∃j:Nat,kg w n K (i:Int)=some (.inr (j:Int)))
 |0,i,h,hK=>by omega
 |K+1,i,h,hK=>by
  unfold kg xw;by_cases hi:i<w.length
  ·rw[if_pos (by omega),qw,Ya hi,ZB,qeh h1 h2,ZB,ZB,qlO hi]
   cases c:qaH n w[i]with
   |false=>exact .inr ⟨rfl,i,rfl⟩
   |true=>
    rw[if_neg (by decide),qR (by omega),Bool.true_and];exact qqZ h1 h2 hl K (i+1) (by omega) (by omega)
  rw[if_neg (by omega),List.drop_eq_nil_of_le (by omega)];exact .inl ⟨rfl,rfl⟩
theorem qo1 {N:Nat} (hN:10<N) (a b:Int):qO N [a,b]=some (if a=0 then b else a):=by
 obtain⟨K,rfl⟩: ∃K,N=K+1+1+1:=⟨N-3,by omega⟩;have w1:w64 1=1:=rfl;have w2:w64 2=2:=rfl
 have i0: ∀a b:Int,idx [a,b] 0=some a:=fun _ _=>rfl
 have i1: ∀a b:Int,idx [a,b] 1=some b:=fun _ _=>rfl
 unfold qO;by_cases ha:a=0
 ·by_cases hb:b=0
  ·simp[jC,i0,i1,ha,hb,w1,w2]
  simp[jC,i0,i1,ha,hb,w1,w2]
 simp[jC,i0,ha]
theorem jG (b:Bool) (e:Int):qB b e=some (if b=true then e else 0):=by
 unfold qB;cases b<;>rfl
theorem qkq {N:Nat} (hN:2000<N) {n:Int} {w:List Int} (hl:w.length<=300):xH N n w=some (qje n w):=by
 unfold xH qaC qje;by_cases a:n<1\/12<n
 ·have:(Option.bind (if n<1 then(qB true 3).bind fun r2=>some r2 else(qB (decide (n>12)) 3).bind fun r3=>some r3:Option Int) fun n4=>some n4)=some 3:=by
   by_cases b:n<1
   ·rw[if_pos b];rfl
   rw[if_neg b,decide_eq_true (by omega)];rfl
  rw[this,ZB,jG,ZB,qo1 (by omega),if_neg (by decide),ZB,if_pos (by decide),if_pos a]
 have:(Option.bind (if n<1 then(qB true 3).bind fun r2=>some r2 else(qB (decide (n>12)) 3).bind fun r3=>some r3:Option Int) fun n4=>some n4)=some 0:=by
  rw[if_neg (by omega),decide_eq_false (by omega)];rfl
 rw[this,ZB,jG,ZB,qo1 (by omega),if_pos rfl,ZB,if_neg a];by_cases c:200<w.length
 ·rw[decide_eq_true (show(w.length:Int)>200 by omega),if_pos rfl,if_pos (by decide),if_pos c]
 rw[decide_eq_false (show¬(w.length:Int)>200 by omega),if_neg Bool.false_ne_true,if_neg (show¬(!decide ((0:Int)=0))=true by decide),if_neg c];unfold ve yx;rcases qqZ (n:=n) (by omega) (by omega) hl N 0 (by omega) (by omega)with⟨g1,g2⟩|⟨g1,j,g2⟩<;>rw[show((0:Nat):Int)=0 from rfl]at g2
 ·rw[g2,<-YR (l:=w),g1];rfl
 rw[g2,<-YR (l:=w),g1];simp only[ZB];rw[decide_eq_true (show(j:Int)>=0 by omega),jG];rfl
structure vK (n:Nat) (w:List Int):Prop where
 n1:1<=n
 n2:n<=12
 len:w.length<=200
 let_: ∀c∈w,c≠0/\ -(n:Int)<c/\c<n
theorem qpG {n:Int} {w:List Int} (h:qje n w=0): ∃k:Nat,n=k/\vK k w:=by
 unfold qje at h;split at h
 ·omega
 rename_i a;split at h
 ·omega
 rename_i b;split at h
 ·rename_i c;refine⟨n.toNat,by omega,by omega,by omega,by omega,fun x hx=>?_⟩;have:=Yp.1 c x hx;simp only[qaH,Bool.and_eq_true,decide_eq_true_eq]at this;omega
 omega
theorem qhj {x:Int} (h:x≠0):zM x=yC x:=by
 unfold zM yC;by_cases a:x<0
 ·rw[if_pos a,if_pos (show x<1 by omega),if_neg (by omega)]
 rw[if_neg a,if_neg (show¬x<1 by omega),if_pos (by decide)]
theorem qjj (x:Int):yC x=some (if x<0 then-1 else 1):=by
 unfold yC;split<;>rfl
def qbO (n:Nat):List Int:=(List.range n).map fun k:Nat=>(k:Int)
theorem qcf (n:Nat):(qbO n).length=n:=by simp[qbO]
theorem qhE {n k:Nat} (h:k<n):(qbO n)[k]? =some (k:Int):=by
 simp[qbO,List.getElem?_map,List.getElem?_range h]
theorem zW {c:Int} (h: -1000<c/\c<1000):qX c=some ((c.natAbs:Nat):Int):=by
 unfold qX;rw[qz (by omega) (by omega)];by_cases a:0-c>c
 ·rw[if_pos a];congr 1;omega
 rw[if_neg a];congr 1;omega
theorem qcn {c:Int} (h: -1000<c/\c<1000):jN c=some ((c.natAbs:Nat):Int):=by
 unfold jN;rw[qz (by omega) (by omega)];by_cases a:0-c>c
 ·rw[if_pos a];congr 1;omega
 rw[if_neg a];congr 1;omega
theorem qpJ {n:Nat} (hn:n<=1000) {l2:List Int} (h2:l2.length=n): ∀(K i:Nat) (l:List Int),l.length=n->i<=n->n<K+i->(∀k,k<i->l[k]? =some (k:Int))->jg l2 K l (i:Int)=some (qbO n)
 |0,i,l,hl,h,hK,hk=>by omega
 |K+1,i,l,hl,h,hK,hk=>by
  unfold jg;by_cases hi:i<n
  ·rw[if_pos (by omega),qw,Ya (by omega),ZB,jX (by omega),ZB,qR (by omega)];refine qpJ hn h2 K (i+1) _ (by simpa using hl) (by omega) (by omega) (fun k hki=>?_);by_cases e:k=i
   ·subst e;rw[List.getElem?_set_self (by omega)]
   rw[Yw (fun c=>e c.symm)];exact hk k (by omega)
  rw[if_neg (by omega)];congr 1;apply List.ext_getElem?;intro k;by_cases hkn:k<n
  ·rw[hk k (by omega),qhE hkn]
  rw[Yg (by omega),Yg (by rw[qcf];omega)]
theorem qk7 {n:Nat} (hn:n<=1000):mk 8 (n:Int) (0:Int)=some (List.replicate n 0):=by
 unfold mk;rw[if_pos (by omega)];simp
theorem qft {N n:Nat} (hN:2000<N) (hn:n<=1000):jd N (n:Int)=some (qbO n):=by
 unfold jd;rw[qk7 hn,ZB,show(0:Int)=((0:Nat):Int)from rfl,qpJ hn (by simp) N 0 _ (by simp) (by omega) (by omega) (fun k hk=>by omega),ZB]
structure PInv (n:Nat) (row p:List Int):Prop where
 rl:row.length=n
 pl:p.length=n
 at_: ∀k,k<n-> ∃v:Nat,v<n/\row[k]? =some (v:Int)/\p[v]? =some (k:Int)
 all: ∀v,v<n-> ∃k,k<n/\row[k]? =some (v:Int)
def qeN (l:List Int):Int:=(l.find? fun x=>!decide (x=0)).getD 0
theorem qmT {l:List Int} (hl:l.length<=100): ∀(K i:Nat),i<=l.length->l.length<K+i->jC l K (i:Int)=some (match(l.drop i).find? (fun x=>!decide (x=0))with|some x=> .inr x|none=> .inl ())
 |0,i,h,hK=>by omega
 |K+1,i,h,hK=>by
  unfold jC;by_cases hi:i<l.length
  ·rw[if_pos (by omega),qw,Ya hi,ZB,YG hi,List.find?_cons];by_cases c:l[i]=0
   ·rw[if_neg (by simp[c]),qR (by omega),qmT hl K (i+1) (by omega) (by omega)];simp[c]
   rw[if_pos (by simp[c])];simp[c]
  rw[if_neg (by omega),List.drop_eq_nil_of_le (by omega)];rfl
theorem qan {N:Nat} {l:List Int} (hl:l.length<=100) (hN:l.length<N):qO N l=some (qeN l):=by
 unfold qO qeN;have:=qmT hl N 0 (by omega) (by omega);rw[YR,show((0:Nat):Int)=0 from rfl]at this;rw[this];cases l.find? (fun x=>!decide (x=0))<;>rfl
theorem qdK (l:List Int):qeN (0::l)=qeN l:=by simp[qeN]
theorem qgh {x:Int} (h:x≠0) (l:List Int):qeN (x::l)=x:=by simp[qeN,h]
theorem qjC (x:Int):qeN [x]=x:=by
 by_cases h:x=0
 ·subst h;rfl
 exact qgh h []
theorem qbC {w xs:List Int} {i j:Nat} (h1:i<=j) (h2:j<=w.length) (hl:w.length<=100000):qlt w xs (i:Int) (j:Int)=some (w.take i++xs++w.drop j):=by
 unfold qlt;rw[if_pos ⟨by omega,by omega,by omega,hl⟩];simp
theorem qfu {a b:List Int} (h:a.length+b.length<=100000):jJ a b=some (a++b):=by
 unfold jJ;rw[qa0 (by simp only[List.length_nil];omega) (by simp only[List.length_nil];omega),ZB,List.nil_append,qa0 (by omega) (by omega),ZB]
theorem yS {n c:Int}:qaH n c=true↔c≠0/\ -n<c/\c<n:=by
 unfold qaH;simp only[Bool.and_eq_true,decide_eq_true_eq];constructor
 ·rintro⟨⟨a,b⟩,c⟩;exact⟨a,b,c⟩
 rintro⟨a,b,c⟩;exact⟨⟨a,b⟩,c⟩
def qlA (n:Int) (w:List Int) (r:List Int×Int):Prop:=(r.2≠0->r.1=[])/\(r.2=0->r.1.length<=w.length+2/\ ∀c∈r.1,qaH n c=true)
theorem qlA.bad {n:Int} {w:List Int} {e:Int} (h:e≠0):qlA n w ([],e):=⟨fun _=>rfl,fun g=>absurd g h⟩
theorem qlA.good {n:Int} {w xs:List Int} {i j:Nat} (hw: ∀c∈w,qaH n c=true) (hx: ∀c∈xs,qaH n c=true) (h1:i<=j) (h2:j<=w.length) (hl:xs.length<=j-i+2):qlA n w (w.take i++xs++w.drop j,0):=by
 refine⟨fun h=>absurd rfl h,fun _=>⟨?_,fun c hc=>?_⟩⟩
 ·simp only[Yq,Ym,YJ];omega
 rcases List.mem_append.1 hc with hc|hc
 ·rcases List.mem_append.1 hc with hc|hc
  ·exact hw c (List.mem_of_mem_take hc)
  exact hx c hc
 exact hw c (List.mem_of_mem_drop hc)
theorem vD {w:List Int} (h:w.length<=100000):qdW w=some ():=by
 unfold qdW;rw[if_pos (by omega)]
theorem qjI {w:List Int} {i j:Nat} (h1:i<=j) (h2:j<=w.length):cut w (i:Int) (j:Int)=some ((w.drop i).take (j-i)):=by
 unfold cut;rw[if_pos ⟨by omega,by omega,by omega⟩];simp
theorem qgN (at_:Int) (L k:Nat) (hL:L<=100000) (hk:k<=10):(at_<0/\True)\/(¬at_<0/\at_>w64 ((L:Int)-k))\/(¬at_<0/\ ¬at_>w64 ((L:Int)-k)/\ ∃i:Nat,at_=i/\i+k<=L):=by
 rw[qz (by omega) (by omega)];by_cases a:at_<0
 ·exact .inl ⟨a,trivial⟩
 by_cases b:at_>(L:Int)-k
 ·exact .inr (.inl ⟨a,b⟩)
 exact .inr (.inr ⟨a,b,at_.toNat,by omega,by omega⟩)
theorem qfM {w:List Int} {i:Nat} {x y:Int} (hx:w[i]? =some x) (hy:w[i+1]? =some y):cut w (i:Int) ((i+2:Nat):Int)=some [x,y]:=by
 obtain⟨h1,e1⟩:=Yb.1 hx;obtain⟨h2,e2⟩:=Yb.1 hy;rw[qjI (by omega) (by omega),show i+2-i=2 by omega,YG h1,YG h2,e1,e2];rfl
theorem qlE {w:List Int} {i:Nat} {x y z:Int} (hx:w[i]? =some x) (hy:w[i+1]? =some y) (hz:w[i+2]? =some z):cut w (i:Int) ((i+3:Nat):Int)=some [x,y,z]:=by
 obtain⟨h1,e1⟩:=Yb.1 hx;obtain⟨h2,e2⟩:=Yb.1 hy;obtain⟨h3,e3⟩:=Yb.1 hz;rw[qjI (by omega) (by omega),show i+3-i=3 by omega,YG h1,YG h2,YG h3,e1,e2,e3];rfl
theorem qqm {n x y z:Int} (bx:x≠0/\ -n<x/\x<n) (by_:y≠0/\ -n<y/\y<n) (bz:z≠0/\ -n<z/\z<n) (h2:n<=12) (A:Int):
 ∃r:List Int×Bool,xO [x,y,z]=some r.2/\qds x y z=some r/\True/\(r.2=true->yE [x,y,z] [116,117,114,110] A 0=some r.1/\r.1.length=3/\ ∀c∈r.1,c≠0/\ -n<c/\c<n):=by
 have k0:idx [x,y,z] 0=some x:=rfl;have k1:idx [x,y,z] 1=some y:=rfl;have k2:idx [x,y,z] 2=some z:=rfl;have ax:=zW (show-1000<x/\x<1000 by omega);have ay:=zW (show-1000<y/\y<1000 by omega);have az:=zW (show-1000<z/\z<1000 by omega);have sx:=qcn (show-1000<x/\x<1000 by omega);have sy:=qcn (show-1000<y/\y<1000 by omega);have sz:=qcn (show-1000<z/\z<1000 by omega);have e0:w64 (((x.natAbs:Nat):Int)-((y.natAbs:Nat):Int))=(x.natAbs:Int)-(y.natAbs:Int):=qz (by omega) (by omega);have ad:=zW (show-1000<(x.natAbs:Int)-(y.natAbs:Int)/\(x.natAbs:Int)-(y.natAbs:Int)<1000 by omega);have sd:=qcn (show-1000<(x.natAbs:Int)-(y.natAbs:Int)/\(x.natAbs:Int)-(y.natAbs:Int)<1000 by omega);have gx:=qjj x;have gy:=qjj y;have gz:=qjj z;have hx:=qhj bx.1;have hy:=qhj by_.1;have hz:=qhj bz.1;rw[gx]at hx;rw[gy]at hy;rw[gz]at hz;unfold xO qds yE;simp only[k0,k1,k2,ZB,ax,ay,az,sx,sy,sz,e0,ad,sd,gx,gy,gz,hx,hy,hz];by_cases c1:((x.natAbs:Nat):Int)=((z.natAbs:Nat):Int)
 ·by_cases c2:((((x.natAbs:Int)-(y.natAbs:Int)).natAbs:Nat):Int)=1
  ·simp only[if_pos c1,if_pos c2,decide_eq_true c1,decide_eq_true c2,Bool.not_true,ZF,if_false,ZB];generalize hX:(if x<0 then(-1:Int)else 1)=X at*;generalize hY:(if y<0 then(-1:Int)else 1)=Y at*;generalize hZ:(if z<0 then(-1:Int)else 1)=Z at*
   have rX:X= -1\/X=1:=by rw[<-hX];split<;>omega
   have rZ:Z= -1\/Z=1:=by rw[<-hZ];split<;>omega
   have wZ:w64 (Z*(y.natAbs:Int))=Z*(y.natAbs:Int):=by rcases rZ with rfl|rfl<;>exact qz (by omega) (by omega)
   have wX:w64 (X*(y.natAbs:Int))=X*(y.natAbs:Int):=by rcases rX with rfl|rfl<;>exact qz (by omega) (by omega)
   by_cases d1:X=Y
   ·simp only[if_pos d1,ZB];refine⟨([w64 (Z*(y.natAbs:Int)),x,y],true),rfl,rfl,trivial,fun _=>⟨rfl,rfl,fun c hc=>?_⟩⟩;simp only[wZ]at hc;simp only[List.mem_cons,List.not_mem_nil,or_false]at hc;rcases hc with rfl|rfl|rfl
    ·rcases rZ with rfl|rfl<;>omega
    ·exact bx
    exact by_
   by_cases d2:Y=Z
   ·simp only[if_neg d1,if_pos d2,decide_eq_true d2,ZB];refine⟨([y,z,w64 (X*(y.natAbs:Int))],true),rfl,rfl,trivial,fun _=>⟨rfl,rfl,fun c hc=>?_⟩⟩;simp only[wX]at hc;simp only[List.mem_cons,List.not_mem_nil,or_false]at hc;rcases hc with rfl|rfl|rfl
    ·exact by_
    ·exact bz
    rcases rX with rfl|rfl<;>omega
   simp only[if_neg d1,if_neg d2,decide_eq_false d2,ZB];exact⟨([],false),rfl,rfl,trivial,fun h=>by cases h⟩
  simp only[if_pos c1,decide_eq_true c1,if_neg c2,decide_eq_false c2,Bool.not_true,Bool.not_false,ZF,if_false,if_true,ZB];exact⟨([],false),rfl,rfl,trivial,fun h=>by cases h⟩
 simp only[if_neg c1,decide_eq_false c1,Bool.not_false,if_true,ZB];exact⟨([],false),rfl,rfl,trivial,fun h=>by cases h⟩
section
variable {N:Nat} (hN:2000<N) {n:Int} (h1:1<=n) (h2:n<=12) {w:List Int} (hw:w.length<=20000) (hv: ∀c∈w,qaH n c=true) {m:qx}
include hN h1 h2 hw hv
theorem qv0 (hk:m.Kind=[105,110,115,101,114,116]): ∃r,qJ N n w m=some r/\qau n w m=some r/\qlA n w r:=by
 obtain⟨K,A,L⟩:=m;obtain rfl:=hk;unfold qJ qau jV qba;simp only[beq_self_eq_true,if_true,ZB,Bool.not_true,ZF,if_false,jG,qeh h1 h2,letter_eq h1 h2,Bool.not_not,show¬((0:Int)<0)by omega,show¬((0:Int)>0)by omega]
 have bf: ∀a b c d:Int,qO N [a,b,c,d]=some (qeN [a,b,c,d]):=fun a b c d=>qan (by simp) (by simp;omega)
 simp only[bf,ZB]
 cases hL:qaH n L with
 |false=>
  simp only[Bool.not_false,if_true,qdK,qgh (show(3:Int)≠0 by decide),ZB]
  have e: ∀x:Int,(Option.bind (if A<0 then some ((0:Int),(0:Int),(3:Int),(3:Int),(3:Int))else some (0,0,3,x,3)) fun y:Int×Int×Int×Int×Int=>(some y.2.2.2.2))=some 3:=fun x=>by split<;>rfl
  by_cases a:A<0
  ·simp only[if_pos a,ZB];exact⟨([],3),rfl,rfl,.bad (by decide)⟩
  simp only[if_neg a,ZB];exact⟨([],3),rfl,rfl,.bad (by decide)⟩
 |true=>
  simp only[Bool.not_true,ZF,if_false,qdK,qjC,ZB];rcases qgN A w.length 0 (by omega) (by omega)with⟨a,_⟩|⟨a,b⟩|⟨a,b,i,rfl,hi⟩
  ·simp only[if_pos a,ZB,if_true];exact⟨([],3),rfl,rfl,.bad (by decide)⟩
  ·have b:decide (A>w64 ((w.length:Int)-0))=true:=decide_eq_true b;simp only[if_neg a,ZB,b,if_true];exact⟨([],3),rfl,rfl,.bad (by decide)⟩
  have b:decide ((i:Int)>w64 ((w.length:Int)-0))=false:=decide_eq_false b
  have z:w64 ((i:Int)+0)=(i:Int):=by rw[qz (by omega) (by omega)];omega
  have wL:w64 (0-L)= -L:=by have:=yS.1 hL;rw[qz (by omega) (by omega)];omega
  simp only[if_neg a,ZB,b,ZF,if_false,decide_true,Bool.not_true,z];have c1:=qjI (w:=w) (i:=i) (j:=i) (Nat.le_refl _) (by omega);have c2:=qfd (l:=w) (k:=i) (by omega);have c3:=qgT (l:=w) (k:=i) (by omega)
  have r2:qcN w (i:Int) (i:Int) L (-L)=some (w.take i++[L,-L]++w.drop i):=by
   unfold qcN;rw[if_pos (.inl rfl),qbC (Nat.le_refl _) (by omega) (by omega)]
  rw[c1,c2,c3];simp only[ZB,qaq,vD (show w.length<=100000 by omega),yz,wL,Bool.not_true,ZF,if_false];rw[r2,qfu (by simp;omega),ZB,ZB,qfu (by simp;omega),ZB]
  exact⟨_,rfl,rfl,.good hv (fun c hc=>by
   have:=yS.1 hL;simp only[List.mem_cons,List.not_mem_nil,or_false]at hc;rcases hc with rfl|rfl
   ·exact hL
   exact yS.2 (by omega)) (Nat.le_refl _) (by omega) (by simp)⟩
theorem qvp (hk:m.Kind=[99,97,110,99,101,108]): ∃r,qJ N n w m=some r/\qau n w m=some r/\qlA n w r:=by
 obtain⟨K,A,L⟩:=m;obtain rfl:=hk
 have f1:([99,97,110,99,101,108]==([105,110,115,101,114,116]:Str))=false:=by decide
 have f2:([115,119,97,112]==([105,110,115,101,114,116]:Str))=false:=by decide
 have f3:([115,119,97,112]==([99,97,110,99,101,108]:Str))=false:=by decide
 have f4:([116,117,114,110]==([105,110,115,101,114,116]:Str))=false:=by decide
 have f5:([116,117,114,110]==([99,97,110,99,101,108]:Str))=false:=by decide
 have f6:([116,117,114,110]==([115,119,97,112]:Str))=false:=by decide
 unfold qJ qau jV qba;simp only[f1,f2,f3,f4,f5,f6,beq_self_eq_true,if_true,ZB,Bool.not_true,Bool.not_false,ZF,if_false,jG,show¬((2:Int)<0)by omega,show((2:Int)>0)by omega,show¬((2:Int)=0)by omega]
 have bf: ∀a b c d:Int,qO N [a,b,c,d]=some (qeN [a,b,c,d]):=fun a b c d=>qan (by simp) (by simp;omega)
 simp only[bf,ZB];by_cases hL:L=0
 ·subst hL;simp only[decide_true,Bool.not_true,ZF,if_false,qdK,qjC,ZB];rcases qgN A w.length 2 (by omega) (by omega)with⟨a,_⟩|⟨a,b⟩|⟨a,b,i,rfl,hi⟩
  ·simp only[if_pos a,ZB,if_true];exact⟨([],3),rfl,rfl,.bad (by decide)⟩
  ·have b:decide (A>w64 ((w.length:Int)-2))=true:=decide_eq_true b;simp only[if_neg a,ZB,b,if_true];exact⟨([],3),rfl,rfl,.bad (by decide)⟩
  have b:decide ((i:Int)>w64 ((w.length:Int)-2))=false:=decide_eq_false b
  have z:w64 ((i:Int)+2)=((i+2:Nat):Int):=by rw[qz (by omega) (by omega)];rfl
  have z1:w64 ((i:Int)+1)=((i+1:Nat):Int):=qR (by omega);simp only[if_neg a,ZB,b,ZF,if_false,decide_true,Bool.not_true,z,z1];obtain⟨x,hx⟩: ∃x,w[i]? =some x:=⟨_,Ya (by omega)⟩;obtain⟨y,hy⟩: ∃x,w[i+1]? =some x:=⟨_,Ya (by omega)⟩;rw[qfM hx hy,qfd (by omega),qgT (by omega),qw,hx,qw,hy];simp only[ZB];have k3:xZ [x,y]=some (decide (x=w64 (0-y))):=rfl;rw[k3];simp only[ZB];by_cases e:x=w64 (0-y)
  ·rw[decide_eq_true e];simp only[Bool.not_true,ZF,if_false,vD (show w.length<=100000 by omega),ZB,yw]
   have r0:qha w (i:Int) ((i+2:Nat):Int)=some (w.take i++[]++w.drop (i+2)):=by
    unfold qha;rw[if_pos (by omega),qbC (by omega) (by omega) (by omega)]
   rw[r0,qfu (by simp;omega),ZB,ZB,qfu (by simp;omega),ZB];exact⟨_,rfl,rfl,.good hv (fun c hc=>by cases hc) (by omega) (by omega) (by simp)⟩
  rw[decide_eq_false e];simp only[Bool.not_false,if_true];exact⟨([],18),rfl,rfl,.bad (by decide)⟩
 have d:decide (L=0)=false:=decide_eq_false hL;simp only[d,Bool.not_false,if_true,qdK,qgh (show(1:Int)≠0 by decide),ZB];by_cases a:A<0
 ·simp only[if_pos a,ZB];exact⟨([],1),rfl,rfl,.bad (by decide)⟩
 simp only[if_neg a,ZB];exact⟨([],1),rfl,rfl,.bad (by decide)⟩
theorem qvJ (hk:m.Kind=[115,119,97,112]): ∃r,qJ N n w m=some r/\qau n w m=some r/\qlA n w r:=by
 obtain⟨K,A,L⟩:=m;obtain rfl:=hk
 have f1:([99,97,110,99,101,108]==([105,110,115,101,114,116]:Str))=false:=by decide
 have f2:([115,119,97,112]==([105,110,115,101,114,116]:Str))=false:=by decide
 have f3:([115,119,97,112]==([99,97,110,99,101,108]:Str))=false:=by decide
 have f4:([116,117,114,110]==([105,110,115,101,114,116]:Str))=false:=by decide
 have f5:([116,117,114,110]==([99,97,110,99,101,108]:Str))=false:=by decide
 have f6:([116,117,114,110]==([115,119,97,112]:Str))=false:=by decide
 unfold qJ qau jV qba;simp only[f1,f2,f3,f4,f5,f6,beq_self_eq_true,if_true,ZB,Bool.not_true,Bool.not_false,ZF,if_false,jG,show¬((2:Int)<0)by omega,show((2:Int)>0)by omega,show¬((2:Int)=0)by omega]
 have bf: ∀a b c d:Int,qO N [a,b,c,d]=some (qeN [a,b,c,d]):=fun a b c d=>qan (by simp) (by simp;omega)
 simp only[bf,ZB];by_cases hL:L=0
 ·subst hL;simp only[decide_true,Bool.not_true,ZF,if_false,qdK,qjC,ZB];rcases qgN A w.length 2 (by omega) (by omega)with⟨a,_⟩|⟨a,b⟩|⟨a,b,i,rfl,hi⟩
  ·simp only[if_pos a,ZB,if_true];exact⟨([],3),rfl,rfl,.bad (by decide)⟩
  ·have b:decide (A>w64 ((w.length:Int)-2))=true:=decide_eq_true b;simp only[if_neg a,ZB,b,if_true];exact⟨([],3),rfl,rfl,.bad (by decide)⟩
  have b:decide ((i:Int)>w64 ((w.length:Int)-2))=false:=decide_eq_false b
  have z:w64 ((i:Int)+2)=((i+2:Nat):Int):=by rw[qz (by omega) (by omega)];rfl
  have z1:w64 ((i:Int)+1)=((i+1:Nat):Int):=qR (by omega);simp only[if_neg a,ZB,b,ZF,if_false,decide_true,Bool.not_true,z,z1];obtain⟨x,hx⟩: ∃x,w[i]? =some x:=⟨_,Ya (by omega)⟩;obtain⟨y,hy⟩: ∃x,w[i+1]? =some x:=⟨_,Ya (by omega)⟩;have lx:=hv x (Yn hx);have ly:=hv y (Yn hy);have bx:=yS.1 lx;have by_:=yS.1 ly;rw[qfM hx hy,qfd (by omega),qgT (by omega),qw,hx,qw,hy];simp only[ZB];have k0:idx [x,y] 0=some x:=rfl;have k1:idx [x,y] 1=some y:=rfl;have e0:w64 (((x.natAbs:Nat):Int)-((y.natAbs:Nat):Int))=(x.natAbs:Int)-(y.natAbs:Int):=qz (by omega) (by omega)
  have k5:vC [x,y]=some (decide (((((x.natAbs:Int)-(y.natAbs:Int)).natAbs:Nat):Int)>=2)):=by
   unfold vC;simp only[k0,k1,ZB,zW (show-1000<x/\x<1000 by omega),zW (show-1000<y/\y<1000 by omega),e0,zW (show-1000<(x.natAbs:Int)-(y.natAbs:Int)/\(x.natAbs:Int)-(y.natAbs:Int)<1000 by omega)]
  rw[k5];simp only[ZB,qcn (show-1000<x/\x<1000 by omega),qcn (show-1000<y/\y<1000 by omega),e0,qcn (show-1000<(x.natAbs:Int)-(y.natAbs:Int)/\(x.natAbs:Int)-(y.natAbs:Int)<1000 by omega)];by_cases e:((((x.natAbs:Int)-(y.natAbs:Int)).natAbs:Nat):Int)>=2
  ·rw[decide_eq_true e,if_neg (show¬((((x.natAbs:Int)-(y.natAbs:Int)).natAbs:Nat):Int)<2 by omega)];have k6:yA [x,y] [115,119,97,112] (i:Int) 0=some (y,x):=rfl;simp only[Bool.not_true,ZF,if_false,vD (show w.length<=100000 by omega),ZB,k6]
   have r2:qcN w (i:Int) ((i+2:Nat):Int) y x=some (w.take i++[y,x]++w.drop (i+2)):=by
    unfold qcN;rw[if_pos (.inr (by omega)),qbC (by omega) (by omega) (by omega)]
   rw[r2,qfu (by simp;omega),ZB,ZB,qfu (by simp;omega),ZB]
   exact⟨_,rfl,rfl,.good hv (fun c hc=>by
    simp only[List.mem_cons,List.not_mem_nil,or_false]at hc;rcases hc with rfl|rfl
    ·exact ly
    exact lx) (by omega) (by omega) (by simp)⟩
  rw[decide_eq_false e,if_pos (show((((x.natAbs:Int)-(y.natAbs:Int)).natAbs:Nat):Int)<2 by omega)];simp only[Bool.not_false,if_true];exact⟨([],18),rfl,rfl,.bad (by decide)⟩
 have d:decide (L=0)=false:=decide_eq_false hL;simp only[d,Bool.not_false,if_true,qdK,qgh (show(1:Int)≠0 by decide),ZB];by_cases a:A<0
 ·simp only[if_pos a,ZB];exact⟨([],1),rfl,rfl,.bad (by decide)⟩
 simp only[if_neg a,ZB];exact⟨([],1),rfl,rfl,.bad (by decide)⟩
theorem qv2 (hk:m.Kind=[116,117,114,110]): ∃r,qJ N n w m=some r/\qau n w m=some r/\qlA n w r:=by
 obtain⟨K,A,L⟩:=m;obtain rfl:=hk
 have f1:([99,97,110,99,101,108]==([105,110,115,101,114,116]:Str))=false:=by decide
 have f2:([115,119,97,112]==([105,110,115,101,114,116]:Str))=false:=by decide
 have f3:([115,119,97,112]==([99,97,110,99,101,108]:Str))=false:=by decide
 have f4:([116,117,114,110]==([105,110,115,101,114,116]:Str))=false:=by decide
 have f5:([116,117,114,110]==([99,97,110,99,101,108]:Str))=false:=by decide
 have f6:([116,117,114,110]==([115,119,97,112]:Str))=false:=by decide
 unfold qJ qau jV qba;simp only[f1,f2,f3,f4,f5,f6,beq_self_eq_true,if_true,ZB,Bool.not_true,Bool.not_false,ZF,if_false,jG,show¬((3:Int)<0)by omega,show((3:Int)>0)by omega,show¬((3:Int)=0)by omega]
 have bf: ∀a b c d:Int,qO N [a,b,c,d]=some (qeN [a,b,c,d]):=fun a b c d=>qan (by simp) (by simp;omega)
 simp only[bf,ZB];by_cases hL:L=0
 ·subst hL;simp only[decide_true,Bool.not_true,ZF,if_false,qdK,qjC,ZB];rcases qgN A w.length 3 (by omega) (by omega)with⟨a,_⟩|⟨a,b⟩|⟨a,b,i,rfl,hi⟩
  ·simp only[if_pos a,ZB,if_true];exact⟨([],3),rfl,rfl,.bad (by decide)⟩
  ·have b:decide (A>w64 ((w.length:Int)-3))=true:=decide_eq_true b;simp only[if_neg a,ZB,b,if_true];exact⟨([],3),rfl,rfl,.bad (by decide)⟩
  have b:decide ((i:Int)>w64 ((w.length:Int)-3))=false:=decide_eq_false b
  have z:w64 ((i:Int)+3)=((i+3:Nat):Int):=by rw[qz (by omega) (by omega)];rfl
  have z1:w64 ((i:Int)+1)=((i+1:Nat):Int):=qR (by omega);simp only[if_neg a,ZB,b,ZF,if_false,decide_true,Bool.not_true,z,z1];obtain⟨x,hx⟩: ∃x,w[i]? =some x:=⟨_,Ya (by omega)⟩;obtain⟨y,hy⟩: ∃x,w[i+1]? =some x:=⟨_,Ya (by omega)⟩;obtain⟨v,hz⟩: ∃x,w[i+2]? =some x:=⟨_,Ya (by omega)⟩;have lx:=hv x (Yn hx);have ly:=hv y (Yn hy);have lz:=hv v (Yn hz);have bx:=yS.1 lx;have by_:=yS.1 ly;have bz:=yS.1 lz;rw[show w64 ((i:Int)+2)=((i+2:Nat):Int)by rw[qz (by omega) (by omega)];rfl,qlE hx hy hz,qfd (by omega),qgT (by omega),qw,hx,qw,hy,qw,hz];simp only[ZB];obtain⟨r,t1,t2,t3,t4⟩:=qqm bx by_ bz h2 (i:Int);rw[t1,t2];simp only[ZB]
  cases hr:r.2 with
  |false=>
   simp only[Bool.not_false,if_true];exact⟨([],18),rfl,rfl,.bad (by decide)⟩
  |true=>
   obtain⟨t5,t6,t7⟩:=t4 hr;simp only[Bool.not_true,ZF,if_false,vD (show w.length<=100000 by omega),ZB,t5]
   have r2:qgw w (i:Int) ((i+3:Nat):Int) r.1=some (w.take i++r.1++w.drop (i+3)):=by
    unfold qgw;rw[if_pos ⟨by omega,by rw[t6];omega⟩,qbC (by omega) (by omega) (by omega)]
   rw[r2,qfu (by simp[t6];omega),ZB,ZB,qfu (by simp[t6];omega),ZB];exact⟨_,rfl,rfl,.good hv (fun c hc=>yS.2 (t7 c hc)) (by omega) (by omega) (by rw[t6];omega)⟩
 have d:decide (L=0)=false:=decide_eq_false hL;simp only[d,Bool.not_false,if_true,qdK,qgh (show(1:Int)≠0 by decide),ZB];by_cases a:A<0
 ·simp only[if_pos a,ZB];exact⟨([],1),rfl,rfl,.bad (by decide)⟩
 simp only[if_neg a,ZB];exact⟨([],1),rfl,rfl,.bad (by decide)⟩
end
def tr5 (i k:Nat):Nat:=if k=i then i+1 else if k=i+1 then i else k
theorem qg3 (i k:Nat):tr5 i (tr5 i k)=k:=by
 unfold tr5;by_cases a:k=i
 ·subst a;simp
 by_cases b:k=i+1
 ·subst b;simp
 simp[a,b]
theorem qcP (i:Nat):tr5 i i=i+1:=by simp[tr5]
theorem qcM (i:Nat):tr5 i (i+1)=i:=by simp[tr5]
theorem yu {i k:Nat} (a:k≠i) (b:k≠i+1):tr5 i k=k:=by simp[tr5,a,b]
theorem qah (i k:Nat):(k=i/\tr5 i k=i+1)\/(k=i+1/\tr5 i k=i)\/(k≠i/\k≠i+1/\tr5 i k=k):=by
 by_cases a:k=i
 ·subst a;exact .inl ⟨rfl,qcP k⟩
 by_cases b:k=i+1
 ·subst b;exact .inr (.inl ⟨rfl,qcM i⟩)
 exact .inr (.inr ⟨a,b,yu a b⟩)
theorem qjS {i j:Nat} (h:i+1<j\/j+1<i) (k:Nat):tr5 i (tr5 j k)=tr5 j (tr5 i k):=by
 by_cases a:k=i
 ·subst a;rw[yu (i:=j) (k:=k) (by omega) (by omega),qcP,yu (i:=j) (k:=k+1) (by omega) (by omega)]
 by_cases b:k=i+1
 ·subst b;rw[yu (i:=j) (k:=i+1) (by omega) (by omega),qcM,yu (i:=j) (k:=i) (by omega) (by omega)]
 rw[yu (i:=i) (k:=k) a b];rcases qah j k with⟨c,e⟩|⟨c,e⟩|⟨c,c',e⟩<;>rw[e]
 ·exact yu (by omega) (by omega)
 ·exact yu (by omega) (by omega)
 exact yu a b
theorem qhq (i k:Nat):tr5 i (tr5 (i+1) (tr5 i k))=tr5 (i+1) (tr5 i (tr5 (i+1) k)):=by
 have a1:=qcP i;have a2:=qcM i;have a3:tr5 i (i+1+1)=i+1+1:=yu (by omega) (by omega);have b1:=qcP (i+1);have b2:=qcM (i+1);have b3:tr5 (i+1) i=i:=yu (by omega) (by omega);by_cases a:k=i
 ·subst a;rw[a1,b1,a3,b3,a1,b1]
 by_cases b:k=i+1
 ·subst b;rw[a2,b3,a1,b1,a3,b2]
 by_cases c:k=i+1+1
 ·subst c;rw[a3,b2,a2,b3]
 rw[yu (i:=i) (k:=k) a b,yu (i:=i+1) (k:=k) b c,yu (i:=i) (k:=k) a b,yu (i:=i+1) (k:=k) b c]
structure SB where
 f:Nat->Nat
 g:Nat->Nat
 gf: ∀k,g (f k)=k
 fg: ∀k,f (g k)=k
theorem SB.ext {s t:SB} (h: ∀k,s.f k=t.f k):s=t:=by
 obtain⟨f,g,a,b⟩:=s;obtain⟨f',g',a',b'⟩:=t;have e:f=f':=funext h;subst e
 have e:g=g':=funext fun k=>by
  have:=a (g' k)
  rwa [b']at this
 subst e;rfl
theorem SB.finj (s:SB) {a b:Nat} (h:s.f a=s.f b):a=b:=by
 have:=congrArg s.g h
 rwa [s.gf,s.gf]at this
theorem SB.ginj (s:SB) {a b:Nat} (h:s.g a=s.g b):a=b:=by
 have:=congrArg s.f h
 rwa [s.fg,s.fg]at this
def SB.fr (s:SB) (i:Nat):SB:=⟨fun k=>s.f (tr5 i k),fun k=>tr5 i (s.g k),fun k=>by rw[s.gf,qg3],fun k=>by rw[qg3,s.fg]⟩
def SB.bk (s:SB) (i:Nat):SB:=⟨fun k=>tr5 i (s.f k),fun k=>s.g (tr5 i k),fun k=>by rw[qg3,s.gf],fun k=>by rw[s.fg,qg3]⟩
def SB.Begs (s:SB) (i:Nat):Prop:=s.f (i+1)<s.f i
def SB.Ends (s:SB) (i:Nat):Prop:=s.g (i+1)<s.g i
theorem SB.nEnds {s:SB} {i:Nat} (h: ¬s.Ends i):s.g i<s.g (i+1):=by
 unfold SB.Ends at h
 have:s.g i≠s.g (i+1):=fun e=>by have:=s.ginj e;omega
 omega
def psh (L:Nat->SB) (k i:Nat):Nat->SB:=fun q=>if q=k then(L k).bk i else if q=k+1 then(L (k+1)).fr i else L q
theorem yN (L:Nat->SB) (k i:Nat):psh L k i k=(L k).bk i:=by simp[psh]
theorem jF (L:Nat->SB) (k i:Nat):psh L k i (k+1)=(L (k+1)).fr i:=by simp[psh]
theorem jl (L:Nat->SB) {k i q:Nat} (a:q≠k) (b:q≠k+1):psh L k i q=L q:=by simp[psh,a,b]
structure qaR (n m:Nat) (L:Nat->SB) (k i:Nat):Prop where
 k_:k+1<m
 i_:i+1<n
 b_:(L (k+1)).Begs i
 e_: ¬(L k).Ends i
inductive Psh (n m:Nat):(Nat->SB)->(Nat->SB)->Prop
 |mk {L:Nat->SB} {k i:Nat} (h:qaR n m L k i):Psh n m L (psh L k i)
inductive Pst (n m:Nat):(Nat->SB)->(Nat->SB)->Prop
 |refl {L:Nat->SB}:Pst n m L L
 |head {L L1 A:Nat->SB} (h:Psh n m L L1) (t:Pst n m L1 A):Pst n m L A
theorem Pst.trans {n m:Nat} {L A B:Nat->SB} (h:Pst n m L A) (k:Pst n m A B):Pst n m L B:=by
 induction h with
 |refl=>exact k
 |head h _ ih=>exact .head h (ih k)
theorem Pst.one {n m:Nat} {L A:Nat->SB} (h:Psh n m L A):Pst n m L A:= .head h .refl
def Nf (n m:Nat) (L:Nat->SB):Prop:= ∀k i,¬qaR n m L k i
def qhH:List Nat->Nat
 |[]=>0
 |x::r=>r.countP (fun y=>decide (y<x))+qhH r
theorem qkK {x y:Nat} (h:y<x) (b:List Nat): ∀a:List Nat,qhH (a++y::x::b)+1=qhH (a++x::y::b)
 |[]=>by
  simp only[List.nil_append,qhH,List.countP_cons];rw[decide_eq_true h,decide_eq_false (show¬x<y by omega)];simp only[if_true,ZF,if_false];omega
 |z::a=>by
  simp only[List.cons_append,qhH];have:=qkK h b a;simp only[List.countP_append,List.countP_cons];omega
theorem quM {i:Nat}: ∀r:List Nat,r.Nodup->i∉r->r.countP (fun y=>decide (tr5 i y<i+1))<=r.countP (fun y=>decide (y<i))+(if i+1∈r then 1 else 0)
 |[],_,_=>by simp
 |y::r,hn,hi=>by
  have hn2:=(List.nodup_cons.1 hn)
  have hi2:i∉r:=fun h=>hi (List.mem_cons_of_mem _ h)
  have hy:y≠i:=fun e=>hi (e▸List.mem_cons_self)
  have ih:=quM r hn2.2 hi2;rw[List.countP_cons,List.countP_cons];by_cases c:y=i+1
  ·subst c;rw[qcM,decide_eq_true (by omega),decide_eq_false (by omega),if_pos rfl,if_neg (by decide),if_pos List.mem_cons_self];rw[if_neg hn2.1]at ih;omega
  rw[yu hy c]
  have e1:decide (y<i+1)=decide (y<i):=by
   by_cases d:y<i
   ·rw[decide_eq_true d,decide_eq_true (by omega)]
   rw[decide_eq_false d,decide_eq_false (by omega)]
  rw[e1]
  have e2:(if i+1∈y::r then 1 else 0)=(if i+1∈r then 1 else 0:Nat):=by
   by_cases d:i+1∈r
   ·rw[if_pos d,if_pos (List.mem_cons_of_mem _ d)]
   rw[if_neg d,if_neg (fun h=>by rcases List.mem_cons.1 h with h|h;exact c h.symm;exact d h)]
  rw[e2];omega
theorem qmR {i:Nat}: ∀p:List Nat,p.Nodup->qhH (p.map (tr5 i))<=qhH p+(if i∈p then 1 else 0)
 |[],_=>by simp[qhH]
 |x::r,hn=>by
  have hn2:=(List.nodup_cons.1 hn);have ih:=qmR (i:=i) r hn2.2;simp only[List.map_cons,qhH,List.countP_map]
  have e:(fun y=>decide (y<tr5 i x))∘tr5 i=fun y=>decide (tr5 i y<tr5 i x):=rfl
  rw[e];by_cases c:x=i
  ·subst c;have hc:=quM r hn2.2 hn2.1;rw[qcP,if_pos List.mem_cons_self];rw[if_neg hn2.1]at ih
   have:(if x+1∈r then 1 else 0:Nat)<=1:=by split<;>omega
   omega
  have h1:r.countP (fun y=>decide (tr5 i y<tr5 i x))<=r.countP (fun y=>decide (y<x)):=by
   refine List.countP_mono_left fun y hy h=>?_
   have hyx:y≠x:=fun e=>hn2.1 (e▸hy)
   simp only[decide_eq_true_eq]at h⊢;rcases qah i x with⟨a,ea⟩|⟨a,ea⟩|⟨a,a',ea⟩<;>rcases qah i y with⟨b,eb⟩|⟨b,eb⟩|⟨b,b',eb⟩<;>rw[ea,eb]at h<;>omega
  have e2:(if i∈x::r then 1 else 0)=(if i∈r then 1 else 0:Nat):=by
   by_cases d:i∈r
   ·rw[if_pos d,if_pos (List.mem_cons_of_mem _ d)]
   rw[if_neg d,if_neg (fun h=>by rcases List.mem_cons.1 h with h|h;exact c h.symm;exact d h)]
  rw[e2];omega
def SB.row (n:Nat) (s:SB):List Nat:=(List.range n).map s.f
theorem Uk (n:Nat) (s:SB):(s.row n).length=n:=by simp[SB.row]
theorem Uj {n k:Nat} (s:SB) (h:k<n):(s.row n)[k]? =some (s.f k):=by simp[SB.row,List.getElem?_range h]
theorem qi8 {f:Nat->Nat} (hf: ∀a b,f a=f b->a=b): ∀l:List Nat,l.Nodup->(l.map f).Nodup
 |[],_=>List.nodup_nil
 |x::l,h=>by
  have h2:=List.nodup_cons.1 h;rw[List.map_cons,List.nodup_cons];refine⟨fun hx=>?_,qi8 hf l h2.2⟩;obtain⟨y,hy,e⟩:=List.mem_map.1 hx;exact h2.1 (hf _ _ e▸hy)
theorem SB.row_nodup (n:Nat) (s:SB):(s.row n).Nodup:=qi8 (fun _ _ h=>s.finj h) _ List.nodup_range
def SB.inv (n:Nat) (s:SB):Nat:=qhH (s.row n)
theorem qrY {l:List Nat} {i:Nat} (h:i+1<l.length):l=l.take i++l[i]::l[i+1]::l.drop (i+2):=by
 rw[<-YG h,<-YG (by omega),List.take_append_drop]
theorem SB.inv_fr {n i:Nat} {s:SB} (hi:i+1<n) (h:s.Begs i):(s.fr i).inv n+1=s.inv n:=by
 unfold SB.inv;have e1:=qrY (l:=s.row n) (i:=i) (by rw[Uk];omega);have e2:=qrY (l:=(s.fr i).row n) (i:=i) (by rw[Uk];omega)
 have g: ∀(t:SB) (k:Nat) (hk:k<(t.row n).length),(t.row n)[k]=t.f k:=fun t k hk=>by simp[SB.row]
 have t1:((s.fr i).row n).take i=(s.row n).take i:=by
  apply List.ext_getElem?;intro k;by_cases hk:k<i
  ·rw[List.getElem?_take_of_lt hk,List.getElem?_take_of_lt hk,Uj _ (by omega),Uj _ (by omega)];show some (s.f (tr5 i k))=_;rw[yu (by omega) (by omega)]
  rw[Yg (by simp;omega),Yg (by simp;omega)]
 have t2:((s.fr i).row n).drop (i+2)=(s.row n).drop (i+2):=by
  apply List.ext_getElem?;intro k;rw[YI,YI];by_cases hk:i+2+k<n
  ·rw[Uj _ hk,Uj _ hk];show some (s.f (tr5 i _))=_;rw[yu (by omega) (by omega)]
  rw[Yg (by rw[Uk];omega),Yg (by rw[Uk];omega)]
 rw[e1,e2,t1,t2,g,g,g,g];show qhH (_++s.f (tr5 i i)::s.f (tr5 i (i+1))::_)+1=_;rw[qcP,qcM];exact qkK h _ _
theorem SB.inv_bk (n i:Nat) (s:SB):(s.bk i).inv n<=s.inv n+1:=by
 unfold SB.inv
 have e:(s.bk i).row n=(s.row n).map (tr5 i):=by
  unfold SB.row;rw[List.map_map];rfl
 rw[e];have:=qmR (i:=i) (s.row n) (s.row_nodup n)
 have h2:(if i∈s.row n then 1 else 0:Nat)<=1:=by split<;>omega
 omega
def mu5 (n:Nat) (L:Nat->SB):Nat->Nat
 |0=>0
 |m+1=>mu5 n L m+m*(L m).inv n
theorem qrC {n k:Nat} {L L':Nat->SB} (h: ∀q,q<k->L' q=L q): ∀m,m<=k->mu5 n L' m=mu5 n L m
 |0,_=>rfl
 |m+1,hm=>by simp only[mu5];rw[qrC h m (by omega),h m (by omega)]
theorem qiC {n m k i:Nat} {L:Nat->SB} (h:qaR n m L k i):mu5 n (psh L k i) m<mu5 n L m:=by
 have base:mu5 n (psh L k i) (k+2)+1<=mu5 n L (k+2):=by
  simp only[mu5];rw[qrC (L':=psh L k i) (L:=L) (k:=k) (fun q hq=>jl L (by omega) (by omega)) k (Nat.le_refl _),yN,jF];have a:=SB.inv_fr h.i_ h.b_;have b:=Nat.mul_le_mul_left k (SB.inv_bk n i (L k));rw[<-a,Nat.mul_add,Nat.mul_one];rw[Nat.mul_add,Nat.mul_one]at b;omega
 have up: ∀d,mu5 n (psh L k i) (k+2+d)+1<=mu5 n L (k+2+d):=by
  intro d
  induction d with
  |zero=>exact base
  |succ d ih=>
   show mu5 n (psh L k i) (k+2+d)+(k+2+d)*(psh L k i (k+2+d)).inv n+1<=mu5 n L (k+2+d)+(k+2+d)*(L (k+2+d)).inv n;rw[jl L (q:=k+2+d) (by omega) (by omega)];omega
 have hk:=h.k_;have:=up (m-(k+2));rw[show k+2+(m-(k+2))=m by omega]at this;omega
theorem qky {n m:Nat}: ∀(M:Nat) (L:Nat->SB),mu5 n L m<=M-> ∃A,Pst n m L A/\Nf n m A
 |M,L,hM=>by
  by_cases h: ∃k i,qaR n m L k i
  ·obtain⟨k,i,h⟩:=h;have:=qiC h
   cases M with
   |zero=>omega
   |succ M=>
    obtain⟨A,h1,h2⟩:=qky (n:=n) (m:=m) M (psh L k i) (by omega);exact⟨A,.head (.mk h) h1,h2⟩
  exact⟨L,.refl,fun k i c=>h ⟨k,i,c⟩⟩
theorem qmN {s:SB} {i j:Nat} (h:i+1<j\/j+1<i):(s.fr i).Begs j↔s.Begs j:=by
 show s.f (tr5 i (j+1))<s.f (tr5 i j)↔_;rw[yu (by omega) (by omega),yu (by omega) (by omega)];rfl
theorem qm2 {s:SB} {i j:Nat} (h:i+1<j\/j+1<i):(s.bk i).Ends j↔s.Ends j:=by
 show s.g (tr5 i (j+1))<s.g (tr5 i j)↔_;rw[yu (by omega) (by omega),yu (by omega) (by omega)];rfl
theorem pst3 {n m k i j l:Nat} {L:Nat->SB} (h1:qaR n m L k i) (h2:qaR n m (psh L k i) k j) (h3:qaR n m (psh (psh L k i) k j) k l):Pst n m (psh L k i) (psh (psh (psh L k i) k j) k l):=
 .head (.mk h2) (.one (.mk h3))
theorem qtw {L:Nat->SB} {k i:Nat}:psh (psh (psh L k i) k (i+1)) k i=psh (psh (psh L k (i+1)) k i) k (i+1):=by
 funext q;by_cases a:q=k
 ·subst a;simp only[yN]
  exact SB.ext fun x=>qhq i _
 by_cases b:q=k+1
 ·subst b;simp only[jF]
  exact SB.ext fun x=>congrArg (L (k+1)).f (qhq i x)
 simp only[jl _ a b]
theorem qj7 {n m k i:Nat} {L:Nat->SB} (h:qaR n m L k i) (h':qaR n m L k (i+1)): ∃D,Pst n m (psh L k i) D/\Pst n m (psh L k (i+1)) D:=by
 have b1:(L (k+1)).f (i+1)<(L (k+1)).f i:=h.b_;have b2:(L (k+1)).f (i+2)<(L (k+1)).f (i+1):=h'.b_;have e1:=SB.nEnds h.e_;have e2:(L k).g (i+1)<(L k).g (i+2):=SB.nEnds h'.e_;have ki:=h.k_;have ii:=h.i_;have ii':=h'.i_;have t1:tr5 i (i+2)=i+2:=yu (by omega) (by omega);have t2:tr5 (i+1) i=i:=yu (by omega) (by omega);have t3:tr5 (i+1) (i+2)=i+1:=qcM (i+1);have t4:tr5 (i+1) (i+1)=i+2:=qcP (i+1)
 have p1:qaR n m (psh L k i) k (i+1):=by
  refine⟨ki,ii',?_,?_⟩
  ·rw[jF];show(L (k+1)).f (tr5 i (i+2))<(L (k+1)).f (tr5 i (i+1));rw[t1,qcM];omega
  rw[yN];show¬(L k).g (tr5 i (i+2))<(L k).g (tr5 i (i+1));rw[t1,qcM];omega
 have p2:qaR n m (psh (psh L k i) k (i+1)) k i:=by
  refine⟨ki,ii,?_,?_⟩
  ·rw[jF,jF];show(L (k+1)).f (tr5 i (tr5 (i+1) (i+1)))<(L (k+1)).f (tr5 i (tr5 (i+1) i));rw[qcP,t1,t2,qcP];omega
  rw[yN,yN];show¬(L k).g (tr5 i (tr5 (i+1) (i+1)))<(L k).g (tr5 i (tr5 (i+1) i));rw[qcP,t1,t2,qcP];omega
 have q1:qaR n m (psh L k (i+1)) k i:=by
  refine⟨ki,ii,?_,?_⟩
  ·rw[jF];show(L (k+1)).f (tr5 (i+1) (i+1))<(L (k+1)).f (tr5 (i+1) i);rw[t4,t2];omega
  rw[yN];show¬(L k).g (tr5 (i+1) (i+1))<(L k).g (tr5 (i+1) i);rw[t4,t2];omega
 have q2:qaR n m (psh (psh L k (i+1)) k i) k (i+1):=by
  refine⟨ki,ii',?_,?_⟩
  ·rw[jF,jF];show(L (k+1)).f (tr5 (i+1) (tr5 i (i+2)))<(L (k+1)).f (tr5 (i+1) (tr5 i (i+1)));rw[t1,t3,qcM,t2];omega
  rw[yN,yN];show¬(L k).g (tr5 (i+1) (tr5 i (i+2)))<(L k).g (tr5 (i+1) (tr5 i (i+1)));rw[t1,t3,qcM,t2];omega
 exact⟨_,pst3 h p1 p2,qtw▸pst3 h' q1 q2⟩
theorem qrL {n m k i j:Nat} {L:Nat->SB} (hd:i+1<j\/j+1<i) (h:qaR n m L k i) (h':qaR n m L k j): ∃D,Pst n m (psh L k i) D/\Pst n m (psh L k j) D:=by
 have p1:qaR n m (psh L k i) k j:=⟨h.k_,h'.i_,by rw[jF,qmN hd];exact h'.b_,by rw[yN,qm2 hd];exact h'.e_⟩;have p2:qaR n m (psh L k j) k i:=⟨h.k_,h.i_,by rw[jF,qmN (i:=j) (j:=i) (by omega)];exact h.b_,by rw[yN,qm2 (i:=j) (j:=i) (by omega)];exact h.e_⟩
 have e:psh (psh L k i) k j=psh (psh L k j) k i:=by
  funext q;by_cases a:q=k
  ·subst a;simp only[yN]
   exact SB.ext fun x=>qjS (i:=j) (j:=i) (by omega) _
  by_cases b:q=k+1
  ·subst b;simp only[jF]
   exact SB.ext fun x=>congrArg (L (k+1)).f (qjS (i:=i) (j:=j) (by omega) x)
  simp only[jl _ a b]
 exact⟨_,.one (.mk p1),e▸ .one (.mk p2)⟩
theorem qkn {n m k i j:Nat} {L:Nat->SB} (h:qaR n m L k i) (h':qaR n m L (k+1) j): ∃D,Pst n m (psh L k i) D/\Pst n m (psh L (k+1) j) D:=by
 have b1:(L (k+1)).f (i+1)<(L (k+1)).f i:=h.b_;have e2:(L (k+1)).g j<(L (k+1)).g (j+1):=SB.nEnds h'.e_;have gf:=(L (k+1)).gf;have fg:=(L (k+1)).fg
 have p1:qaR n m (psh L k i) (k+1) j:=by
  refine⟨h'.k_,h'.i_,?_,?_⟩
  ·rw[jl L (q:=k+1+1) (by omega) (by omega)];exact h'.b_
  rw[jF];show¬tr5 i ((L (k+1)).g (j+1))<tr5 i ((L (k+1)).g j);rcases qah i ((L (k+1)).g (j+1))with⟨a,ea⟩|⟨a,ea⟩|⟨a,a',ea⟩<;>rcases qah i ((L (k+1)).g j)with⟨b,eb⟩|⟨b,eb⟩|⟨b,b',eb⟩<;>rw[ea,eb]<;>try omega
  have x1:=fg (j+1);have x2:=fg j;rw[a]at x1;rw[b]at x2;omega
 have p2:qaR n m (psh L (k+1) j) k i:=by
  refine⟨h.k_,h.i_,?_,?_⟩
  ·rw[yN];show tr5 j ((L (k+1)).f (i+1))<tr5 j ((L (k+1)).f i);rcases qah j ((L (k+1)).f (i+1))with⟨a,ea⟩|⟨a,ea⟩|⟨a,a',ea⟩<;>rcases qah j ((L (k+1)).f i)with⟨b,eb⟩|⟨b,eb⟩|⟨b,b',eb⟩<;>rw[ea,eb]<;>try omega
   have x1:=gf (i+1);have x2:=gf i;rw[a]at x1;rw[b]at x2;omega
  rw[jl L (q:=k) (by omega) (by omega)];exact h.e_
 have e:psh (psh L k i) (k+1) j=psh (psh L (k+1) j) k i:=by
  funext q;by_cases a:q=k
  ·subst a;rw[jl _ (q:=q) (by omega) (by omega),yN,yN,jl _ (q:=q) (by omega) (by omega)]
  by_cases b:q=k+1
  ·subst b;rw[yN,jF,jF,yN];rfl
  by_cases c:q=k+1+1
  ·subst c;rw[jF,jl _ (q:=k+1+1) (by omega) (by omega),jl _ (q:=k+1+1) (by omega) (by omega),jF]
  rw[jl _ b c,jl _ a b,jl _ a b,jl _ b c]
 exact⟨_,.one (.mk p1),e▸ .one (.mk p2)⟩
theorem qjL {n m k k' i j:Nat} {L:Nat->SB} (hk:k+1<k') (h:qaR n m L k i) (h':qaR n m L k' j): ∃D,Pst n m (psh L k i) D/\Pst n m (psh L k' j) D:=by
 have p1:qaR n m (psh L k i) k' j:=⟨h'.k_,h'.i_,by rw[jl L (q:=k'+1) (by omega) (by omega)];exact h'.b_,by rw[jl L (q:=k') (by omega) (by omega)];exact h'.e_⟩;have p2:qaR n m (psh L k' j) k i:=⟨h.k_,h.i_,by rw[jl L (q:=k+1) (by omega) (by omega)];exact h.b_,by rw[jl L (q:=k) (by omega) (by omega)];exact h.e_⟩
 have e:psh (psh L k i) k' j=psh (psh L k' j) k i:=by
  funext q;by_cases a:q=k
  ·subst a;rw[jl _ (q:=q) (by omega) (by omega),yN,yN,jl _ (q:=q) (by omega) (by omega)]
  by_cases b:q=k+1
  ·subst b;rw[jl _ (q:=k+1) (by omega) (by omega),jF,jF,jl _ (q:=k+1) (by omega) (by omega)]
  by_cases c:q=k'
  ·subst c;rw[yN,jl _ a b,jl _ a b,yN]
  by_cases d:q=k'+1
  ·subst d;rw[jF,jl _ a b,jl _ a b,jF]
  rw[jl _ c d,jl _ a b,jl _ a b,jl _ c d]
 exact⟨_,.one (.mk p1),e▸ .one (.mk p2)⟩
theorem meet5 {n m k k' i j:Nat} {L:Nat->SB} (h:qaR n m L k i) (h':qaR n m L k' j): ∃D,Pst n m (psh L k i) D/\Pst n m (psh L k' j) D:=by
 have sw: ∀{A B:Nat->SB},(∃D,Pst n m A D/\Pst n m B D)-> ∃D,Pst n m B D/\Pst n m A D:=fun⟨D,a,b⟩=>⟨D,b,a⟩
 by_cases e:k=k'
 ·subst e;by_cases c:i=j
  ·subst c;exact⟨_,.refl,.refl⟩
  by_cases c1:j=i+1
  ·subst c1;exact qj7 h h'
  by_cases c2:i=j+1
  ·subst c2;exact sw (qj7 h' h)
  exact qrL (by omega) h h'
 by_cases e1:k'=k+1
 ·subst e1;exact qkn h h'
 by_cases e2:k=k'+1
 ·subst e2;exact sw (qkn h' h)
 by_cases e3:k<k'
 ·exact qjL (by omega) h h'
 exact sw (qjL (by omega) h' h)
theorem qfI {n m:Nat}: ∀(M:Nat) {L A B:Nat->SB},mu5 n L m<=M->Pst n m L A->Pst n m L B->Nf n m A->Nf n m B->A=B
 |M,L,A,B,hM,hA,hB,nA,nB=>by
  cases hA with
  |refl=>
   cases hB with
   |refl=>rfl
   |head h _=>cases h with|mk h=>exact absurd h (nA _ _)
  |head h tA=>
   cases hB with
   |refl=>cases h with|mk h=>exact absurd h (nB _ _)
   |head h' tB=>
    cases h with
    |mk h=>
     cases h' with
     |mk h'=>
      obtain⟨D,d1,d2⟩:=meet5 h h';obtain⟨E,e1,e2⟩:=qky _ D (Nat.le_refl _);have l1:=qiC h;have l2:=qiC h'
      cases M with
      |zero=>omega
      |succ M=>rw[qfI M (by omega) tA (d1.trans e1) nA e2,qfI M (by omega) tB (d2.trans e1) nB e2]
structure IsP (p:List Int):Prop where
 few:p.length<=256
 at_: ∀k,k<p.length-> ∃v:Nat,v<p.length/\p[k]? =some (v:Int)
 inj: ∀(k k':Nat) (v:Int),p[k]? =some v->p[k']? =some v->k=k'
structure SB.Ok (n:Nat) (s:SB):Prop where
 f_: ∀k,k<n->s.f k<n
 g_: ∀k,k<n->s.g k<n
def SB.li (n:Nat) (s:SB):List Int:=(List.range n).map fun k=>(s.f k:Int)
theorem Ug (n:Nat) (s:SB):(s.li n).length=n:=by simp[SB.li]
theorem Up {n k:Nat} (s:SB) (h:k<n):(s.li n)[k]? =some (s.f k:Int):=by simp[SB.li,List.getElem?_range h]
theorem Uy {n:Nat} {s:SB} {p:List Int} (hl:p.length=n) (h: ∀k,k<n->p[k]? =some (s.f k:Int)):p=s.li n:=by
 apply List.ext_getElem?;intro k;by_cases hk:k<n
 ·rw[h k hk,Up s hk]
 rw[Yg (by omega),Yg (by rw[Ug];omega)]
theorem SB.li_inj {n:Nat} {s t:SB} (h:s.li n=t.li n) {k:Nat} (hk:k<n):s.f k=t.f k:=by
 have h1:=Up s hk;have h2:=Up t hk;rw[h,h2]at h1;have:=Ye h1;omega
theorem qiV {n i k:Nat} (hi:i+1<n) (h:k<n):tr5 i k<n:=by
 rcases qah i k with⟨a,e⟩|⟨a,e⟩|⟨a,a',e⟩<;>omega
theorem SB.Ok.fr {n i:Nat} {s:SB} (h:s.Ok n) (hi:i+1<n):(s.fr i).Ok n:=⟨fun k hk=>h.f_ _ (qiV hi hk),fun k hk=>qiV hi (h.g_ k hk)⟩
theorem SB.Ok.bk {n i:Nat} {s:SB} (h:s.Ok n) (hi:i+1<n):(s.bk i).Ok n:=⟨fun k hk=>qiV hi (h.f_ k hk),fun k hk=>h.g_ _ (qiV hi hk)⟩
def SB.rev (s:SB):SB:=⟨s.g,s.f,s.fg,s.gf⟩
theorem SB.Ok.rev {n:Nat} {s:SB} (h:s.Ok n):s.rev.Ok n:=⟨h.g_,h.f_⟩
def SB.id:SB:=⟨fun k=>k,fun k=>k,fun _=>rfl,fun _=>rfl⟩
theorem Ut (n:Nat):SB.id.Ok n:=⟨fun _ h=>h,fun _ h=>h⟩
theorem SB.id_li (n:Nat):SB.id.li n=qbO n:=rfl
def rv5 (n k:Nat):Nat:=if k<n then n-1-k else k
theorem qb0 (n k:Nat):rv5 n (rv5 n k)=k:=by
 unfold rv5;by_cases h:k<n
 ·rw[if_pos h,if_pos (by omega)];omega
 rw[if_neg h,if_neg h]
theorem qhF {n k:Nat} (h:k<n):rv5 n k<n:=by unfold rv5;rw[if_pos h];omega
def Uf (n:Nat):SB:=⟨rv5 n,rv5 n,qb0 n,qb0 n⟩
theorem Uo (n:Nat):(Uf n).Ok n:=⟨fun _ h=>qhF h,fun _ h=>qhF h⟩
def SB.flip (n:Nat) (s:SB):SB:=⟨fun k=>rv5 n (s.f (rv5 n k)),fun k=>rv5 n (s.g (rv5 n k)),fun k=>by rw[qb0,s.gf,qb0],fun k=>by rw[qb0,s.fg,qb0]⟩
theorem SB.Ok.flip {n:Nat} {s:SB} (h:s.Ok n):(s.flip n).Ok n:=⟨fun k hk=>qhF (h.f_ _ (qhF hk)),fun k hk=>qhF (h.g_ _ (qhF hk))⟩
theorem Um {n k:Nat} {s:SB} (h:k<n):idx (s.li n) (k:Int)=some (s.f k:Int):=by rw[qw,Up s h]
section
variable {n:Nat} (hn:n<=300)
include hn
theorem qpn {s:SB} (hs:s.Ok n): ∀(K i:Nat) (l:List Int),l.length=n->i<=n->n<K+i->(∀k,k<i->l[s.f k]? =some (k:Int))->jc (s.li n) K l (i:Int)=some (s.rev.li n)
 |0,i,l,hl,h,hK,hk=>by omega
 |K+1,i,l,hl,h,hK,hk=>by
  unfold jc;rw[Ug];by_cases hi:i<n
  ·have hf:=hs.f_ i hi;rw[if_pos (by omega),Um hi,ZB,qw,Ya (by omega),ZB,jX (by omega),ZB,qR (by omega)];refine qpn hs K (i+1) _ (by simpa using hl) (by omega) (by omega) (fun k hki=>?_);by_cases e:k=i
   ·subst e;rw[List.getElem?_set_self (by omega)]
   rw[Yw (fun c=>e (s.finj c.symm))];exact hk k (by omega)
  rw[if_neg (by omega)];congr 1
  refine Uy hl fun v hv=>?_
  have:=hk (s.g v) (by have:=hs.g_ v hv;omega);rw[s.fg]at this;exact this
theorem qjz {N:Nat} (hN:2000<N) {s:SB} (hs:s.Ok n):jQ N (s.li n)=some (s.rev.li n):=by
 unfold jQ;have:=qpn hn hs N 0 (List.replicate n 0) (by simp) (by omega) (by omega) (fun k hk=>by omega);rw[show((0:Nat):Int)=0 from rfl]at this;rw[Ug,qk7 (by omega),ZB,this,ZB]
theorem qeu (s:SB) {i:Nat} (hi:i+1<n):ji (s.li n) (i:Int)=some ((s.fr i).li n):=by
 unfold ji;have hl:=Ug n s
 have hc:qjT (s.li n)=some ():=by
  unfold qjT;rw[if_pos (by omega)]
 rw[hc,ZB,qR (by omega),Um hi,ZB,Um (by omega),ZB,jX (by omega),ZB,qw,Yw (by omega),Up _ hi,ZB,jX (by simp;omega),ZB];congr 1
 refine Uy (by simp[hl]) fun k hk=>?_
 show _=some ((s.f (tr5 i k):Nat):Int);rcases qah i k with⟨rfl,e⟩|⟨rfl,e⟩|⟨a,b,e⟩<;>rw[e]
 ·rw[Yw (by omega),List.getElem?_set_self (by omega)]
 ·rw[List.getElem?_set_self (by simp;omega)]
 rw[Yw (by omega),Yw (by omega),Up s hk]
theorem qhz {N:Nat} (hN:2000<N) {s:SB} (hs:s.Ok n) {i:Nat} (hi:i+1<n):vG N (s.li n) (i:Int)=some ((s.bk i).li n):=by
 unfold vG;rw[qjz hn hN hs,ZB,qeu hn s.rev hi,ZB,qjz hn hN (hs.rev.fr hi),ZB];rfl
theorem qkp (s:SB) {i:Nat} (hi:i+1<n):vH (s.li n) (i:Int)=some (decide (s.f (i+1)<s.f i)):=by
 unfold vH;rw[Um (by omega),ZB,qR (by omega),Um hi,ZB];congr 1;exact decide_eq_decide.2 (by omega)
theorem qty {N:Nat} (hN:2000<N) {s:SB} (hs:s.Ok n) {i:Nat} (hi:i+1<n):xP N (s.li n) (i:Int)=some (decide (s.g (i+1)<s.g i)):=by
 unfold xP;rw[qjz hn hN hs,ZB,qkp hn s.rev hi,ZB];rfl
theorem qhO {N:Nat} (hN:2000<N) {s t:SB} (hs:s.Ok n): ∀(K i:Nat),i+1<=n->n<K+i->
 (∃j,i<=j/\j+1<n/\t.Begs j/\ ¬s.Ends j/\jT N (s.li n) (t.li n) K (i:Int)=some (.inr ((j:Int),true)))\/
 ((∀j,i<=j->j+1<n->t.Begs j->s.Ends j)/\jT N (s.li n) (t.li n) K (i:Int)=some (.inl ()))
 |0,i,h,hK=>by omega
 |K+1,i,h,hK=>by
  unfold jT;rw[Ug,qz (n:=(n:Int)-1) (by omega) (by omega)];by_cases hi:i+1<n
  ·rw[if_pos (by omega),qkp hn t hi,ZB];by_cases a:t.f (i+1)<t.f i
   ·rw[decide_eq_true a,if_pos rfl,qty hn hN hs hi,ZB,ZB];by_cases b:s.g (i+1)<s.g i
    ·rw[decide_eq_true b,if_neg (by decide),qR (by omega)];rcases qhO hN hs K (i+1) (by omega) (by omega)with⟨j,h1,h2⟩|⟨h1,h2⟩
     ·exact .inl ⟨j,by omega,h2⟩
     refine .inr ⟨fun j hj hj2 hb=>?_,h2⟩;by_cases e:j=i
     ·subst e;exact b
     exact h1 j (by omega) hj2 hb
    rw[decide_eq_false b,if_pos (by decide)];exact .inl ⟨i,Nat.le_refl _,hi,a,b,rfl⟩
   rw[decide_eq_false a,if_neg (by decide),ZB,if_neg (by decide),qR (by omega)];rcases qhO hN hs K (i+1) (by omega) (by omega)with⟨j,h1,h2⟩|⟨h1,h2⟩
   ·exact .inl ⟨j,by omega,h2⟩
   refine .inr ⟨fun j hj hj2 hb=>?_,h2⟩;by_cases e:j=i
   ·subst e;exact absurd hb a
   exact h1 j (by omega) hj2 hb
  rw[if_neg (by omega)];exact .inr ⟨fun j hj hj2=>by omega,rfl⟩
theorem qnB {N:Nat} (hN:2000<N) (n1:1<=n) {s t:SB} (hs:s.Ok n):
 (∃j:Nat,j+1<n/\t.Begs j/\ ¬s.Ends j/\qaO N (s.li n) (t.li n)=some ((j:Int),true))\/((∀j,j+1<n->t.Begs j->s.Ends j)/\qaO N (s.li n) (t.li n)=some (0,false)):=by
 unfold qaO;have:=qhO hn hN (t:=t) hs N 0 (by omega) (by omega);rw[show((0:Nat):Int)=0 from rfl]at this;rcases this with⟨j,_,h2,h3,h4,h5⟩|⟨h1,h2⟩
 ·exact .inl ⟨j,h2,h3,h4,by rw[h5];rfl⟩
 exact .inr ⟨fun j=>h1 j (Nat.zero_le _),by rw[h2];rfl⟩
end
theorem qs9 {l0:List Int} {n:Nat} (hn:l0.length=n) (hb:n<=100000): ∀(K i:Nat) (l:List Int),l.length=n->2*i<=n+1->n+1<K+2*i->(∀k:Nat,k<n->l[k]? =if k<i\/n<=k+i then l0[n-1-k]? else l0[k]?)->zF K l (i:Int) ((n:Int)-1-i)=some l0.reverse
 |0,i,l,hl,h2,hK,hk=>by omega
 |K+1,i,l,hl,h2,hK,hk=>by
  unfold zF;by_cases hi:(i:Int)<(n:Int)-1-i
  ·have e1:(n:Int)-1-i=((n-1-i:Nat):Int):=by omega
   have e2:w64 (((n-1-i:Nat):Int)-1)=(n:Int)-1-((i+1:Nat):Int):=by rw[qz (by omega) (by omega)];omega
   have q1:=hk (n-1-i) (by omega);have q2:=hk i (by omega);rw[if_neg (by omega)]at q1 q2;have g1:l0[n-1-i]? =some l0[n-1-i]:=Ya (by omega);have g2:l0[i]? =some l0[i]:=Ya (by omega);rw[g1]at q1;rw[g2]at q2;rw[if_pos hi,e1,qw,q1,ZB,qw,q2,ZB,jX (by omega),ZB,qw,Yw (by omega),q1,ZB,jX (by simp;omega),ZB,qR (by omega),e2];refine qs9 hn hb K (i+1) _ (by simp;omega) (by omega) (by omega) (fun k hkn=>?_);by_cases c1:k=n-1-i
   ·subst c1;rw[List.getElem?_set_self (by simp;omega),if_pos (by omega),show n-1-(n-1-i)=i by omega,g2]
   rw[Yw (fun e=>c1 e.symm)];by_cases c2:k=i
   ·subst c2;rw[List.getElem?_set_self (by omega),if_pos (by omega),g1]
   rw[Yw (fun e=>c2 e.symm),hk k hkn];by_cases c3:k<i\/n<=k+i
   ·rw[if_pos c3,if_pos (by omega)]
   rw[if_neg c3,if_neg (by omega)]
  rw[if_neg hi];congr 1;apply List.ext_getElem?;intro k;by_cases hkn:k<n
  ·rw[hk k hkn,List.getElem?_reverse (by omega),hn];by_cases c3:k<i\/n<=k+i
   ·rw[if_pos c3]
   rw[if_neg c3,show n-1-k=k by omega]
  rw[Yg (by omega),Yg (by simp;omega)]
theorem qmu {N:Nat} {l:List Int} (hN:l.length+1<N) (hb:l.length<=100000):vP N l=some l.reverse:=by
 unfold vP;have:=qs9 (l0:=l) rfl hb N 0 l rfl (by omega) (by omega) (fun k hk=>by rw[if_neg (by omega)]);rw[qz (by omega) (by omega),show((l.length:Int)-1)=(l.length:Int)-1-((0:Nat):Int)by omega,show(0:Int)=((0:Nat):Int)from rfl];rw[this];rfl
theorem que (n:Nat):(qbO n).reverse=(Uf n).li n:=by
 refine Uy (by simp[qcf]) fun k hk=>?_
 rw[List.getElem?_reverse (by rw[qcf];exact hk),qcf,qhE (by omega)];show _=some ((rv5 n k:Nat):Int);unfold rv5;rw[if_pos hk]
theorem qkT {N n:Nat} (hN:2000<N) (hn:n<=300):qca N (n:Int)=some ((Uf n).li n):=by
 unfold qca;rw[qft hN (by omega),ZB,qmu (by rw[qcf];omega) (by rw[qcf];omega),ZB,if_pos (by simp),ZB,que]
def SB.comp (s t:SB):SB:=⟨fun k=>t.f (s.f k),fun k=>s.g (t.g k),fun k=>by rw[t.gf,s.gf],fun k=>by rw[s.fg,t.fg]⟩
section
variable {n:Nat} (hn:n<=300)
include hn
theorem qpE {s:SB} (hs:s.Ok n): ∀(K i:Nat) (l:List Int),l.length=n->i<=n->n<K+i->(∀k,k<i->l[n-1-k]? =some ((n-1-s.f k:Nat):Int))->zL (s.li n) K l (i:Int)=some ((s.flip n).li n)
 |0,i,l,hl,h,hK,hk=>by omega
 |K+1,i,l,hl,h,hK,hk=>by
  unfold zL;rw[Ug];by_cases hi:i<n
  ·have hf:=hs.f_ i hi;have e0:w64 ((n:Int)-1)=(n:Int)-1:=qz (by omega) (by omega)
   have e1:w64 ((n:Int)-1-(i:Int))=((n-1-i:Nat):Int):=by rw[qz (by omega) (by omega)];omega
   have e2:w64 ((n:Int)-1-(s.f i:Int))=((n-1-s.f i:Nat):Int):=by rw[qz (by omega) (by omega)];omega
   rw[if_pos (by omega),Um hi,ZB,e0,e1,e2,qw,Ya (by omega),ZB,jX (by omega),ZB,qR (by omega)];refine qpE hs K (i+1) _ (by simpa using hl) (by omega) (by omega) (fun k hki=>?_);by_cases e:k=i
   ·subst e;rw[List.getElem?_set_self (by omega)]
   rw[Yw (by omega)];exact hk k (by omega)
  rw[if_neg (by omega)];congr 1
  refine Uy hl fun v hv=>?_
  have:=hk (n-1-v) (by omega);rw[show n-1-(n-1-v)=v by omega]at this;rw[this];show _=some ((rv5 n (s.f (rv5 n v)):Nat):Int)
  have h2:rv5 n v=n-1-v:=by unfold rv5;rw[if_pos hv]
  have h3:=hs.f_ (n-1-v) (by omega);rw[h2];unfold rv5;rw[if_pos h3]
theorem qmo {N:Nat} (hN:2000<N) {s:SB} (hs:s.Ok n):yc N (s.li n)=some ((s.flip n).li n):=by
 unfold yc;have:=qpE hn hs N 0 (List.replicate n 0) (by simp) (by omega) (by omega) (fun k hk=>by omega);rw[show((0:Nat):Int)=0 from rfl]at this;rw[Ug,qk7 (by omega),ZB,this,ZB]
end
def ym (n:Nat) (l:List SB):List (List Int):=l.map (SB.li n)
theorem yT (n:Nat) (l:List SB):(ym n l).length=l.length:=by simp[ym]
theorem qhr {n k:Nat} {l:List SB} (h:k<l.length):(ym n l)[k]? =some (l[k].li n):=by
 unfold ym;rw[YA,Ya h];rfl
section
variable {n:Nat} (hn:n<=12) {N:Nat} (hN:2000<N)
include hn hN
theorem qmJ {l:List SB} (hl:l.length<=300) (ho: ∀s∈l,s.Ok n): ∀(K i:Nat),i<=l.length->l.length<K+i->zw N (ym n l) K (ym n ((l.take i).map (SB.flip n))) (i:Int)=some (ym n (l.map (SB.flip n)))
 |0,i,h,hK=>by omega
 |K+1,i,h,hK=>by
  unfold zw;rw[yT];by_cases hi:i<l.length
  ·rw[if_pos (by omega),qw,qhr hi,ZB,qmo (by omega) hN (ho _ (List.getElem_mem hi)),ZB,qa0 (by rw[yT];simp;omega) (by rw[yT];simp;omega),ZB,qR (by omega)]
   have e:ym n ((l.take i).map (SB.flip n))++[(l[i].flip n).li n]=ym n ((l.take (i+1)).map (SB.flip n)):=by
    rw[List.take_succ_eq_append_getElem hi,List.map_append];unfold ym;rw[List.map_append];rfl
   rw[e];exact qmJ hl ho K (i+1) (by omega) (by omega)
  rw[if_neg (by omega),List.take_of_length_le (by omega)]
theorem qhY {l:List SB} (hl:l.length<=300) (ho: ∀s∈l,s.Ok n):j5 N (ym n l)=some (ym n (l.map (SB.flip n))):=by
 unfold j5;have:=qmJ hn hN hl ho N 0 (by omega) (by omega);rw[show((0:Nat):Int)=0 from rfl,List.take_zero]at this;rw[show([]:List (List Int))=ym n (([]:List SB).map (SB.flip n))from rfl,this,ZB]
end
theorem qtP {N:Nat} (hN:2000<N) {n:Int} (h1:1<=n) (h2:n<=12) {w:List Int} (hw:w.length<=20000) (hv: ∀c∈w,qaH n c=true) (m:qx): ∃r,qJ N n w m=some r/\qau n w m=some r/\qlA n w r:=by
 by_cases k1:m.Kind=[105,110,115,101,114,116]
 ·exact qv0 hN h1 h2 hw hv k1
 by_cases k2:m.Kind=[99,97,110,99,101,108]
 ·exact qvp hN h1 h2 hw hv k2
 by_cases k3:m.Kind=[115,119,97,112]
 ·exact qvJ hN h1 h2 hw hv k3
 by_cases k4:m.Kind=[116,117,114,110]
 ·exact qv2 hN h1 h2 hw hv k4
 have f1:(m.Kind==[105,110,115,101,114,116])=false:=by simpa using k1
 have f2:(m.Kind==[99,97,110,99,101,108])=false:=by simpa using k2
 have f3:(m.Kind==[115,119,97,112])=false:=by simpa using k3
 have f4:(m.Kind==[116,117,114,110])=false:=by simpa using k4
 have bf: ∀a b c d:Int,qO N [a,b,c,d]=some (qeN [a,b,c,d]):=fun a b c d=>qan (by simp) (by simp;omega)
 unfold qJ qau jV qba;simp only[f1,f2,f3,f4,if_true,ZB,Bool.not_true,Bool.not_false,ZF,if_false,jG,bf,qgh (show(13:Int)≠0 by decide),show((-1:Int)<0)by omega];refine⟨([],13),?_,rfl,.bad (by decide)⟩;by_cases a:m.At<0
 ·simp only[if_pos a,ZB];rfl
 simp only[if_neg a,ZB];rfl
structure MdOK (n:Int) (k:Nat) (r:List Int×Int):Prop where
 bad:r.2≠0->r.1=[]
 len:r.2=0->r.1.length<=k
 let_:r.2=0-> ∀c∈r.1,qaH n c=true
theorem qpi {a b:List Int} (hl:a.length<=100000) (hab:a.length=b.length): ∀(K i:Nat),i<=a.length->a.length<K+i->vE a b K (i:Int)=some (if a.drop i=b.drop i then .inl ()else .inr false)
 |0,i,h,hK=>by omega
 |K+1,i,h,hK=>by
  unfold vE;by_cases hi:i<a.length
  ·have hb:i<b.length:=by omega
   rw[if_pos (by omega),qw,Ya hi,qw,Ya hb,ZB,ZB,YG hi,YG hb];by_cases c:a[i]=b[i]
   ·rw[decide_eq_true c,if_neg (by decide),qR (by omega),qpi hl hab K (i+1) (by omega) (by omega),c];simp only[List.cons.injEq,true_and]
   rw[decide_eq_false c,if_pos (by decide),if_neg (fun h=>c (List.cons.inj h).1)]
  rw[if_neg (by omega),List.drop_eq_nil_of_le (by omega),List.drop_eq_nil_of_le (by omega),if_pos rfl]
theorem qr2 {N:Nat} {a b:List Int} (hl:a.length<=100000) (hN:a.length<N):qa7 N a b=some (decide (a=b)):=by
 unfold qa7;by_cases c:(a.length:Int)=(b.length:Int)
 ·have:=qpi hl (b:=b) (by omega) N 0 (by omega) (by omega);rw[show((0:Nat):Int)=0 from rfl,YR,YR]at this;rw[decide_eq_true c,if_neg (by decide),this];by_cases e:a=b
  ·rw[if_pos e,decide_eq_true e];rfl
  rw[if_neg e,decide_eq_false e];rfl
 rw[decide_eq_false c,if_pos (by decide),decide_eq_false (fun e=>c (by rw[e]))]
theorem qm9 {a b:List Int} (hl:a.length<=100000) (hab:a.length=b.length): ∀(K i:Nat),i<=a.length->a.length<K+i->kr a b K (i:Int)=some (if a.drop i=b.drop i then .inl ()else .inr false)
 |0,i,h,hK=>by omega
 |K+1,i,h,hK=>by
  unfold kr;by_cases hi:i<a.length
  ·have hb:i<b.length:=by omega
   rw[if_pos (by omega),qw,Ya hi,qw,Ya hb,ZB,ZB,YG hi,YG hb];by_cases c:a[i]=b[i]
   ·rw[decide_eq_true c,if_neg (by decide),qR (by omega),qm9 hl hab K (i+1) (by omega) (by omega),c];simp only[List.cons.injEq,true_and]
   rw[decide_eq_false c,if_pos (by decide),if_neg (fun h=>c (List.cons.inj h).1)]
  rw[if_neg (by omega),List.drop_eq_nil_of_le (by omega),List.drop_eq_nil_of_le (by omega),if_pos rfl]
theorem qec {N:Nat} {a b:List Int} (hl:a.length<=100000) (hN:a.length<N):zG N a b=some (decide (a=b)):=by
 unfold zG;by_cases c:(a.length:Int)=(b.length:Int)
 ·have:=qm9 hl (b:=b) (by omega) N 0 (by omega) (by omega);rw[show((0:Nat):Int)=0 from rfl,YR,YR]at this;rw[decide_eq_true c,if_neg (by decide),this];by_cases e:a=b
  ·rw[if_pos e,decide_eq_true e];rfl
  rw[if_neg e,decide_eq_false e];rfl
 rw[decide_eq_false c,if_pos (by decide),decide_eq_false (fun e=>c (by rw[e]))]
theorem qsG {a b:List Int} (hl:a.length<=100000) (hab:a.length=b.length): ∀(K i:Nat),i<=a.length->a.length<K+i->jy a b K (i:Int)=some (if a.drop i=b.drop i then .inl ()else .inr false)
 |0,i,h,hK=>by omega
 |K+1,i,h,hK=>by
  unfold jy;by_cases hi:i<a.length
  ·have hb:i<b.length:=by omega
   rw[if_pos (by omega),qw,Ya hi,qw,Ya hb,ZB,ZB,YG hi,YG hb];by_cases c:a[i]=b[i]
   ·rw[decide_eq_true c,if_neg (by decide),qR (by omega),qsG hl hab K (i+1) (by omega) (by omega),c];simp only[List.cons.injEq,true_and]
   rw[decide_eq_false c,if_pos (by decide),if_neg (fun h=>c (List.cons.inj h).1)]
  rw[if_neg (by omega),List.drop_eq_nil_of_le (by omega),List.drop_eq_nil_of_le (by omega),if_pos rfl]
theorem qt4 {N:Nat} {a b:List Int} (hl:a.length<=100000) (hN:a.length<N):slices_Equal_int N a b=some (decide (a=b)):=by
 unfold slices_Equal_int;by_cases c:(a.length:Int)=(b.length:Int)
 ·have:=qsG hl (b:=b) (by omega) N 0 (by omega) (by omega);rw[show((0:Nat):Int)=0 from rfl,YR,YR]at this;rw[decide_eq_true c,if_neg (by decide),this];by_cases e:a=b
  ·rw[if_pos e,decide_eq_true e];rfl
  rw[if_neg e,decide_eq_false e];rfl
 rw[decide_eq_false c,if_pos (by decide),decide_eq_false (fun e=>c (by rw[e]))]
inductive WdB (n:Nat):SB->List Int->Prop
 |nil {s:SB} (h: ∀q,q+1<n-> ¬s.Begs q):WdB n s []
 |cons {s:SB} {i:Nat} {W:List Int} (hi:i+1<n) (hb:s.Begs i) (hm: ∀q,q<i-> ¬s.Begs q) (h:WdB n (s.fr i) W):WdB n s (((i+1:Nat):Int)::W)
theorem qps: ∀l:List Nat,qhH l<=l.length*l.length
 |[]=>Nat.le_refl _
 |x::r=>by
  have h1:r.countP (fun y=>decide (y<x))<=r.length:=List.countP_le_length;have h2:=qps r;simp only[qhH,Yr,Nat.add_mul,Nat.mul_add,Nat.one_mul,Nat.mul_one];omega
theorem SB.inv_le (n:Nat) (s:SB):s.inv n<=n*n:=by
 have:=qps (s.row n)
 rwa [Uk]at this
theorem qud (x y:Int):cmp_Less_int x y=some (decide (x<y)):=by
 unfold cmp_Less_int cmp_isNaN_int;simp
section
variable {n:Nat} (hn:n<=12) (n1:1<=n)
include hn n1
theorem qmk (s:SB): ∀(K i:Nat),i<n->i<K->(∀q,i<=q->q+1<n-> ¬s.Begs q)-> ∃r,zU (s.li n) K (i:Int)=some r/\((r= .inl ()/\ ∀q,q+1<n-> ¬s.Begs q)\/(r= .inr false/\ ∃q,q+1<n/\s.Begs q))
 |0,i,h,hK,hd=>by omega
 |K+1,i,h,hK,hd=>by
  unfold zU
  cases i with
  |zero=>
   rw[if_neg (by omega)];exact⟨_,rfl,.inl ⟨rfl,fun q hq=>hd q (Nat.zero_le _) hq⟩⟩
  |succ i=>
   have e:w64 (((i+1:Nat):Int)-1)=(i:Int):=by rw[qz (by omega) (by omega)];omega
   rw[if_pos (by omega),e,Um h,Um (by omega)];simp only[ZB,qud];by_cases a:s.f (i+1)<s.f i
   ·rw[decide_eq_true (show((s.f (i+1):Nat):Int)<(s.f i:Int)by omega),if_pos rfl];exact⟨_,rfl,.inr ⟨rfl,i,h,a⟩⟩
   rw[decide_eq_false (show¬((s.f (i+1):Nat):Int)<(s.f i:Int)by omega),if_neg (by decide)]
   refine qmk s K i (by omega) (by omega) fun q h1 h2=>?_
   by_cases c:q=i
   ·subst c;exact a
   exact hd q (by omega) h2
theorem qrO {N:Nat} (hN:2000<N) (s:SB): ∃b,yY N (s.li n)=some b/\(b=true↔ ∀q,q+1<n-> ¬s.Begs q):=by
 unfold yY slices_IsSorted_int
 have e:w64 ((((s.li n).length:Nat):Int)-1)=((n-1:Nat):Int):=by rw[Ug,qz (by omega) (by omega)];omega
 obtain⟨r,r1,r2⟩:=qmk hn n1 s N (n-1) (by omega) (by omega) (fun q h1 h2=>by omega);rw[e,r1];rcases r2 with⟨rfl,r3⟩|⟨rfl,q,q1,q2⟩
 ·exact⟨true,rfl,fun _=>r3,fun _=>rfl⟩
 exact⟨false,rfl,fun h=>(by cases h),fun h=>absurd q2 (h q q1)⟩
theorem qve {s:SB} (hs:s.Ok n):(∀q,q+1<n-> ¬s.Begs q)↔s.li n=qbO n:=by
 constructor
 ·intro h
  have lo: ∀k,k<n->k<=s.f k:=by
   intro k
   induction k with
   |zero=>exact fun _=>Nat.zero_le _
   |succ k ih=>
    intro hk;have h1:=ih (by omega);have h2:=h k hk
    have h3:s.f k≠s.f (k+1):=fun c=>by have:=s.finj c;omega
    have h4: ¬s.f (k+1)<s.f k:=h2;omega
  have hi: ∀d,d<n->s.f (n-1-d)<=n-1-d:=by
   intro d
   induction d with
   |zero=>
    intro hd;have:=hs.f_ (n-1-0) (by omega);omega
   |succ d ih=>
    intro hd;have h1:=ih (by omega);have h2: ¬s.f (n-1-(d+1)+1)<s.f (n-1-(d+1)):=h (n-1-(d+1)) (by omega)
    have h3:s.f (n-1-(d+1))≠s.f (n-1-(d+1)+1):=fun c=>by have:=s.finj c;omega
    have e:n-1-(d+1)+1=n-1-d:=by omega
    rw[e]at h2 h3;omega
  refine(Uy (qcf n) fun k hk=>?_).symm;rw[qhE hk];have h1:=lo k hk;have h2:=hi (n-1-k) (by omega);rw[show n-1-(n-1-k)=k by omega]at h2;congr 1;omega
 intro h q hq hb
 have e: ∀k,k<n->s.f k=k:=fun k hk=>SB.li_inj (t:=SB.id) h hk
 have hb:s.f (q+1)<s.f q:=hb;rw[e _ hq,e _ (by omega)]at hb;omega
end
def j6 (n m:Nat) (L:Nat->SB):List (List Int):=(List.range m).map fun q=>(L q).li n
theorem zN (n m:Nat) (L:Nat->SB):(j6 n m L).length=m:=by simp[j6]
theorem qar {n m q:Nat} {L:Nat->SB} (h:q<m):(j6 n m L)[q]? =some ((L q).li n):=by simp[j6,List.getElem?_range h]
theorem qjK {n m:Nat} {L:Nat->SB} {R:List (List Int)} (hl:R.length=m) (h: ∀q,q<m->R[q]? =some ((L q).li n)):R=j6 n m L:=by
 apply List.ext_getElem?;intro q;by_cases hq:q<m
 ·rw[h q hq,qar hq]
 rw[Yg (by omega),Yg (by rw[zN];omega)]
theorem qp1 {n m k i:Nat} {L:Nat->SB} (hk:k+1<m):((j6 n m L).set k (((L k).bk i).li n)).set (k+1) (((L (k+1)).fr i).li n)=j6 n m (psh L k i):=by
 refine qjK (by simp[zN]) fun q hq=>?_
 by_cases a:q=k+1
 ·subst a;rw[List.getElem?_set_self (by simp[zN];omega),jF]
 by_cases b:q=k
 ·subst b;rw[Yw (by omega),List.getElem?_set_self (by rw[zN];omega),yN]
 rw[Yw (by omega),Yw (by omega),qar hq,jl L b a]
def OkM (n m:Nat) (L:Nat->SB):Prop:= ∀q,q<m->(L q).Ok n
theorem OkM.psh {n m k i:Nat} {L:Nat->SB} (h:OkM n m L) (hk:k+1<m) (hi:i+1<n):OkM n m (psh L k i):=fun q hq=>by
 by_cases a:q=k
 ·subst a;rw[yN];exact(h q hq).bk hi
 by_cases b:q=k+1
 ·subst b;rw[jF];exact(h (k+1) hq).fr hi
 rw[jl L a b];exact h q hq
theorem qoe {n:Nat} {L:Nat->SB}: ∀m,mu5 n L m<=m*(m*(n*n))
 |0=>Nat.zero_le _
 |m+1=>by
  have h1:=qoe (n:=n) (L:=L) m;have h2:=Nat.mul_le_mul_left m ((L m).inv_le n);simp only[mu5,Nat.add_mul,Nat.mul_add,Nat.one_mul]at*;omega
section
variable {n m:Nat} (hn:n<=12) (n1:1<=n) (hm:m<=300) {N:Nat} (hN:2000<N)
include hn n1 hm hN
theorem qtV {L:Nat->SB} (hL:OkM n m L) {k:Nat} (hk:k+1<m):
 (∃i,qaR n m L k i/\yU N (k:Int) (j6 n m L)=some (j6 n m (psh L k i),true))\/((∀i,¬qaR n m L k i)/\yU N (k:Int) (j6 n m L)=some (j6 n m L,false)):=by
 unfold yU;rw[qw,qar (by omega),ZB,qR (by omega),qw,qar hk,ZB];rcases qnB (n:=n) (by omega) hN n1 (t:=L (k+1)) (hL k (by omega))with⟨j,j1,j2,j3,j4⟩|⟨j1,j2⟩
 ·left;refine⟨j,⟨hk,j1,j2,j3⟩,?_⟩;rw[j4,ZB];simp only[if_true];rw[qhz (by omega) hN (hL k (by omega)) j1,ZB,qeu (by omega) _ j1,ZB,jX (by rw[zN];omega),ZB,qw,Yw (by omega),qar hk,ZB,jX (by simp[zN];omega),ZB,ZB,qp1 hk]
 right;refine⟨fun i c=>c.e_ (j1 i c.i_ c.b_),?_⟩;rw[j2,ZB];rfl
theorem qpu {k:Nat} (hk:k+1<m): ∀(K:Nat) (L:Nat->SB) (b:Bool),OkM n m L->mu5 n L m<K->
 ∃(L':Nat->SB) (b':Bool),vU N (k:Int) K (j6 n m L) b=some (j6 n m L',b')/\Pst n m L L'/\OkM n m L'/\(∀i,¬qaR n m L' k i)/\(∀q,q≠k->q≠k+1->L' q=L q)/\((b'=b/\L'=L)\/(b'=true/\mu5 n L' m<mu5 n L m))
 |0,L,b,hL,h=>by omega
 |K+1,L,b,hL,h=>by
  unfold vU;rcases qtV hn n1 hm hN hL hk with⟨i,c,e⟩|⟨c,e⟩
  ·have hmu:=qiC c;obtain⟨L',b',h1,h2,h3,h4,h5,h6⟩:=qpu hk K (psh L k i) true (hL.psh hk c.i_) (by omega);rw[e,ZB];simp only[zN,if_true,ZB];refine⟨L',b',h1,.head (.mk c) h2,h3,h4,fun q q1 q2=>by rw[h5 q q1 q2,jl L q1 q2],?_⟩;rcases h6 with⟨g1,g2⟩|⟨g1,g2⟩
   ·subst g1 g2;exact .inr ⟨rfl,hmu⟩
   exact .inr ⟨g1,by omega⟩
  rw[e,ZB];simp only[zN,if_true,ZB,ZF,if_false];exact⟨L,b,rfl,.refl,hL,c,fun q _ _=>rfl,.inl ⟨rfl,rfl⟩⟩
theorem qio (hmu: ∀L:Nat->SB,mu5 n L m<N): ∀(K k:Nat) (L:Nat->SB),OkM n m L->k<=m->2*mu5 n L m+(m-k)<K->(∀j,j<k-> ∀i,¬qaR n m L j i)->
 ∃A,vS N K (j6 n m L) (k:Int)=some (j6 n m A)/\Pst n m L A/\Nf n m A/\OkM n m A
 |0,k,L,hL,hk,h,ht=>by omega
 |K+1,k,L,hL,hk,h,ht=>by
  unfold vS;rw[zN,qR (by omega)];by_cases c:k+1<m
  ·obtain⟨L',b',h1,h2,h3,h4,h5,h6⟩:=qpu hn n1 hm hN c N L false hL (hmu L);rw[if_pos (by omega),h1];simp only[ZB]
   have tight: ∀j,j+1<k-> ∀i,¬qaR n m L' j i:=fun j hj i d=>ht j (by omega) i ⟨d.k_,d.i_,by have:=d.b_;rwa [h5 (j+1) (by omega) (by omega)]at this,by have:=d.e_;rwa [h5 j (by omega) (by omega)]at this⟩
   by_cases d:b'=true/\0<k
   ·obtain⟨d1,d2⟩:=d;subst d1;rcases h6 with⟨g1,_⟩|⟨_,g2⟩
    ·cases g1
    rw[if_pos rfl,decide_eq_true (show(k:Int)>0 by omega)];simp only[ZB,if_true];rw[show w64 ((k:Int)-1)=((k-1:Nat):Int)from qsw (by omega) d2];obtain⟨A,a1,a2,a3,a4⟩:=qio hmu K (k-1) L' h3 (by omega) (by omega) (fun j hj=>tight j (by omega));exact⟨A,a1,h2.trans a2,a3,a4⟩
   have e:(if b'=true then some (decide ((k:Int)>0))else some false:Option Bool)=some false:=by
    cases b' with
    |false=>rfl
    |true=>rw[if_pos rfl,decide_eq_false (by have: ¬0<k:=fun g=>d ⟨rfl,g⟩;omega)]
   rw[e];simp only[ZB,ZF,if_false]
   have hmu2:mu5 n L' m<=mu5 n L m:=by
    rcases h6 with⟨_,g2⟩|⟨_,g2⟩
    ·rw[g2];exact Nat.le_refl _
    omega
   obtain⟨A,a1,a2,a3,a4⟩:=qio hmu K (k+1) L' h3 (by omega) (by omega) (fun j hj i g=>by
    by_cases f:j=k
    ·subst f;exact h4 i g
    rcases h6 with⟨_,g2⟩|⟨g1,_⟩
    ·rw[g2]at g;exact ht j (by omega) i g
    exact d ⟨g1,by omega⟩)
   exact⟨A,a1,h2.trans a2,a3,a4⟩
  rw[if_neg (by omega)];exact⟨L,rfl,.refl,fun j i g=>by have:=g.k_;exact ht j (by omega) i g,hL⟩
end
def qbk (i:Nat) (p:List Nat):List Nat:=p.map (tr5 i)
def qfr:Nat->List Nat->List Nat
 |0,a::b::l=>b::a::l
 |i+1,a::l=>a::qfr i l
 |_,l=>l
def qnL:List Nat->Nat->Nat
 |[],_=>0
 |a::_,0=>a
 |_::l,k+1=>qnL l k
def qns (v:Nat):List Nat->Nat
 |[]=>0
 |a::l=>bif Nat.beq a v then 0 else qns v l+1
def qhW (i:Nat) (p:List Nat):Bool:=Nat.blt (qnL p (i+1)) (qnL p i)
def qhT (i:Nat) (p:List Nat):Bool:=Nat.blt (qns (i+1) p) (qns i p)
def qe3 (s t:List Nat):Nat->Option Nat
 |0=>none
 |i+1=>bif qhW i t&&!qhT i s then some i else qe3 s t i
def qed (n:Nat):Nat->List Nat->List Nat->List Nat×List Nat
 |0,s,t=>(s,t)
 |K+1,s,t=>match qe3 s t (n-1)with
  |none=>(s,t)
  |some i=>qed n K (qbk i s) (qfr i t)
def qhZ (n:Nat):List Nat->List (List Nat)->List (List Nat)
 |x,[]=>[x]
 |x,s::r=>match qed n (n*n) s x with
  |(s',x')=>x'::qhZ n s' r
def qnf (n:Nat):List (List Nat)->Bool
 |[]=>true
 |x::r=>match r with
  |[]=>true
  |s::_=>(qe3 s x (n-1)).isNone&&qnf n r
theorem qpB: ∀(l:List Nat) (k:Nat),qnL l k=l.getD k 0
 |[],k=>by simp[qnL]
 |a::l,0=>rfl
 |a::l,k+1=>by rw[qnL,qpB l k];rfl
theorem qo5: ∀(i:Nat) (l:List Nat) (k:Nat),i+1<l.length->(qfr i l)[k]? =l[tr5 i k]?
 |0,[],k,h=>by simp at h
 |0,[a],k,h=>by simp at h
 |0,a::b::l,0,h=>by simp[qfr,tr5]
 |0,a::b::l,1,h=>by simp[qfr,tr5]
 |0,a::b::l,k+2,h=>by simp[qfr,tr5]
 |i+1,[],k,h=>by simp at h
 |i+1,a::l,0,h=>by simp[qfr,tr5]
 |i+1,a::l,k+1,h=>by
  rw[qfr,YK,qo5 i l k (by simp at h;omega)];rcases qah i k with⟨c,e⟩|⟨c,e⟩|⟨c,c',e⟩<;>rw[e]
  ·subst c;rw[qcP,YK]
  ·subst c;rw[qcM,YK]
  rw[yu (by omega) (by omega),YK]
theorem qlw (n i:Nat) (s:SB):(s.bk i).row n=qbk i (s.row n):=by
 unfold SB.row qbk;rw[List.map_map];rfl
theorem qll {n i:Nat} (hi:i+1<n) (s:SB):(s.fr i).row n=qfr i (s.row n):=by
 apply List.ext_getElem?;intro k;rw[qo5 i _ k (by rw[Uk];exact hi)];by_cases hk:k<n
 ·rw[Uj _ hk,Uj _ (qiV hi hk)];rfl
 rw[yu (by omega) (by omega),Yg (by rw[Uk];omega),Yg (by rw[Uk];omega)]
theorem qms {n k:Nat} (s:SB) (h:k<n):qnL (s.row n) k=s.f k:=by
 rw[qpB,Yy,Uj s h];rfl
theorem qoB: ∀(l:List Nat) (k v:Nat),l[k]? =some v->(∀j,j<k->l[j]? ≠some v)->qns v l=k
 |[],k,v,h,hj=>by simp at h
 |a::l,0,v,h,hj=>by
  simp at h;subst h;simp[qns]
 |a::l,k+1,v,h,hj=>by
  have:=hj 0 (by omega)
  have ne:a≠v:=fun e=>this (by simp[e])
  have hb:Nat.beq a v=false:=by
   cases c:Nat.beq a v with
   |false=>rfl
   |true=>exact absurd (Nat.eq_of_beq_eq_true c) ne
  rw[qns,hb,cond_false,qoB l k v (by simpa using h) (fun j hjk=>by have:=hj (j+1) (by omega);simpa using this)]
theorem qmP {n v:Nat} {s:SB} (hs:s.Ok n) (h:v<n):qns v (s.row n)=s.g v:=by
 refine qoB _ _ _ (by rw[Uj s (hs.g_ v h),s.fg]) (fun j hj=>?_);rw[Uj s (by have:=hs.g_ v h;omega)];intro e;have:=Ye e
 have e2:j=s.g v:=by rw[<-this,s.gf]
 omega
theorem qkv {n i:Nat} (hi:i+1<n) (s:SB):qhW i (s.row n)=true↔s.Begs i:=by
 unfold qhW SB.Begs;rw[qms s hi,qms s (by omega)];simp[Nat.blt_eq]
theorem qkD {n i:Nat} (hi:i+1<n) {s:SB} (hs:s.Ok n):qhT i (s.row n)=true↔s.Ends i:=by
 unfold qhT SB.Ends;rw[qmP hs hi,qmP hs (by omega)];simp[Nat.blt_eq]
theorem qjl {s t:List Nat}: ∀{j i:Nat},qe3 s t j=some i->i<j/\qhW i t=true/\qhT i s=false
 |0,i,h=>by cases h
 |j+1,i,h=>by
  unfold qe3 at h
  cases c:(qhW j t&&!qhT j s)with
  |false=>
   rw[c,cond_false]at h;have:=qjl h;exact⟨by omega,this.2⟩
  |true=>
   rw[c,cond_true]at h;have:=Ye h;subst this;simp only[Bool.and_eq_true,Bool.not_eq_true']at c;exact⟨by omega,c⟩
theorem qi2 {s t:List Nat}: ∀{j:Nat},qe3 s t j=none-> ∀i,i<j-> ¬(qhW i t=true/\qhT i s=false)
 |0,h,i,hi=>by omega
 |j+1,h,i,hi=>by
  unfold qe3 at h
  cases c:(qhW j t&&!qhT j s)with
  |true=>rw[c,cond_true]at h;cases h
  |false=>
   rw[c,cond_false]at h;by_cases e:i=j
   ·subst e;rintro⟨h1,h2⟩;rw[h1,h2]at c;cases c
   exact qi2 h i (by omega)
theorem qjR {n m k:Nat} (hk:k+1<m): ∀(K:Nat) (L:Nat->SB),OkM n m L-> ∃A,Pst n m L A/\qed n K ((L k).row n) ((L (k+1)).row n)=((A k).row n,(A (k+1)).row n)/\(∀q,q≠k->q≠k+1->A q=L q)/\OkM n m A
 |0,L,hL=>⟨L,.refl,rfl,fun _ _ _=>rfl,hL⟩
 |K+1,L,hL=>by
  unfold qed
  cases c:qe3 ((L k).row n) ((L (k+1)).row n) (n-1)with
  |none=>exact⟨L,.refl,rfl,fun _ _ _=>rfl,hL⟩
  |some i=>
   obtain⟨h1,h2,h3⟩:=qjl c
   have hi:i+1<n:=by omega
   have can:qaR n m L k i:=⟨hk,hi,(qkv hi _).1 h2,fun e=>by
    have:=(qkD hi (hL k (by omega))).2 e;rw[h3]at this
    cases this⟩
   obtain⟨A,a1,a2,a3,a4⟩:=qjR hk K (psh L k i) (hL.psh hk hi);refine⟨A,.head (.mk can) a1,?_,fun q q1 q2=>by rw[a3 q q1 q2,jl L q1 q2],a4⟩;dsimp only;rw[yN,jF,qlw,qll hi]at a2;exact a2
def qap (n:Nat) (L:Nat->SB):Nat->List (List Nat)
 |0=>[]
 |k+1=>(L k).row n::qap n L k
theorem qiS {n:Nat} {L A:Nat->SB}: ∀{k:Nat},(∀q,q<k->A q=L q)->qap n A k=qap n L k
 |0,h=>rfl
 |k+1,h=>by rw[qap,qap,h k (by omega),qiS fun q hq=>h q (by omega)]
theorem qmn {n m:Nat}: ∀(k:Nat) (L:Nat->SB),k<m->OkM n m L-> ∃A,Pst n m L A/\qhZ n ((L k).row n) (qap n L k)=qap n A (k+1)/\(∀q,k<q->A q=L q)/\OkM n m A
 |0,L,hk,hL=>⟨L,.refl,rfl,fun _ _=>rfl,hL⟩
 |k+1,L,hk,hL=>by
  obtain⟨B,b1,b2,b3,b4⟩:=qjR (n:=n) (m:=m) (k:=k) hk (n*n) L hL;obtain⟨A,a1,a2,a3,a4⟩:=qmn k B (by omega) b4;refine⟨A,b1.trans a1,?_,fun q hq=>by rw[a3 q (by omega),b3 q (by omega) (by omega)],a4⟩;rw[qap,qhZ,b2];dsimp only;rw[qiS (A:=L) (L:=B) fun q hq=>(b3 q (by omega) (by omega)).symm,a2,<-a3 (k+1) (by omega)];rfl
theorem qs7 {n m:Nat} {A:Nat->SB} (hA:OkM n m A): ∀{k:Nat},k<=m->qnf n (qap n A k)=true-> ∀j i,j+1<k-> ¬qaR n m A j i
 |0,hk,h,j,i,hj=>by omega
 |1,hk,h,j,i,hj=>by omega
 |k+2,hk,h,j,i,hj=>by
  rw[qap,qap,qnf]at h;simp only[Bool.and_eq_true]at h;by_cases e:j=k
  ·subst e;intro c;have hn:=qi2 (Option.isNone_iff_eq_none.1 h.1) i (by have:=c.i_;omega);refine hn ⟨(qkv c.i_ _).2 c.b_,?_⟩
   cases g:qhT i ((A j).row n)with
   |false=>rfl
   |true=>exact absurd ((qkD c.i_ (hA j (by omega))).1 g) c.e_
  exact qs7 hA (k:=k+1) (by omega) (by rw[qap];exact h.2) j i (by omega)
theorem qaR.up {n m k i:Nat} {L:Nat->SB} (h:qaR n m L k i):qaR n (m+1) L k i:=⟨by have:=h.k_;omega,h.i_,h.b_,h.e_⟩
theorem Pst.up {n m:Nat} {L A:Nat->SB} (h:Pst n m L A):Pst n (m+1) L A:=by
 induction h with
 |refl=>exact .refl
 |head h _ ih=>cases h with|mk h=>exact .head (.mk h.up) ih
def qjQ (L:Nat->SB) (m:Nat) (s:SB):Nat->SB:=fun q=>if q=m then s else L q
theorem qig (L:Nat->SB) (m:Nat) (s:SB):qjQ L m s m=s:=if_pos rfl
theorem qfc {L:Nat->SB} {m q:Nat} {s:SB} (h:q≠m):qjQ L m s q=L q:=if_neg h
theorem qqV {L:Nat->SB} {m k i:Nat} {s:SB} (h:k+1<m):psh (qjQ L m s) k i=qjQ (psh L k i) m s:=by
 funext q;by_cases a:q=m
 ·subst a;rw[qig,jl _ (by omega) (by omega),qig]
 rw[qfc a];by_cases b:q=k
 ·subst b;rw[yN,yN,qfc a]
 by_cases c:q=k+1
 ·subst c;rw[jF,jF,qfc a]
 rw[jl _ b c,jl _ b c,qfc a]
theorem Pst.upd {n m:Nat} {L A:Nat->SB} (h:Pst n m L A) (s:SB):Pst n m (qjQ L m s) (qjQ A m s):=by
 induction h with
 |refl=>exact .refl
 |head h _ ih=>
  cases h with
  |@mk k i h=>
   have hk:=h.k_;refine .head (L1:=qjQ (psh _ k i) m s) ?_ ih;rw[<-qqV hk];refine .mk ⟨hk,h.i_,?_,?_⟩
   ·rw[qfc (by omega)];exact h.b_
   rw[qfc (by omega)];exact h.e_
theorem Pst.beyond {n m:Nat} {L A:Nat->SB} (h:Pst n m L A): ∀q,m<=q->A q=L q:=by
 induction h with
 |refl=>exact fun _ _=>rfl
 |head h _ ih=>
  cases h with
  |mk h=>
   intro q hq;have:=h.k_;rw[ih q hq,jl _ (by omega) (by omega)]
theorem qbt {n k:Nat} (h:k<n):rv5 n k=n-1-k:=if_pos h
theorem qsO {n i:Nat} (hi:i+1<n) (k:Nat):rv5 n (tr5 i k)=tr5 (n-2-i) (rv5 n k):=by
 by_cases hk:k<n
 ·have e:=qbt hk;rcases qah i k with⟨a,b⟩|⟨a,b⟩|⟨a,a',b⟩<;>rw[b]
  ·subst a;rw[e,qbt (by omega),show n-1-k=n-2-k+1 by omega,qcM];omega
  ·subst a;rw[e,qbt (by omega),show n-1-(i+1)=n-2-i by omega,qcP];omega
  rw[e,yu (by omega) (by omega)]
 rw[yu (by omega) (by omega)];have:rv5 n k=k:=if_neg hk;rw[this,yu (by omega) (by omega)]
theorem qoK {n i:Nat} (hi:i+1<n) (s:SB):(s.bk i).flip n=(s.flip n).bk (n-2-i):=SB.ext fun k=>by
 show rv5 n (tr5 i (s.f (rv5 n k)))=tr5 (n-2-i) (rv5 n (s.f (rv5 n k)));exact qsO hi _
theorem qpd {n i:Nat} (hi:i+1<n) (s:SB):(s.fr i).flip n=(s.flip n).fr (n-2-i):=SB.ext fun k=>by
 show rv5 n (s.f (tr5 i (rv5 n k)))=rv5 n (s.f (rv5 n (tr5 (n-2-i) k)));have:=qsO (n:=n) (i:=n-2-i) (by omega) k;rw[show n-2-(n-2-i)=i by omega]at this;rw[this]
theorem qqh {n i:Nat} (hi:i+1<n) {s:SB} (hs:s.Ok n) (h:s.Begs i):(s.flip n).Begs (n-2-i):=by
 unfold SB.Begs at*;show rv5 n (s.f (rv5 n (n-2-i+1)))<rv5 n (s.f (rv5 n (n-2-i)));have h1:=hs.f_ i (by omega);have h2:=hs.f_ (i+1) hi;rw[qbt (k:=n-2-i+1) (by omega),qbt (k:=n-2-i) (by omega),show n-1-(n-2-i+1)=i by omega,show n-1-(n-2-i)=i+1 by omega,qbt h1,qbt h2];omega
theorem qqo {n i:Nat} (hi:i+1<n) {s:SB} (hs:s.Ok n) (h: ¬s.Ends i): ¬(s.flip n).Ends (n-2-i):=by
 have h:=SB.nEnds h;unfold SB.Ends;show¬rv5 n (s.g (rv5 n (n-2-i+1)))<rv5 n (s.g (rv5 n (n-2-i)));have h1:=hs.g_ i (by omega);have h2:=hs.g_ (i+1) hi;rw[qbt (k:=n-2-i+1) (by omega),qbt (k:=n-2-i) (by omega),show n-1-(n-2-i+1)=i by omega,show n-1-(n-2-i)=i+1 by omega,qbt h1,qbt h2];omega
def qd0 (n:Nat) (L:Nat->SB):Nat->SB:=fun q=>(L q).flip n
theorem qpR {n k i:Nat} (hi:i+1<n) (L:Nat->SB):psh (qd0 n L) k (n-2-i)=qd0 n (psh L k i):=by
 funext q;by_cases b:q=k
 ·subst b;rw[yN];unfold qd0;rw[yN,qoK hi]
 by_cases c:q=k+1
 ·subst c;rw[jF];unfold qd0;rw[jF,qpd hi]
 rw[jl _ b c];unfold qd0;rw[jl _ b c]
theorem OkM.flip {n m:Nat} {L:Nat->SB} (h:OkM n m L):OkM n m (qd0 n L):=fun q hq=>(h q hq).flip
theorem Pst.flip {n m:Nat} {L A:Nat->SB} (h:Pst n m L A) (hL:OkM n m L):Pst n m (qd0 n L) (qd0 n A)/\OkM n m A:=by
 induction h with
 |refl=>exact⟨.refl,hL⟩
 |head h _ ih=>
  cases h with
  |@mk k i h=>
   have hk:=h.k_;have hi:=h.i_;obtain⟨a,b⟩:=ih (hL.psh hk hi);refine⟨.head (L1:=qd0 n (psh _ k i)) ?_ a,b⟩;rw[<-qpR hi];exact .mk ⟨hk,by omega,qqh hi (hL _ hk) h.b_,qqo hi (hL _ (by omega)) h.e_⟩
def qgc (n:Nat) (p:List Nat):List Nat:=p.reverse.map fun k=>n-1-k
def qcs (n:Nat):List Nat:=(List.range n).reverse
theorem qd2 (n:Nat):(Uf n).row n=qcs n:=by
 apply List.ext_getElem?;intro k;unfold qcs;by_cases hk:k<n
 ·rw[Uj _ hk,List.getElem?_reverse (by simpa using hk)];simp only[List.length_range];rw[List.getElem?_range (by omega)];show some (rv5 n k)=_;rw[qbt hk]
 rw[Yg (by rw[Uk];omega),Yg (by simp;omega)]
theorem qiK (n:Nat):SB.id.row n=List.range n:=by
 unfold SB.row;exact List.map_id' _
theorem qnb {n:Nat} {s:SB} (hs:s.Ok n):(s.flip n).row n=qgc n (s.row n):=by
 apply List.ext_getElem?;intro k;unfold qgc;by_cases hk:k<n
 ·rw[Uj _ hk,YA,List.getElem?_reverse (by rw[Uk];exact hk),Uk,Uj _ (by omega)];show some (rv5 n (s.f (rv5 n k)))=_;rw[qbt hk,qbt (hs.f_ _ (by omega))];rfl
 rw[Yg (by rw[Uk];omega),Yg (by simp[Uk];omega)]
theorem qi1 {n m:Nat} {L:Nat->SB} (hL:OkM n m L): ∀{k:Nat},k<=m->qap n (qd0 n L) k=(qap n L k).map (qgc n)
 |0,h=>rfl
 |k+1,h=>by
  rw[qap,qap,List.map_cons,qi1 hL (k:=k) (by omega),<-qnb (hL k (by omega))];rfl
def xB (l:List SB):Nat->SB:=fun q=>l.getD q SB.id
def qbE (n:Nat) (l:List SB) (c:Int):List SB:=if 0<c then l++[SB.id.fr (c.natAbs-1)]else l.map (SB.flip n)++[(Uf n).bk (c.natAbs-1)]
theorem qsj (l:List SB) (s:SB):xB (l++[s])=qjQ (xB l) l.length s:=by
 funext q
 show(l++[s]).getD q SB.id=if q=l.length then s else l.getD q SB.id
 rw[Yy,Yy];by_cases h:q=l.length
 ·subst h;simp
 rw[if_neg h];by_cases h2:q<l.length
 ·rw[Yf h2]
 rw[Yg (by simp;omega),Yg (by omega)]
theorem qhs (n:Nat) (l:List SB):xB (l.map (SB.flip n))=qd0 n (xB l):=by
 funext q;show(l.map (SB.flip n)).getD q SB.id=(l.getD q SB.id).flip n;rw[Yy,Yy,YA]
 cases l[q]? with
 |some s=>rfl
 |none=>
  refine SB.ext fun k=>?_
  show k=rv5 n (rv5 n k);rw[qb0]
def qkd (n:Nat) (R:List (List Nat)) (c:Int):List (List Nat):=
 if 0<c then qhZ n (qfr (c.natAbs-1) (List.range n)) R else qhZ n (qbk (c.natAbs-1) (qcs n)) (R.map (qgc n))
structure QOK (n:Nat) (l:List SB) (R:List (List Nat)):Prop where
 ok: ∀s∈l,s.Ok n
 ex: ∃A,Pst n l.length (xB l) A/\OkM n l.length A/\R=qap n A l.length
theorem qer {n:Nat} {l:List SB} (h: ∀s∈l,s.Ok n):OkM n l.length (xB l):=fun q hq=>by
 unfold xB;rw[Yy,Ya hq];exact h _ (List.getElem_mem hq)
theorem QOK.step {n:Nat} {l:List SB} {R:List (List Nat)} (h:QOK n l R) {c:Int} (hc:c≠0/\ -(n:Int)<c/\c<n):QOK n (qbE n l c) (qkd n R c)/\(qbE n l c).length=l.length+1:=by
 obtain⟨i,hi⟩: ∃i,c.natAbs=i+1:=⟨c.natAbs-1,by omega⟩
 have hin:i+1<n:=by omega
 obtain⟨A,a1,a2,rfl⟩:=h.ex
 have key: ∀{l':List SB} {B:Nat->SB} {s:SB},l'.length=l.length->(∀t∈l',t.Ok n)->s.Ok n->Pst n l.length (xB l') B->OkM n l.length B->QOK n (l'++[s]) (qhZ n (s.row n) (qap n B l.length)):=fun {l' B s} hl hk hs p ok=>by
  refine⟨fun t ht=>(List.mem_append.1 ht).elim (hk t) (fun e=>by rw[List.mem_singleton.1 e];exact hs),?_⟩
  have ok':OkM n (l.length+1) (qjQ B l.length s):=fun q hq=>by
   by_cases e:q=l.length
   ·subst e;rw[qig];exact hs
   rw[qfc e];exact ok q (by omega)
  obtain⟨D,d1,d2,d3,d4⟩:=qmn (n:=n) (m:=l.length+1) l.length (qjQ B l.length s) (by omega) ok';rw[qig,qiS (A:=qjQ B l.length s) (L:=B) fun q hq=>qfc (by omega)]at d2;rw[qsj,Yq,hl];refine⟨D,?_,d4,d2⟩;have:=(p.upd s).up;exact this.trans d1
 unfold qbE qkd;rw[hi,Nat.add_sub_cancel];by_cases hp:0<c
 ·rw[if_pos hp,if_pos hp];refine⟨?_,by simp⟩;have:=key (s:=SB.id.fr i) rfl h.ok ((Ut n).fr hin) a1 a2
  rwa [qll hin,qiK]at this
 rw[if_neg hp,if_neg hp];refine⟨?_,by simp⟩;obtain⟨f1,f2⟩:=a1.flip (qer h.ok)
 have:=key (l':=l.map (SB.flip n)) (B:=qd0 n A) (s:=(Uf n).bk i) (by simp) (fun t ht=>by
  obtain⟨u,hu,rfl⟩:=List.mem_map.1 ht
  exact(h.ok u hu).flip) ((Uo n).bk hin) (by rw[qhs];exact f1) a2.flip
 rwa [qlw,qd2,qi1 a2 (Nat.le_refl _)]at this
def jnL (a:Nat) (P L:Nat->SB):Nat->SB:=fun q=>if q<a then P q else L (q-a)
theorem qb7 {a q:Nat} {P L:Nat->SB} (h:q<a):jnL a P L q=P q:=if_pos h
theorem qcJ {a k:Nat} {P L:Nat->SB}:jnL a P L (a+k)=L k:=by
 unfold jnL;rw[if_neg (by omega),Nat.add_sub_cancel_left]
theorem qg7 (p l:List SB):xB (p++l)=jnL p.length (xB p) (xB l):=by
 funext q;unfold jnL xB;by_cases h:q<p.length
 ·rw[if_pos h,Yy,Yf h,Yy]
 rw[if_neg h,Yy,Yo (by omega),Yy]
theorem qsD {a k i:Nat} {P L:Nat->SB}:psh (jnL a P L) (a+k) i=jnL a P (psh L k i):=by
 funext q;by_cases h:q<a
 ·rw[jl _ (by omega) (by omega),qb7 h,qb7 h]
 obtain⟨j,rfl⟩: ∃j,q=a+j:=⟨q-a,by omega⟩;rw[qcJ];by_cases h1:j=k
 ·subst h1;rw[yN,yN,qcJ]
 by_cases h2:j=k+1
 ·subst h2;rw[show a+(k+1)=a+k+1 by omega,jF,jF,show a+k+1=a+(k+1)by omega,qcJ]
 rw[jl _ (by omega) (by omega),jl _ h1 h2,qcJ]
theorem qtm {a k i:Nat} {P L:Nat->SB} (hk:k+1<a):psh (jnL a P L) k i=jnL a (psh P k i) L:=by
 funext q;by_cases h1:q=k
 ·subst h1;rw[yN,qb7 (by omega),qb7 (by omega),yN]
 by_cases h2:q=k+1
 ·subst h2;rw[jF,qb7 hk,qb7 hk,jF]
 rw[jl _ h1 h2];by_cases h:q<a
 ·rw[qb7 h,qb7 h,jl _ h1 h2]
 unfold jnL;rw[if_neg h,if_neg h]
theorem Pst.pre {n m a:Nat} {P L A:Nat->SB} (h:Pst n m L A):Pst n (a+m) (jnL a P L) (jnL a P A):=by
 induction h with
 |refl=>exact .refl
 |head h _ ih=>
  cases h with
  |@mk k i h=>
   refine .head (L1:=jnL a P (psh _ k i)) ?_ ih;rw[<-qsD];refine .mk ⟨by have:=h.k_;omega,h.i_,?_,?_⟩
   ·rw[show a+k+1=a+(k+1)by omega,qcJ];exact h.b_
   rw[qcJ];exact h.e_
theorem Pst.suf {n m a:Nat} {P A L:Nat->SB} (h:Pst n a P A):Pst n (a+m) (jnL a P L) (jnL a A L):=by
 induction h with
 |refl=>exact .refl
 |head h _ ih=>
  cases h with
  |@mk k i h=>
   have hk:=h.k_;refine .head (L1:=jnL a (psh _ k i) L) ?_ ih;rw[<-qtm hk];refine .mk ⟨by omega,h.i_,?_,?_⟩
   ·rw[qb7 hk];exact h.b_
   rw[qb7 (by omega)];exact h.e_
structure Jn (n:Nat) (l l':List SB):Prop where
 len:l.length=l'.length
 o1: ∀s∈l,s.Ok n
 o2: ∀s∈l',s.Ok n
 meet: ∃D,Pst n l.length (xB l) D/\Pst n l.length (xB l') D
theorem Jn.refl {n:Nat} {l:List SB} (h: ∀s∈l,s.Ok n):Jn n l l:=⟨rfl,h,h,_,.refl,.refl⟩
theorem Jn.symm {n:Nat} {l l':List SB} (h:Jn n l l'):Jn n l' l:=by
 obtain⟨D,a,b⟩:=h.meet;exact⟨h.len.symm,h.o2,h.o1,D,h.len▸b,h.len▸a⟩
theorem Jn.trans {n:Nat} {l l' l2:List SB} (h:Jn n l l') (k:Jn n l' l2):Jn n l l2:=by
 obtain⟨D,a,b⟩:=h.meet;obtain⟨E,c,d⟩:=k.meet;rw[<-h.len]at c d;obtain⟨F,f1,f2⟩:=qky _ D (Nat.le_refl _);obtain⟨G,g1,g2⟩:=qky _ E (Nat.le_refl _);obtain rfl:=qfI _ (Nat.le_refl _) (b.trans f1) (c.trans g1) f2 g2;exact⟨h.len.trans k.len,h.o1,k.o2,F,a.trans f1,d.trans g1⟩
theorem Jn.app {n:Nat} {p p' l l':List SB} (h:Jn n p p') (k:Jn n l l'):Jn n (p++l) (p'++l'):=by
 obtain⟨D,a,b⟩:=h.meet;obtain⟨E,c,d⟩:=k.meet;refine⟨by rw[Yq,Yq,h.len,k.len],fun s hs=>(List.mem_append.1 hs).elim (h.o1 s) (k.o1 s),fun s hs=>(List.mem_append.1 hs).elim (h.o2 s) (k.o2 s),jnL p.length D E,?_,?_⟩
 ·rw[qg7,Yq];exact a.suf.trans c.pre
 rw[qg7,Yq,<-h.len];exact b.suf.trans d.pre
theorem Jn.flip {n:Nat} {l l':List SB} (h:Jn n l l'):Jn n (l.map (SB.flip n)) (l'.map (SB.flip n)):=by
 obtain⟨D,a,b⟩:=h.meet;have f1:=(a.flip (qer h.o1)).1;have f2:=(b.flip (by rw[h.len];exact qer h.o2)).1;refine⟨by simp[h.len],fun s hs=>?_,fun s hs=>?_,qd0 n D,?_,?_⟩
 ·obtain⟨u,hu,rfl⟩:=List.mem_map.1 hs;exact(h.o1 u hu).flip
 ·obtain⟨u,hu,rfl⟩:=List.mem_map.1 hs;exact(h.o2 u hu).flip
 ·rw[qhs,List.length_map];exact f1
 rw[qhs,List.length_map];exact f2
theorem Jn.nf {n:Nat} {l l':List SB} (h:Jn n l l') {A:Nat->SB} (a:Pst n l.length (xB l) A) (nA:Nf n l.length A):Pst n l'.length (xB l') A:=by
 obtain⟨D,d1,d2⟩:=h.meet;obtain⟨E,e1,e2⟩:=qky _ D (Nat.le_refl _);obtain rfl:=qfI _ (Nat.le_refl _) a (d1.trans e1) nA e2;rw[<-h.len];exact d2.trans e1
def SB.Fix (n:Nat) (s:SB):Prop:= ∀k,n<=k->s.f k=k
theorem SB.Fix.fr {n i:Nat} {s:SB} (h:s.Fix n) (hi:i+1<n):(s.fr i).Fix n:=fun k hk=>by
 show s.f (tr5 i k)=k;rw[yu (by omega) (by omega)];exact h k hk
theorem SB.Fix.bk {n i:Nat} {s:SB} (h:s.Fix n) (hi:i+1<n):(s.bk i).Fix n:=fun k hk=>by
 show tr5 i (s.f k)=k;rw[h k hk,yu (by omega) (by omega)]
theorem qoc {n k:Nat} (h:n<=k):rv5 n k=k:=if_neg (by omega)
theorem SB.Fix.flip {n:Nat} {s:SB} (h:s.Fix n):(s.flip n).Fix n:=fun k hk=>by
 show rv5 n (s.f (rv5 n k))=k;rw[qoc hk,h k hk,qoc hk]
theorem SB.id_fix (n:Nat):SB.id.Fix n:=fun _ _=>rfl
theorem U5 (n:Nat):(Uf n).Fix n:=fun k hk=>qoc hk
theorem qt9 {n:Nat} {s t:SB} (hs:s.Fix n) (ht:t.Fix n) (h:s.row n=t.row n):s=t:=SB.ext fun k=>by
 by_cases hk:k<n
 ·have a:=Uj s hk;rw[h,Uj t hk]at a;exact(Ye a).symm
 rw[hs k (by omega),ht k (by omega)]
theorem Pst.fix {n m:Nat} {L A:Nat->SB} (h:Pst n m L A) (hL: ∀q,(L q).Fix n): ∀q,(A q).Fix n:=by
 induction h with
 |refl=>exact hL
 |head h _ ih=>
  cases h with
  |@mk k i h=>
   refine ih fun q=>?_
   by_cases h1:q=k
   ·subst h1;rw[yN];exact(hL q).bk h.i_
   by_cases h2:q=k+1
   ·subst h2;rw[jF];exact(hL _).fr h.i_
   rw[jl _ h1 h2];exact hL q
theorem qmw {n:Nat} {l:List SB} (h: ∀s∈l,s.Fix n): ∀q,(xB l q).Fix n:=fun q=>by
 unfold xB;rw[Yy]
 cases e:l[q]? with
 |none=>exact SB.id_fix n
 |some s=>exact h s (Yn e)
theorem qhU {l:List SB} {q:Nat} (h:l.length<=q):xB l q=SB.id:=by
 unfold xB;rw[Yy,Yg h];rfl
theorem qhl (n:Nat) (L:Nat->SB): ∀k,(qap n L k).length=k
 |0=>rfl
 |k+1=>by rw[qap,Yr,qhl n L k]
theorem qkm {n:Nat} {A B:Nat->SB}: ∀{k:Nat},qap n A k=qap n B k-> ∀q,q<k->(A q).row n=(B q).row n
 |0,h,q,hq=>by omega
 |k+1,h,q,hq=>by
  rw[qap,qap]at h;injection h with h1 h2;by_cases e:q=k
  ·subst e;exact h1
  exact qkm h2 q (by omega)
theorem qiu {n:Nat} {l l':List SB} {R:List (List Nat)} (h:QOK n l R) (h':QOK n l' R) (f: ∀s∈l,s.Fix n) (f': ∀s∈l',s.Fix n):Jn n l l':=by
 obtain⟨A,a1,a2,a3⟩:=h.ex;obtain⟨B,b1,b2,b3⟩:=h'.ex
 have hl:l.length=l'.length:=by
  have:=congrArg List.length a3;rw[b3,qhl,qhl]at this;exact this.symm
 have e:A=B:=by
  funext q;by_cases hq:q<l.length
  ·refine qt9 (a1.fix (qmw f) q) (b1.fix (qmw f') q) ?_;rw[<-hl]at b3;exact qkm (a3.symm.trans b3) q hq
  rw[a1.beyond q (by omega),b1.beyond q (by omega),qhU (by omega),qhU (by omega)]
 subst e;exact⟨hl,h.ok,h'.ok,A,a1,hl▸b1⟩
def fac (n:Nat) (w:List Int):List SB:=w.foldl (qbE n) []
def flW (n:Nat) (w:List Int) (p:List SB):List SB:=w.foldl (fun p c=>if 0<c then p else p.map (SB.flip n)) p
theorem qsi (n:Nat) (p l:List SB) (c:Int):qbE n (p++l) c=(if 0<c then p else p.map (SB.flip n))++qbE n l c:=by
 unfold qbE;split
 ·rw[Yz]
 rw[List.map_append,Yz]
theorem qj8 (n:Nat): ∀(w:List Int) (p l:List SB),w.foldl (qbE n) (p++l)=flW n w p++w.foldl (qbE n) l
 |[],p,l=>rfl
 |c::w,p,l=>by
  rw[List.foldl_cons,qsi,qj8 n w,List.foldl_cons];rfl
theorem qeB (n:Nat) (u v:List Int):fac n (u++v)=flW n v (fac n u)++fac n v:=by
 unfold fac;rw[List.foldl_append];have:=qj8 n v (u.foldl (qbE n) []) [];rw[YQ]at this;exact this
def yQ (n:Nat) (w:List Int):Prop:= ∀c∈w,c≠0/\ -(n:Int)<c/\c<n
theorem yQ.app {n:Nat} {u v:List Int} (h:yQ n u) (k:yQ n v):yQ n (u++v):=fun c hc=>(List.mem_append.1 hc).elim (h c) (k c)
theorem yQ.left {n:Nat} {u v:List Int} (h:yQ n (u++v)):yQ n u:=fun c hc=>h c (List.mem_append_left _ hc)
theorem yQ.right {n:Nat} {u v:List Int} (h:yQ n (u++v)):yQ n v:=fun c hc=>h c (List.mem_append_right _ hc)
def Gd (n:Nat) (s:SB):Prop:= ∃i,i+1<n/\(s=SB.id.fr i\/s=(Uf n).bk i)
theorem qo0 (n:Nat):SB.id.flip n=SB.id:=SB.ext fun k=>qb0 n k
theorem qkB (n:Nat):(Uf n).flip n=Uf n:=SB.ext fun k=>by
 show rv5 n (rv5 n (rv5 n k))=rv5 n k;rw[qb0]
theorem Gd.flip {n:Nat} {s:SB} (h:Gd n s):Gd n (s.flip n):=by
 obtain⟨i,hi,h|h⟩:=h<;>subst h
 ·exact⟨n-2-i,by omega,.inl (by rw[qpd hi,qo0])⟩
 exact⟨n-2-i,by omega,.inr (by rw[qoK hi,qkB])⟩
theorem Gd.ok {n:Nat} {s:SB} (h:Gd n s):s.Ok n:=by
 obtain⟨i,hi,h|h⟩:=h<;>subst h
 ·exact(Ut n).fr hi
 exact(Uo n).bk hi
theorem Gd.fix {n:Nat} {s:SB} (h:Gd n s):s.Fix n:=by
 obtain⟨i,hi,h|h⟩:=h<;>subst h
 ·exact(SB.id_fix n).fr hi
 exact(U5 n).bk hi
theorem qto {n:Nat} {l:List SB} (h: ∀s∈l,Gd n s) {c:Int} (hc:c≠0/\ -(n:Int)<c/\c<n): ∀s∈qbE n l c,Gd n s:=fun s hs=>by
 unfold qbE at hs;split at hs
 ·rcases List.mem_append.1 hs with hs|hs
  ·exact h s hs
  rw[List.mem_singleton.1 hs];exact⟨c.natAbs-1,by omega,.inl rfl⟩
 rcases List.mem_append.1 hs with hs|hs
 ·obtain⟨u,hu,rfl⟩:=List.mem_map.1 hs;exact(h u hu).flip
 rw[List.mem_singleton.1 hs];exact⟨c.natAbs-1,by omega,.inr rfl⟩
theorem qoH {n:Nat}: ∀{w:List Int} {l:List SB},(∀s∈l,Gd n s)->yQ n w-> ∀s∈w.foldl (qbE n) l,Gd n s
 |[],l,h,hw=>h
 |c::w,l,h,hw=>qoH (w:=w) (qto h (hw c (List.mem_cons_self ..))) (fun d hd=>hw d (List.mem_cons_of_mem _ hd))
theorem qdq {n:Nat} {w:List Int} (hw:yQ n w): ∀s∈fac n w,Gd n s:=qoH (fun s hs=>by cases hs) hw
theorem qrr (n:Nat) (l:List SB) (c:Int):(qbE n l c).length=l.length+1:=by unfold qbE;split<;>simp
theorem qks (n:Nat): ∀(w:List Int) (l:List SB),(w.foldl (qbE n) l).length=l.length+w.length
 |[],l=>rfl
 |c::w,l=>by rw[List.foldl_cons,qks n w,qrr,Yr];omega
theorem qcm (n:Nat) (w:List Int):(fac n w).length=w.length:=by unfold fac;rw[qks];simp
def qW (n:Nat) (w:List Int):List (List Nat):=w.foldl (qkd n) []
theorem qqS {n:Nat}: ∀(w:List Int) {l:List SB} {R:List (List Nat)},QOK n l R->yQ n w->QOK n (w.foldl (qbE n) l) (w.foldl (qkd n) R)
 |[],l,R,h,hw=>h
 |c::w,l,R,h,hw=>qqS w (h.step (hw c (List.mem_cons_self ..))).1 (fun d hd=>hw d (List.mem_cons_of_mem _ hd))
theorem qnh {n:Nat} {w:List Int} (hw:yQ n w):QOK n (fac n w) (qW n w):=
 qqS w ⟨fun s h=>(by cases h),⟨xB [],Pst.refl,fun q hq=>absurd hq (Nat.not_lt_zero q),rfl⟩⟩ hw
theorem qnI {n:Nat}: ∀(w:List Int) {l l':List SB},Jn n l l'->Jn n (flW n w l) (flW n w l')
 |[],l,l',h=>h
 |c::w,l,l',h=>by
  unfold flW;rw[List.foldl_cons,List.foldl_cons];refine qnI w ?_;split
  ·exact h
  exact h.flip
theorem qiy (n:Nat): ∀(w:List Int) (p q:List SB),flW n w (p++q)=flW n w p++flW n w q
 |[],p,q=>rfl
 |c::w,p,q=>by
  unfold flW;rw[List.foldl_cons,List.foldl_cons,List.foldl_cons];split
  ·exact qiy n w p q
  rw[List.map_append];exact qiy n w _ _
theorem qn2 {n:Nat}: ∀(w:List Int) {l:List SB},(∀s∈l,Gd n s)-> ∀s∈flW n w l,Gd n s
 |[],l,h=>h
 |c::w,l,h=>by
  unfold flW;rw[List.foldl_cons];refine qn2 w ?_;split
  ·exact h
  intro s hs;obtain⟨u,hu,rfl⟩:=List.mem_map.1 hs;exact(h u hu).flip
theorem qiz {n:Nat} {s:SB} (h:s.flip n=s): ∀w:List Int,flW n w [s]=[s]
 |[]=>rfl
 |c::w=>by
  unfold flW;rw[List.foldl_cons];split
  ·exact qiz h w
  rw[List.map_singleton,h];exact qiz h w
theorem qjc {n:Nat} {l:List SB} (h: ∀s∈l,Gd n s):Jn n l l:= .refl fun s hs=>(h s hs).ok
theorem qqT {n:Nat} {u m m' v:List Int} (hu:yQ n u) (hv:yQ n v) (j:Jn n (fac n m) (fac n m')) (hf: ∀p,flW n m p=flW n m' p):Jn n (fac n (u++m++v)) (fac n (u++m'++v)):=by
 rw[qeB,qeB n u m,qeB n (u++m') v,qeB n u m',hf];exact(qnI v ((qjc (qn2 m' (qdq hu))).app j)).app (qjc (qdq hv))
section
variable {n m:Nat} (hn:n<=12) (n2:2<=n)
include hn n2
theorem qk4:(Uf n).li n≠qbO n:=fun h=>by
 have:=SB.li_inj (t:=SB.id) h (k:=0) (by omega);have e:rv5 n 0=0:=this;unfold rv5 at e;rw[if_pos (by omega)]at e;omega
variable {N:Nat} (hN:2000<N)
include hN
theorem qhh {A:Nat->SB} (hm:m<=300) (hA:OkM n m A): ∀(K i:Nat) (h:Int) (out:List (List Int)),i<=m->m<K+i-> -1000<=h->h<=300+i->out.length<=i->
 yB N (n:Int) (j6 n m A) K h out (i:Int)=some (h+((((j6 n m A).drop i).countP fun x=>decide (x=(Uf n).li n):Nat):Int),out++((j6 n m A).drop i).filter fun x=>!decide (x=qbO n)&&!decide (x=(Uf n).li n))
 |0,i,h,out,hi,hK,h1,h2,ho=>by omega
 |K+1,i,h,out,hi,hK,h1,h2,ho=>by
  unfold yB;rw[zN];by_cases c:i<m
  ·have hl:i<(j6 n m A).length:=by rw[zN];exact c
   have hg:(j6 n m A)[i]=(A i).li n:=by
    have:=qar (n:=n) (L:=A) c;rw[Ya hl]at this;exact Ye this
   obtain⟨b,b1,b2⟩:=qrO hn (by omega) (N:=N) hN (A i);rw[qve hn (by omega) (hA i c)]at b2
   have e24: ∀o:List (List Int),o.length<=i->app 24 o [(A i).li n]=some (o++[(A i).li n]):=fun o ho=>qa0 (by simp;omega) (by simp;omega)
   rw[if_pos (by omega),qw,qar c,YG hl,hg,List.countP_cons,List.filter_cons];simp only[ZB,b1];by_cases p:(A i).li n=qbO n
   ·have q:(A i).li n≠(Uf n).li n:=fun e=>qk4 hn n2 (e▸p)
    rw[b2.2 p];simp only[if_true,ZB];rw[qR (by omega),qhh hm hA K (i+1) h out (by omega) (by omega) (by omega) (by omega) (by omega),decide_eq_true p,decide_eq_false q];simp
   have bf:b=false:=by
    cases b with
    |false=>rfl
    |true=>exact absurd (b2.1 rfl) p
   subst bf;simp only[ZF,if_false];rw[qkT hN (by omega)];simp only[ZB];have hln:=Ug n (A i);rw[qt4 (by omega) (by omega)];simp only[ZB];by_cases q:(A i).li n=(Uf n).li n
   ·rw[decide_eq_true q,decide_eq_false p];simp only[if_true,ZB];rw[qR (by omega),qz (n:=h+1) (by omega) (by omega),qhh hm hA K (i+1) (h+1) out (by omega) (by omega) (by omega) (by omega) (by omega)];simp;omega
   rw[decide_eq_false q,decide_eq_false p,e24 out ho];simp only[ZF,if_false,ZB];rw[qR (by omega),qhh hm hA K (i+1) h _ (by omega) (by omega) (by omega) (by omega) (by simp;omega)];simp
  rw[if_neg (by omega),List.drop_eq_nil_of_le (by rw[zN];omega)];simp
end
def lets (n:Nat):List Int:=(List.range (n-1)).flatMap fun i=>[((i+1:Nat):Int),-((i+1:Nat):Int)]
theorem qea {n:Nat} {c:Int} (h:c≠0/\ -(n:Int)<c/\c<n):c∈lets n:=by
 refine List.mem_flatMap.2 ⟨c.natAbs-1,List.mem_range.2 (by omega),?_⟩;by_cases p:0<c
 ·exact List.mem_cons.2 (.inl (by omega))
 exact List.mem_cons_of_mem _ (List.mem_singleton.2 (by omega))
def qlK (x y:Int):Bool:=Nat.ble (x.natAbs+2) y.natAbs||Nat.ble (y.natAbs+2) x.natAbs
def sg5 (c:Int):Int:=if c<0 then-1 else 1
def qcG (x y z:Int):Option (List Int):=
 if x.natAbs=z.natAbs/\(x.natAbs=y.natAbs+1\/y.natAbs=x.natAbs+1)then
  if sg5 x=sg5 y then some [sg5 z*(y.natAbs:Int),x,y]else if sg5 y=sg5 z then some [y,z,sg5 x*(y.natAbs:Int)]else none
 else none
def ngs (w:List Int):Nat:=w.countP fun c=>!decide (0<c)
def qf6:List (List Nat)->List (List Nat)->Bool
 |[],[]=>true
 |x::a,y::b=>rowB x y&&qf6 a b
 |_,_=>false
where rowB:List Nat->List Nat->Bool
 |[],[]=>true
 |x::a,y::b=>Nat.beq x y&&rowB a b
 |_,_=>false
theorem qpF: ∀{a b:List Nat},qf6.rowB a b=true->a=b
 |[],[],h=>rfl
 |x::a,y::b,h=>by
  unfold qf6.rowB at h;simp only[Bool.and_eq_true]at h;rw[Nat.eq_of_beq_eq_true h.1,qpF h.2]
 |[],y::b,h=>by cases h
 |x::a,[],h=>by cases h
theorem qeT: ∀{a b:List (List Nat)},qf6 a b=true->a=b
 |[],[],h=>rfl
 |x::a,y::b,h=>by
  unfold qf6 at h;simp only[Bool.and_eq_true]at h;rw[qpF h.1,qeT h.2]
 |[],y::b,h=>by cases h
 |x::a,[],h=>by cases h
def okIns (n:Nat):Bool:=(lets n).all fun x=>qf6 (qW n [x,-x]) [List.range n,qcs n]
def okSwp (n:Nat):Bool:=(lets n).all fun x=>(lets n).all fun y=>!qlK x y||(qf6 (qW n [x,y]) (qW n [y,x]))
def okTrn (n:Nat):Bool:=(lets n).all fun x=>(lets n).all fun y=>(lets n).all fun z=>match qcG x y z with
 |none=>true
 |some l=>qf6 (qW n [x,y,z]) (qW n l)&&Nat.beq (ngs [x,y,z]) (ngs l)
def qmH (n:Nat) (s t s' t':List Nat):Bool:=qf6 [(qed n (n*n) s t).1,(qed n (n*n) s t).2] [s',t']
def okGd (n:Nat):Bool:=(List.range (n-1)).all fun i=>
 (qmH n (qfr i (List.range n)) (qcs n) (qcs n) (qgc n (qfr i (List.range n)))&&qmH n (qbk i (qcs n)) (qcs n) (qcs n) (qgc n (qbk i (qcs n))))&&
 (qmH n (List.range n) (qfr i (List.range n)) (qfr i (List.range n)) (List.range n)&&qmH n (List.range n) (qbk i (qcs n)) (qbk i (qcs n)) (List.range n))
theorem qvq:((List.range 7).all okIns)=true:=by kernel_rfl
theorem qwk:((List.range 7).all okSwp)=true:=by kernel_rfl
theorem qwa:((List.range 7).all okTrn)=true:=by kernel_rfl
theorem quO:((List.range 7).all okGd)=true:=by kernel_rfl
theorem qiM {f:Nat->Bool} (h:((List.range 7).all f)=true) {n:Nat} (hn:n<=6):f n=true:=Yp.1 h n (List.mem_range.2 (by omega))
theorem qvv {n:Nat} {s t:SB} (hs:s.Ok n) (ht:t.Ok n):QOK n [s,t] [(qed n (n*n) (s.row n) (t.row n)).2,(qed n (n*n) (s.row n) (t.row n)).1]:=by
 have ho: ∀u∈[s,t],u.Ok n:=fun u hu=>by
  rcases List.mem_cons.1 hu with rfl|hu
  ·exact hs
  rw[List.mem_singleton.1 hu];exact ht
 obtain⟨A,a1,a2,a3,a4⟩:=qjR (n:=n) (m:=2) (k:=0) (by omega) (n*n) (xB [s,t]) (qer ho);refine⟨ho,A,a1,a4,?_⟩;have e:qed n (n*n) (s.row n) (t.row n)=((A 0).row n,(A 1).row n):=a2;rw[e];rfl
theorem qux {n:Nat} {s t:SB} (hs:s.Ok n) (ht:t.Ok n):QOK n [s,t] [t.row n,s.row n]:=by
 have ho: ∀u∈[s,t],u.Ok n:=fun u hu=>by
  rcases List.mem_cons.1 hu with rfl|hu
  ·exact hs
  rw[List.mem_singleton.1 hu];exact ht
 exact⟨ho,_,.refl,qer ho,rfl⟩
theorem ql3 {n:Nat} {s t s' t':SB} (hs:s.Ok n) (ht:t.Ok n) (hs':s'.Ok n) (ht':t'.Ok n) (f1:s.Fix n) (f2:t.Fix n) (f3:s'.Fix n) (f4:t'.Fix n) (h:qmH n (s.row n) (t.row n) (s'.row n) (t'.row n)=true):Jn n [s,t] [s',t']:=by
 have e:=qeT h;injection e with e1 e2;injection e2 with e2 _;have q:=qvv hs ht;rw[e1,e2]at q;refine qiu q (qux hs' ht') (fun u hu=>?_) (fun u hu=>?_)
 ·rcases List.mem_cons.1 hu with rfl|hu
  ·exact f1
  rw[List.mem_singleton.1 hu];exact f2
 rcases List.mem_cons.1 hu with rfl|hu
 ·exact f3
 rw[List.mem_singleton.1 hu];exact f4
theorem qn9 (n:Nat) (s:SB):(s.flip n).flip n=s:=SB.ext fun k=>by
 show rv5 n (rv5 n (s.f (rv5 n (rv5 n k))))=s.f k;rw[qb0,qb0]
theorem qht {n:Nat} {s:SB} (h:s.Ok n): ∀t∈[s],t.Ok n:=fun t ht=>by rw[List.mem_singleton.1 ht];exact h
theorem qo6 (n:Nat): ∀(w v:List Int) (p:List SB),ngs w=ngs v->flW n w p=flW n v p:=by
 have key: ∀(w:List Int) (p:List SB),flW n w p=Nat.repeat (fun p=>p.map (SB.flip n)) (ngs w) p:=by
  intro w
  induction w with
  |nil=>intro p;rfl
  |cons c w ih=>
   intro p
   have sh: ∀(k:Nat) (q:List SB),Nat.repeat (fun p=>p.map (SB.flip n)) k (q.map (SB.flip n))=(Nat.repeat (fun p=>p.map (SB.flip n)) k q).map (SB.flip n):=by
    intro k
    induction k with
    |zero=>intro q;rfl
    |succ k ih=>intro q;show List.map _ (Nat.repeat _ k _)=_;rw[ih];rfl
   unfold flW at ih⊢;rw[List.foldl_cons,ih];unfold ngs;rw[List.countP_cons];by_cases h:0<c
   ·simp[h]
   rw[if_neg h,if_pos (by simp[h]),sh];rfl
 intro w v p h;rw[key,key,h]
section
variable {n:Nat} (hn:n<=6)
include hn
theorem qtL {s:SB} (h:Gd n s):Jn n [s,Uf n] [Uf n,s.flip n]:=by
 refine ql3 h.ok (Uo n) (Uo n) h.ok.flip h.fix (U5 n) (U5 n) h.fix.flip ?_;rw[qnb h.ok,qd2];obtain⟨i,hi,h⟩:=h;have c:=Yp.1 (qiM quO hn) i (List.mem_range.2 (by omega));simp only[Bool.and_eq_true]at c;rcases h with rfl|rfl
 ·rw[qll hi,qiK];exact c.1.1
 rw[qlw,qd2];exact c.1.2
theorem gd_id {s:SB} (h:Gd n s):Jn n [SB.id,s] [s,SB.id]:=by
 refine ql3 (Ut n) h.ok h.ok (Ut n) (SB.id_fix n) h.fix h.fix (SB.id_fix n) ?_;rw[qiK];obtain⟨i,hi,h⟩:=h;have c:=Yp.1 (qiM quO hn) i (List.mem_range.2 (by omega));simp only[Bool.and_eq_true]at c;rcases h with rfl|rfl
 ·rw[qll hi,qiK];exact c.2.1
 rw[qlw,qd2];exact c.2.2
theorem qoN: ∀{l:List SB},(∀s∈l,Gd n s)->Jn n (l.map (SB.flip n)++[Uf n]) (Uf n::l)
 |[],h=> .refl (qht (Uo n))
 |s::l,h=>by
  have hs:=h s (List.mem_cons_self ..)
  have hl:=fun t ht=>h t (List.mem_cons_of_mem s ht)
  have a:Jn n ([s.flip n]++(l.map (SB.flip n)++[Uf n])) ([s.flip n]++(Uf n::l)):=(Jn.refl (qht hs.flip.ok)).app (qoN hl)
  have b:Jn n ([s.flip n,Uf n]++l) ([Uf n,s]++l):=by
   have:=qtL hn hs.flip;rw[qn9]at this;exact this.app (qjc hl)
  exact a.trans b
theorem quH: ∀{l:List SB},(∀s∈l,Gd n s)->Jn n (SB.id::l) (l++[SB.id])
 |[],h=> .refl (qht (Ut n))
 |s::l,h=>by
  have hs:=h s (List.mem_cons_self ..)
  have hl:=fun t ht=>h t (List.mem_cons_of_mem s ht)
  have b:Jn n ([SB.id,s]++l) ([s,SB.id]++l):=(gd_id hn hs).app (qjc hl);have a:Jn n ([s]++(SB.id::l)) ([s]++(l++[SB.id])):=(Jn.refl (qht hs.ok)).app (quH hl);exact b.trans a
theorem qvM {x y:Int} (hx:x≠0/\ -(n:Int)<x/\x<n) (hy:y≠0/\ -(n:Int)<y/\y<n) (h:qlK x y=true):Jn n (fac n [x,y]) (fac n [y,x]):=by
 have c:=Yp.1 (Yp.1 (qiM qwk hn) x (qea hx)) y (qea hy);rw[h]at c
 have l1:yQ n [x,y]:=fun c hc=>by
  rcases List.mem_cons.1 hc with rfl|hc
  ·exact hx
  rw[List.mem_singleton.1 hc];exact hy
 have l2:yQ n [y,x]:=fun c hc=>by
  rcases List.mem_cons.1 hc with rfl|hc
  ·exact hy
  rw[List.mem_singleton.1 hc];exact hx
 have c2:qf6 (qW n [x,y]) (qW n [y,x])=true:=by simpa using c
 have q:=qnh l1;rw[qeT c2]at q;exact qiu q (qnh l2) (fun s hs=>(qdq l1 s hs).fix) (fun s hs=>(qdq l2 s hs).fix)
theorem qwe {x y z:Int} {l:List Int} (hx:x≠0/\ -(n:Int)<x/\x<n) (hy:y≠0/\ -(n:Int)<y/\y<n) (hz:z≠0/\ -(n:Int)<z/\z<n) (hl:yQ n l) (h:qcG x y z=some l):Jn n (fac n [x,y,z]) (fac n l)/\ngs [x,y,z]=ngs l:=by
 have c:=Yp.1 (Yp.1 (Yp.1 (qiM qwa hn) x (qea hx)) y (qea hy)) z (qea hz);rw[h]at c;simp only[Bool.and_eq_true]at c
 have l1:yQ n [x,y,z]:=fun c hc=>by
  rcases List.mem_cons.1 hc with rfl|hc
  ·exact hx
  rcases List.mem_cons.1 hc with rfl|hc
  ·exact hy
  rw[List.mem_singleton.1 hc];exact hz
 have q:=qnh l1;rw[qeT c.1]at q;exact⟨qiu q (qnh hl) (fun s hs=>(qdq l1 s hs).fix) (fun s hs=>(qdq hl s hs).fix),Nat.eq_of_beq_eq_true c.2⟩
theorem qvk {x:Int} (hx:x≠0/\ -(n:Int)<x/\x<n):Jn n (fac n [x,-x]) [Uf n,SB.id]:=by
 have c:=Yp.1 (qiM qvq hn) x (qea hx)
 have l1:yQ n [x,-x]:=fun c hc=>by
  rcases List.mem_cons.1 hc with rfl|hc
  ·exact hx
  rw[List.mem_singleton.1 hc];omega
 have q:=qnh l1;rw[qeT c]at q;have q2:=qux (Uo n) (Ut n);rw[qiK,qd2]at q2;refine qiu q q2 (fun s hs=>(qdq l1 s hs).fix) (fun s hs=>?_);rcases List.mem_cons.1 hs with rfl|hs
 ·exact U5 n
 rw[List.mem_singleton.1 hs];exact SB.id_fix n
theorem qus {u v:List Int} {x:Int} (hu:yQ n u) (hv:yQ n v) (hx:x≠0/\ -(n:Int)<x/\x<n):Jn n (fac n (u++[x,-x]++v)) (Uf n::(fac n (u++v)++[SB.id])):=by
 have e1:flW n [x,-x] (fac n u)=(fac n u).map (SB.flip n):=by
  unfold flW;rw[List.foldl_cons,List.foldl_cons,List.foldl_nil];by_cases p:0<x
  ·rw[if_pos p,if_neg (by omega)]
  rw[if_neg p,if_pos (by omega)]
 have g1:=qdq hu
 have a:Jn n (fac n (u++[x,-x])) ((Uf n::fac n u)++[SB.id]):=by
  rw[qeB,e1];have a1:Jn n ((fac n u).map (SB.flip n)++fac n [x,-x]) ((fac n u).map (SB.flip n)++[Uf n,SB.id]):=(qjc g1).flip.app (qvk hn hx);have a2:Jn n (((fac n u).map (SB.flip n)++[Uf n])++[SB.id]) ((Uf n::fac n u)++[SB.id]):=(qoN hn g1).app (.refl (qht (Ut n)));rw[Yz]at a2;exact a1.trans a2
 rw[qeB,qeB n u v];have b:=(qnI v a).app (qjc (qdq hv));rw[qiy,show Uf n::fac n u=[Uf n]++fac n u from rfl,qiy,qiz (qkB n),qiz (qo0 n)]at b;refine b.trans ?_;have c:Jn n (SB.id::fac n v) (fac n v++[SB.id]):=quH hn (qdq hv);have d:=((Jn.refl (qht (Uo n))).app (qjc (qn2 v g1))).app c;simpa using d
end
section
variable {k:Nat} (hk:k<=12) (k1:1<=k)
include hk k1
end
structure FmOK (k:Nat) (f:qbZ):Prop where
 k1:1<=k
 k2:k<=12
 half: -200<=f.Half/\f.Half<=200
 one:k=1->f.Half=0
 few:f.Factors.length<=200
 at_: ∀j,j<f.Factors.length-> ∃s:SB,s.Ok k/\f.Factors[j]? =some (s.li k)
def qk9 (n m:Nat) (A:Nat->SB) (h:Int):qbZ:=⟨h+(((j6 n m A).countP fun x=>decide (x=(Uf n).li n):Nat):Int),(j6 n m A).filter fun x=>!decide (x=qbO n)&&!decide (x=(Uf n).li n)⟩
def qa9 (n:Nat) (w:List Int) (f:qbZ):Prop:= ∃A,Pst n w.length (xB (fac n w)) A/\Nf n w.length A/\f=qk9 n w.length A (-((ngs w:Nat):Int))
theorem qa9.uniq {n:Nat} {w:List Int} {f g:qbZ} (h:qa9 n w f) (k:qa9 n w g):f=g:=by
 obtain⟨A,a1,a2,a3⟩:=h;obtain⟨B,b1,b2,b3⟩:=k;obtain rfl:=qfI _ (Nat.le_refl _) a1 b1 a2 b2;rw[a3,b3]
theorem qa9.jn {n:Nat} {w v:List Int} {f:qbZ} (h:qa9 n w f) (j:Jn n (fac n w) (fac n v)) (hg:ngs w=ngs v):qa9 n v f:=by
 obtain⟨A,a1,a2,a3⟩:=h
 have hl:w.length=v.length:=by have:=j.len;rw[qcm,qcm]at this;exact this
 have a:=j.nf (A:=A) (by rw[qcm];exact a1) (by rw[qcm];exact a2);rw[qcm]at a;exact⟨A,a,hl▸a2,by rw[a3,hl,hg]⟩
theorem qqy {n i:Nat} (hi:i+1<n):(Uf n).Ends i:=by
 show rv5 n (i+1)<rv5 n i;rw[qbt hi,qbt (by omega)];omega
theorem quw (i:Nat): ¬SB.id.Begs i:=fun h=>by
 have h:i+1<i:=h;omega
theorem qtI {n:Nat} {l:List SB} {A:Nat->SB} (a:Pst n l.length (xB l) A) (nA:Nf n l.length A): ∃B,Pst n (l.length+2) (xB (Uf n::(l++[SB.id]))) B/\Nf n (l.length+2) B/\j6 n (l.length+2) B=(Uf n).li n::(j6 n l.length A++[SB.id.li n]):=by
 have e:xB (Uf n::(l++[SB.id]))=jnL 1 (xB [Uf n]) (jnL l.length (xB l) (xB [SB.id])):=by
  rw[show Uf n::(l++[SB.id])=[Uf n]++(l++[SB.id])from rfl,qg7,qg7];rfl
 refine⟨jnL 1 (xB [Uf n]) (jnL l.length A (xB [SB.id])),?_,fun k i c=>?_,?_⟩
 ·rw[e,show l.length+2=1+(l.length+1)by omega];exact(a.suf (m:=1)).pre
 ·obtain⟨k1,k2,k3,k4⟩:=c
  cases k with
  |zero=>exact k4 (qqy k2)
  |succ j=>
   rw[show j+1=1+j by omega,qcJ]at k4;rw[show j+1+1=1+(j+1)by omega,qcJ]at k3;by_cases h:j+1<l.length
   ·rw[qb7 h]at k3;rw[qb7 (by omega)]at k4;exact nA j i ⟨h,k2,k3,k4⟩
   have h2:j+1=l.length+0:=by omega
   rw[h2,qcJ]at k3;exact quw i k3
 apply List.ext_getElem?;intro q
 cases q with
 |zero=>rw[qar (by omega)];rfl
 |succ q=>
  rw[YK];by_cases h:q<l.length
  ·rw[qar (by omega),Yf (by rw[zN];exact h),qar h,show q+1=1+q by omega,qcJ,qb7 h]
  by_cases h2:q=l.length
  ·subst h2;rw[qar (by omega),Yo (by rw[zN];omega),zN,show l.length+1=1+(l.length+0)by omega,qcJ,qcJ];simp;rfl
  rw[Yg (by rw[zN];omega),Yg (by simp[zN];omega)]
theorem qbA (u v:List Int):ngs (u++v)=ngs u+ngs v:=List.countP_append ..
theorem qsT {x:Int} (hx:x≠0):ngs [x,-x]=1:=by
 unfold ngs;rw[List.countP_cons,List.countP_cons,List.countP_nil];by_cases h:0<x
 ·simp[h];omega
 simp[h];omega
section
variable {n:Nat} (hn:n<=6)
include hn
theorem qa9.ins (n2:2<=n) {u v:List Int} {x:Int} (hu:yQ n u) (hv:yQ n v) (hx:x≠0/\ -(n:Int)<x/\x<n) {f:qbZ} (h:qa9 n (u++v) f):qa9 n (u++[x,-x]++v) f:=by
 obtain⟨A,a1,a2,a3⟩:=h;have j:=qus hn hu hv hx;rw[<-qcm n]at a1 a2;obtain⟨B,b1,b2,b3⟩:=qtI a1 a2
 have hl:(u++[x,-x]++v).length=(fac n (u++v)).length+2:=by rw[qcm];simp;omega
 have hl2:(Uf n::(fac n (u++v)++[SB.id])).length=(fac n (u++v)).length+2:=by simp
 have c:=j.symm.nf (A:=B) (by rw[hl2];exact b1) (by rw[hl2];exact b2);rw[qcm,hl]at c;refine⟨B,by rw[hl];exact c,by rw[hl];exact b2,?_⟩;rw[a3,hl];unfold qk9;rw[b3,qcm];have ne:(Uf n).li n≠qbO n:=qk4 (n:=n) (by omega) n2
 have hg:ngs (u++[x,-x]++v)=ngs (u++v)+1:=by
  rw[qbA,qbA,qbA,qsT hx.1];omega
 rw[hg,SB.id_li];simp[List.countP_cons,List.filter_cons,List.filter_append,ne,Ne.symm ne];omega
end
inductive Mv (n:Nat):List Int->List Int->Prop
 |ins {u v:List Int} {x:Int} (hx:x≠0/\ -(n:Int)<x/\x<n):Mv n (u++v) (u++[x,-x]++v)
 |can {u v:List Int} {x:Int}:Mv n (u++[x,-x]++v) (u++v)
 |swp {u v:List Int} {x y:Int} (h:qlK x y=true):Mv n (u++[x,y]++v) (u++[y,x]++v)
 |trn {u v l:List Int} {x y z:Int} (h:qcG x y z=some l):Mv n (u++[x,y,z]++v) (u++l++v)
theorem qm6 {n:Nat} {x y z:Int} {l:List Int} (hx:x≠0/\ -(n:Int)<x/\x<n) (hy:y≠0/\ -(n:Int)<y/\y<n) (hz:z≠0/\ -(n:Int)<z/\z<n) (h:qcG x y z=some l):yQ n l:=by
 have sg: ∀c d:Int,d≠0/\ -(n:Int)<d/\d<n->sg5 c*(d.natAbs:Int)≠0/\ -(n:Int)<sg5 c*(d.natAbs:Int)/\sg5 c*(d.natAbs:Int)<n:=fun c d hd=>by
  unfold sg5;split<;>omega
 unfold qcG at h;split at h
 ·split at h
  ·have h:=Ye h;subst h;intro c hc;rcases List.mem_cons.1 hc with rfl|hc
   ·exact sg z y hy
   rcases List.mem_cons.1 hc with rfl|hc
   ·exact hx
   rw[List.mem_singleton.1 hc];exact hy
  split at h
  ·have h:=Ye h;subst h;intro c hc;rcases List.mem_cons.1 hc with rfl|hc
   ·exact hy
   rcases List.mem_cons.1 hc with rfl|hc
   ·exact hz
   rw[List.mem_singleton.1 hc];exact sg x y hy
  cases h
 cases h
theorem Mv.let_ {n:Nat} {w v:List Int} (h:Mv n w v) (hw:yQ n w):yQ n v:=by
 cases h with
 |ins hx=>exact(hw.left.app (fun c hc=>by
  rcases List.mem_cons.1 hc with rfl|hc
  ·exact hx
  rw[List.mem_singleton.1 hc];omega)).app hw.right
 |can=>exact hw.left.left.app hw.right
 |swp h=>exact(hw.left.left.app fun c hc=>hw c (by simp at hc⊢;rcases hc with rfl|rfl<;>simp)).app hw.right
 |trn h=>exact(hw.left.left.app (qm6 (hw _ (by simp)) (hw _ (by simp)) (hw _ (by simp)) h)).app hw.right
theorem Mv.form {n:Nat} (hn:n<=6) (n2:2<=n) {w v:List Int} (h:Mv n w v) (hw:yQ n w) {f:qbZ} (k:qa9 n v f):qa9 n w f:=by
 have hv:=h.let_ hw
 cases h with
 |@ins u v x hx=>
  have hA:qa9 n (u++v) (qk9 n 0 (xB []) 0)\/ ∃g,qa9 n (u++v) g:=by
   obtain⟨A,a1,a2⟩:=qky _ (xB (fac n (u++v))) (Nat.le_refl (mu5 n _ (u++v).length));exact .inr ⟨_,A,a1,a2,rfl⟩
  obtain⟨g,hg⟩: ∃g,qa9 n (u++v) g:=by
   rcases hA with h|h
   ·exact⟨_,h⟩
   exact h
  obtain rfl:=(hg.ins hn n2 hw.left hw.right hx).uniq k;exact hg
 |@can u v x=>
  exact k.ins hn n2 hv.left hv.right (hw x (by simp))
 |@swp u v x y h=>
  exact k.jn (qqT hw.left.left hw.right (qvM hn (hw x (by simp)) (hw y (by simp)) h).symm (fun p=>qo6 n _ _ p (by unfold ngs;simp[List.countP_cons];omega))) (by rw[qbA,qbA,qbA,qbA];congr 2;unfold ngs;simp[List.countP_cons];omega)
 |@trn u v l x y z h=>
  obtain⟨j,g⟩:=qwe hn (hw x (by simp)) (hw y (by simp)) (hw z (by simp)) (qm6 (hw x (by simp)) (hw y (by simp)) (hw z (by simp)) h) h;exact k.jn (qqT hw.left.left hw.right j.symm (fun p=>qo6 n _ _ p g.symm)) (by rw[qbA,qbA,qbA,qbA,g])
section
variable {n:Nat} (hn:n<=12) {N:Nat} (hN:2000<N)
include hn hN
theorem qjd {w:List Int} (W:vK n w) (n2:2<=n): ∀(K i k:Nat) (l:List SB),l.length=i->(∀s∈l,s.Ok n)->k<=i->i<=w.length->w.length<K+i->
 jL N (n:Int) w K (-(k:Int)) (ym n l) (i:Int)=some (-((k+ngs (w.drop i):Nat):Int),ym n ((w.drop i).foldl (qbE n) l))
 |0,i,k,l,hl,ho,h1,hi,hK=>by omega
 |K+1,i,k,l,hl,ho,h1,hiw,hK=>by
  have wl:=W.len;unfold jL;by_cases hi:i<w.length
  ·have hx:w[i]? =some w[i]:=Ya hi;have hc:=W.let_ _ (List.getElem_mem hi);rw[YG hi,List.foldl_cons];generalize w[i]=c at*;obtain⟨m,hm⟩: ∃m:Nat,c.natAbs=m+1:=⟨c.natAbs-1,by omega⟩
   have hm2:m+1<n:=by omega
   have q1:w64 (((m+1:Nat):Int)-1)=(m:Int):=by rw[qz (by omega) (by omega)];omega
   rw[if_pos (by omega),qw,hx];simp only[ZB,zW (show-1000<c/\c<1000 by omega),hm,q1];unfold ngs qbE;rw[hm,Nat.add_sub_cancel,List.countP_cons];by_cases pos:c>0
   ·rw[if_pos pos,qft hN (by omega),ZB,<-SB.id_li,qeu (by omega) SB.id hm2];simp only[ZB];rw[qa0 (by rw[yT];simp;omega) (by rw[yT];simp;omega)];simp only[ZB];rw[qR (by omega),show ym n l++[(SB.id.fr m).li n]=ym n (l++[SB.id.fr m])by simp[ym],if_pos (show 0<c from pos),decide_eq_true (show 0<c from pos)]
    exact qjd W n2 K (i+1) k _ (by simp[hl]) (fun s hs=>by
     rcases List.mem_append.1 hs with hs|hs
     ·exact ho s hs
     rw[List.mem_singleton.1 hs];exact(Ut n).fr hm2) (by omega) (by omega) (by omega)
   rw[if_neg pos,qhY hn hN (by omega) ho,ZB,qkT hN (by omega),ZB,qhz (by omega) hN (Uo n) hm2];simp only[ZB];rw[qa0 (by rw[yT];simp;omega) (by rw[yT];simp;omega)];simp only[ZB];rw[qR (by omega),qz (n:= -(k:Int)-1) (by omega) (by omega),if_neg (show¬0<c from pos),decide_eq_false (show¬0<c from pos),show-(k:Int)-1= -((k+1:Nat):Int)by omega,show ym n (l.map (SB.flip n))++[((Uf n).bk m).li n]=ym n (l.map (SB.flip n)++[(Uf n).bk m])by simp[ym]]
   have:=qjd W n2 K (i+1) (k+1) (l.map (SB.flip n)++[(Uf n).bk m]) (by simp[hl]) (fun s hs=>by
    rcases List.mem_append.1 hs with hs|hs
    ·obtain⟨u,hu,rfl⟩:=List.mem_map.1 hs;exact(ho u hu).flip
    rw[List.mem_singleton.1 hs];exact(Uo n).bk hm2) (by omega) (by omega) (by omega)
   rw[this];unfold ngs;simp only[Bool.not_false,if_true];congr 3;omega
  rw[if_neg (by omega),List.drop_eq_nil_of_le (by omega)];rfl
end
theorem quL {n:Nat} (n2:2<=n) (n6:n<=6) {N:Nat} (hN:300000<N) {w:List Int} (W:vK n w) (hl:w.length<=60):
 ∃f,yK N (n:Int) w=some f/\qa9 n w f/\f.Factors.length<=300/\ ∀x∈f.Factors,x.length<=300:=by
 have hw:yQ n w:=W.let_
 have lok:=qer (n:=n) (l:=fac n w) fun s hs=>(qdq hw s hs).ok
 have ll:=qcm n w;rw[ll]at lok
 have hmu: ∀L:Nat->SB,mu5 n L w.length<=129600:=fun L=>by
  refine Nat.le_trans (qoe w.length) ?_;have h1:n*n<=6*6:=Nat.mul_le_mul n6 n6;have h2:w.length*(n*n)<=60*36:=Nat.mul_le_mul hl h1;exact Nat.mul_le_mul hl h2
 have hmu0:=hmu (xB (fac n w));obtain⟨A,a1,a2,a3,a4⟩:=qio (n:=n) (m:=w.length) (by omega) (by omega) (by omega) (N:=N) (by omega) (fun L=>by have:=hmu L;omega) N 0 (xB (fac n w)) lok (Nat.zero_le _) (by omega) (fun j hj=>by omega);refine⟨qk9 n w.length A (-((ngs w:Nat):Int)),?_,⟨A,a2,a3,rfl⟩,?_,?_⟩
 ·unfold yK;have b0:=qjd (n:=n) (by omega) (N:=N) (by omega) W n2 N 0 0 [] rfl (fun s hs=>by cases hs) (Nat.le_refl _) (Nat.zero_le _) (by omega);rw[show ym n ([]:List SB)=[]from rfl,show(-((0:Nat):Int))=0 from rfl,show((0:Nat):Int)=0 from rfl,YR,Nat.zero_add]at b0
  have rF:ym n (fac n w)=j6 n w.length (xB (fac n w)):=qjK (by rw[yT,ll]) fun q hq=>by
   rw[qhr (by rw[ll];exact hq)];unfold xB;rw[Yy,Ya (by rw[ll];exact hq)];rfl
  have rF':ym n (w.foldl (qbE n) [])=j6 n w.length (xB (fac n w)):=rF;rw[if_neg (by omega),b0,ZB,rF']
  have p0:xV N (j6 n w.length (xB (fac n w)))=some (j6 n w.length A):=by
   unfold xV;rw[show((0:Nat):Int)=0 from rfl]at a1;rw[a1,ZB]
  dsimp only;rw[p0,ZB,zN,zN,if_pos rfl,ZB];have hk:ngs w<=w.length:=List.countP_le_length;have f0:=qhh (n:=n) (by omega) n2 (N:=N) (by omega) (by omega) a4 N 0 (-((ngs w:Nat):Int)) [] (Nat.zero_le _) (by omega) (by omega) (by omega) (Nat.zero_le _);rw[show((0:Nat):Int)=0 from rfl,YR,List.nil_append]at f0;rw[f0,ZB];rfl
 ·show(List.filter _ (j6 n w.length A)).length<=300;have:=List.length_filter_le (fun x=>!decide (x=qbO n)&&!decide (x=(Uf n).li n)) (j6 n w.length A);rw[zN]at this;omega
 intro x hx;have hx:x∈(j6 n w.length A).filter _:=hx;obtain⟨q,_,rfl⟩:=List.mem_map.1 (List.mem_filter.1 hx).1;rw[Ug];omega
def pmF (s:SB) (w:List Int):SB:=w.foldl (fun s c=>s.bk (c.natAbs-1)) s
theorem xX (s:SB) (u v:List Int):pmF s (u++v)=pmF (pmF s u) v:=List.foldl_append ..
section
variable {n:Nat} (hn:n<=12) {N:Nat} (hN:2000<N)
include hn hN
theorem qpt {w:List Int} (W:vK n w): ∀(K i:Nat) (s:SB),s.Ok n->i<=w.length->w.length<K+i->zC w K (s.li n) (s.rev.li n) (i:Int)=some ((pmF s (w.drop i)).li n)
 |0,i,s,hs,h,hK=>by omega
 |K+1,i,s,hs,hiw,hK=>by
  have wl:=W.len;unfold zC qcj;by_cases hi:i<w.length
  ·have hx:w[i]? =some w[i]:=Ya hi;have hc:=W.let_ _ (List.getElem_mem hi);rw[YG hi];unfold pmF;rw[List.foldl_cons];generalize w[i]=c at*;obtain⟨m,hm⟩: ∃m:Nat,c.natAbs=m+1:=⟨c.natAbs-1,by omega⟩
   have hm2:m+1<n:=by omega
   have q1:w64 (((m+1:Nat):Int)-1)=(m:Int):=by rw[qz (by omega) (by omega)];omega
   have q2:w64 ((m:Int)+1)=((m+1:Nat):Int):=qR (by omega);have g0:=hs.g_ m (by omega);have g1:=hs.g_ (m+1) hm2;have r0:idx (s.rev.li n) (m:Int)=some ((s.g m:Nat):Int):=Um (by omega);have r1:idx (s.rev.li n) ((m+1:Nat):Int)=some ((s.g (m+1):Nat):Int):=Um hm2
   have ne:s.g m≠s.g (m+1):=fun e=>by have:=s.ginj e;omega
   have p0:idx (s.li n) ((s.g m:Nat):Int)=some (m:Int):=by rw[Um g0,s.fg]
   have lset:((s.li n).set (s.g m) ((m+1:Nat):Int)).length=n:=by simp[Ug]
   have p1:idx ((s.li n).set (s.g m) ((m+1:Nat):Int)) ((s.g (m+1):Nat):Int)=some ((m+1:Nat):Int):=by
    rw[qw,Yw ne,Up s g1,s.fg]
   have q3:w64 (((m+1:Nat):Int)-1)=(m:Int):=q1;rw[if_pos (by omega),qw,hx];simp only[ZB,zW (show-1000<c/\c<1000 by omega),hm,q1,q2,r0,r1,p0];rw[jX (by rw[Ug];exact g0)];simp only[ZB,p1,q3];rw[jX (by rw[lset];exact g1)];simp only[ZB];rw[jX (by rw[Ug];omega)];simp only[ZB]
   have e17:idx ((s.rev.li n).set m ((s.g (m+1):Nat):Int)) ((m+1:Nat):Int)=some ((s.g (m+1):Nat):Int):=by
    rw[qw,Yw (by omega),Up s.rev hm2];rfl
   rw[e17];simp only[ZB];rw[jX (by simp[Ug];omega)];simp only[ZB]
   have e1:((s.li n).set (s.g m) ((m+1:Nat):Int)).set (s.g (m+1)) (m:Int)=(s.bk m).li n:=Uy (by simp[Ug]) fun k hk=>by
    show _=some ((tr5 m (s.f k):Nat):Int);by_cases a:k=s.g (m+1)
    ·subst a;rw[List.getElem?_set_self (by rw[lset];exact g1),s.fg,qcM]
    rw[Yw (fun e=>a e.symm)];by_cases b:k=s.g m
    ·subst b;rw[List.getElem?_set_self (by rw[Ug];exact g0),s.fg,qcP]
    rw[Yw (fun e=>b e.symm),Up s hk,yu (fun e=>b (by rw[<-e,s.gf])) (fun e=>a (by rw[<-e,s.gf]))]
   have e2:((s.rev.li n).set m ((s.g (m+1):Nat):Int)).set (m+1) ((s.g m:Nat):Int)=(s.bk m).rev.li n:=Uy (by simp[Ug]) fun k hk=>by
    show _=some ((s.g (tr5 m k):Nat):Int);by_cases a:k=m+1
    ·subst a;rw[List.getElem?_set_self (by simp[Ug];omega),qcM]
    rw[Yw (fun e=>a e.symm)];by_cases b:k=m
    ·subst b;rw[List.getElem?_set_self (by rw[Ug];omega),qcP]
    rw[Yw (fun e=>b e.symm),Up s.rev hk,yu b a];rfl
   rw[e1,e2,qR (by omega)];rw[show(m+1-1:Nat)=m by omega];exact qpt W K (i+1) _ (hs.bk hm2) (by omega) (by omega)
  rw[if_neg (by omega),List.drop_eq_nil_of_le (by omega)];rfl
theorem qit {w:List Int} (W:vK n w):qch N (n:Int) w=some ((pmF SB.id w).li n):=by
 unfold qch xy;have wl:=W.len;have:=qpt hn hN W N 0 SB.id (Ut n) (Nat.zero_le _) (by omega);rw[YR,show SB.id.rev=SB.id from rfl,SB.id_li,show((0:Nat):Int)=0 from rfl]at this;rw[qft hN (by omega),ZB,ZB,this];rfl
end
theorem bk_bk (s:SB) (i:Nat):(s.bk i).bk i=s:=SB.ext fun k=>qg3 i (s.f k)
theorem qu2 {i j:Nat} (h:i+1<j\/j+1<i) (s:SB):(s.bk i).bk j=(s.bk j).bk i:=SB.ext fun k=>(qjS h (s.f k)).symm
theorem qoT (s:SB) (i:Nat):((s.bk i).bk (i+1)).bk i=((s.bk (i+1)).bk i).bk (i+1):=SB.ext fun k=>qhq i (s.f k)
theorem qih (s:SB) (x:Int):pmF s [x,-x]=s:=by
 show(s.bk (x.natAbs-1)).bk ((-x).natAbs-1)=s;rw[Int.natAbs_neg,bk_bk]
theorem qs8 (c:Int) (k:Nat):(sg5 c*(k:Int)).natAbs=k:=by unfold sg5;split<;>omega
theorem qqO {s:SB} {x y z:Int} {l:List Int} (hx:x≠0) (hy:y≠0) (h:qcG x y z=some l):pmF s [x,y,z]=pmF s l:=by
 have key:x.natAbs=z.natAbs->(x.natAbs=y.natAbs+1\/y.natAbs=x.natAbs+1)->((s.bk (x.natAbs-1)).bk (y.natAbs-1)).bk (z.natAbs-1)=((s.bk (y.natAbs-1)).bk (x.natAbs-1)).bk (y.natAbs-1):=fun a b=>by
  rw[<-a];rcases b with b|b
  ·rw[show x.natAbs-1=(y.natAbs-1)+1 by omega,qoT]
  rw[show y.natAbs-1=(x.natAbs-1)+1 by omega,qoT]
 unfold qcG at h;split at h
 ·rename_i a;split at h
  ·obtain rfl:=Ye h;show _=((s.bk ((sg5 z*(y.natAbs:Int)).natAbs-1)).bk (x.natAbs-1)).bk (y.natAbs-1);rw[qs8];exact key a.1 a.2
  split at h
  ·obtain rfl:=Ye h;show _=((s.bk (y.natAbs-1)).bk (z.natAbs-1)).bk ((sg5 x*(y.natAbs:Int)).natAbs-1);have:=key a.1 a.2;rw[qs8];rw[<-a.1]at this⊢;show((s.bk (x.natAbs-1)).bk (y.natAbs-1)).bk (z.natAbs-1)=_;rw[<-a.1];exact this
  cases h
 cases h
theorem Mv.pm {n:Nat} {w v:List Int} (h:Mv n w v) (hw:yQ n w) (s:SB):pmF s w=pmF s v:=by
 cases h with
 |@ins u v x hx=>rw[xX,xX,xX,qih]
 |@can u v x=>rw[xX,xX,xX,qih]
 |@swp u v x y h=>
  have hx:=hw x (by simp);have hy:=hw y (by simp);rw[xX,xX,xX,xX];congr 1;show((pmF s u).bk _).bk _=((pmF s u).bk _).bk _;refine qu2 ?_ _;unfold qlK at h;simp only[Bool.or_eq_true,Nat.ble_eq]at h;omega
 |@trn u v l x y z h=>
  rw[xX,xX,xX,xX,qqO (hw x (by simp)).1 (hw y (by simp)).1 h]
section
variable {n:Nat} (hn:n<=6)
include hn
end
theorem quY {N:Nat} (hN:1000<N) {a:List (List Int)} (ha: ∀x∈a,x.length<=300) (hl:a.length<=300): ∀(K i:Nat),i<=a.length->a.length<K+i->qF N a a K (i:Int)=some (.inl ())
 |0,i,h,hK=>by omega
 |K+1,i,h,hK=>by
  unfold qF;by_cases hi:i<a.length
  ·have hx:=ha _ (List.getElem_mem hi);rw[if_pos (by omega),qw,Ya hi,ZB,ZB,qec (by omega) (by omega),ZB,decide_eq_true rfl,if_neg (by decide),qR (by omega),quY hN ha hl K (i+1) (by omega) (by omega)]
  rw[if_neg (by omega)]
theorem qrZ {N:Nat} (hN:1000<N) {a:List (List Int)} (ha: ∀x∈a,x.length<=300) (hl:a.length<=300):qN N a a=some true:=by
 unfold qN;have:=quY hN ha hl N 0 (by omega) (by omega);rw[show((0:Nat):Int)=0 from rfl]at this;rw[decide_eq_true rfl,if_neg (by decide),this];rfl
theorem qrp {N:Nat} (hN:1000<N) {f:qbZ} (h1:f.Factors.length<=300) (h2: ∀x∈f.Factors,x.length<=300):xG N f f=some true:=by
 unfold xG;rw[if_pos rfl,qrZ hN h2 h1];rfl
def exS (w:List Int):Int:=(w.length:Int)-2*(ngs w:Int)
theorem qaD (u v:List Int):exS (u++v)=exS u+exS v:=by
 unfold exS;rw[qbA,Yq];omega
theorem ql6 {c:Int} (h:c≠0):zM c=some (if 0<c then 1 else-1):=by
 unfold zM;by_cases p:0<c
 ·rw[if_neg (show¬c<1 by omega),if_pos (by decide),if_pos p]
 rw[if_pos (show c<1 by omega),if_neg p];by_cases q:c> -1
 ·omega
 rw[if_neg q]
theorem qnK {n:Nat} {w:List Int} (W:vK n w): ∀(K i:Nat) (x:Int),i<=w.length->w.length<K+i-> -(i:Int)<=x->x<=i->vo w K x (i:Int)=some (x+exS (w.drop i))
 |0,i,x,h,hK,h1,h2=>by omega
 |K+1,i,x,h,hK,h1,h2=>by
  have wl:=W.len;unfold vo;by_cases hi:i<w.length
  ·have hc:=W.let_ _ (List.getElem_mem hi);rw[if_pos (by omega),qw,Ya hi,YG hi];generalize w[i]=c at*;rw[ZB,ql6 hc.1,ZB,qR (by omega)]
   have e:exS (c::w.drop (i+1))=(if 0<c then 1 else-1)+exS (w.drop (i+1)):=by
    unfold exS ngs;rw[List.countP_cons,Yr];by_cases p:0<c
    ·simp[p];omega
    simp[p];omega
   rw[e];by_cases p:0<c
   ·rw[if_pos p,qz (by omega) (by omega),qnK W K (i+1) _ (by omega) (by omega) (by omega) (by omega)];congr 1;omega
   rw[if_neg p,qz (by omega) (by omega),qnK W K (i+1) _ (by omega) (by omega) (by omega) (by omega)];congr 1;omega
  rw[if_neg (by omega),List.drop_eq_nil_of_le (by omega)];show some x=some (x+exS []);congr 1;unfold exS ngs;simp
theorem qlz {n:Nat} {w:List Int} (W:vK n w):qje (n:Int) w=0:=by
 have:=W.n1;have:=W.n2;have:=W.len;unfold qje;rw[if_neg (by omega),if_neg (by omega),if_pos (Yp.2 fun c hc=>yS.2 (W.let_ c hc))]
theorem qci {N:Nat} (hN:2000<N) {n:Nat} {a b:List Int} (A:vK n a) (B:vK n b):jK N (n:Int) a b=some 0:=by
 have:=A.len;have:=B.len;unfold jK;rw[qkq hN (by omega),qkq hN (by omega),qlz A,qlz B,ZB,ZB,qan (by simp) (by simp;omega),ZB,qdK,qjC]
theorem quS {w:List Int} {i:Nat}:w=w.take i++w.drop i:=(List.take_append_drop i w).symm
theorem quR {w:List Int} {i:Nat} {x y:Int} (hx:w[i]? =some x) (hy:w[i+1]? =some y):w=w.take i++[x,y]++w.drop (i+2):=by
 obtain⟨h1,e1⟩:=Yb.1 hx;obtain⟨h2,e2⟩:=Yb.1 hy
 conv=>lhs;rw[quS (w:=w) (i:=i),YG h1,YG h2,e1,e2]
 simp
theorem splW3 {w:List Int} {i:Nat} {x y z:Int} (hx:w[i]? =some x) (hy:w[i+1]? =some y) (hz:w[i+2]? =some z):w=w.take i++[x,y,z]++w.drop (i+3):=by
 obtain⟨h1,e1⟩:=Yb.1 hx;obtain⟨h2,e2⟩:=Yb.1 hy;obtain⟨h3,e3⟩:=Yb.1 hz
 conv=>lhs;rw[quS (w:=w) (i:=i),YG h1,YG h2,YG h3,e1,e2,e3]
 simp
theorem qho {c:Int} (h:c≠0):zM c=some (sg5 c):=by
 rw[ql6 h];unfold sg5;by_cases p:0<c
 ·rw[if_pos p,if_neg (by omega)]
 rw[if_neg p,if_pos (by omega)]
theorem qmQ {n x y z:Int} (bx:x≠0/\ -n<x/\x<n) (by_:y≠0/\ -n<y/\y<n) (bz:z≠0/\ -n<z/\z<n) (h2:n<=12) (A:Int):
 (xO [x,y,z]=some false)\/ ∃l,qcG x y z=some l/\l.length=3/\xO [x,y,z]=some true/\yE [x,y,z] [116,117,114,110] A 0=some l:=by
 have k0:idx [x,y,z] 0=some x:=rfl;have k1:idx [x,y,z] 1=some y:=rfl;have k2:idx [x,y,z] 2=some z:=rfl;have ax:=zW (show-1000<x/\x<1000 by omega);have ay:=zW (show-1000<y/\y<1000 by omega);have az:=zW (show-1000<z/\z<1000 by omega);have e0:w64 (((x.natAbs:Nat):Int)-((y.natAbs:Nat):Int))=(x.natAbs:Int)-(y.natAbs:Int):=qz (by omega) (by omega);have ad:=zW (show-1000<(x.natAbs:Int)-(y.natAbs:Int)/\(x.natAbs:Int)-(y.natAbs:Int)<1000 by omega);have hx:=qho bx.1;have hy:=qho by_.1;have hz:=qho bz.1
 have rX:sg5 x= -1\/sg5 x=1:=by unfold sg5;split<;>omega
 have rZ:sg5 z= -1\/sg5 z=1:=by unfold sg5;split<;>omega
 have wZ:w64 (sg5 z*(y.natAbs:Int))=sg5 z*(y.natAbs:Int):=by rcases rZ with e|e<;>rw[e]<;>exact qz (by omega) (by omega)
 have wX:w64 (sg5 x*(y.natAbs:Int))=sg5 x*(y.natAbs:Int):=by rcases rX with e|e<;>rw[e]<;>exact qz (by omega) (by omega)
 unfold xO yE qcG;simp only[k0,k1,k2,ZB,ax,ay,az,e0,ad,hx,hy,hz];by_cases c1:x.natAbs=z.natAbs
 ·by_cases c2:x.natAbs=y.natAbs+1\/y.natAbs=x.natAbs+1
  ·have c2':((((x.natAbs:Int)-(y.natAbs:Int)).natAbs:Nat):Int)=1:=by omega
   rw[if_pos (show x.natAbs=z.natAbs/\(x.natAbs=y.natAbs+1\/y.natAbs=x.natAbs+1)from⟨c1,c2⟩),if_pos (show((x.natAbs:Nat):Int)=((z.natAbs:Nat):Int)by omega),if_pos c2'];by_cases d1:sg5 x=sg5 y
   ·simp only[if_pos d1,wZ];exact .inr ⟨_,rfl,rfl,rfl,rfl⟩
   simp only[if_neg d1,wX];by_cases d2:sg5 y=sg5 z
   ·simp only[if_pos d2,decide_eq_true d2];exact .inr ⟨_,rfl,rfl,rfl,rfl⟩
   rw[decide_eq_false d2];exact .inl rfl
  rw[if_pos (show((x.natAbs:Nat):Int)=((z.natAbs:Nat):Int)by omega),if_neg (show¬((((x.natAbs:Int)-(y.natAbs:Int)).natAbs:Nat):Int)=1 by omega)];exact .inl rfl
 rw[if_neg (show¬((x.natAbs:Nat):Int)=((z.natAbs:Nat):Int)by omega)];exact .inl rfl
section
variable {N:Nat} (hN:2000<N) {n:Nat} (h1:1<=n) (h2:n<=12) {w:List Int} (hw:w.length<=400) (hv:yQ n w)
include hN h1 h2 hw hv
end
def qhC (n:Nat) (g:Nat->Int):List Int:=(List.range n).map g
def qdF (n:Nat) (f:Nat->Nat->Int):List (List Int):=(List.range n).map fun i=>qhC n (f i)
theorem qcx (n:Nat) (g:Nat->Int):(qhC n g).length=n:=by simp[qhC]
theorem qco (n:Nat) (f:Nat->Nat->Int):(qdF n f).length=n:=by simp[qdF]
theorem qfs {n k:Nat} {g:Nat->Int} (h:k<n):(qhC n g)[k]? =some (g k):=by simp[qhC,List.getElem?_range h]
theorem qdk {n k:Nat} {f:Nat->Nat->Int} (h:k<n):(qdF n f)[k]? =some (qhC n (f k)):=by simp[qdF,List.getElem?_range h]
theorem qmW {n b:Nat} {g:Nat->Int} (h:b<n) (v:Int):(qhC n g).set b v=qhC n (fun k=>if k=b then v else g k):=by
 apply List.ext_getElem?;intro k;by_cases hk:k<n
 ·rw[qfs hk];by_cases e:k=b
  ·subst e;rw[List.getElem?_set_self (by rw[qcx];exact h),if_pos rfl]
  rw[Yw (fun c=>e c.symm),qfs hk,if_neg e]
 rw[Yg (by simp[qcx];omega),Yg (by rw[qcx];omega)]
theorem qlT {n a:Nat} {f:Nat->Nat->Int} (h:a<n) (g:Nat->Int):(qdF n f).set a (qhC n g)=qdF n (fun i=>if i=a then g else f i):=by
 apply List.ext_getElem?;intro k;by_cases hk:k<n
 ·rw[qdk hk];by_cases e:k=a
  ·subst e;rw[List.getElem?_set_self (by rw[qco];exact h),if_pos rfl]
  rw[Yw (fun c=>e c.symm),qdk hk,if_neg e]
 rw[Yg (by simp[qco];omega),Yg (by rw[qco];omega)]
theorem qiG {α:Type} (l:List α) (a:Nat) (x:α):zQ l (a:Int) x=l.set a x:=by
 unfold zQ;rw[Int.toNat_natCast]
theorem qjH {n:Nat} {f g:Nat->Nat->Int} (h: ∀i k,f i k=g i k):qdF n f=qdF n g:=by
 have:f=g:=by funext i k;exact h i k
 rw[this]
def qly (f:Nat->Nat->Int) (a b:Nat) (s:Int):Nat->Nat->Int:=fun i k=>if(i=a/\k=b)\/(i=b/\k=a)then f i k+s else f i k
theorem qsM {n a b:Nat} {f:Nat->Nat->Int} (ha:a<n) (hb:b<n) (ne:a≠b) (s:Int):
 ((qdF n f).set a ((qhC n (f a)).set b (f a b+s))).set b ((qhC n (f b)).set a (f b a+s))=qdF n (qly f a b s):=by
 rw[qmW hb,qlT ha,qmW ha,qlT hb]
 refine qjH fun i k=>?_
 unfold qly;by_cases h1:i=b
 ·subst h1;rw[if_pos rfl];by_cases h2:k=a
  ·subst h2;rw[if_pos rfl,if_pos (.inr ⟨rfl,rfl⟩)]
  rw[if_neg h2,if_neg (fun h=>by rcases h with h|h<;>omega)]
 rw[if_neg h1];by_cases h3:i=a
 ·subst h3;rw[if_pos rfl];by_cases h2:k=b
  ·subst h2;rw[if_pos rfl,if_pos (.inl ⟨rfl,rfl⟩)]
  rw[if_neg h2,if_neg (fun h=>by rcases h with h|h<;>omega)]
 rw[if_neg h3,if_neg (fun h=>by rcases h with h|h<;>omega)]
def lkF (s:SB) (f:Nat->Nat->Int):List Int->Nat->Nat->Int
 |[]=>f
 |c::w=>lkF (s.bk (c.natAbs-1)) (qly f (s.g (c.natAbs-1)) (s.g c.natAbs) (if 0<c then 1 else-1)) w
theorem qp0 {c:Int} (h:c≠0):zM c=some (if 0<c then 1 else-1):=by
 unfold zM;by_cases p:0<c
 ·rw[if_neg (show¬c<1 by omega),if_pos (by decide),if_pos p]
 rw[if_pos (show c<1 by omega),if_neg p];by_cases q:c> -1
 ·omega
 rw[if_neg q]
theorem qnx {n a b:Nat} (hn:n<=1000) {f:Nat->Nat->Int} {B:Nat} (hB:B<=10000) (hf: ∀i k,-(B:Int)<=f i k/\f i k<=B) (ha:a<n) (hb:b<n) (ne:a≠b) {c:Int} (hc:c≠0):
 qbw (qdF n f) c (a:Int) (b:Int)=some (qdF n (qly f a b (if 0<c then 1 else-1))):=by
 unfold qbw
 have w1: ∀i k,w64 (f i k+(if 0<c then(1:Int)else-1))=f i k+(if 0<c then(1:Int)else-1):=fun i k=>by
  have:=hf i k;exact qz (by split<;>omega) (by split<;>omega)
 rw[qw,qdk ha,ZB,qw,qfs hb,ZB,qp0 hc,ZB,w1,jX (by rw[qcx];exact hb),ZB,qiG,qw,Yw ne,qdk hb,ZB,qw,qfs ha,ZB,ZB,w1,jX (by rw[qcx];exact ha),ZB,qiG,qsM ha hb ne]
theorem qtN {f:Nat->Nat->Int} {a b:Nat} {s:Int} {B:Nat} (hf: ∀i k,-(B:Int)<=f i k/\f i k<=B) (hs: -1<=s/\s<=1): ∀i k,-((B+1:Nat):Int)<=qly f a b s i k/\qly f a b s i k<=((B+1:Nat):Int):=fun i k=>by
 have:=hf i k;unfold qly;split<;>omega
section
variable {n:Nat} (hn:n<=12) {N:Nat} (hN:2000<N)
include hn hN
theorem qs5 {s:SB} {m:Nat} (hm2:m+1<n):((s.rev.li n).set m ((s.g (m+1):Nat):Int)).set (m+1) ((s.g m:Nat):Int)=(s.bk m).rev.li n:=Uy (by simp[Ug]) fun k hk=>by
 show _=some ((s.g (tr5 m k):Nat):Int);by_cases a:k=m+1
 ·subst a;rw[List.getElem?_set_self (by simp[Ug];omega),qcM]
 rw[Yw (fun e=>a e.symm)];by_cases b:k=m
 ·subst b;rw[List.getElem?_set_self (by rw[Ug];omega),qcP]
 rw[Yw (fun e=>b e.symm),Up s.rev hk,yu b a];rfl
theorem qmM {w:List Int} (W:vK n w): ∀(K i:Nat) (s:SB) (f:Nat->Nat->Int),s.Ok n->(∀j k,-(i:Int)<=f j k/\f j k<=i)->i<=w.length->w.length<K+i->zD w K (qdF n f) (s.rev.li n) (i:Int)=some (qdF n (lkF s f (w.drop i)))
 |0,i,s,f,hs,hf,h,hK=>by omega
 |K+1,i,s,f,hs,hf,hiw,hK=>by
  have wl:=W.len;unfold zD;by_cases hi:i<w.length
  ·have hx:w[i]? =some w[i]:=Ya hi;have hc:=W.let_ _ (List.getElem_mem hi);rw[YG hi,lkF];generalize w[i]=c at*;obtain⟨m,hm⟩: ∃m:Nat,c.natAbs=m+1:=⟨c.natAbs-1,by omega⟩
   have hm2:m+1<n:=by omega
   have q1:w64 (((m+1:Nat):Int)-1)=(m:Int):=by rw[qz (by omega) (by omega)];omega
   have q2:w64 ((m:Int)+1)=((m+1:Nat):Int):=qR (by omega);have g0:=hs.g_ m (by omega);have g1:=hs.g_ (m+1) hm2;have r0:idx (s.rev.li n) (m:Int)=some ((s.g m:Nat):Int):=Um (by omega);have r1:idx (s.rev.li n) ((m+1:Nat):Int)=some ((s.g (m+1):Nat):Int):=Um hm2
   have ne:s.g m≠s.g (m+1):=fun e=>by have:=s.ginj e;omega
   rw[if_pos (by omega),qw,hx];simp only[ZB,zW (show-1000<c/\c<1000 by omega),hm,q1,q2,r0,r1];rw[qnx (by omega) (B:=i) (by omega) hf g0 g1 ne hc.1];simp only[ZB];rw[jX (by rw[Ug];omega)];simp only[ZB]
   have e17:idx ((s.rev.li n).set m ((s.g (m+1):Nat):Int)) ((m+1:Nat):Int)=some ((s.g (m+1):Nat):Int):=by
    rw[qw,Yw (by omega),Up s.rev hm2];rfl
   rw[e17];simp only[ZB];rw[jX (by simp[Ug];omega)];simp only[ZB];rw[qs5 hn hN hm2,qR (by omega),show(m+1-1:Nat)=m by omega];exact qmM W K (i+1) _ _ (hs.bk hm2) (qtN hf (by split<;>omega)) (by omega) (by omega)
  rw[if_neg (by omega),List.drop_eq_nil_of_le (by omega)];rfl
theorem qvC:mk 8 (n:Int) (0:Int)=some (qhC n fun _=>0):=by
 rw[qk7 (by omega)];congr 1;apply List.ext_getElem?;intro k;by_cases hk:k<n
 ·rw[qfs hk];simp[hk]
 rw[Yg (by simp;omega),Yg (by rw[qcx];omega)]
theorem qoU: ∀(K i:Nat) (l1 l:List (List Int)),l1.length=n->l.length=n->i<=n->n<K+i->(∀k,k<i->l[k]? =some (qhC n fun _=>0))->xS (n:Int) l1 K l (i:Int)=some (qdF n fun _ _=>0)
 |0,i,l1,l,h1,h2,hi,hK,hk=>by omega
 |K+1,i,l1,l,h1,h2,hin,hK,hk=>by
  unfold xS;rw[h1];by_cases hi:i<n
  ·have hs:idx l (i:Int)=some (l[i]'(by omega)):=by rw[qw];exact Ya _
   rw[if_pos (by omega),qvC hn hN];simp only[ZB];rw[hs,ZB,qiG,qR (by omega)];refine qoU K (i+1) l1 _ h1 (by simpa using h2) (by omega) (by omega) (fun k hk1=>?_);by_cases e:k=i
   ·subst e;rw[List.getElem?_set_self (by omega)]
   rw[Yw (fun c=>e c.symm),hk k (by omega)]
  rw[if_neg (by omega)];congr 1;apply List.ext_getElem?;intro k;by_cases hkn:k<n
  ·rw[hk k (by omega),qdk hkn]
  rw[Yg (by omega),Yg (by rw[qco];omega)]
theorem qvD:mk 24 (n:Int) ([]:List Int)=some (List.replicate n []):=by
 unfold mk;rw[if_pos (by omega)];simp
theorem qir {w:List Int} (W:vK n w):qb9 N (n:Int) w=some (qdF n (lkF SB.id (fun _ _=>0) w)):=by
 have wl:=W.len;unfold qb9 xx xg;have a:=qoU hn hN N 0 (List.replicate n []) (List.replicate n []) (by simp) (by simp) (Nat.zero_le _) (by omega) (fun k hk=>by omega);have b:=qmM hn hN W N 0 SB.id (fun _ _=>0) (Ut n) (fun _ _=>by simp) (Nat.zero_le _) (by omega);rw[show((0:Nat):Int)=0 from rfl]at a b;rw[YR,show SB.id.rev=SB.id from rfl,SB.id_li]at b;rw[qvD hn hN,ZB,a,ZB,ZB,qft hN (by omega),ZB,b];rfl
end
def qb8 (c:Int):Int:=if 0<c then 1 else-1
def lkP:List Int->Nat->Nat->Int
 |[],_,_=>0
 |c::w,x,y=>(if(x=c.natAbs-1/\y=c.natAbs-1+1)\/(x=c.natAbs-1+1/\y=c.natAbs-1)then qb8 c else 0)+lkP w (tr5 (c.natAbs-1) x) (tr5 (c.natAbs-1) y)
def pfP:List Int->Nat->Nat
 |[],x=>x
 |c::w,x=>pfP w (tr5 (c.natAbs-1) x)
theorem qnm: ∀(w:List Int) (s:SB) (k:Nat),(pmF s w).f k=pfP w (s.f k)
 |[],s,k=>rfl
 |c::w,s,k=>by
  show(pmF (s.bk (c.natAbs-1)) w).f k=_;rw[qnm w];rfl
theorem qsR: ∀(w:List Int),(∀c∈w,c≠0)-> ∀(s:SB) (f:Nat->Nat->Int) (i k:Nat),lkF s f w i k=f i k+lkP w (s.f i) (s.f k)
 |[],_,s,f,i,k=>(Int.add_zero _).symm
 |c::w,h,s,f,i,k=>by
  have hc:=h c (List.mem_cons_self ..);obtain⟨m,hm⟩: ∃m,c.natAbs=m+1:=⟨c.natAbs-1,by omega⟩;rw[lkF,qsR w (fun d hd=>h d (List.mem_cons_of_mem _ hd)),lkP];simp only[hm,Nat.add_sub_cancel]
  have e: ∀a b:Nat,a=s.g b↔s.f a=b:=fun a b=>⟨fun h=>by rw[h,s.fg],fun h=>by rw[<-h,s.gf]⟩
  have hu:qly f (s.g m) (s.g (m+1)) (if 0<c then 1 else-1) i k=f i k+(if(s.f i=m/\s.f k=m+1)\/(s.f i=m+1/\s.f k=m)then qb8 c else 0):=by
   unfold qly qb8;simp only[e];split<;>simp
  rw[hu];show _+_+lkP w (tr5 m (s.f i)) (tr5 m (s.f k))=_;omega
theorem qg5: ∀(u v:List Int) (x y:Nat),lkP (u++v) x y=lkP u x y+lkP v (pfP u x) (pfP u y)
 |[],v,x,y=>(Int.zero_add _).symm
 |c::u,v,x,y=>by
  rw[List.cons_append,lkP,qg5 u v,lkP,pfP,pfP];omega
theorem xe (c:Int) (w:List Int):exS (c::w)=qb8 c+exS w:=by
 rw[show c::w=[c]++w from rfl,qaD];congr 1;unfold exS ngs qb8;by_cases h:0<c
 ·simp[h]
 simp[h]
def dv (B:Int):List Int->Int
 |[]=>0
 |x::l=>x+B*dv B l
theorem pow_pos {B:Int} (hB:0<B): ∀n:Nat,0<B^n
 |0=>by simp
 |n+1=>by rw[Int.pow_succ];exact Int.mul_pos (pow_pos hB n) hB
theorem qeX {B:Int} (hB:1<=B) {m n:Nat} (h:m<=n):B^m<=B^n:=by
 obtain⟨k,rfl⟩:=Nat.exists_eq_add_of_le h;rw[Int.pow_add]
 have h1:1<=B^k:=by have:=pow_pos (show 0<B by omega) k;omega
 have h2:=Yc h1 (Int.le_of_lt (pow_pos (show 0<B by omega) m));omega
abbrev W:Int:=18446744073709551616
theorem wu (n:Int):IntKind.wrap .u64 n=n%18446744073709551616:=rfl
theorem qgd {n:Int} (h0:0<=n) (h:n<18446744073709551616):IntKind.wrap .u64 n=n:=by rw[wu];exact Int.emod_eq_of_lt h0 h
theorem qka {n:Int} (h0:0<=n) (h:n<18446744073709551616):(BitVec.ofInt 64 n).toNat=n.toNat:=by
 rw[BitVec.toNat_ofInt];have:n%((2:Nat)^64:Nat)=n:=Int.emod_eq_of_lt h0 (by simpa using h);rw[this]
theorem qhm {x:Int} (h0:0<=x) (h:x<18446744073709551616):je .u64 x 4294967295=x%4294967296:=by
 show IntKind.wrap .u64 _=_
 have e:(BitVec.ofInt IntKind.u64.bits x&&&BitVec.ofInt IntKind.u64.bits 4294967295).toNat=x.toNat%4294967296:=by
  rw[BitVec.toNat_and];show(BitVec.ofInt 64 x).toNat&&&(BitVec.ofInt 64 4294967295).toNat=_;rw[qka h0 h,qka (by omega) (by omega)];exact Nat.and_two_pow_sub_one_eq_mod x.toNat 32
 rw[e,wu];omega
theorem qtB (x:Int) (k:Nat):jv .u64 x (k:Int)=x/2^(min k 64):=by
 show x.fdiv (2^(min (k:Int).toNat 64))=_;rw[Int.toNat_natCast,Int.fdiv_eq_ediv_of_nonneg _ (Int.le_of_lt (pow_pos (by omega) _))]
theorem qm4 (x:Int):jv .u64 x 32=x/4294967296:=qtB x 32
theorem qfF {a b:Int} (ha:0<=a/\a<4294967296) (hb:0<=b/\b<4294967296):0<=a*b/\a*b<=18446744065119617025:=by
 refine⟨Yv ha.1 hb.1,?_⟩;have:a*b<=4294967295*4294967295:=Int.mul_le_mul (by omega) (by omega) hb.1 (by omega);omega
theorem qqE {x y:Int} (hx:0<=x/\x<18446744073709551616) (hy:0<=y/\y<18446744073709551616):bits_Mul64 x y=some (x*y/18446744073709551616,x*y%18446744073709551616):=by
 unfold bits_Mul64;rw[qhm hx.1 hx.2,qhm hy.1 hy.2,qm4 x,qm4 y]
 have x1:0<=x/4294967296/\x/4294967296<4294967296:=by omega
 have x0:0<=x%4294967296/\x%4294967296<4294967296:=by omega
 have y1:0<=y/4294967296/\y/4294967296<4294967296:=by omega
 have y0:0<=y%4294967296/\y%4294967296<4294967296:=by omega
 have ex:x=x/4294967296*4294967296+x%4294967296:=by omega
 have ey:y=y/4294967296*4294967296+y%4294967296:=by omega
 have e:x*y=x/4294967296*(y/4294967296)*18446744073709551616+(x/4294967296*(y%4294967296)+x%4294967296*(y/4294967296))*4294967296+x%4294967296*(y%4294967296):=by
  generalize x/4294967296=a at*;generalize x%4294967296=b at*;generalize y/4294967296=c at*;generalize y%4294967296=d at*;subst ex ey;grind
 have b11:=qfF x1 y1;have b10:=qfF x1 y0;have b01:=qfF x0 y1;have b00:=qfF x0 y0;rw[e];generalize x/4294967296*(y/4294967296)=p11 at*;generalize x/4294967296*(y%4294967296)=p10 at*;generalize x%4294967296*(y/4294967296)=p01 at*;generalize x%4294967296*(y%4294967296)=p00 at*;rw[qgd b11.1 (by omega),qgd b10.1 (by omega),qgd b01.1 (by omega),qgd b00.1 (by omega),qm4 p00,qgd (n:=p10+p00/4294967296) (by omega) (by omega),qm4 (p10+_),qhm (by omega) (by omega),qgd (n:=_+p01) (by omega) (by omega),qm4,qgd (n:=p11+(p10+p00/4294967296)/4294967296) (by omega) (by omega),qgd (by omega) (by omega),wu];congr 2;omega
theorem W1:(1:Int)<W:=by decide
theorem W0:(0:Int)<W:=by decide
end Go.Av
end
