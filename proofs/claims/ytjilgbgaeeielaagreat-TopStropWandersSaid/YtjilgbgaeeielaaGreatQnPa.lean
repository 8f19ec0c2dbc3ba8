/-
  Words of crossings: what the program and the reference make of them, and the law of words.
-/
import Derived.Test.YtjilgbgaeeielaaGreatQGenW
import Derived.Test.YtjilgbgaeeielaaGreatAvPt
import Derived.KernelRfl
noncomputable section
set_option linter.unusedVariables false
set_option linter.unusedSimpArgs false
set_option maxRecDepth 100000
set_option linter.unusedSectionVars false
section
namespace Go.Av
def yh (n c:Int):Bool:=decide (c≠0)&&decide (-n<c)&&decide (c<n)
def qeG (n:Int) (w:List Int):Int:=if n<1\/12<n then 3 else if 200<w.length then 5 else if w.all (yh n)=true then 0 else 3
theorem letter_eq {n:Int} (h1:1<=n) (h2:n<=12) (c:Int):xw n c=some (yh n c):=by
 unfold xw yh
 have hw:w64 (0-n)= -n:=by rw[qK (by omega) (by omega)];omega
 rw[hw]
 by_cases a:c=0
 ·simp[a]
 by_cases b: -n<c
 ·simp[a,b]
 simp[a,b]
theorem qeX {n:Int} (h1:1<=n) (h2:n<=12) (c:Int):qR n c=some (!yh n c):=by
 unfold qR yh
 have hw:w64 (0-n)= -n:=by rw[qK (by omega) (by omega)];omega
 rw[hw]
 by_cases a:c=0
 ·simp[a]
 by_cases b: -n<c
 ·rw[if_neg a,if_neg (by omega)]
  by_cases d:c<n
  ·simp[a,b,d]
  simp[a,b,d];omega
 rw[if_neg a,if_pos (by omega)]
 simp[a,b]
theorem qhT {n:Int} {w:List Int} {i:Nat} (h:i<w.length):(w.drop i).all (yh n)=(yh n w[i]&&(w.drop (i+1)).all (yh n)):=by
 rw[YG h,List.all_cons]
theorem qmb {n:Int} (h1:1<=n) (h2:n<=12) {w:List Int} (hl:w.length<=300): ∀(K i:Nat),i<=w.length->w.length<K+i->zU n w K (i:Int)=some (if(w.drop i).all (yh n)=true then .inl ()else .inr 3)
 |0,i,h,hK=>by omega
 |K+1,i,h,hK=>by
  unfold zU
  by_cases hi:i<w.length
  ·rw[if_pos (by omega),qz,Ya hi,ZB,letter_eq h1 h2,ZB,qhT hi]
   cases c:yh n w[i]with
   |false=>rfl
   |true=>
    rw[if_neg (by decide),qP (by omega),qmb h1 h2 hl K (i+1) (by omega) (by omega),Bool.true_and]
  rw[if_neg (by omega),List.drop_eq_nil_of_le (by omega)]
  rfl
theorem qi4 {N:Nat} (hN:2000<N) {n:Int} {w:List Int} (hl:w.length<=300):yG N n w=some (qeG n w):=by
 unfold yG qeG
 by_cases a:n<1
 ·rw[if_pos a,ZB,if_pos rfl,if_pos (.inl a)]
 by_cases b:12<n
 ·rw[if_neg a,decide_eq_true (by omega),ZB,if_pos rfl,if_pos (.inr b)]
 rw[if_neg a,decide_eq_false (by omega),ZB,if_neg (by decide),if_neg (show¬(n<1\/12<n)by omega)]
 by_cases c:200<w.length
 ·rw[if_pos (by omega),if_pos c]
 rw[if_neg (by omega),if_neg c,show(0:Int)=((0:Nat):Int)from rfl,qmb (by omega) (by omega) hl N 0 (by omega) (by omega),YR]
 cases w.all (yh n)<;>rfl
theorem ql8 {n:Int} (h1:1<=n) (h2:n<=12) {w:List Int} (hl:w.length<=300): ∀(K i:Nat),i<=w.length->w.length<K+i->((w.drop i).all (yh n)=true/\qE w n K (i:Int)=some (.inl ()))\/((w.drop i).all (yh n)=false/\ ∃j:Nat,qE w n K (i:Int)=some (.inr (j:Int)))
 |0,i,h,hK=>by omega
 |K+1,i,h,hK=>by
  unfold qE vI
  by_cases hi:i<w.length
  ·rw[if_pos (by omega),qz,Ya hi,ZB,qeX h1 h2,ZB,ZB,qhT hi]
   cases c:yh n w[i]with
   |false=>exact .inr ⟨rfl,i,rfl⟩
   |true=>
    rw[if_neg (by decide),qP (by omega),Bool.true_and]
    exact ql8 h1 h2 hl K (i+1) (by omega) (by omega)
  rw[if_neg (by omega),List.drop_eq_nil_of_le (by omega)]
  exact .inl ⟨rfl,rfl⟩
theorem qja {N:Nat} (hN:10<N) (a b:Int):qh N [a,b]=some (if a=0 then b else a):=by
 obtain⟨K,rfl⟩: ∃K,N=K+1+1+1:=⟨N-3,by omega⟩
 have w1:w64 1=1:=rfl
 have w2:w64 2=2:=rfl
 have i0: ∀a b:Int,idx [a,b] 0=some a:=fun _ _=>rfl
 have i1: ∀a b:Int,idx [a,b] 1=some b:=fun _ _=>rfl
 unfold qh
 by_cases ha:a=0
 ·by_cases hb:b=0
  ·simp[zN,i0,i1,ha,hb,w1,w2]
  simp[zN,i0,i1,ha,hb,w1,w2]
 simp[zN,i0,ha]
theorem xB (b:Bool) (e:Int):qb b e=some (if b=true then e else 0):=by
 unfold qb
 cases b<;>rfl
theorem qaX {N:Nat} (hN:2000<N) {n:Int} {w:List Int} (hl:w.length<=300):zt N n w=some (qeG n w):=by
 unfold zt zQ qeG
 by_cases a:n<1\/12<n
 ·have:(Option.bind (if n<1 then(qb true 3).bind fun r2=>some r2 else(qb (decide (n>12)) 3).bind fun r3=>some r3:Option Int) fun n4=>some n4)=some 3:=by
   by_cases b:n<1
   ·rw[if_pos b];rfl
   rw[if_neg b,decide_eq_true (by omega)];rfl
  rw[this,ZB,xB,ZB,qja (by omega),if_neg (by decide),ZB,if_pos (by decide),if_pos a]
 have:(Option.bind (if n<1 then(qb true 3).bind fun r2=>some r2 else(qb (decide (n>12)) 3).bind fun r3=>some r3:Option Int) fun n4=>some n4)=some 0:=by
  rw[if_neg (by omega),decide_eq_false (by omega)];rfl
 rw[this,ZB,xB,ZB,qja (by omega),if_pos rfl,ZB,if_neg a]
 by_cases c:200<w.length
 ·rw[decide_eq_true (show(w.length:Int)>200 by omega),if_pos rfl,if_pos (by decide),if_pos c]
 rw[decide_eq_false (show¬(w.length:Int)>200 by omega),if_neg Bool.false_ne_true,if_neg (show¬(!decide ((0:Int)=0))=true by decide),if_neg c]
 unfold jh jQ
 rcases ql8 (n:=n) (by omega) (by omega) hl N 0 (by omega) (by omega)with⟨g1,g2⟩|⟨g1,j,g2⟩<;>rw[show((0:Nat):Int)=0 from rfl]at g2
 ·rw[g2,<-YR (l:=w),g1]
  rfl
 rw[g2,<-YR (l:=w),g1]
 simp only[ZB]
 rw[decide_eq_true (show(j:Int)>=0 by omega),xB]
 rfl
structure jW (n:Nat) (w:List Int):Prop where
 n1:1<=n
 n2:n<=12
 len:w.length<=200
 let_: ∀c∈w,c≠0/\ -(n:Int)<c/\c<n
theorem qmF {n:Int} {w:List Int} (h:qeG n w=0): ∃k:Nat,n=k/\jW k w:=by
 unfold qeG at h
 split at h
 ·omega
 rename_i a
 split at h
 ·omega
 rename_i b
 split at h
 ·rename_i c
  refine⟨n.toNat,by omega,by omega,by omega,by omega,fun x hx=>?_⟩
  have:=Yp.1 c x hx
  simp only[yh,Bool.and_eq_true,decide_eq_true_eq]at this
  omega
 omega
theorem qen {x:Int} (h:x≠0):zS x=jX x:=by
 unfold zS jX
 by_cases a:x<0
 ·rw[if_pos a,if_pos (show x<1 by omega),if_neg (by omega)]
 rw[if_neg a,if_neg (show¬x<1 by omega),if_pos (by decide)]
theorem qdU (x:Int):jX x=some (if x<0 then-1 else 1):=by
 unfold jX
 split<;>rfl
end Go.Av
end
section
namespace Go.Av
def qa3 (n:Nat):List Int:=(List.range n).map fun k:Nat=>(k:Int)
theorem qaq (n:Nat):(qa3 n).length=n:=by simp[qa3]
theorem qed {n k:Nat} (h:k<n):(qa3 n)[k]? =some (k:Int):=by
 simp[qa3,List.getElem?_map,List.getElem?_range h]
theorem qaU {c:Int} (h: -1000<c/\c<1000):jk c=some ((c.natAbs:Nat):Int):=by
 unfold jk
 rw[qK (by omega) (by omega)]
 by_cases a:0-c>c
 ·rw[if_pos a];congr 1;omega
 rw[if_neg a];congr 1;omega
theorem vT {c:Int} (h: -1000<c/\c<1000):jf c=some ((c.natAbs:Nat):Int):=by
 unfold jf
 rw[qK (by omega) (by omega)]
 by_cases a:0-c>c
 ·rw[if_pos a];congr 1;omega
 rw[if_neg a];congr 1;omega
theorem qjE {n:Nat} (hn:n<=1000) {l2:List Int} (h2:l2.length=n): ∀(K i:Nat) (l:List Int),l.length=n->i<=n->n<K+i->(∀k,k<i->l[k]? =some (k:Int))->zo l2 K l (i:Int)=some (qa3 n)
 |0,i,l,hl,h,hK,hk=>by omega
 |K+1,i,l,hl,h,hK,hk=>by
  unfold zo
  by_cases hi:i<n
  ·rw[if_pos (by omega),qz,Ya (by omega),ZB,yT (by omega),ZB,qP (by omega)]
   refine qjE hn h2 K (i+1) _ (by simpa using hl) (by omega) (by omega) (fun k hki=>?_)
   by_cases e:k=i
   ·subst e;rw[List.getElem?_set_self (by omega)]
   rw[Yw (fun c=>e c.symm)];exact hk k (by omega)
  rw[if_neg (by omega)]
  congr 1
  apply List.ext_getElem?
  intro k
  by_cases hkn:k<n
  ·rw[hk k (by omega),qed hkn]
  rw[Yg (by omega),Yg (by rw[qaq];omega)]
theorem qi2 {n:Nat} (hn:n<=1000):mk 8 (n:Int) (0:Int)=some (List.replicate n 0):=by
 unfold mk
 rw[if_pos (by omega)]
 simp
theorem qfk {N n:Nat} (hN:2000<N) (hn:n<=1000):zH N (n:Int)=some (qa3 n):=by
 unfold zH
 rw[qi2 hn,ZB,show(0:Int)=((0:Nat):Int)from rfl,qjE hn (by simp) N 0 _ (by simp) (by omega) (by omega) (fun k hk=>by omega),ZB]
structure PInv (n:Nat) (row p:List Int):Prop where
 rl:row.length=n
 pl:p.length=n
 at_: ∀k,k<n-> ∃v:Nat,v<n/\row[k]? =some (v:Int)/\p[v]? =some (k:Int)
 all: ∀v,v<n-> ∃k,k<n/\row[k]? =some (v:Int)
theorem PInv.back {n:Nat} {row p:List Int} (h:PInv n row p) {k v:Nat} (hk:k<n) (e:row[k]? =some (v:Int)):v<n/\p[v]? =some (k:Int):=by
 obtain⟨u,hu,e1,e2⟩:=h.at_ k hk
 rw[e]at e1
 have:v=u:=by have:=Ye e1;omega
 subst this
 exact⟨hu,e2⟩
theorem PInv.inj {n:Nat} {row p:List Int} (h:PInv n row p) {k k' v:Nat} (hk:k<n) (hk':k'<n) (e:row[k]? =some (v:Int)) (e':row[k']? =some (v:Int)):k=k':=by
 have h1:=(h.back hk e).2
 have h2:=(h.back hk' e').2
 rw[h1]at h2
 have:=Ye h2
 omega
end Go.Av
end
section
namespace Go.Av
theorem qfL (w:List Int):yK w=some (if 200<w.length then([],5)else(w,0)):=by
 unfold yK
 by_cases c:200<w.length
 ·rw[if_pos (by omega),if_pos c]
 rw[if_neg (by omega),if_neg c]
theorem qkj {N:Nat} (hN:2000<N) {a b:List Int} (ha:a.length<=300) (hb:b.length<=300):vQ N [a,b]=some (a++b):=by
 obtain⟨K,rfl⟩: ∃K,N=K+1+1+1:=⟨N-3,by omega⟩
 have w1:w64 (0+1)=1:=rfl
 have w2:w64 (1+1)=2:=rfl
 have i0:idx [a,b] 0=some a:=rfl
 have i1:idx [a,b] 1=some b:=rfl
 have s1:w64 (0+(a.length:Int))=(a.length:Int):=by rw[qK (by omega) (by omega)];omega
 have s2:w64 ((a.length:Int)+(b.length:Int))=((a.length+b.length:Nat):Int):=by rw[qK (by omega) (by omega)];omega
 have len:(([a,b]:List (List Int)).length:Int)=2:=rfl
 have L0:qQ [a,b] (K+1+1+1) 0 0=some ((a.length+b.length:Nat):Int):=by
  rw[qQ,len,if_pos (by decide),i0,ZB,s1,if_neg (by omega),ZB,w1,qQ,len,if_pos (by decide),i1,ZB,s2,if_neg (by omega),ZB,w2,qQ,len,if_neg (by decide)]
 have G: ∀m:Nat,m<=600-> ∃o:Option (List Int),vw (m:Int)=some o/\((m=0/\o=none)\/o=some []):=by
  intro m hm
  unfold vw
  rw[if_neg (by omega),ZB]
  have e:w64 ((m:Int)-w64 (0-0))=(m:Int):=by
   rw[show w64 (0-0)=0 from rfl,qK (by omega) (by omega)]
   omega
  rw[e]
  by_cases h:(m:Int)>0
  ·rw[if_pos h,show cut ([]:List Int) 0 0=some []from rfl,ZB]
   have z:qhQ 8 (m:Int) (0:Int)=some (List.replicate m 0):=by
    unfold qhQ
    rw[if_pos (by omega)]
    simp
   have hct:cut (List.replicate m (0:Int)) 0 0=some []:=by
    have:=xA (l:=List.replicate m (0:Int)) (k:=0) (Nat.zero_le _)
    rw[List.take_zero]at this
    exact this
   rw[z,ZB,hct,ZB,ZB]
   exact⟨some [],rfl,.inr rfl⟩
  rw[if_neg h]
  exact⟨none,rfl,.inl ⟨by omega,rfl⟩⟩
 unfold vQ
 rw[L0,ZB]
 obtain⟨o,g1,g2⟩:=G (a.length+b.length) (by omega)
 rw[g1,ZB]
 rcases g2 with⟨h0,rfl⟩|rfl
 ·have ea:a=[]:=YL.1 (by omega)
  have eb:b=[]:=YL.1 (by omega)
  subst ea eb
  rw[qD,len,if_pos (by decide),i0,ZB]
  simp only[ZB]
  rw[w1,qD,len,if_pos (by decide),i1,ZB]
  simp only[ZB]
  rw[w2,qD,len,if_neg (by decide)]
  rfl
 rw[qD,len,if_pos (by decide),i0,ZB]
 simp only
 rw[qar (by simp;omega) (by simp;omega)]
 simp only[ZB,List.nil_append]
 rw[w1,qD,len,if_pos (by decide),i1,ZB]
 simp only
 rw[qar (by omega) (by omega)]
 simp only[ZB]
 rw[w2,qD,len,if_neg (by decide)]
 rfl
end Go.Av
end
section
namespace Go.Av
def qd9 (l:List Int):Int:=(l.find? fun x=>!decide (x=0)).getD 0
theorem qhr {l:List Int} (hl:l.length<=100): ∀(K i:Nat),i<=l.length->l.length<K+i->zN l K (i:Int)=some (match(l.drop i).find? (fun x=>!decide (x=0))with|some x=> .inr x|none=> .inl ())
 |0,i,h,hK=>by omega
 |K+1,i,h,hK=>by
  unfold zN
  by_cases hi:i<l.length
  ·rw[if_pos (by omega),qz,Ya hi,ZB,YG hi,List.find?_cons]
   by_cases c:l[i]=0
   ·rw[if_neg (by simp[c]),qP (by omega),qhr hl K (i+1) (by omega) (by omega)]
    simp[c]
   rw[if_pos (by simp[c])]
   simp[c]
  rw[if_neg (by omega),List.drop_eq_nil_of_le (by omega)]
  rfl
theorem xY {N:Nat} {l:List Int} (hl:l.length<=100) (hN:l.length<N):qh N l=some (qd9 l):=by
 unfold qh qd9
 have:=qhr hl N 0 (by omega) (by omega)
 rw[YR,show((0:Nat):Int)=0 from rfl]at this
 rw[this]
 cases l.find? (fun x=>!decide (x=0))<;>rfl
theorem qbb (l:List Int):qd9 (0::l)=qd9 l:=by simp[qd9]
theorem qek {x:Int} (h:x≠0) (l:List Int):qd9 (x::l)=x:=by simp[qd9,h]
theorem qdB (x:Int):qd9 [x]=x:=by
 by_cases h:x=0
 ·subst h;rfl
 exact qek h []
theorem qeS {w xs:List Int} {i j:Nat} (h1:i<=j) (h2:j<=w.length) (hl:w.length<=100000):qgF w xs (i:Int) (j:Int)=some (w.take i++xs++w.drop j):=by
 unfold qgF
 rw[if_pos ⟨by omega,by omega,by omega,hl⟩]
 simp
theorem y8 {a b:List Int} (h:a.length+b.length<=100000):vN a b=some (a++b):=by
 unfold vN
 rw[qar (by simp only[List.length_nil];omega) (by simp only[List.length_nil];omega),ZB,List.nil_append,qar (by omega) (by omega),ZB]
theorem j6 {n c:Int}:yh n c=true↔c≠0/\ -n<c/\c<n:=by
 unfold yh
 simp only[Bool.and_eq_true,decide_eq_true_eq]
 constructor
 ·rintro⟨⟨a,b⟩,c⟩
  exact⟨a,b,c⟩
 rintro⟨a,b,c⟩
 exact⟨⟨a,b⟩,c⟩
def qf6 (n:Int) (w:List Int) (r:List Int×Int):Prop:=(r.2≠0->r.1=[])/\(r.2=0->r.1.length<=w.length+2/\ ∀c∈r.1,yh n c=true)
theorem qf6.bad {n:Int} {w:List Int} {e:Int} (h:e≠0):qf6 n w ([],e):=⟨fun _=>rfl,fun g=>absurd g h⟩
theorem qf6.good {n:Int} {w xs:List Int} {i j:Nat} (hw: ∀c∈w,yh n c=true) (hx: ∀c∈xs,yh n c=true) (h1:i<=j) (h2:j<=w.length) (hl:xs.length<=j-i+2):qf6 n w (w.take i++xs++w.drop j,0):=by
 refine⟨fun h=>absurd rfl h,fun _=>⟨?_,fun c hc=>?_⟩⟩
 ·simp only[Yq,List.length_take,YJ]
  omega
 rcases List.mem_append.1 hc with hc|hc
 ·rcases List.mem_append.1 hc with hc|hc
  ·exact hw c (List.mem_of_mem_take hc)
  exact hx c hc
 exact hw c (List.mem_of_mem_drop hc)
theorem qbe {w:List Int} (h:w.length<=100000):qbZ w=some ():=by
 unfold qbZ
 rw[if_pos (by omega)]
theorem qir {w:List Int} {i j:Nat} (h1:i<=j) (h2:j<=w.length):cut w (i:Int) (j:Int)=some ((w.drop i).take (j-i)):=by
 unfold cut
 rw[if_pos ⟨by omega,by omega,by omega⟩]
 simp
theorem qaE (at_:Int) (L k:Nat) (hL:L<=1000) (hk:k<=10):(at_<0/\True)\/(¬at_<0/\at_>w64 ((L:Int)-k))\/(¬at_<0/\ ¬at_>w64 ((L:Int)-k)/\ ∃i:Nat,at_=i/\i+k<=L):=by
 rw[qK (by omega) (by omega)]
 by_cases a:at_<0
 ·exact .inl ⟨a,trivial⟩
 by_cases b:at_>(L:Int)-k
 ·exact .inr (.inl ⟨a,b⟩)
 exact .inr (.inr ⟨a,b,at_.toNat,by omega,by omega⟩)
theorem qjv {w:List Int} {i:Nat} {x y:Int} (hx:w[i]? =some x) (hy:w[i+1]? =some y):cut w (i:Int) ((i+2:Nat):Int)=some [x,y]:=by
 obtain⟨h1,e1⟩:=Yb.1 hx
 obtain⟨h2,e2⟩:=Yb.1 hy
 rw[qir (by omega) (by omega),show i+2-i=2 by omega,YG h1,YG h2,e1,e2]
 rfl
theorem qmV {w:List Int} {i:Nat} {x y z:Int} (hx:w[i]? =some x) (hy:w[i+1]? =some y) (hz:w[i+2]? =some z):cut w (i:Int) ((i+3:Nat):Int)=some [x,y,z]:=by
 obtain⟨h1,e1⟩:=Yb.1 hx
 obtain⟨h2,e2⟩:=Yb.1 hy
 obtain⟨h3,e3⟩:=Yb.1 hz
 rw[qir (by omega) (by omega),show i+3-i=3 by omega,YG h1,YG h2,YG h3,e1,e2,e3]
 rfl
theorem qkg {n x y z:Int} (bx:x≠0/\ -n<x/\x<n) (by_:y≠0/\ -n<y/\y<n) (bz:z≠0/\ -n<z/\z<n) (h2:n<=12) (A:Int):
 ∃r:List Int×Bool,qaB [x,y,z]=some r.2/\xN x y z=some r/\True/\(r.2=true->yH [x,y,z] [116,117,114,110] A 0=some r.1/\r.1.length=3/\ ∀c∈r.1,c≠0/\ -n<c/\c<n):=by
 have k0:idx [x,y,z] 0=some x:=rfl
 have k1:idx [x,y,z] 1=some y:=rfl
 have k2:idx [x,y,z] 2=some z:=rfl
 have ax:=qaU (show-1000<x/\x<1000 by omega)
 have ay:=qaU (show-1000<y/\y<1000 by omega)
 have az:=qaU (show-1000<z/\z<1000 by omega)
 have sx:=vT (show-1000<x/\x<1000 by omega)
 have sy:=vT (show-1000<y/\y<1000 by omega)
 have sz:=vT (show-1000<z/\z<1000 by omega)
 have e0:w64 (((x.natAbs:Nat):Int)-((y.natAbs:Nat):Int))=(x.natAbs:Int)-(y.natAbs:Int):=qK (by omega) (by omega)
 have ad:=qaU (show-1000<(x.natAbs:Int)-(y.natAbs:Int)/\(x.natAbs:Int)-(y.natAbs:Int)<1000 by omega)
 have sd:=vT (show-1000<(x.natAbs:Int)-(y.natAbs:Int)/\(x.natAbs:Int)-(y.natAbs:Int)<1000 by omega)
 have gx:=qdU x
 have gy:=qdU y
 have gz:=qdU z
 have hx:=qen bx.1
 have hy:=qen by_.1
 have hz:=qen bz.1
 rw[gx]at hx
 rw[gy]at hy
 rw[gz]at hz
 unfold qaB xN yH
 simp only[k0,k1,k2,ZB,ax,ay,az,sx,sy,sz,e0,ad,sd,gx,gy,gz,hx,hy,hz]
 by_cases c1:((x.natAbs:Nat):Int)=((z.natAbs:Nat):Int)
 ·by_cases c2:((((x.natAbs:Int)-(y.natAbs:Int)).natAbs:Nat):Int)=1
  ·simp only[if_pos c1,if_pos c2,decide_eq_true c1,decide_eq_true c2,Bool.not_true,ZF,if_false,ZB]
   generalize hX:(if x<0 then(-1:Int)else 1)=X at*
   generalize hY:(if y<0 then(-1:Int)else 1)=Y at*
   generalize hZ:(if z<0 then(-1:Int)else 1)=Z at*
   have rX:X= -1\/X=1:=by rw[<-hX];split<;>omega
   have rZ:Z= -1\/Z=1:=by rw[<-hZ];split<;>omega
   have wZ:w64 (Z*(y.natAbs:Int))=Z*(y.natAbs:Int):=by rcases rZ with rfl|rfl<;>exact qK (by omega) (by omega)
   have wX:w64 (X*(y.natAbs:Int))=X*(y.natAbs:Int):=by rcases rX with rfl|rfl<;>exact qK (by omega) (by omega)
   by_cases d1:X=Y
   ·simp only[if_pos d1,ZB]
    refine⟨([w64 (Z*(y.natAbs:Int)),x,y],true),rfl,rfl,trivial,fun _=>⟨rfl,rfl,fun c hc=>?_⟩⟩
    simp only[wZ]at hc
    simp only[List.mem_cons,List.not_mem_nil,or_false]at hc
    rcases hc with rfl|rfl|rfl
    ·rcases rZ with rfl|rfl<;>omega
    ·exact bx
    exact by_
   by_cases d2:Y=Z
   ·simp only[if_neg d1,if_pos d2,decide_eq_true d2,ZB]
    refine⟨([y,z,w64 (X*(y.natAbs:Int))],true),rfl,rfl,trivial,fun _=>⟨rfl,rfl,fun c hc=>?_⟩⟩
    simp only[wX]at hc
    simp only[List.mem_cons,List.not_mem_nil,or_false]at hc
    rcases hc with rfl|rfl|rfl
    ·exact by_
    ·exact bz
    rcases rX with rfl|rfl<;>omega
   simp only[if_neg d1,if_neg d2,decide_eq_false d2,ZB]
   exact⟨([],false),rfl,rfl,trivial,fun h=>by cases h⟩
  simp only[if_pos c1,decide_eq_true c1,if_neg c2,decide_eq_false c2,Bool.not_true,Bool.not_false,ZF,if_false,if_true,ZB]
  exact⟨([],false),rfl,rfl,trivial,fun h=>by cases h⟩
 simp only[if_neg c1,decide_eq_false c1,Bool.not_false,if_true,ZB]
 exact⟨([],false),rfl,rfl,trivial,fun h=>by cases h⟩
section
variable {N:Nat} (hN:2000<N) {n:Int} (h1:1<=n) (h2:n<=12) {w:List Int} (hw:w.length<=400) (hv: ∀c∈w,yh n c=true) {m:zw}
include hN h1 h2 hw hv
theorem qnW (hk:m.Kind=[105,110,115,101,114,116]): ∃r,zJ N n w m=some r/\za n w m=some r/\qf6 n w r:=by
 obtain⟨K,A,L⟩:=m
 obtain rfl:=hk
 unfold zJ za yw jA
 simp only[beq_self_eq_true,if_true,ZB,Bool.not_true,ZF,if_false,xB,qeX h1 h2,letter_eq h1 h2,Bool.not_not,show¬((0:Int)<0)by omega,show¬((0:Int)>0)by omega]
 have bf: ∀a b c d:Int,qh N [a,b,c,d]=some (qd9 [a,b,c,d]):=fun a b c d=>xY (by simp) (by simp;omega)
 simp only[bf,ZB]
 cases hL:yh n L with
 |false=>
  simp only[Bool.not_false,if_true,qbb,qek (show(3:Int)≠0 by decide),ZB]
  have e: ∀x:Int,(Option.bind (if A<0 then some ((0:Int),(0:Int),(3:Int),(3:Int),(3:Int))else some (0,0,3,x,3)) fun y:Int×Int×Int×Int×Int=>(some y.2.2.2.2))=some 3:=fun x=>by split<;>rfl
  by_cases a:A<0
  ·simp only[if_pos a,ZB]
   exact⟨([],3),rfl,rfl,.bad (by decide)⟩
  simp only[if_neg a,ZB]
  exact⟨([],3),rfl,rfl,.bad (by decide)⟩
 |true=>
  simp only[Bool.not_true,ZF,if_false,qbb,qdB,ZB]
  rcases qaE A w.length 0 (by omega) (by omega)with⟨a,_⟩|⟨a,b⟩|⟨a,b,i,rfl,hi⟩
  ·simp only[if_pos a,ZB,if_true]
   exact⟨([],3),rfl,rfl,.bad (by decide)⟩
  ·have b:decide (A>w64 ((w.length:Int)-0))=true:=decide_eq_true b
   simp only[if_neg a,ZB,b,if_true]
   exact⟨([],3),rfl,rfl,.bad (by decide)⟩
  have b:decide ((i:Int)>w64 ((w.length:Int)-0))=false:=decide_eq_false b
  have z:w64 ((i:Int)+0)=(i:Int):=by rw[qK (by omega) (by omega)];omega
  have wL:w64 (0-L)= -L:=by have:=j6.1 hL;rw[qK (by omega) (by omega)];omega
  simp only[if_neg a,ZB,b,ZF,if_false,decide_true,Bool.not_true,z]
  have c1:=qir (w:=w) (i:=i) (j:=i) (Nat.le_refl _) (by omega)
  have c2:=xA (l:=w) (k:=i) (by omega)
  have c3:=xZ (l:=w) (k:=i) (by omega)
  have r2:qeB w (i:Int) (i:Int) L (-L)=some (w.take i++[L,-L]++w.drop i):=by
   unfold qeB
   rw[if_pos (.inl rfl),qeS (Nat.le_refl _) (by omega) (by omega)]
  rw[c1,c2,c3]
  simp only[ZB,qae,qbe (show w.length<=100000 by omega),yU,wL,Bool.not_true,ZF,if_false]
  rw[r2,y8 (by simp;omega),ZB,ZB,y8 (by simp;omega),ZB]
  exact⟨_,rfl,rfl,.good hv (fun c hc=>by
   have:=j6.1 hL
   simp only[List.mem_cons,List.not_mem_nil,or_false]at hc
   rcases hc with rfl|rfl
   ·exact hL
   exact j6.2 (by omega)) (Nat.le_refl _) (by omega) (by simp)⟩
theorem qnQ (hk:m.Kind=[99,97,110,99,101,108]): ∃r,zJ N n w m=some r/\za n w m=some r/\qf6 n w r:=by
 obtain⟨K,A,L⟩:=m
 obtain rfl:=hk
 have f1:([99,97,110,99,101,108]==([105,110,115,101,114,116]:Str))=false:=by decide
 have f2:([115,119,97,112]==([105,110,115,101,114,116]:Str))=false:=by decide
 have f3:([115,119,97,112]==([99,97,110,99,101,108]:Str))=false:=by decide
 have f4:([116,117,114,110]==([105,110,115,101,114,116]:Str))=false:=by decide
 have f5:([116,117,114,110]==([99,97,110,99,101,108]:Str))=false:=by decide
 have f6:([116,117,114,110]==([115,119,97,112]:Str))=false:=by decide
 unfold zJ za yw jA
 simp only[f1,f2,f3,f4,f5,f6,beq_self_eq_true,if_true,ZB,Bool.not_true,Bool.not_false,ZF,if_false,xB,show¬((2:Int)<0)by omega,show((2:Int)>0)by omega,show¬((2:Int)=0)by omega]
 have bf: ∀a b c d:Int,qh N [a,b,c,d]=some (qd9 [a,b,c,d]):=fun a b c d=>xY (by simp) (by simp;omega)
 simp only[bf,ZB]
 by_cases hL:L=0
 ·subst hL
  simp only[decide_true,Bool.not_true,ZF,if_false,qbb,qdB,ZB]
  rcases qaE A w.length 2 (by omega) (by omega)with⟨a,_⟩|⟨a,b⟩|⟨a,b,i,rfl,hi⟩
  ·simp only[if_pos a,ZB,if_true]
   exact⟨([],3),rfl,rfl,.bad (by decide)⟩
  ·have b:decide (A>w64 ((w.length:Int)-2))=true:=decide_eq_true b
   simp only[if_neg a,ZB,b,if_true]
   exact⟨([],3),rfl,rfl,.bad (by decide)⟩
  have b:decide ((i:Int)>w64 ((w.length:Int)-2))=false:=decide_eq_false b
  have z:w64 ((i:Int)+2)=((i+2:Nat):Int):=by rw[qK (by omega) (by omega)];rfl
  have z1:w64 ((i:Int)+1)=((i+1:Nat):Int):=qP (by omega)
  simp only[if_neg a,ZB,b,ZF,if_false,decide_true,Bool.not_true,z,z1]
  obtain⟨x,hx⟩: ∃x,w[i]? =some x:=⟨_,Ya (by omega)⟩
  obtain⟨y,hy⟩: ∃x,w[i+1]? =some x:=⟨_,Ya (by omega)⟩
  rw[qjv hx hy,xA (by omega),xZ (by omega),qz,hx,qz,hy]
  simp only[ZB]
  have k3:qaf [x,y]=some (decide (x=w64 (0-y))):=rfl
  rw[k3]
  simp only[ZB]
  by_cases e:x=w64 (0-y)
  ·rw[decide_eq_true e]
   simp only[Bool.not_true,ZF,if_false,qbe (show w.length<=100000 by omega),ZB,yS]
   have r0:qg9 w (i:Int) ((i+2:Nat):Int)=some (w.take i++[]++w.drop (i+2)):=by
    unfold qg9
    rw[if_pos (by omega),qeS (by omega) (by omega) (by omega)]
   rw[r0,y8 (by simp;omega),ZB,ZB,y8 (by simp;omega),ZB]
   exact⟨_,rfl,rfl,.good hv (fun c hc=>by cases hc) (by omega) (by omega) (by simp)⟩
  rw[decide_eq_false e]
  simp only[Bool.not_false,if_true]
  exact⟨([],18),rfl,rfl,.bad (by decide)⟩
 have d:decide (L=0)=false:=decide_eq_false hL
 simp only[d,Bool.not_false,if_true,qbb,qek (show(1:Int)≠0 by decide),ZB]
 by_cases a:A<0
 ·simp only[if_pos a,ZB]
  exact⟨([],1),rfl,rfl,.bad (by decide)⟩
 simp only[if_neg a,ZB]
 exact⟨([],1),rfl,rfl,.bad (by decide)⟩
theorem qnK (hk:m.Kind=[115,119,97,112]): ∃r,zJ N n w m=some r/\za n w m=some r/\qf6 n w r:=by
 obtain⟨K,A,L⟩:=m
 obtain rfl:=hk
 have f1:([99,97,110,99,101,108]==([105,110,115,101,114,116]:Str))=false:=by decide
 have f2:([115,119,97,112]==([105,110,115,101,114,116]:Str))=false:=by decide
 have f3:([115,119,97,112]==([99,97,110,99,101,108]:Str))=false:=by decide
 have f4:([116,117,114,110]==([105,110,115,101,114,116]:Str))=false:=by decide
 have f5:([116,117,114,110]==([99,97,110,99,101,108]:Str))=false:=by decide
 have f6:([116,117,114,110]==([115,119,97,112]:Str))=false:=by decide
 unfold zJ za yw jA
 simp only[f1,f2,f3,f4,f5,f6,beq_self_eq_true,if_true,ZB,Bool.not_true,Bool.not_false,ZF,if_false,xB,show¬((2:Int)<0)by omega,show((2:Int)>0)by omega,show¬((2:Int)=0)by omega]
 have bf: ∀a b c d:Int,qh N [a,b,c,d]=some (qd9 [a,b,c,d]):=fun a b c d=>xY (by simp) (by simp;omega)
 simp only[bf,ZB]
 by_cases hL:L=0
 ·subst hL
  simp only[decide_true,Bool.not_true,ZF,if_false,qbb,qdB,ZB]
  rcases qaE A w.length 2 (by omega) (by omega)with⟨a,_⟩|⟨a,b⟩|⟨a,b,i,rfl,hi⟩
  ·simp only[if_pos a,ZB,if_true]
   exact⟨([],3),rfl,rfl,.bad (by decide)⟩
  ·have b:decide (A>w64 ((w.length:Int)-2))=true:=decide_eq_true b
   simp only[if_neg a,ZB,b,if_true]
   exact⟨([],3),rfl,rfl,.bad (by decide)⟩
  have b:decide ((i:Int)>w64 ((w.length:Int)-2))=false:=decide_eq_false b
  have z:w64 ((i:Int)+2)=((i+2:Nat):Int):=by rw[qK (by omega) (by omega)];rfl
  have z1:w64 ((i:Int)+1)=((i+1:Nat):Int):=qP (by omega)
  simp only[if_neg a,ZB,b,ZF,if_false,decide_true,Bool.not_true,z,z1]
  obtain⟨x,hx⟩: ∃x,w[i]? =some x:=⟨_,Ya (by omega)⟩
  obtain⟨y,hy⟩: ∃x,w[i+1]? =some x:=⟨_,Ya (by omega)⟩
  have lx:=hv x (Yn hx)
  have ly:=hv y (Yn hy)
  have bx:=j6.1 lx
  have by_:=j6.1 ly
  rw[qjv hx hy,xA (by omega),xZ (by omega),qz,hx,qz,hy]
  simp only[ZB]
  have k0:idx [x,y] 0=some x:=rfl
  have k1:idx [x,y] 1=some y:=rfl
  have e0:w64 (((x.natAbs:Nat):Int)-((y.natAbs:Nat):Int))=(x.natAbs:Int)-(y.natAbs:Int):=qK (by omega) (by omega)
  have k5:y9 [x,y]=some (decide (((((x.natAbs:Int)-(y.natAbs:Int)).natAbs:Nat):Int)>=2)):=by
   unfold y9
   simp only[k0,k1,ZB,qaU (show-1000<x/\x<1000 by omega),qaU (show-1000<y/\y<1000 by omega),e0,qaU (show-1000<(x.natAbs:Int)-(y.natAbs:Int)/\(x.natAbs:Int)-(y.natAbs:Int)<1000 by omega)]
  rw[k5]
  simp only[ZB,vT (show-1000<x/\x<1000 by omega),vT (show-1000<y/\y<1000 by omega),e0,vT (show-1000<(x.natAbs:Int)-(y.natAbs:Int)/\(x.natAbs:Int)-(y.natAbs:Int)<1000 by omega)]
  by_cases e:((((x.natAbs:Int)-(y.natAbs:Int)).natAbs:Nat):Int)>=2
  ·rw[decide_eq_true e,if_neg (show¬((((x.natAbs:Int)-(y.natAbs:Int)).natAbs:Nat):Int)<2 by omega)]
   have k6:yR [x,y] [115,119,97,112] (i:Int) 0=some (y,x):=rfl
   simp only[Bool.not_true,ZF,if_false,qbe (show w.length<=100000 by omega),ZB,k6]
   have r2:qeB w (i:Int) ((i+2:Nat):Int) y x=some (w.take i++[y,x]++w.drop (i+2)):=by
    unfold qeB
    rw[if_pos (.inr (by omega)),qeS (by omega) (by omega) (by omega)]
   rw[r2,y8 (by simp;omega),ZB,ZB,y8 (by simp;omega),ZB]
   exact⟨_,rfl,rfl,.good hv (fun c hc=>by
    simp only[List.mem_cons,List.not_mem_nil,or_false]at hc
    rcases hc with rfl|rfl
    ·exact ly
    exact lx) (by omega) (by omega) (by simp)⟩
  rw[decide_eq_false e,if_pos (show((((x.natAbs:Int)-(y.natAbs:Int)).natAbs:Nat):Int)<2 by omega)]
  simp only[Bool.not_false,if_true]
  exact⟨([],18),rfl,rfl,.bad (by decide)⟩
 have d:decide (L=0)=false:=decide_eq_false hL
 simp only[d,Bool.not_false,if_true,qbb,qek (show(1:Int)≠0 by decide),ZB]
 by_cases a:A<0
 ·simp only[if_pos a,ZB]
  exact⟨([],1),rfl,rfl,.bad (by decide)⟩
 simp only[if_neg a,ZB]
 exact⟨([],1),rfl,rfl,.bad (by decide)⟩
theorem qog (hk:m.Kind=[116,117,114,110]): ∃r,zJ N n w m=some r/\za n w m=some r/\qf6 n w r:=by
 obtain⟨K,A,L⟩:=m
 obtain rfl:=hk
 have f1:([99,97,110,99,101,108]==([105,110,115,101,114,116]:Str))=false:=by decide
 have f2:([115,119,97,112]==([105,110,115,101,114,116]:Str))=false:=by decide
 have f3:([115,119,97,112]==([99,97,110,99,101,108]:Str))=false:=by decide
 have f4:([116,117,114,110]==([105,110,115,101,114,116]:Str))=false:=by decide
 have f5:([116,117,114,110]==([99,97,110,99,101,108]:Str))=false:=by decide
 have f6:([116,117,114,110]==([115,119,97,112]:Str))=false:=by decide
 unfold zJ za yw jA
 simp only[f1,f2,f3,f4,f5,f6,beq_self_eq_true,if_true,ZB,Bool.not_true,Bool.not_false,ZF,if_false,xB,show¬((3:Int)<0)by omega,show((3:Int)>0)by omega,show¬((3:Int)=0)by omega]
 have bf: ∀a b c d:Int,qh N [a,b,c,d]=some (qd9 [a,b,c,d]):=fun a b c d=>xY (by simp) (by simp;omega)
 simp only[bf,ZB]
 by_cases hL:L=0
 ·subst hL
  simp only[decide_true,Bool.not_true,ZF,if_false,qbb,qdB,ZB]
  rcases qaE A w.length 3 (by omega) (by omega)with⟨a,_⟩|⟨a,b⟩|⟨a,b,i,rfl,hi⟩
  ·simp only[if_pos a,ZB,if_true]
   exact⟨([],3),rfl,rfl,.bad (by decide)⟩
  ·have b:decide (A>w64 ((w.length:Int)-3))=true:=decide_eq_true b
   simp only[if_neg a,ZB,b,if_true]
   exact⟨([],3),rfl,rfl,.bad (by decide)⟩
  have b:decide ((i:Int)>w64 ((w.length:Int)-3))=false:=decide_eq_false b
  have z:w64 ((i:Int)+3)=((i+3:Nat):Int):=by rw[qK (by omega) (by omega)];rfl
  have z1:w64 ((i:Int)+1)=((i+1:Nat):Int):=qP (by omega)
  simp only[if_neg a,ZB,b,ZF,if_false,decide_true,Bool.not_true,z,z1]
  obtain⟨x,hx⟩: ∃x,w[i]? =some x:=⟨_,Ya (by omega)⟩
  obtain⟨y,hy⟩: ∃x,w[i+1]? =some x:=⟨_,Ya (by omega)⟩
  obtain⟨v,hz⟩: ∃x,w[i+2]? =some x:=⟨_,Ya (by omega)⟩
  have lx:=hv x (Yn hx)
  have ly:=hv y (Yn hy)
  have lz:=hv v (Yn hz)
  have bx:=j6.1 lx
  have by_:=j6.1 ly
  have bz:=j6.1 lz
  rw[show w64 ((i:Int)+2)=((i+2:Nat):Int)by rw[qK (by omega) (by omega)];rfl,qmV hx hy hz,xA (by omega),xZ (by omega),qz,hx,qz,hy,qz,hz]
  simp only[ZB]
  obtain⟨r,t1,t2,t3,t4⟩:=qkg bx by_ bz h2 (i:Int)
  rw[t1,t2]
  simp only[ZB]
  cases hr:r.2 with
  |false=>
   simp only[Bool.not_false,if_true]
   exact⟨([],18),rfl,rfl,.bad (by decide)⟩
  |true=>
   obtain⟨t5,t6,t7⟩:=t4 hr
   simp only[Bool.not_true,ZF,if_false,qbe (show w.length<=100000 by omega),ZB,t5]
   have r2:qih w (i:Int) ((i+3:Nat):Int) r.1=some (w.take i++r.1++w.drop (i+3)):=by
    unfold qih
    rw[if_pos ⟨by omega,by rw[t6];omega⟩,qeS (by omega) (by omega) (by omega)]
   rw[r2,y8 (by simp[t6];omega),ZB,ZB,y8 (by simp[t6];omega),ZB]
   exact⟨_,rfl,rfl,.good hv (fun c hc=>j6.2 (t7 c hc)) (by omega) (by omega) (by rw[t6];omega)⟩
 have d:decide (L=0)=false:=decide_eq_false hL
 simp only[d,Bool.not_false,if_true,qbb,qek (show(1:Int)≠0 by decide),ZB]
 by_cases a:A<0
 ·simp only[if_pos a,ZB]
  exact⟨([],1),rfl,rfl,.bad (by decide)⟩
 simp only[if_neg a,ZB]
 exact⟨([],1),rfl,rfl,.bad (by decide)⟩
end
end Go.Av
end
section
namespace Go.Av
def tr5 (i k:Nat):Nat:=if k=i then i+1 else if k=i+1 then i else k
theorem qbR (i k:Nat):tr5 i (tr5 i k)=k:=by
 unfold tr5
 by_cases a:k=i
 ·subst a;simp
 by_cases b:k=i+1
 ·subst b;simp
 simp[a,b]
theorem qaH (i:Nat):tr5 i i=i+1:=by simp[tr5]
theorem qaA (i:Nat):tr5 i (i+1)=i:=by simp[tr5]
theorem jY {i k:Nat} (a:k≠i) (b:k≠i+1):tr5 i k=k:=by simp[tr5,a,b]
theorem vo (i k:Nat):(k=i/\tr5 i k=i+1)\/(k=i+1/\tr5 i k=i)\/(k≠i/\k≠i+1/\tr5 i k=k):=by
 by_cases a:k=i
 ·subst a;exact .inl ⟨rfl,qaH k⟩
 by_cases b:k=i+1
 ·subst b;exact .inr (.inl ⟨rfl,qaA i⟩)
 exact .inr (.inr ⟨a,b,jY a b⟩)
theorem qfz {i j:Nat} (h:i+1<j\/j+1<i) (k:Nat):tr5 i (tr5 j k)=tr5 j (tr5 i k):=by
 by_cases a:k=i
 ·subst a;rw[jY (i:=j) (k:=k) (by omega) (by omega),qaH,jY (i:=j) (k:=k+1) (by omega) (by omega)]
 by_cases b:k=i+1
 ·subst b;rw[jY (i:=j) (k:=i+1) (by omega) (by omega),qaA,jY (i:=j) (k:=i) (by omega) (by omega)]
 rw[jY (i:=i) (k:=k) a b]
 rcases vo j k with⟨c,e⟩|⟨c,e⟩|⟨c,c',e⟩<;>rw[e]
 ·exact jY (by omega) (by omega)
 ·exact jY (by omega) (by omega)
 exact jY a b
theorem qea (i k:Nat):tr5 i (tr5 (i+1) (tr5 i k))=tr5 (i+1) (tr5 i (tr5 (i+1) k)):=by
 have a1:=qaH i
 have a2:=qaA i
 have a3:tr5 i (i+1+1)=i+1+1:=jY (by omega) (by omega)
 have b1:=qaH (i+1)
 have b2:=qaA (i+1)
 have b3:tr5 (i+1) i=i:=jY (by omega) (by omega)
 by_cases a:k=i
 ·subst a;rw[a1,b1,a3,b3,a1,b1]
 by_cases b:k=i+1
 ·subst b;rw[a2,b3,a1,b1,a3,b2]
 by_cases c:k=i+1+1
 ·subst c;rw[a3,b2,a2,b3]
 rw[jY (i:=i) (k:=k) a b,jY (i:=i+1) (k:=k) b c,jY (i:=i) (k:=k) a b,jY (i:=i+1) (k:=k) b c]
structure SB where
 f:Nat->Nat
 g:Nat->Nat
 gf: ∀k,g (f k)=k
 fg: ∀k,f (g k)=k
theorem SB.ext {s t:SB} (h: ∀k,s.f k=t.f k):s=t:=by
 obtain⟨f,g,a,b⟩:=s
 obtain⟨f',g',a',b'⟩:=t
 have e:f=f':=funext h
 subst e
 have e:g=g':=funext fun k=>by
  have:=a (g' k)
  rwa [b']at this
 subst e
 rfl
theorem SB.finj (s:SB) {a b:Nat} (h:s.f a=s.f b):a=b:=by
 have:=congrArg s.g h
 rwa [s.gf,s.gf]at this
theorem SB.ginj (s:SB) {a b:Nat} (h:s.g a=s.g b):a=b:=by
 have:=congrArg s.f h
 rwa [s.fg,s.fg]at this
def SB.fr (s:SB) (i:Nat):SB:=⟨fun k=>s.f (tr5 i k),fun k=>tr5 i (s.g k),fun k=>by rw[s.gf,qbR],fun k=>by rw[qbR,s.fg]⟩
def SB.bk (s:SB) (i:Nat):SB:=⟨fun k=>tr5 i (s.f k),fun k=>s.g (tr5 i k),fun k=>by rw[qbR,s.gf],fun k=>by rw[s.fg,qbR]⟩
def SB.Begs (s:SB) (i:Nat):Prop:=s.f (i+1)<s.f i
def SB.Ends (s:SB) (i:Nat):Prop:=s.g (i+1)<s.g i
theorem SB.nEnds {s:SB} {i:Nat} (h: ¬s.Ends i):s.g i<s.g (i+1):=by
 unfold SB.Ends at h
 have:s.g i≠s.g (i+1):=fun e=>by have:=s.ginj e;omega
 omega
def psh (L:Nat->SB) (k i:Nat):Nat->SB:=fun q=>if q=k then(L k).bk i else if q=k+1 then(L (k+1)).fr i else L q
theorem jR (L:Nat->SB) (k i:Nat):psh L k i k=(L k).bk i:=by simp[psh]
theorem zz (L:Nat->SB) (k i:Nat):psh L k i (k+1)=(L (k+1)).fr i:=by simp[psh]
theorem zx (L:Nat->SB) {k i q:Nat} (a:q≠k) (b:q≠k+1):psh L k i q=L q:=by simp[psh,a,b]
structure yX (n m:Nat) (L:Nat->SB) (k i:Nat):Prop where
 k_:k+1<m
 i_:i+1<n
 b_:(L (k+1)).Begs i
 e_: ¬(L k).Ends i
inductive Psh (n m:Nat):(Nat->SB)->(Nat->SB)->Prop
 |mk {L:Nat->SB} {k i:Nat} (h:yX n m L k i):Psh n m L (psh L k i)
inductive Pst (n m:Nat):(Nat->SB)->(Nat->SB)->Prop
 |refl {L:Nat->SB}:Pst n m L L
 |head {L L1 A:Nat->SB} (h:Psh n m L L1) (t:Pst n m L1 A):Pst n m L A
theorem Pst.trans {n m:Nat} {L A B:Nat->SB} (h:Pst n m L A) (k:Pst n m A B):Pst n m L B:=by
 induction h with
 |refl=>exact k
 |head h _ ih=>exact .head h (ih k)
theorem Pst.one {n m:Nat} {L A:Nat->SB} (h:Psh n m L A):Pst n m L A:= .head h .refl
def Nf (n m:Nat) (L:Nat->SB):Prop:= ∀k i,¬yX n m L k i
def qer:List Nat->Nat
 |[]=>0
 |x::r=>r.countP (fun y=>decide (y<x))+qer r
theorem qgl {x y:Nat} (h:y<x) (b:List Nat): ∀a:List Nat,qer (a++y::x::b)+1=qer (a++x::y::b)
 |[]=>by
  simp only[List.nil_append,qer,List.countP_cons]
  rw[decide_eq_true h,decide_eq_false (show¬x<y by omega)]
  simp only[if_true,ZF,if_false]
  omega
 |z::a=>by
  simp only[List.cons_append,qer]
  have:=qgl h b a
  simp only[List.countP_append,List.countP_cons]
  omega
theorem qno {i:Nat}: ∀r:List Nat,r.Nodup->i∉r->r.countP (fun y=>decide (tr5 i y<i+1))<=r.countP (fun y=>decide (y<i))+(if i+1∈r then 1 else 0)
 |[],_,_=>by simp
 |y::r,hn,hi=>by
  have hn2:=(List.nodup_cons.1 hn)
  have hi2:i∉r:=fun h=>hi (List.mem_cons_of_mem _ h)
  have hy:y≠i:=fun e=>hi (e▸List.mem_cons_self)
  have ih:=qno r hn2.2 hi2
  rw[List.countP_cons,List.countP_cons]
  by_cases c:y=i+1
  ·subst c
   rw[qaA,decide_eq_true (by omega),decide_eq_false (by omega),if_pos rfl,if_neg (by decide),if_pos List.mem_cons_self]
   rw[if_neg hn2.1]at ih
   omega
  rw[jY hy c]
  have e1:decide (y<i+1)=decide (y<i):=by
   by_cases d:y<i
   ·rw[decide_eq_true d,decide_eq_true (by omega)]
   rw[decide_eq_false d,decide_eq_false (by omega)]
  rw[e1]
  have e2:(if i+1∈y::r then 1 else 0)=(if i+1∈r then 1 else 0:Nat):=by
   by_cases d:i+1∈r
   ·rw[if_pos d,if_pos (List.mem_cons_of_mem _ d)]
   rw[if_neg d,if_neg (fun h=>by rcases List.mem_cons.1 h with h|h;exact c h.symm;exact d h)]
  rw[e2]
  omega
theorem qhf {i:Nat}: ∀p:List Nat,p.Nodup->qer (p.map (tr5 i))<=qer p+(if i∈p then 1 else 0)
 |[],_=>by simp[qer]
 |x::r,hn=>by
  have hn2:=(List.nodup_cons.1 hn)
  have ih:=qhf (i:=i) r hn2.2
  simp only[List.map_cons,qer,List.countP_map]
  have e:(fun y=>decide (y<tr5 i x))∘tr5 i=fun y=>decide (tr5 i y<tr5 i x):=rfl
  rw[e]
  by_cases c:x=i
  ·subst c
   have hc:=qno r hn2.2 hn2.1
   rw[qaH,if_pos List.mem_cons_self]
   rw[if_neg hn2.1]at ih
   have:(if x+1∈r then 1 else 0:Nat)<=1:=by split<;>omega
   omega
  have h1:r.countP (fun y=>decide (tr5 i y<tr5 i x))<=r.countP (fun y=>decide (y<x)):=by
   refine List.countP_mono_left fun y hy h=>?_
   have hyx:y≠x:=fun e=>hn2.1 (e▸hy)
   simp only[decide_eq_true_eq]at h⊢
   rcases vo i x with⟨a,ea⟩|⟨a,ea⟩|⟨a,a',ea⟩<;>rcases vo i y with⟨b,eb⟩|⟨b,eb⟩|⟨b,b',eb⟩<;>rw[ea,eb]at h<;>omega
  have e2:(if i∈x::r then 1 else 0)=(if i∈r then 1 else 0:Nat):=by
   by_cases d:i∈r
   ·rw[if_pos d,if_pos (List.mem_cons_of_mem _ d)]
   rw[if_neg d,if_neg (fun h=>by rcases List.mem_cons.1 h with h|h;exact c h.symm;exact d h)]
  rw[e2]
  omega
def SB.row (n:Nat) (s:SB):List Nat:=(List.range n).map s.f
theorem Ui (n:Nat) (s:SB):(s.row n).length=n:=by simp[SB.row]
theorem Uh {n k:Nat} (s:SB) (h:k<n):(s.row n)[k]? =some (s.f k):=by simp[SB.row,List.getElem?_range h]
theorem qe8 {f:Nat->Nat} (hf: ∀a b,f a=f b->a=b): ∀l:List Nat,l.Nodup->(l.map f).Nodup
 |[],_=>List.nodup_nil
 |x::l,h=>by
  have h2:=List.nodup_cons.1 h
  rw[List.map_cons,List.nodup_cons]
  refine⟨fun hx=>?_,qe8 hf l h2.2⟩
  obtain⟨y,hy,e⟩:=List.mem_map.1 hx
  exact h2.1 (hf _ _ e▸hy)
theorem SB.row_nodup (n:Nat) (s:SB):(s.row n).Nodup:=qe8 (fun _ _ h=>s.finj h) _ List.nodup_range
def SB.inv (n:Nat) (s:SB):Nat:=qer (s.row n)
theorem qkY {l:List Nat} {i:Nat} (h:i+1<l.length):l=l.take i++l[i]::l[i+1]::l.drop (i+2):=by
 rw[<-YG h,<-YG (by omega),YS]
theorem SB.inv_fr {n i:Nat} {s:SB} (hi:i+1<n) (h:s.Begs i):(s.fr i).inv n+1=s.inv n:=by
 unfold SB.inv
 have e1:=qkY (l:=s.row n) (i:=i) (by rw[Ui];omega)
 have e2:=qkY (l:=(s.fr i).row n) (i:=i) (by rw[Ui];omega)
 have g: ∀(t:SB) (k:Nat) (hk:k<(t.row n).length),(t.row n)[k]=t.f k:=fun t k hk=>by simp[SB.row]
 have t1:((s.fr i).row n).take i=(s.row n).take i:=by
  apply List.ext_getElem?
  intro k
  by_cases hk:k<i
  ·rw[List.getElem?_take_of_lt hk,List.getElem?_take_of_lt hk,Uh _ (by omega),Uh _ (by omega)]
   show some (s.f (tr5 i k))=_
   rw[jY (by omega) (by omega)]
  rw[Yg (by simp;omega),Yg (by simp;omega)]
 have t2:((s.fr i).row n).drop (i+2)=(s.row n).drop (i+2):=by
  apply List.ext_getElem?
  intro k
  rw[YI,YI]
  by_cases hk:i+2+k<n
  ·rw[Uh _ hk,Uh _ hk]
   show some (s.f (tr5 i _))=_
   rw[jY (by omega) (by omega)]
  rw[Yg (by rw[Ui];omega),Yg (by rw[Ui];omega)]
 rw[e1,e2,t1,t2,g,g,g,g]
 show qer (_++s.f (tr5 i i)::s.f (tr5 i (i+1))::_)+1=_
 rw[qaH,qaA]
 exact qgl h _ _
theorem SB.inv_bk (n i:Nat) (s:SB):(s.bk i).inv n<=s.inv n+1:=by
 unfold SB.inv
 have e:(s.bk i).row n=(s.row n).map (tr5 i):=by
  unfold SB.row
  rw[List.map_map]
  rfl
 rw[e]
 have:=qhf (i:=i) (s.row n) (s.row_nodup n)
 have h2:(if i∈s.row n then 1 else 0:Nat)<=1:=by split<;>omega
 omega
def mu5 (n:Nat) (L:Nat->SB):Nat->Nat
 |0=>0
 |m+1=>mu5 n L m+m*(L m).inv n
theorem qlG {n k:Nat} {L L':Nat->SB} (h: ∀q,q<k->L' q=L q): ∀m,m<=k->mu5 n L' m=mu5 n L m
 |0,_=>rfl
 |m+1,hm=>by simp only[mu5];rw[qlG h m (by omega),h m (by omega)]
theorem qdK {n m k i:Nat} {L:Nat->SB} (h:yX n m L k i):mu5 n (psh L k i) m<mu5 n L m:=by
 have base:mu5 n (psh L k i) (k+2)+1<=mu5 n L (k+2):=by
  simp only[mu5]
  rw[qlG (L':=psh L k i) (L:=L) (k:=k) (fun q hq=>zx L (by omega) (by omega)) k (Nat.le_refl _),jR,zz]
  have a:=SB.inv_fr h.i_ h.b_
  have b:=Nat.mul_le_mul_left k (SB.inv_bk n i (L k))
  rw[<-a,Nat.mul_add,Nat.mul_one]
  rw[Nat.mul_add,Nat.mul_one]at b
  omega
 have up: ∀d,mu5 n (psh L k i) (k+2+d)+1<=mu5 n L (k+2+d):=by
  intro d
  induction d with
  |zero=>exact base
  |succ d ih=>
   show mu5 n (psh L k i) (k+2+d)+(k+2+d)*(psh L k i (k+2+d)).inv n+1<=mu5 n L (k+2+d)+(k+2+d)*(L (k+2+d)).inv n
   rw[zx L (q:=k+2+d) (by omega) (by omega)]
   omega
 have hk:=h.k_
 have:=up (m-(k+2))
 rw[show k+2+(m-(k+2))=m by omega]at this
 omega
theorem Psh.lt {n m:Nat} {L A:Nat->SB} (h:Psh n m L A):mu5 n A m<mu5 n L m:=by
 cases h with
 |mk h=>exact qdK h
theorem qew {n m:Nat}: ∀(M:Nat) (L:Nat->SB),mu5 n L m<=M-> ∃A,Pst n m L A/\Nf n m A
 |M,L,hM=>by
  by_cases h: ∃k i,yX n m L k i
  ·obtain⟨k,i,h⟩:=h
   have:=qdK h
   cases M with
   |zero=>omega
   |succ M=>
    obtain⟨A,h1,h2⟩:=qew (n:=n) (m:=m) M (psh L k i) (by omega)
    exact⟨A,.head (.mk h) h1,h2⟩
  exact⟨L,.refl,fun k i c=>h ⟨k,i,c⟩⟩
theorem qh5 {s:SB} {i j:Nat} (h:i+1<j\/j+1<i):(s.fr i).Begs j↔s.Begs j:=by
 show s.f (tr5 i (j+1))<s.f (tr5 i j)↔_
 rw[jY (by omega) (by omega),jY (by omega) (by omega)]
 rfl
theorem qhl {s:SB} {i j:Nat} (h:i+1<j\/j+1<i):(s.bk i).Ends j↔s.Ends j:=by
 show s.g (tr5 i (j+1))<s.g (tr5 i j)↔_
 rw[jY (by omega) (by omega),jY (by omega) (by omega)]
 rfl
theorem pst3 {n m k i j l:Nat} {L:Nat->SB} (h1:yX n m L k i) (h2:yX n m (psh L k i) k j) (h3:yX n m (psh (psh L k i) k j) k l):Pst n m (psh L k i) (psh (psh (psh L k i) k j) k l):=
 .head (.mk h2) (.one (.mk h3))
theorem qmU {L:Nat->SB} {k i:Nat}:psh (psh (psh L k i) k (i+1)) k i=psh (psh (psh L k (i+1)) k i) k (i+1):=by
 funext q
 by_cases a:q=k
 ·subst a
  simp only[jR]
  exact SB.ext fun x=>qea i _
 by_cases b:q=k+1
 ·subst b
  simp only[zz]
  exact SB.ext fun x=>congrArg (L (k+1)).f (qea i x)
 simp only[zx _ a b]
theorem qgj {n m k i:Nat} {L:Nat->SB} (h:yX n m L k i) (h':yX n m L k (i+1)): ∃D,Pst n m (psh L k i) D/\Pst n m (psh L k (i+1)) D:=by
 have b1:(L (k+1)).f (i+1)<(L (k+1)).f i:=h.b_
 have b2:(L (k+1)).f (i+2)<(L (k+1)).f (i+1):=h'.b_
 have e1:=SB.nEnds h.e_
 have e2:(L k).g (i+1)<(L k).g (i+2):=SB.nEnds h'.e_
 have ki:=h.k_
 have ii:=h.i_
 have ii':=h'.i_
 have t1:tr5 i (i+2)=i+2:=jY (by omega) (by omega)
 have t2:tr5 (i+1) i=i:=jY (by omega) (by omega)
 have t3:tr5 (i+1) (i+2)=i+1:=qaA (i+1)
 have t4:tr5 (i+1) (i+1)=i+2:=qaH (i+1)
 have p1:yX n m (psh L k i) k (i+1):=by
  refine⟨ki,ii',?_,?_⟩
  ·rw[zz]
   show(L (k+1)).f (tr5 i (i+2))<(L (k+1)).f (tr5 i (i+1))
   rw[t1,qaA];omega
  rw[jR]
  show¬(L k).g (tr5 i (i+2))<(L k).g (tr5 i (i+1))
  rw[t1,qaA];omega
 have p2:yX n m (psh (psh L k i) k (i+1)) k i:=by
  refine⟨ki,ii,?_,?_⟩
  ·rw[zz,zz]
   show(L (k+1)).f (tr5 i (tr5 (i+1) (i+1)))<(L (k+1)).f (tr5 i (tr5 (i+1) i))
   rw[qaH,t1,t2,qaH];omega
  rw[jR,jR]
  show¬(L k).g (tr5 i (tr5 (i+1) (i+1)))<(L k).g (tr5 i (tr5 (i+1) i))
  rw[qaH,t1,t2,qaH];omega
 have q1:yX n m (psh L k (i+1)) k i:=by
  refine⟨ki,ii,?_,?_⟩
  ·rw[zz]
   show(L (k+1)).f (tr5 (i+1) (i+1))<(L (k+1)).f (tr5 (i+1) i)
   rw[t4,t2];omega
  rw[jR]
  show¬(L k).g (tr5 (i+1) (i+1))<(L k).g (tr5 (i+1) i)
  rw[t4,t2];omega
 have q2:yX n m (psh (psh L k (i+1)) k i) k (i+1):=by
  refine⟨ki,ii',?_,?_⟩
  ·rw[zz,zz]
   show(L (k+1)).f (tr5 (i+1) (tr5 i (i+2)))<(L (k+1)).f (tr5 (i+1) (tr5 i (i+1)))
   rw[t1,t3,qaA,t2];omega
  rw[jR,jR]
  show¬(L k).g (tr5 (i+1) (tr5 i (i+2)))<(L k).g (tr5 (i+1) (tr5 i (i+1)))
  rw[t1,t3,qaA,t2];omega
 exact⟨_,pst3 h p1 p2,qmU▸pst3 h' q1 q2⟩
theorem qlb {n m k i j:Nat} {L:Nat->SB} (hd:i+1<j\/j+1<i) (h:yX n m L k i) (h':yX n m L k j): ∃D,Pst n m (psh L k i) D/\Pst n m (psh L k j) D:=by
 have p1:yX n m (psh L k i) k j:=⟨h.k_,h'.i_,by rw[zz,qh5 hd];exact h'.b_,by rw[jR,qhl hd];exact h'.e_⟩
 have p2:yX n m (psh L k j) k i:=⟨h.k_,h.i_,by rw[zz,qh5 (i:=j) (j:=i) (by omega)];exact h.b_,by rw[jR,qhl (i:=j) (j:=i) (by omega)];exact h.e_⟩
 have e:psh (psh L k i) k j=psh (psh L k j) k i:=by
  funext q
  by_cases a:q=k
  ·subst a
   simp only[jR]
   exact SB.ext fun x=>qfz (i:=j) (j:=i) (by omega) _
  by_cases b:q=k+1
  ·subst b
   simp only[zz]
   exact SB.ext fun x=>congrArg (L (k+1)).f (qfz (i:=i) (j:=j) (by omega) x)
  simp only[zx _ a b]
 exact⟨_,.one (.mk p1),e▸ .one (.mk p2)⟩
theorem qgo {n m k i j:Nat} {L:Nat->SB} (h:yX n m L k i) (h':yX n m L (k+1) j): ∃D,Pst n m (psh L k i) D/\Pst n m (psh L (k+1) j) D:=by
 have b1:(L (k+1)).f (i+1)<(L (k+1)).f i:=h.b_
 have e2:(L (k+1)).g j<(L (k+1)).g (j+1):=SB.nEnds h'.e_
 have gf:=(L (k+1)).gf
 have fg:=(L (k+1)).fg
 have p1:yX n m (psh L k i) (k+1) j:=by
  refine⟨h'.k_,h'.i_,?_,?_⟩
  ·rw[zx L (q:=k+1+1) (by omega) (by omega)];exact h'.b_
  rw[zz]
  show¬tr5 i ((L (k+1)).g (j+1))<tr5 i ((L (k+1)).g j)
  rcases vo i ((L (k+1)).g (j+1))with⟨a,ea⟩|⟨a,ea⟩|⟨a,a',ea⟩<;>rcases vo i ((L (k+1)).g j)with⟨b,eb⟩|⟨b,eb⟩|⟨b,b',eb⟩<;>rw[ea,eb]<;>try omega
  have x1:=fg (j+1)
  have x2:=fg j
  rw[a]at x1
  rw[b]at x2
  omega
 have p2:yX n m (psh L (k+1) j) k i:=by
  refine⟨h.k_,h.i_,?_,?_⟩
  ·rw[jR]
   show tr5 j ((L (k+1)).f (i+1))<tr5 j ((L (k+1)).f i)
   rcases vo j ((L (k+1)).f (i+1))with⟨a,ea⟩|⟨a,ea⟩|⟨a,a',ea⟩<;>rcases vo j ((L (k+1)).f i)with⟨b,eb⟩|⟨b,eb⟩|⟨b,b',eb⟩<;>rw[ea,eb]<;>try omega
   have x1:=gf (i+1)
   have x2:=gf i
   rw[a]at x1
   rw[b]at x2
   omega
  rw[zx L (q:=k) (by omega) (by omega)];exact h.e_
 have e:psh (psh L k i) (k+1) j=psh (psh L (k+1) j) k i:=by
  funext q
  by_cases a:q=k
  ·subst a
   rw[zx _ (q:=q) (by omega) (by omega),jR,jR,zx _ (q:=q) (by omega) (by omega)]
  by_cases b:q=k+1
  ·subst b
   rw[jR,zz,zz,jR]
   rfl
  by_cases c:q=k+1+1
  ·subst c
   rw[zz,zx _ (q:=k+1+1) (by omega) (by omega),zx _ (q:=k+1+1) (by omega) (by omega),zz]
  rw[zx _ b c,zx _ a b,zx _ a b,zx _ b c]
 exact⟨_,.one (.mk p1),e▸ .one (.mk p2)⟩
theorem qfR {n m k k' i j:Nat} {L:Nat->SB} (hk:k+1<k') (h:yX n m L k i) (h':yX n m L k' j): ∃D,Pst n m (psh L k i) D/\Pst n m (psh L k' j) D:=by
 have p1:yX n m (psh L k i) k' j:=⟨h'.k_,h'.i_,by rw[zx L (q:=k'+1) (by omega) (by omega)];exact h'.b_,by rw[zx L (q:=k') (by omega) (by omega)];exact h'.e_⟩
 have p2:yX n m (psh L k' j) k i:=⟨h.k_,h.i_,by rw[zx L (q:=k+1) (by omega) (by omega)];exact h.b_,by rw[zx L (q:=k) (by omega) (by omega)];exact h.e_⟩
 have e:psh (psh L k i) k' j=psh (psh L k' j) k i:=by
  funext q
  by_cases a:q=k
  ·subst a
   rw[zx _ (q:=q) (by omega) (by omega),jR,jR,zx _ (q:=q) (by omega) (by omega)]
  by_cases b:q=k+1
  ·subst b
   rw[zx _ (q:=k+1) (by omega) (by omega),zz,zz,zx _ (q:=k+1) (by omega) (by omega)]
  by_cases c:q=k'
  ·subst c
   rw[jR,zx _ a b,zx _ a b,jR]
  by_cases d:q=k'+1
  ·subst d
   rw[zz,zx _ a b,zx _ a b,zz]
  rw[zx _ c d,zx _ a b,zx _ a b,zx _ c d]
 exact⟨_,.one (.mk p1),e▸ .one (.mk p2)⟩
theorem meet5 {n m k k' i j:Nat} {L:Nat->SB} (h:yX n m L k i) (h':yX n m L k' j): ∃D,Pst n m (psh L k i) D/\Pst n m (psh L k' j) D:=by
 have sw: ∀{A B:Nat->SB},(∃D,Pst n m A D/\Pst n m B D)-> ∃D,Pst n m B D/\Pst n m A D:=fun⟨D,a,b⟩=>⟨D,b,a⟩
 by_cases e:k=k'
 ·subst e
  by_cases c:i=j
  ·subst c;exact⟨_,.refl,.refl⟩
  by_cases c1:j=i+1
  ·subst c1;exact qgj h h'
  by_cases c2:i=j+1
  ·subst c2;exact sw (qgj h' h)
  exact qlb (by omega) h h'
 by_cases e1:k'=k+1
 ·subst e1;exact qgo h h'
 by_cases e2:k=k'+1
 ·subst e2;exact sw (qgo h' h)
 by_cases e3:k<k'
 ·exact qfR (by omega) h h'
 exact sw (qfR (by omega) h' h)
theorem qcU {n m:Nat}: ∀(M:Nat) {L A B:Nat->SB},mu5 n L m<=M->Pst n m L A->Pst n m L B->Nf n m A->Nf n m B->A=B
 |M,L,A,B,hM,hA,hB,nA,nB=>by
  cases hA with
  |refl=>
   cases hB with
   |refl=>rfl
   |head h _=>cases h with|mk h=>exact absurd h (nA _ _)
  |head h tA=>
   cases hB with
   |refl=>cases h with|mk h=>exact absurd h (nB _ _)
   |head h' tB=>
    cases h with
    |mk h=>
     cases h' with
     |mk h'=>
      obtain⟨D,d1,d2⟩:=meet5 h h'
      obtain⟨E,e1,e2⟩:=qew _ D (Nat.le_refl _)
      have l1:=qdK h
      have l2:=qdK h'
      cases M with
      |zero=>omega
      |succ M=>rw[qcU M (by omega) tA (d1.trans e1) nA e2,qcU M (by omega) tB (d2.trans e1) nB e2]
end Go.Av
end
section
namespace Go.Av
theorem ql2 {m:List (Int×Bool)} (k k':Int) (v:Bool):qbC (qdE m k v) k'=if k'=k then some v else qbC m k':=by
 induction m with
 |nil=>
  unfold qdE qbC
  by_cases h:k'=k
  ·simp[h]
  simp[h]
 |cons p m ih=>
  obtain⟨a,b⟩:=p
  unfold qdE
  by_cases h:(k==a)=true
  ·have e:k=a:=by simpa using h
   subst e
   rw[if_pos h]
   unfold qbC
   by_cases c:k'=k
   ·simp[c]
   have c2:(k'==k)=false:=by simpa using c
   rw[List.find?_cons_of_neg (by simp[c2]),List.find?_cons_of_neg (by simp[c2]),if_neg c]
  rw[if_neg h]
  have e:k≠a:=by simpa using h
  unfold qbC at ih⊢
  by_cases c:k'=a
  ·have c2:(k'==a)=true:=by simpa using c
   rw[List.find?_cons_of_pos (by simpa using c2),List.find?_cons_of_pos (by simpa using c2),if_neg (by rw[c];exact fun x=>e x.symm)]
  have c2:(k'==a)=false:=by simpa using c
  rw[List.find?_cons_of_neg (by simp[c2]),List.find?_cons_of_neg (by simp[c2])]
  exact ih
structure IsP (p:List Int):Prop where
 few:p.length<=256
 at_: ∀k,k<p.length-> ∃v:Nat,v<p.length/\p[k]? =some (v:Int)
 inj: ∀(k k':Nat) (v:Int),p[k]? =some v->p[k']? =some v->k=k'
structure SB.Ok (n:Nat) (s:SB):Prop where
 f_: ∀k,k<n->s.f k<n
 g_: ∀k,k<n->s.g k<n
def SB.li (n:Nat) (s:SB):List Int:=(List.range n).map fun k=>(s.f k:Int)
theorem Ug (n:Nat) (s:SB):(s.li n).length=n:=by simp[SB.li]
theorem Ul {n k:Nat} (s:SB) (h:k<n):(s.li n)[k]? =some (s.f k:Int):=by simp[SB.li,List.getElem?_range h]
theorem Uz {n:Nat} {s:SB} {p:List Int} (hl:p.length=n) (h: ∀k,k<n->p[k]? =some (s.f k:Int)):p=s.li n:=by
 apply List.ext_getElem?
 intro k
 by_cases hk:k<n
 ·rw[h k hk,Ul s hk]
 rw[Yg (by omega),Yg (by rw[Ug];omega)]
theorem SB.li_inj {n:Nat} {s t:SB} (h:s.li n=t.li n) {k:Nat} (hk:k<n):s.f k=t.f k:=by
 have h1:=Ul s hk
 have h2:=Ul t hk
 rw[h,h2]at h1
 have:=Ye h1
 omega
theorem qfo {n i k:Nat} (hi:i+1<n) (h:k<n):tr5 i k<n:=by
 rcases vo i k with⟨a,e⟩|⟨a,e⟩|⟨a,a',e⟩<;>omega
theorem SB.Ok.fr {n i:Nat} {s:SB} (h:s.Ok n) (hi:i+1<n):(s.fr i).Ok n:=⟨fun k hk=>h.f_ _ (qfo hi hk),fun k hk=>qfo hi (h.g_ k hk)⟩
theorem SB.Ok.bk {n i:Nat} {s:SB} (h:s.Ok n) (hi:i+1<n):(s.bk i).Ok n:=⟨fun k hk=>qfo hi (h.f_ k hk),fun k hk=>h.g_ _ (qfo hi hk)⟩
def SB.rev (s:SB):SB:=⟨s.g,s.f,s.fg,s.gf⟩
theorem SB.Ok.rev {n:Nat} {s:SB} (h:s.Ok n):s.rev.Ok n:=⟨h.g_,h.f_⟩
def Ue:SB:=⟨fun k=>k,fun k=>k,fun _=>rfl,fun _=>rfl⟩
theorem Uk (n:Nat):Ue.Ok n:=⟨fun _ h=>h,fun _ h=>h⟩
theorem SB.id_li (n:Nat):Ue.li n=qa3 n:=rfl
def rv5 (n k:Nat):Nat:=if k<n then n-1-k else k
theorem qad (n k:Nat):rv5 n (rv5 n k)=k:=by
 unfold rv5
 by_cases h:k<n
 ·rw[if_pos h,if_pos (by omega)];omega
 rw[if_neg h,if_neg h]
theorem qej {n k:Nat} (h:k<n):rv5 n k<n:=by unfold rv5;rw[if_pos h];omega
def Ud (n:Nat):SB:=⟨rv5 n,rv5 n,qad n,qad n⟩
theorem Uj (n:Nat):(Ud n).Ok n:=⟨fun _ h=>qej h,fun _ h=>qej h⟩
def SB.flip (n:Nat) (s:SB):SB:=⟨fun k=>rv5 n (s.f (rv5 n k)),fun k=>rv5 n (s.g (rv5 n k)),fun k=>by rw[qad,s.gf,qad],fun k=>by rw[qad,s.fg,qad]⟩
theorem SB.Ok.flip {n:Nat} {s:SB} (h:s.Ok n):(s.flip n).Ok n:=⟨fun k hk=>qej (h.f_ _ (qej hk)),fun k hk=>qej (h.g_ _ (qej hk))⟩
end Go.Av
end
section
namespace Go.Av
theorem Uo {n k:Nat} {s:SB} (h:k<n):idx (s.li n) (k:Int)=some (s.f k:Int):=by rw[qz,Ul s h]
section
variable {n:Nat} (hn:n<=300)
include hn
theorem qjb {s:SB} (hs:s.Ok n): ∀(K i:Nat) (l:List Int),l.length=n->i<=n->n<K+i->(∀k,k<i->l[s.f k]? =some (k:Int))->zi (s.li n) K l (i:Int)=some (s.rev.li n)
 |0,i,l,hl,h,hK,hk=>by omega
 |K+1,i,l,hl,h,hK,hk=>by
  unfold zi
  rw[Ug]
  by_cases hi:i<n
  ·have hf:=hs.f_ i hi
   rw[if_pos (by omega),Uo hi,ZB,qz,Ya (by omega),ZB,yT (by omega),ZB,qP (by omega)]
   refine qjb hs K (i+1) _ (by simpa using hl) (by omega) (by omega) (fun k hki=>?_)
   by_cases e:k=i
   ·subst e;rw[List.getElem?_set_self (by omega)]
   rw[Yw (fun c=>e (s.finj c.symm))];exact hk k (by omega)
  rw[if_neg (by omega)]
  congr 1
  refine Uz hl fun v hv=>?_
  have:=hk (s.g v) (by have:=hs.g_ v hv;omega)
  rw[s.fg]at this;exact this
theorem qfO {N:Nat} (hN:2000<N) {s:SB} (hs:s.Ok n):zP N (s.li n)=some (s.rev.li n):=by
 unfold zP
 have:=qjb hn hs N 0 (List.replicate n 0) (by simp) (by omega) (by omega) (fun k hk=>by omega)
 rw[show((0:Nat):Int)=0 from rfl]at this
 rw[Ug,qi2 (by omega),ZB,this,ZB]
theorem qbN (s:SB) {i:Nat} (hi:i+1<n):ku (s.li n) (i:Int)=some ((s.fr i).li n):=by
 unfold ku
 have hl:=Ug n s
 have hc:qcs (s.li n)=some ():=by
  unfold qcs
  rw[if_pos (by omega)]
 rw[hc,ZB,qP (by omega),Uo hi,ZB,Uo (by omega),ZB,yT (by omega),ZB,qz,Yw (by omega),Ul _ hi,ZB,yT (by simp;omega),ZB]
 congr 1
 refine Uz (by simp[hl]) fun k hk=>?_
 show _=some ((s.f (tr5 i k):Nat):Int)
 rcases vo i k with⟨rfl,e⟩|⟨rfl,e⟩|⟨a,b,e⟩<;>rw[e]
 ·rw[Yw (by omega),List.getElem?_set_self (by omega)]
 ·rw[List.getElem?_set_self (by simp;omega)]
 rw[Yw (by omega),Yw (by omega),Ul s hk]
theorem qgb {N:Nat} (hN:2000<N) {s:SB} (hs:s.Ok n) {i:Nat} (hi:i+1<n):ji N (s.li n) (i:Int)=some ((s.bk i).li n):=by
 unfold ji
 rw[qfO hn hN hs,ZB,qbN hn s.rev hi,ZB,qfO hn hN (hs.rev.fr hi),ZB]
 rfl
theorem qeb (s:SB) {i:Nat} (hi:i+1<n):zF (s.li n) (i:Int)=some (decide (s.f (i+1)<s.f i)):=by
 unfold zF
 rw[Uo (by omega),ZB,qP (by omega),Uo hi,ZB]
 congr 1
 exact decide_eq_decide.2 (by omega)
theorem qmJ {N:Nat} (hN:2000<N) {s:SB} (hs:s.Ok n) {i:Nat} (hi:i+1<n):vU N (s.li n) (i:Int)=some (decide (s.g (i+1)<s.g i)):=by
 unfold vU
 rw[qfO hn hN hs,ZB,qeb hn s.rev hi,ZB]
 rfl
theorem qd8 {N:Nat} (hN:2000<N) {s t:SB} (hs:s.Ok n): ∀(K i:Nat),i+1<=n->n<K+i->
 (∃j,i<=j/\j+1<n/\t.Begs j/\ ¬s.Ends j/\zW N (s.li n) (t.li n) K (i:Int) ((n:Int)-1)=some (.inr ((j:Int),true)))\/
 ((∀j,i<=j->j+1<n->t.Begs j->s.Ends j)/\zW N (s.li n) (t.li n) K (i:Int) ((n:Int)-1)=some (.inl ()))
 |0,i,h,hK=>by omega
 |K+1,i,h,hK=>by
  unfold zW
  by_cases hi:i+1<n
  ·rw[if_pos (by omega),qeb hn t hi,ZB]
   by_cases a:t.f (i+1)<t.f i
   ·rw[decide_eq_true a,if_pos rfl,qmJ hn hN hs hi,ZB,ZB]
    by_cases b:s.g (i+1)<s.g i
    ·rw[decide_eq_true b,if_neg (by decide),qP (by omega)]
     rcases qd8 hN hs K (i+1) (by omega) (by omega)with⟨j,h1,h2⟩|⟨h1,h2⟩
     ·exact .inl ⟨j,by omega,h2⟩
     refine .inr ⟨fun j hj hj2 hb=>?_,h2⟩
     by_cases e:j=i
     ·subst e;exact b
     exact h1 j (by omega) hj2 hb
    rw[decide_eq_false b,if_pos (by decide)]
    exact .inl ⟨i,Nat.le_refl _,hi,a,b,rfl⟩
   rw[decide_eq_false a,if_neg (by decide),ZB,if_neg (by decide),qP (by omega)]
   rcases qd8 hN hs K (i+1) (by omega) (by omega)with⟨j,h1,h2⟩|⟨h1,h2⟩
   ·exact .inl ⟨j,by omega,h2⟩
   refine .inr ⟨fun j hj hj2 hb=>?_,h2⟩
   by_cases e:j=i
   ·subst e;exact absurd hb a
   exact h1 j (by omega) hj2 hb
  rw[if_neg (by omega)]
  exact .inr ⟨fun j hj hj2=>by omega,rfl⟩
theorem qi1 {N:Nat} (hN:2000<N) (n1:1<=n) {s t:SB} (hs:s.Ok n):
 (∃j:Nat,j+1<n/\t.Begs j/\ ¬s.Ends j/\yJ N (s.li n) (t.li n)=some ((j:Int),true))\/((∀j,j+1<n->t.Begs j->s.Ends j)/\yJ N (s.li n) (t.li n)=some (0,false)):=by
 unfold yJ
 rw[Ug,show w64 ((n:Int)-1)=(n:Int)-1 from qK (by omega) (by omega)]
 have:=qd8 hn hN (t:=t) hs N 0 (by omega) (by omega)
 rw[show((0:Nat):Int)=0 from rfl]at this
 rcases this with⟨j,_,h2,h3,h4,h5⟩|⟨h1,h2⟩
 ·exact .inl ⟨j,h2,h3,h4,by rw[h5];rfl⟩
 exact .inr ⟨fun j=>h1 j (Nat.zero_le _),by rw[h2];rfl⟩
end
theorem qkK {l0:List Int} {n:Nat} (hn:l0.length=n) (hb:n<=100000): ∀(K i:Nat) (l:List Int),l.length=n->2*i<=n+1->n+1<K+2*i->(∀k:Nat,k<n->l[k]? =if k<i\/n<=k+i then l0[n-1-k]? else l0[k]?)->qU K l (i:Int) ((n:Int)-1-i)=some l0.reverse
 |0,i,l,hl,h2,hK,hk=>by omega
 |K+1,i,l,hl,h2,hK,hk=>by
  unfold qU
  by_cases hi:(i:Int)<(n:Int)-1-i
  ·have e1:(n:Int)-1-i=((n-1-i:Nat):Int):=by omega
   have e2:w64 (((n-1-i:Nat):Int)-1)=(n:Int)-1-((i+1:Nat):Int):=by rw[qK (by omega) (by omega)];omega
   have q1:=hk (n-1-i) (by omega)
   have q2:=hk i (by omega)
   rw[if_neg (by omega)]at q1 q2
   have g1:l0[n-1-i]? =some l0[n-1-i]:=Ya (by omega)
   have g2:l0[i]? =some l0[i]:=Ya (by omega)
   rw[g1]at q1
   rw[g2]at q2
   rw[if_pos hi,e1,qz,q1,ZB,qz,q2,ZB,yT (by omega),ZB,qz,Yw (by omega),q1,ZB,yT (by simp;omega),ZB,qP (by omega),e2]
   refine qkK hn hb K (i+1) _ (by simp;omega) (by omega) (by omega) (fun k hkn=>?_)
   by_cases c1:k=n-1-i
   ·subst c1
    rw[List.getElem?_set_self (by simp;omega),if_pos (by omega),show n-1-(n-1-i)=i by omega,g2]
   rw[Yw (fun e=>c1 e.symm)]
   by_cases c2:k=i
   ·subst c2
    rw[List.getElem?_set_self (by omega),if_pos (by omega),g1]
   rw[Yw (fun e=>c2 e.symm),hk k hkn]
   by_cases c3:k<i\/n<=k+i
   ·rw[if_pos c3,if_pos (by omega)]
   rw[if_neg c3,if_neg (by omega)]
  rw[if_neg hi]
  congr 1
  apply List.ext_getElem?
  intro k
  by_cases hkn:k<n
  ·rw[hk k hkn,List.getElem?_reverse (by omega),hn]
   by_cases c3:k<i\/n<=k+i
   ·rw[if_pos c3]
   rw[if_neg c3,show n-1-k=k by omega]
  rw[Yg (by omega),Yg (by simp;omega)]
theorem qhY {N:Nat} {l:List Int} (hN:l.length+1<N) (hb:l.length<=100000):jr N l=some l.reverse:=by
 unfold jr
 have:=qkK (l0:=l) rfl hb N 0 l rfl (by omega) (by omega) (fun k hk=>by rw[if_neg (by omega)])
 rw[qK (by omega) (by omega),show((l.length:Int)-1)=(l.length:Int)-1-((0:Nat):Int)by omega,show(0:Int)=((0:Nat):Int)from rfl]
 rw[this]
 rfl
theorem qnb (n:Nat):(qa3 n).reverse=(Ud n).li n:=by
 refine Uz (by simp[qaq]) fun k hk=>?_
 rw[List.getElem?_reverse (by rw[qaq];exact hk),qaq,qed (by omega)]
 show _=some ((rv5 n k:Nat):Int)
 unfold rv5
 rw[if_pos hk]
theorem qjR {N n:Nat} (hN:2000<N) (hn:n<=300):qav N (n:Int)=some ((Ud n).li n):=by
 unfold qav
 rw[qfk hN (by omega),ZB,qhY (by rw[qaq];omega) (by rw[qaq];omega),ZB,if_pos (by simp),ZB,qnb]
theorem qmy {n:Nat} (hn:n<=300): ∀(K i:Nat) (l:List Int),l.length=i->i<=n->n<K+i->(∀k,k<i->l[k]? =some ((rv5 n k:Nat):Int))->jg (n:Int) K l (i:Int)=some ((Ud n).li n)
 |0,i,l,hl,h,hK,hk=>by omega
 |K+1,i,l,hl,h,hK,hk=>by
  unfold jg
  by_cases hi:i<n
  ·have e:w64 (w64 ((n:Int)-1)-(i:Int))=((rv5 n i:Nat):Int):=by
    unfold rv5
    rw[if_pos hi,qK (n:=(n:Int)-1) (by omega) (by omega),qK (by omega) (by omega)]
    omega
   rw[if_pos (by omega),e,qar (by simp only[Yr,List.length_nil];omega) (by simp only[Yr,List.length_nil];omega),ZB,qP (by omega)]
   refine qmy hn K (i+1) _ (by simp[hl]) (by omega) (by omega) (fun k hki=>?_)
   by_cases c:k<i
   ·rw[Yf (by omega)];exact hk k c
   rw[Yo (by omega),show k-l.length=0 by omega,show k=i by omega]
   rfl
  rw[if_neg (by omega)]
  congr 1
  exact Uz (by omega) fun k hkn=>hk k (by omega)
theorem qmA {N n:Nat} (hN:2000<N) (hn:n<=300):xe N (n:Int)=some ((Ud n).li n):=by
 unfold xe
 have:=qmy hn N 0 [] rfl (by omega) (by omega) (fun k hk=>by omega)
 rw[show((0:Nat):Int)=0 from rfl]at this
 rw[this,ZB]
end Go.Av
end
section
namespace Go.Av
def SB.comp (s t:SB):SB:=⟨fun k=>t.f (s.f k),fun k=>s.g (t.g k),fun k=>by rw[t.gf,s.gf],fun k=>by rw[s.fg,t.fg]⟩
theorem SB.Ok.comp {n:Nat} {s t:SB} (hs:s.Ok n) (ht:t.Ok n):(s.comp t).Ok n:=⟨fun k hk=>ht.f_ _ (hs.f_ k hk),fun k hk=>hs.g_ _ (ht.g_ k hk)⟩
section
variable {n:Nat} (hn:n<=300)
include hn
theorem qjj {s:SB} (hs:s.Ok n): ∀(K i:Nat) (l:List Int),l.length=n->i<=n->n<K+i->(∀k,k<i->l[n-1-k]? =some ((n-1-s.f k:Nat):Int))->ko (s.li n) K l (i:Int)=some ((s.flip n).li n)
 |0,i,l,hl,h,hK,hk=>by omega
 |K+1,i,l,hl,h,hK,hk=>by
  unfold ko
  rw[Ug]
  by_cases hi:i<n
  ·have hf:=hs.f_ i hi
   have e0:w64 ((n:Int)-1)=(n:Int)-1:=qK (by omega) (by omega)
   have e1:w64 ((n:Int)-1-(i:Int))=((n-1-i:Nat):Int):=by rw[qK (by omega) (by omega)];omega
   have e2:w64 ((n:Int)-1-(s.f i:Int))=((n-1-s.f i:Nat):Int):=by rw[qK (by omega) (by omega)];omega
   rw[if_pos (by omega),Uo hi,ZB,e0,e1,e2,qz,Ya (by omega),ZB,yT (by omega),ZB,qP (by omega)]
   refine qjj hs K (i+1) _ (by simpa using hl) (by omega) (by omega) (fun k hki=>?_)
   by_cases e:k=i
   ·subst e;rw[List.getElem?_set_self (by omega)]
   rw[Yw (by omega)];exact hk k (by omega)
  rw[if_neg (by omega)]
  congr 1
  refine Uz hl fun v hv=>?_
  have:=hk (n-1-v) (by omega)
  rw[show n-1-(n-1-v)=v by omega]at this
  rw[this]
  show _=some ((rv5 n (s.f (rv5 n v)):Nat):Int)
  have h2:rv5 n v=n-1-v:=by unfold rv5;rw[if_pos hv]
  have h3:=hs.f_ (n-1-v) (by omega)
  rw[h2]
  unfold rv5
  rw[if_pos h3]
theorem qht {N:Nat} (hN:2000<N) {s:SB} (hs:s.Ok n):jM N (s.li n)=some ((s.flip n).li n):=by
 unfold jM
 have:=qjj hn hs N 0 (List.replicate n 0) (by simp) (by omega) (by omega) (fun k hk=>by omega)
 rw[show((0:Nat):Int)=0 from rfl]at this
 rw[Ug,qi2 (by omega),ZB,this,ZB]
end
def yP (n:Nat) (l:List SB):List (List Int):=l.map (SB.li n)
theorem xV (n:Nat) (l:List SB):(yP n l).length=l.length:=by simp[yP]
theorem qgp {n k:Nat} {l:List SB} (h:k<l.length):(yP n l)[k]? =some (l[k].li n):=by
 unfold yP
 rw[YA,Ya h]
 rfl
section
variable {n:Nat} (hn:n<=12) {N:Nat} (hN:2000<N)
include hn hN
theorem qid {l:List SB} (hl:l.length<=300) (ho: ∀s∈l,s.Ok n): ∀(K i:Nat),i<=l.length->l.length<K+i->qN N (yP n l) K (yP n ((l.take i).map (SB.flip n))) (i:Int)=some (yP n (l.map (SB.flip n)))
 |0,i,h,hK=>by omega
 |K+1,i,h,hK=>by
  unfold qN
  rw[xV]
  by_cases hi:i<l.length
  ·rw[if_pos (by omega),qz,qgp hi,ZB,qht (by omega) hN (ho _ (List.getElem_mem hi)),ZB,qar (by rw[xV];simp;omega) (by rw[xV];simp;omega),ZB,qP (by omega)]
   have e:yP n ((l.take i).map (SB.flip n))++[(l[i].flip n).li n]=yP n ((l.take (i+1)).map (SB.flip n)):=by
    rw[List.take_succ_eq_append_getElem hi,List.map_append]
    unfold yP
    rw[List.map_append]
    rfl
   rw[e]
   exact qid hl ho K (i+1) (by omega) (by omega)
  rw[if_neg (by omega),List.take_of_length_le (by omega)]
theorem qhO {l:List SB} (hl:l.length<=300) (ho: ∀s∈l,s.Ok n):jb N (yP n l)=some (yP n (l.map (SB.flip n))):=by
 unfold jb
 have:=qid hn hN hl ho N 0 (by omega) (by omega)
 rw[show((0:Nat):Int)=0 from rfl,List.take_zero]at this
 rw[show([]:List (List Int))=yP n (([]:List SB).map (SB.flip n))from rfl,this,ZB]
end
end Go.Av
end
section
namespace Go.Av
theorem qjD {N:Nat} (hN:2000<N) {n:Int} (h1:1<=n) (h2:n<=12) {w:List Int} (hw:w.length<=400) (hv: ∀c∈w,yh n c=true) (m:zw): ∃r,zJ N n w m=some r/\za n w m=some r/\qf6 n w r:=by
 by_cases k1:m.Kind=[105,110,115,101,114,116]
 ·exact qnW hN h1 h2 hw hv k1
 by_cases k2:m.Kind=[99,97,110,99,101,108]
 ·exact qnQ hN h1 h2 hw hv k2
 by_cases k3:m.Kind=[115,119,97,112]
 ·exact qnK hN h1 h2 hw hv k3
 by_cases k4:m.Kind=[116,117,114,110]
 ·exact qog hN h1 h2 hw hv k4
 have f1:(m.Kind==[105,110,115,101,114,116])=false:=by simpa using k1
 have f2:(m.Kind==[99,97,110,99,101,108])=false:=by simpa using k2
 have f3:(m.Kind==[115,119,97,112])=false:=by simpa using k3
 have f4:(m.Kind==[116,117,114,110])=false:=by simpa using k4
 have bf: ∀a b c d:Int,qh N [a,b,c,d]=some (qd9 [a,b,c,d]):=fun a b c d=>xY (by simp) (by simp;omega)
 unfold zJ za yw jA
 simp only[f1,f2,f3,f4,if_true,ZB,Bool.not_true,Bool.not_false,ZF,if_false,xB,bf,qek (show(13:Int)≠0 by decide),show((-1:Int)<0)by omega]
 refine⟨([],13),?_,rfl,.bad (by decide)⟩
 by_cases a:m.At<0
 ·simp only[if_pos a,ZB]
  rfl
 simp only[if_neg a,ZB]
 rfl
structure MdOK (n:Int) (k:Nat) (r:List Int×Int):Prop where
 bad:r.2≠0->r.1=[]
 len:r.2=0->r.1.length<=k
 let_:r.2=0-> ∀c∈r.1,yh n c=true
theorem qje {N:Nat} (hN:2000<N) {n:Int} (h1:1<=n) (h2:n<=12) {l:List zw} (hl:l.length<=30): ∀(K i:Nat) (w:List Int),w.length<=220+2*i->(∀c∈w,yh n c=true)->i<=l.length->l.length+1<K+i->
 ∃r,vC N n l K w (i:Int)=some (if r.2=0 then .inl r.1 else .inr ([],r.2))/\kr n l K w 0 (i:Int)=some r/\MdOK n 300 r
 |0,i,w,hw,hv,hi,hK=>by omega
 |K+1,i,w,hw,hv,hi,hK=>by
  unfold vC kr
  by_cases c:i<l.length
  ·rw[if_pos (by omega),if_pos (by omega),qz,Ya c]
   simp only[ZB,decide_true,if_true]
   obtain⟨r,r1,r2,r3⟩:=qjD hN h1 h2 (w:=w) (by omega) hv l[i]
   rw[r1,r2]
   simp only[ZB]
   rw[qP (by omega)]
   by_cases e:r.2=0
   ·have g:=r3.2 e
    rw[e,if_neg (by decide)]
    exact qje hN h1 h2 hl K (i+1) r.1 (by omega) g.2 (by omega) (by omega)
   rw[if_pos (by simp[e])]
   obtain⟨K,rfl⟩: ∃k,K=k+1:=⟨K-1,by omega⟩
   unfold kr
   have hr:r.1=[]:=r3.1 e
   have hb:(Option.bind (if((i+1:Nat):Int)<(l.length:Int)then some (decide (r.2=0))else some false:Option Bool) fun b9=>if b9=true then(idx l ((i+1:Nat):Int)).bind fun x12=>(za n r.1 x12).bind fun r13=>kr n l K r13.1 r13.2 (w64 (((i+1:Nat):Int)+1))else some (r.1,r.2))=some (r.1,r.2):=by
    rw[decide_eq_false e]
    split<;>rfl
   rw[hb]
   refine⟨r,by rw[if_neg e],rfl,⟨fun _=>hr,fun h=>absurd h e,fun h=>absurd h e⟩⟩
  rw[if_neg (by omega),if_neg (by omega)]
  exact⟨(w,0),rfl,rfl,⟨fun h=>absurd rfl h,fun _=>by show w.length<=300;omega,fun _=>hv⟩⟩
theorem qiI {N:Nat} (hN:200000<N) {n:Int} (h1:1<=n) (h2:n<=12) {l:List zw} (hl:l.length<=30\/100000<l.length) {w:List Int} (hw:w.length<=220) (hv: ∀c∈w,yh n c=true):
 ∃r,qaz N n w l=some r/\y7 N n w l=some r/\MdOK n 300 r:=by
 unfold qaz y7
 by_cases c:100000<l.length
 ·rw[if_pos (by omega),if_pos (by omega)]
  exact⟨([],5),rfl,rfl,⟨fun _=>rfl,fun h=>absurd h (by decide),fun h=>absurd h (by decide)⟩⟩
 rw[if_neg (by omega),if_neg (by omega),qbe (by omega),ZB]
 obtain⟨r,r1,r2,r3⟩:=qje (N:=N) (by omega) h1 h2 (l:=l) (by omega) N 0 w (by omega) hv (by omega) (by omega)
 rw[show((0:Nat):Int)=0 from rfl]at r1 r2
 rw[r1,r2]
 refine⟨r,?_,rfl,r3⟩
 by_cases e:r.2=0
 ·rw[if_pos e,ZB]
  obtain⟨a,b⟩:=r
  obtain rfl:=e
  rfl
 rw[if_neg e,ZB]
 obtain⟨a,b⟩:=r
 obtain rfl:=r3.bad e
 rfl
theorem qjU {l:List zw} (hl:l.length<=200000): ∀(K i:Nat),i<=l.length->l.length<K+i-> ∃r,zB l K (i:Int)=some r/\(r= .inl ()\/r= .inr false)
 |0,i,h,hK=>by omega
 |K+1,i,h,hK=>by
  unfold zB
  by_cases hi:i<l.length
  ·rw[if_pos (by omega),qz,Ya hi,ZB,qP (by omega)]
   split
   ·exact⟨_,rfl,.inr rfl⟩
   exact qjU hl K (i+1) (by omega) (by omega)
  rw[if_neg (by omega)]
  exact⟨_,rfl,.inl rfl⟩
theorem qls {N:Nat} {l:List zw} (hN:200000<N): ∃b,yn N l 30=some b/\(b=true->l.length<=30\/(100000<l.length/\l.length<=100002)):=by
 unfold yn
 by_cases a:100002<l.length
 ·refine⟨false,?_,fun h=>by cases h⟩
  by_cases b:(l.length:Int)>30
  ·rw[if_pos b,if_neg (by omega),decide_eq_true (by omega)];rfl
  rw[if_neg b,decide_eq_true (by omega)];rfl
 by_cases c:30<l.length/\l.length<=100000
 ·refine⟨false,?_,fun h=>by cases h⟩
  rw[if_pos (by omega),if_pos (by omega)];rfl
 have e:(if(l.length:Int)>30 then if(l.length:Int)<=100000 then some true else some (decide ((l.length:Int)>100002))else some (decide ((l.length:Int)>100002)):Option Bool)=some false:=by
  by_cases b:(l.length:Int)>30
  ·rw[if_pos b,if_neg (by omega),decide_eq_false (by omega)]
  rw[if_neg b,decide_eq_false (by omega)]
 rw[e,ZB,if_neg (by decide)]
 obtain⟨r,r1,r2⟩:=qjU (l:=l) (by omega) N 0 (by omega) (by omega)
 rw[show((0:Nat):Int)=0 from rfl]at r1
 rw[r1]
 rcases r2 with rfl|rfl
 ·exact⟨true,rfl,fun _=>by omega⟩
 exact⟨false,rfl,fun h=>by cases h⟩
theorem qjN {a b:List Int} (hl:a.length<=100000) (hab:a.length=b.length): ∀(K i:Nat),i<=a.length->a.length<K+i->je a b K (i:Int)=some (if a.drop i=b.drop i then .inl ()else .inr false)
 |0,i,h,hK=>by omega
 |K+1,i,h,hK=>by
  unfold je
  by_cases hi:i<a.length
  ·have hb:i<b.length:=by omega
   rw[if_pos (by omega),qz,Ya hi,qz,Ya hb,ZB,ZB,YG hi,YG hb]
   by_cases c:a[i]=b[i]
   ·rw[decide_eq_true c,if_neg (by decide),qP (by omega),qjN hl hab K (i+1) (by omega) (by omega),c]
    simp only[List.cons.injEq,true_and]
   rw[decide_eq_false c,if_pos (by decide),if_neg (fun h=>c (List.cons.inj h).1)]
  rw[if_neg (by omega),List.drop_eq_nil_of_le (by omega),List.drop_eq_nil_of_le (by omega),if_pos rfl]
theorem qic {N:Nat} {a b:List Int} (hl:a.length<=100000) (hN:a.length<N):yo N a b=some (decide (a=b)):=by
 unfold yo
 by_cases c:(a.length:Int)=(b.length:Int)
 ·have:=qjN hl (b:=b) (by omega) N 0 (by omega) (by omega)
  rw[show((0:Nat):Int)=0 from rfl,YR,YR]at this
  rw[decide_eq_true c,if_neg (by decide),this]
  by_cases e:a=b
  ·rw[if_pos e,decide_eq_true e];rfl
  rw[if_neg e,decide_eq_false e];rfl
 rw[decide_eq_false c,if_pos (by decide),decide_eq_false (fun e=>c (by rw[e]))]
theorem qhD {a b:List Int} (hl:a.length<=100000) (hab:a.length=b.length): ∀(K i:Nat),i<=a.length->a.length<K+i->zk a b K (i:Int)=some (if a.drop i=b.drop i then .inl ()else .inr false)
 |0,i,h,hK=>by omega
 |K+1,i,h,hK=>by
  unfold zk
  by_cases hi:i<a.length
  ·have hb:i<b.length:=by omega
   rw[if_pos (by omega),qz,Ya hi,qz,Ya hb,ZB,ZB,YG hi,YG hb]
   by_cases c:a[i]=b[i]
   ·rw[decide_eq_true c,if_neg (by decide),qP (by omega),qhD hl hab K (i+1) (by omega) (by omega),c]
    simp only[List.cons.injEq,true_and]
   rw[decide_eq_false c,if_pos (by decide),if_neg (fun h=>c (List.cons.inj h).1)]
  rw[if_neg (by omega),List.drop_eq_nil_of_le (by omega),List.drop_eq_nil_of_le (by omega),if_pos rfl]
theorem qj3 {N:Nat} {a b:List Int} (hl:a.length<=100000) (hN:a.length<N):vF N a b=some (decide (a=b)):=by
 unfold vF
 by_cases c:(a.length:Int)=(b.length:Int)
 ·have:=qhD hl (b:=b) (by omega) N 0 (by omega) (by omega)
  rw[show((0:Nat):Int)=0 from rfl,YR,YR]at this
  rw[decide_eq_true c,if_neg (by decide),this]
  by_cases e:a=b
  ·rw[if_pos e,decide_eq_true e];rfl
  rw[if_neg e,decide_eq_false e];rfl
 rw[decide_eq_false c,if_pos (by decide),decide_eq_false (fun e=>c (by rw[e]))]
end Go.Av
end
section
namespace Go.Av
theorem qk4 {a b:List Int} (hl:a.length<=100000) (hab:a.length=b.length): ∀(K i:Nat),i<=a.length->a.length<K+i->zC a b K (i:Int)=some (if a.drop i=b.drop i then .inl ()else .inr false)
 |0,i,h,hK=>by omega
 |K+1,i,h,hK=>by
  unfold zC
  by_cases hi:i<a.length
  ·have hb:i<b.length:=by omega
   rw[if_pos (by omega),qz,Ya hi,qz,Ya hb,ZB,ZB,YG hi,YG hb]
   by_cases c:a[i]=b[i]
   ·rw[decide_eq_true c,if_neg (by decide),qP (by omega),qk4 hl hab K (i+1) (by omega) (by omega),c]
    simp only[List.cons.injEq,true_and]
   rw[decide_eq_false c,if_pos (by decide),if_neg (fun h=>c (List.cons.inj h).1)]
  rw[if_neg (by omega),List.drop_eq_nil_of_le (by omega),List.drop_eq_nil_of_le (by omega),if_pos rfl]
theorem qmE {N:Nat} {a b:List Int} (hl:a.length<=100000) (hN:a.length<N):slices_Equal_int N a b=some (decide (a=b)):=by
 unfold slices_Equal_int
 by_cases c:(a.length:Int)=(b.length:Int)
 ·have:=qk4 hl (b:=b) (by omega) N 0 (by omega) (by omega)
  rw[show((0:Nat):Int)=0 from rfl,YR,YR]at this
  rw[decide_eq_true c,if_neg (by decide),this]
  by_cases e:a=b
  ·rw[if_pos e,decide_eq_true e];rfl
  rw[if_neg e,decide_eq_false e];rfl
 rw[decide_eq_false c,if_pos (by decide),decide_eq_false (fun e=>c (by rw[e]))]
inductive WdB (n:Nat):SB->List Int->Prop
 |nil {s:SB} (h: ∀q,q+1<n-> ¬s.Begs q):WdB n s []
 |cons {s:SB} {i:Nat} {W:List Int} (hi:i+1<n) (hb:s.Begs i) (hm: ∀q,q<i-> ¬s.Begs q) (h:WdB n (s.fr i) W):WdB n s (((i+1:Nat):Int)::W)
theorem qit {n:Nat} (s:SB):(∀q,q+1<n-> ¬s.Begs q)\/ ∃i,i+1<n/\s.Begs i/\ ∀q,q<i-> ¬s.Begs q:=by
 have go: ∀d i,i+d=n->(∀q,q<i-> ¬s.Begs q)->(∀q,q+1<n-> ¬s.Begs q)\/ ∃i,i+1<n/\s.Begs i/\ ∀q,q<i-> ¬s.Begs q:=by
  intro d
  induction d with
  |zero=>exact fun i hi h=> .inl fun q hq=>h q (by omega)
  |succ d ih=>
   intro i hi h
   by_cases c:i+1<n/\s.Begs i
   ·exact .inr ⟨i,c.1,c.2,h⟩
   by_cases e:i+1<n
   ·refine ih (i+1) (by omega) fun q hq=>?_
    by_cases g:q=i
    ·subst g;exact fun b=>c ⟨e,b⟩
    exact h q (by omega)
   exact .inl fun q hq=>h q (by omega)
 exact go n 0 (by omega) (fun q hq=>by omega)
theorem qnk {n:Nat}: ∀(M:Nat) (s:SB),s.inv n<=M-> ∃W,WdB n s W/\W.length<=M
 |M,s,hM=>by
  rcases qit (n:=n) s with h|⟨i,hi,hb,hm⟩
  ·exact⟨[],.nil h,Nat.zero_le _⟩
  have:=SB.inv_fr hi hb
  cases M with
  |zero=>omega
  |succ M=>
   obtain⟨W,h1,h2⟩:=qnk (n:=n) M (s.fr i) (by omega)
   exact⟨_,.cons hi hb hm h1,by simp;omega⟩
theorem qjh: ∀l:List Nat,qer l<=l.length*l.length
 |[]=>Nat.le_refl _
 |x::r=>by
  have h1:r.countP (fun y=>decide (y<x))<=r.length:=List.countP_le_length
  have h2:=qjh r
  simp only[qer,Yr,Nat.add_mul,Nat.mul_add,Nat.one_mul,Nat.mul_one]
  omega
theorem SB.inv_le (n:Nat) (s:SB):s.inv n<=n*n:=by
 have:=qjh (s.row n)
 rwa [Ui]at this
theorem qmM (x y:Int):cmp_Less_int x y=some (decide (x<y)):=by
 unfold cmp_Less_int cmp_isNaN_int
 simp
section
variable {n:Nat} (hn:n<=12) (n1:1<=n)
include hn n1
theorem qjB (s:SB): ∀(K i:Nat),i+1<=n->n<K+i->
 (∃j,i<=j/\j+1<n/\s.Begs j/\(∀q,i<=q->q<j-> ¬s.Begs q)/\kw (s.li n) K (i:Int)=some (j:Int))\/((∀q,i<=q->q+1<n-> ¬s.Begs q)/\kw (s.li n) K (i:Int)=some ((n-1:Nat):Int))
 |0,i,h,hK=>by omega
 |K+1,i,h,hK=>by
  unfold kw
  rw[Ug,qP (by omega)]
  by_cases hi:i+1<n
  ·rw[if_pos (by omega),qeb (by omega) s hi,ZB,ZB]
   by_cases a:s.f (i+1)<s.f i
   ·rw[decide_eq_true a,if_neg (by decide)]
    exact .inl ⟨i,Nat.le_refl _,hi,a,fun q h1 h2=>by omega,rfl⟩
   rw[decide_eq_false a,if_pos (by decide)]
   rcases qjB s K (i+1) (by omega) (by omega)with⟨j,h1,h2,h3,h4,h5⟩|⟨h1,h2⟩
   ·refine .inl ⟨j,by omega,h2,h3,fun q g1 g2=>?_,h5⟩
    by_cases e:q=i
    ·subst e;exact a
    exact h4 q (by omega) g2
   refine .inr ⟨fun q g1 g2=>?_,h2⟩
   by_cases e:q=i
   ·subst e;exact a
   exact h1 q (by omega) g2
  rw[if_neg (by omega),ZB,if_neg (by decide)]
  exact .inr ⟨fun q g1 g2=>by omega,by rw[show n-1=i by omega]⟩
theorem qjp {N:Nat} (hN:2000<N): ∀(W:List Int) {s:SB},WdB n s W-> ∀(K:Nat) (out:List Int),W.length<K->out.length+W.length<=100000->zn N K out (s.li n)=some (out++W)
 |W,s,h,0,out,hK,hb=>by omega
 |W,s,h,K+1,out,hK,hb=>by
  unfold zn
  have l1:=qjB hn n1 s N 0 (by omega) (by omega)
  rw[show((0:Nat):Int)=0 from rfl]at l1
  cases h with
  |nil h=>
   rcases l1 with⟨j,_,h2,h3,_⟩|⟨_,h2⟩
   ·exact absurd h3 (h j h2)
   rw[h2,ZB,qP (by omega),Ug,if_pos (by omega),List.append_nil]
  |@cons _ i W hi hb' hm h=>
   rcases l1 with⟨j,_,h2,h3,h4,h5⟩|⟨h1,_⟩
   ·have e:j=i:=by
     rcases Nat.lt_trichotomy j i with c|c|c
     ·exact absurd h3 (hm j c)
     ·exact c
     exact absurd hb' (h4 i (by omega) c)
    subst e
    simp only[Yr]at hK hb
    rw[h5,ZB,qP (by omega),Ug,if_neg (by omega),qbN (by omega) s hi,ZB,qar (by simp only[Yr,List.length_nil];omega) (by simp only[Yr,List.length_nil];omega),ZB,
     qjp hN W h K _ (by omega) (by simp;omega)]
    simp
   exact absurd hb' (h1 i (Nat.zero_le _) hi)
theorem qmG {N:Nat} (hN:2000<N) {s:SB} {W:List Int} (h:WdB n s W) (hl:W.length<=1000):vO N (s.li n)=some W:=by
 unfold vO
 have hc:qcs (s.li n)=some ():=by
  unfold qcs
  rw[Ug,if_pos (by omega)]
 rw[hc,ZB,qjp hn n1 hN W h N [] (by omega) (by simp;omega),ZB,List.nil_append]
theorem qhK (s:SB): ∀(K i:Nat),i<n->i<K->(∀q,i<=q->q+1<n-> ¬s.Begs q)-> ∃r,ky (s.li n) K (i:Int)=some r/\((r= .inl ()/\ ∀q,q+1<n-> ¬s.Begs q)\/(r= .inr false/\ ∃q,q+1<n/\s.Begs q))
 |0,i,h,hK,hd=>by omega
 |K+1,i,h,hK,hd=>by
  unfold ky
  cases i with
  |zero=>
   rw[if_neg (by omega)]
   exact⟨_,rfl,.inl ⟨rfl,fun q hq=>hd q (Nat.zero_le _) hq⟩⟩
  |succ i=>
   have e:w64 (((i+1:Nat):Int)-1)=(i:Int):=by rw[qK (by omega) (by omega)];omega
   rw[if_pos (by omega),e,Uo h,Uo (by omega)]
   simp only[ZB,qmM]
   by_cases a:s.f (i+1)<s.f i
   ·rw[decide_eq_true (show((s.f (i+1):Nat):Int)<(s.f i:Int)by omega),if_pos rfl]
    exact⟨_,rfl,.inr ⟨rfl,i,h,a⟩⟩
   rw[decide_eq_false (show¬((s.f (i+1):Nat):Int)<(s.f i:Int)by omega),if_neg (by decide)]
   refine qhK s K i (by omega) (by omega) fun q h1 h2=>?_
   by_cases c:q=i
   ·subst c;exact a
   exact hd q (by omega) h2
theorem qly {N:Nat} (hN:2000<N) (s:SB): ∃b,vz N (s.li n)=some b/\(b=true↔ ∀q,q+1<n-> ¬s.Begs q):=by
 unfold vz slices_IsSorted_int
 have e:w64 ((((s.li n).length:Nat):Int)-1)=((n-1:Nat):Int):=by rw[Ug,qK (by omega) (by omega)];omega
 obtain⟨r,r1,r2⟩:=qhK hn n1 s N (n-1) (by omega) (by omega) (fun q h1 h2=>by omega)
 rw[e,r1]
 rcases r2 with⟨rfl,r3⟩|⟨rfl,q,q1,q2⟩
 ·exact⟨true,rfl,fun _=>r3,fun _=>rfl⟩
 exact⟨false,rfl,fun h=>(by cases h),fun h=>absurd q2 (h q q1)⟩
theorem qiT {s:SB} (hs:s.Ok n):(∀q,q+1<n-> ¬s.Begs q)↔s.li n=qa3 n:=by
 constructor
 ·intro h
  have lo: ∀k,k<n->k<=s.f k:=by
   intro k
   induction k with
   |zero=>exact fun _=>Nat.zero_le _
   |succ k ih=>
    intro hk
    have h1:=ih (by omega)
    have h2:=h k hk
    have h3:s.f k≠s.f (k+1):=fun c=>by have:=s.finj c;omega
    have h4: ¬s.f (k+1)<s.f k:=h2
    omega
  have hi: ∀d,d<n->s.f (n-1-d)<=n-1-d:=by
   intro d
   induction d with
   |zero=>
    intro hd
    have:=hs.f_ (n-1-0) (by omega)
    omega
   |succ d ih=>
    intro hd
    have h1:=ih (by omega)
    have h2: ¬s.f (n-1-(d+1)+1)<s.f (n-1-(d+1)):=h (n-1-(d+1)) (by omega)
    have h3:s.f (n-1-(d+1))≠s.f (n-1-(d+1)+1):=fun c=>by have:=s.finj c;omega
    have e:n-1-(d+1)+1=n-1-d:=by omega
    rw[e]at h2 h3
    omega
  refine(Uz (qaq n) fun k hk=>?_).symm
  rw[qed hk]
  have h1:=lo k hk
  have h2:=hi (n-1-k) (by omega)
  rw[show n-1-(n-1-k)=k by omega]at h2
  congr 1
  omega
 intro h q hq hb
 have e: ∀k,k<n->s.f k=k:=fun k hk=>SB.li_inj (t:=Ue) h hk
 have hb:s.f (q+1)<s.f q:=hb
 rw[e _ hq,e _ (by omega)]at hb
 omega
end
end Go.Av
end
section
namespace Go.Av
def jL (n m:Nat) (L:Nat->SB):List (List Int):=(List.range m).map fun q=>(L q).li n
theorem qO (n m:Nat) (L:Nat->SB):(jL n m L).length=m:=by simp[jL]
theorem jP {n m q:Nat} {L:Nat->SB} (h:q<m):(jL n m L)[q]? =some ((L q).li n):=by simp[jL,List.getElem?_range h]
theorem qhA {n m:Nat} {L:Nat->SB} {R:List (List Int)} (hl:R.length=m) (h: ∀q,q<m->R[q]? =some ((L q).li n)):R=jL n m L:=by
 apply List.ext_getElem?
 intro q
 by_cases hq:q<m
 ·rw[h q hq,jP hq]
 rw[Yg (by omega),Yg (by rw[qO];omega)]
theorem qka {n m k i:Nat} {L:Nat->SB} (hk:k+1<m):((jL n m L).set k (((L k).bk i).li n)).set (k+1) (((L (k+1)).fr i).li n)=jL n m (psh L k i):=by
 refine qhA (by simp[qO]) fun q hq=>?_
 by_cases a:q=k+1
 ·subst a
  rw[List.getElem?_set_self (by simp[qO];omega),zz]
 by_cases b:q=k
 ·subst b
  rw[Yw (by omega),List.getElem?_set_self (by rw[qO];omega),jR]
 rw[Yw (by omega),Yw (by omega),jP hq,zx L b a]
def OkM (n m:Nat) (L:Nat->SB):Prop:= ∀q,q<m->(L q).Ok n
theorem OkM.psh {n m k i:Nat} {L:Nat->SB} (h:OkM n m L) (hk:k+1<m) (hi:i+1<n):OkM n m (psh L k i):=fun q hq=>by
 by_cases a:q=k
 ·subst a;rw[jR];exact(h q hq).bk hi
 by_cases b:q=k+1
 ·subst b;rw[zz];exact(h (k+1) hq).fr hi
 rw[zx L a b];exact h q hq
theorem qma {n:Nat} {L:Nat->SB}: ∀m,mu5 n L m<=m*(m*(n*n))
 |0=>Nat.zero_le _
 |m+1=>by
  have h1:=qma (n:=n) (L:=L) m
  have h2:=Nat.mul_le_mul_left m ((L m).inv_le n)
  simp only[mu5,Nat.add_mul,Nat.mul_add,Nat.one_mul]at*
  omega
section
variable {n m:Nat} (hn:n<=12) (n1:1<=n) (hm:m<=300) {N:Nat} (hN:2000<N)
include hn n1 hm hN
theorem qnh {L:Nat->SB} (hL:OkM n m L) {k:Nat} (hk:k+1<m):
 (∃i,yX n m L k i/\vg N (k:Int) (jL n m L)=some (jL n m (psh L k i),true))\/((∀i,¬yX n m L k i)/\vg N (k:Int) (jL n m L)=some (jL n m L,false)):=by
 unfold vg
 rw[qz,jP (by omega),ZB,qP (by omega),qz,jP hk,ZB]
 rcases qi1 (n:=n) (by omega) hN n1 (t:=L (k+1)) (hL k (by omega))with⟨j,j1,j2,j3,j4⟩|⟨j1,j2⟩
 ·left
  refine⟨j,⟨hk,j1,j2,j3⟩,?_⟩
  rw[j4,ZB]
  simp only[if_true]
  rw[qgb (by omega) hN (hL k (by omega)) j1,ZB,qbN (by omega) _ j1,ZB,yT (by rw[qO];omega),ZB,qz,Yw (by omega),jP hk,ZB,yT (by simp[qO];omega),ZB,ZB,qka hk]
 right
 refine⟨fun i c=>c.e_ (j1 i c.i_ c.b_),?_⟩
 rw[j2,ZB]
 rfl
theorem qjK {k:Nat} (hk:k+1<m): ∀(K:Nat) (L:Nat->SB) (b:Bool),OkM n m L->mu5 n L m<K->
 ∃(L':Nat->SB) (b':Bool),jB N (k:Int) K (jL n m L) b=some (jL n m L',b')/\Pst n m L L'/\OkM n m L'/\(∀i,¬yX n m L' k i)/\(∀q,q≠k->q≠k+1->L' q=L q)/\((b'=b/\L'=L)\/(b'=true/\mu5 n L' m<mu5 n L m))
 |0,L,b,hL,h=>by omega
 |K+1,L,b,hL,h=>by
  unfold jB
  rcases qnh hn n1 hm hN hL hk with⟨i,c,e⟩|⟨c,e⟩
  ·have hmu:=qdK c
   obtain⟨L',b',h1,h2,h3,h4,h5,h6⟩:=qjK hk K (psh L k i) true (hL.psh hk c.i_) (by omega)
   rw[e,ZB]
   simp only[qO,if_true,ZB]
   refine⟨L',b',h1,.head (.mk c) h2,h3,h4,fun q q1 q2=>by rw[h5 q q1 q2,zx L q1 q2],?_⟩
   rcases h6 with⟨g1,g2⟩|⟨g1,g2⟩
   ·subst g1 g2;exact .inr ⟨rfl,hmu⟩
   exact .inr ⟨g1,by omega⟩
  rw[e,ZB]
  simp only[qO,if_true,ZB,ZF,if_false]
  exact⟨L,b,rfl,.refl,hL,c,fun q _ _=>rfl,.inl ⟨rfl,rfl⟩⟩
theorem qgG (hmu: ∀L:Nat->SB,mu5 n L m<N): ∀(K k:Nat) (L:Nat->SB),OkM n m L->k<=m->2*mu5 n L m+(m-k)<K->(∀j,j<k-> ∀i,¬yX n m L j i)->
 ∃A,jD N K (jL n m L) (k:Int)=some (jL n m A)/\Pst n m L A/\Nf n m A/\OkM n m A
 |0,k,L,hL,hk,h,ht=>by omega
 |K+1,k,L,hL,hk,h,ht=>by
  unfold jD
  rw[qO,qP (by omega)]
  by_cases c:k+1<m
  ·obtain⟨L',b',h1,h2,h3,h4,h5,h6⟩:=qjK hn n1 hm hN c N L false hL (hmu L)
   rw[if_pos (by omega),h1]
   simp only[ZB]
   have tight: ∀j,j+1<k-> ∀i,¬yX n m L' j i:=fun j hj i d=>ht j (by omega) i ⟨d.k_,d.i_,by have:=d.b_;rwa [h5 (j+1) (by omega) (by omega)]at this,by have:=d.e_;rwa [h5 j (by omega) (by omega)]at this⟩
   by_cases d:b'=true/\0<k
   ·obtain⟨d1,d2⟩:=d
    subst d1
    rcases h6 with⟨g1,_⟩|⟨_,g2⟩
    ·cases g1
    rw[if_pos rfl,decide_eq_true (show(k:Int)>0 by omega)]
    simp only[ZB,if_true]
    rw[show w64 ((k:Int)-1)=((k-1:Nat):Int)from qn9 (by omega) d2]
    obtain⟨A,a1,a2,a3,a4⟩:=qgG hmu K (k-1) L' h3 (by omega) (by omega) (fun j hj=>tight j (by omega))
    exact⟨A,a1,h2.trans a2,a3,a4⟩
   have e:(if b'=true then some (decide ((k:Int)>0))else some false:Option Bool)=some false:=by
    cases b' with
    |false=>rfl
    |true=>rw[if_pos rfl,decide_eq_false (by have: ¬0<k:=fun g=>d ⟨rfl,g⟩;omega)]
   rw[e]
   simp only[ZB,ZF,if_false]
   have hmu2:mu5 n L' m<=mu5 n L m:=by
    rcases h6 with⟨_,g2⟩|⟨_,g2⟩
    ·rw[g2];exact Nat.le_refl _
    omega
   obtain⟨A,a1,a2,a3,a4⟩:=qgG hmu K (k+1) L' h3 (by omega) (by omega) (fun j hj i g=>by
    by_cases f:j=k
    ·subst f;exact h4 i g
    rcases h6 with⟨_,g2⟩|⟨g1,_⟩
    ·rw[g2]at g;exact ht j (by omega) i g
    exact d ⟨g1,by omega⟩)
   exact⟨A,a1,h2.trans a2,a3,a4⟩
  rw[if_neg (by omega)]
  exact⟨L,rfl,.refl,fun j i g=>by have:=g.k_;exact ht j (by omega) i g,hL⟩
end
end Go.Av
end
section
namespace Go.Av
def qbk (i:Nat) (p:List Nat):List Nat:=p.map (tr5 i)
def qfr:Nat->List Nat->List Nat
 |0,a::b::l=>b::a::l
 |i+1,a::l=>a::qfr i l
 |_,l=>l
def qiF:List Nat->Nat->Nat
 |[],_=>0
 |a::_,0=>a
 |_::l,k+1=>qiF l k
def qix (v:Nat):List Nat->Nat
 |[]=>0
 |a::l=>bif Nat.beq a v then 0 else qix v l+1
def qhV (i:Nat) (p:List Nat):Bool:=Nat.blt (qiF p (i+1)) (qiF p i)
def qhq (i:Nat) (p:List Nat):Bool:=Nat.blt (qix (i+1) p) (qix i p)
def qhJ (s t:List Nat):Nat->Option Nat
 |0=>none
 |i+1=>bif qhV i t&&!qhq i s then some i else qhJ s t i
def qdR (n:Nat):Nat->List Nat->List Nat->List Nat×List Nat
 |0,s,t=>(s,t)
 |K+1,s,t=>match qhJ s t (n-1)with
  |none=>(s,t)
  |some i=>qdR n K (qbk i s) (qfr i t)
def qgm (n:Nat):List Nat->List (List Nat)->List (List Nat)
 |x,[]=>[x]
 |x,s::r=>match qdR n (n*n) s x with
  |(s',x')=>x'::qgm n s' r
theorem qjg: ∀(l:List Nat) (k:Nat),qiF l k=l.getD k 0
 |[],k=>by simp[qiF]
 |a::l,0=>rfl
 |a::l,k+1=>by rw[qiF,qjg l k];rfl
theorem qi7: ∀(i:Nat) (l:List Nat) (k:Nat),i+1<l.length->(qfr i l)[k]? =l[tr5 i k]?
 |0,[],k,h=>by simp at h
 |0,[a],k,h=>by simp at h
 |0,a::b::l,0,h=>by simp[qfr,tr5]
 |0,a::b::l,1,h=>by simp[qfr,tr5]
 |0,a::b::l,k+2,h=>by simp[qfr,tr5]
 |i+1,[],k,h=>by simp at h
 |i+1,a::l,0,h=>by simp[qfr,tr5]
 |i+1,a::l,k+1,h=>by
  rw[qfr,YK,qi7 i l k (by simp at h;omega)]
  rcases vo i k with⟨c,e⟩|⟨c,e⟩|⟨c,c',e⟩<;>rw[e]
  ·subst c;rw[qaH,YK]
  ·subst c;rw[qaA,YK]
  rw[jY (by omega) (by omega),YK]
theorem qgY (n i:Nat) (s:SB):(s.bk i).row n=qbk i (s.row n):=by
 unfold SB.row qbk
 rw[List.map_map]
 rfl
theorem qgH {n i:Nat} (hi:i+1<n) (s:SB):(s.fr i).row n=qfr i (s.row n):=by
 apply List.ext_getElem?
 intro k
 rw[qi7 i _ k (by rw[Ui];exact hi)]
 by_cases hk:k<n
 ·rw[Uh _ hk,Uh _ (qfo hi hk)]
  rfl
 rw[jY (by omega) (by omega),Yg (by rw[Ui];omega),Yg (by rw[Ui];omega)]
theorem qhW {n k:Nat} (s:SB) (h:k<n):qiF (s.row n) k=s.f k:=by
 rw[qjg,Yy,Uh s h]
 rfl
theorem qjn: ∀(l:List Nat) (k v:Nat),l[k]? =some v->(∀j,j<k->l[j]? ≠some v)->qix v l=k
 |[],k,v,h,hj=>by simp at h
 |a::l,0,v,h,hj=>by
  simp at h
  subst h
  simp[qix]
 |a::l,k+1,v,h,hj=>by
  have:=hj 0 (by omega)
  have ne:a≠v:=fun e=>this (by simp[e])
  have hb:Nat.beq a v=false:=by
   cases c:Nat.beq a v with
   |false=>rfl
   |true=>exact absurd (Nat.eq_of_beq_eq_true c) ne
  rw[qix,hb,cond_false,qjn l k v (by simpa using h) (fun j hjk=>by have:=hj (j+1) (by omega);simpa using this)]
theorem qhS {n v:Nat} {s:SB} (hs:s.Ok n) (h:v<n):qix v (s.row n)=s.g v:=by
 refine qjn _ _ _ (by rw[Uh s (hs.g_ v h),s.fg]) (fun j hj=>?_)
 rw[Uh s (by have:=hs.g_ v h;omega)]
 intro e
 have:=Ye e
 have e2:j=s.g v:=by rw[<-this,s.gf]
 omega
theorem qkb {n i:Nat} (hi:i+1<n) (s:SB):qhV i (s.row n)=true↔s.Begs i:=by
 unfold qhV SB.Begs
 rw[qhW s hi,qhW s (by omega)]
 simp[Nat.blt_eq]
theorem qkC {n i:Nat} (hi:i+1<n) {s:SB} (hs:s.Ok n):qhq i (s.row n)=true↔s.Ends i:=by
 unfold qhq SB.Ends
 rw[qhS hs hi,qhS hs (by omega)]
 simp[Nat.blt_eq]
theorem qfm {s t:List Nat}: ∀{j i:Nat},qhJ s t j=some i->i<j/\qhV i t=true/\qhq i s=false
 |0,i,h=>by cases h
 |j+1,i,h=>by
  unfold qhJ at h
  cases c:(qhV j t&&!qhq j s)with
  |false=>
   rw[c,cond_false]at h
   have:=qfm h
   exact⟨by omega,this.2⟩
  |true=>
   rw[c,cond_true]at h
   have:=Ye h
   subst this
   simp only[Bool.and_eq_true,Bool.not_eq_true']at c
   exact⟨by omega,c⟩
theorem qe0 {n m k:Nat} (hk:k+1<m): ∀(K:Nat) (L:Nat->SB),OkM n m L-> ∃A,Pst n m L A/\qdR n K ((L k).row n) ((L (k+1)).row n)=((A k).row n,(A (k+1)).row n)/\(∀q,q≠k->q≠k+1->A q=L q)/\OkM n m A
 |0,L,hL=>⟨L,.refl,rfl,fun _ _ _=>rfl,hL⟩
 |K+1,L,hL=>by
  unfold qdR
  cases c:qhJ ((L k).row n) ((L (k+1)).row n) (n-1)with
  |none=>exact⟨L,.refl,rfl,fun _ _ _=>rfl,hL⟩
  |some i=>
   obtain⟨h1,h2,h3⟩:=qfm c
   have hi:i+1<n:=by omega
   have can:yX n m L k i:=⟨hk,hi,(qkb hi _).1 h2,fun e=>by
    have:=(qkC hi (hL k (by omega))).2 e
    rw[h3]at this
    cases this⟩
   obtain⟨A,a1,a2,a3,a4⟩:=qe0 hk K (psh L k i) (hL.psh hk hi)
   refine⟨A,.head (.mk can) a1,?_,fun q q1 q2=>by rw[a3 q q1 q2,zx L q1 q2],a4⟩
   dsimp only
   rw[jR,zz,qgY,qgH hi]at a2
   exact a2
def xU (n:Nat) (L:Nat->SB):Nat->List (List Nat)
 |0=>[]
 |k+1=>(L k).row n::xU n L k
theorem qfG {n:Nat} {L A:Nat->SB}: ∀{k:Nat},(∀q,q<k->A q=L q)->xU n A k=xU n L k
 |0,h=>rfl
 |k+1,h=>by rw[xU,xU,h k (by omega),qfG fun q hq=>h q (by omega)]
theorem qib {n m:Nat}: ∀(k:Nat) (L:Nat->SB),k<m->OkM n m L-> ∃A,Pst n m L A/\qgm n ((L k).row n) (xU n L k)=xU n A (k+1)/\(∀q,k<q->A q=L q)/\OkM n m A
 |0,L,hk,hL=>⟨L,.refl,rfl,fun _ _=>rfl,hL⟩
 |k+1,L,hk,hL=>by
  obtain⟨B,b1,b2,b3,b4⟩:=qe0 (n:=n) (m:=m) (k:=k) hk (n*n) L hL
  obtain⟨A,a1,a2,a3,a4⟩:=qib k B (by omega) b4
  refine⟨A,b1.trans a1,?_,fun q hq=>by rw[a3 q (by omega),b3 q (by omega) (by omega)],a4⟩
  rw[xU,qgm,b2]
  dsimp only
  rw[qfG (A:=L) (L:=B) fun q hq=>(b3 q (by omega) (by omega)).symm,a2,<-a3 (k+1) (by omega)]
  rfl
end Go.Av
end
section
namespace Go.Av
theorem yX.up {n m k i:Nat} {L:Nat->SB} (h:yX n m L k i):yX n (m+1) L k i:=⟨by have:=h.k_;omega,h.i_,h.b_,h.e_⟩
theorem Pst.up {n m:Nat} {L A:Nat->SB} (h:Pst n m L A):Pst n (m+1) L A:=by
 induction h with
 |refl=>exact .refl
 |head h _ ih=>cases h with|mk h=>exact .head (.mk h.up) ih
def qeZ (L:Nat->SB) (m:Nat) (s:SB):Nat->SB:=fun q=>if q=m then s else L q
theorem qeO (L:Nat->SB) (m:Nat) (s:SB):qeZ L m s m=s:=if_pos rfl
theorem qcn {L:Nat->SB} {m q:Nat} {s:SB} (h:q≠m):qeZ L m s q=L q:=if_neg h
theorem qmh {L:Nat->SB} {m k i:Nat} {s:SB} (h:k+1<m):psh (qeZ L m s) k i=qeZ (psh L k i) m s:=by
 funext q
 by_cases a:q=m
 ·subst a
  rw[qeO,zx _ (by omega) (by omega),qeO]
 rw[qcn a]
 by_cases b:q=k
 ·subst b;rw[jR,jR,qcn a]
 by_cases c:q=k+1
 ·subst c;rw[zz,zz,qcn a]
 rw[zx _ b c,zx _ b c,qcn a]
theorem Pst.upd {n m:Nat} {L A:Nat->SB} (h:Pst n m L A) (s:SB):Pst n m (qeZ L m s) (qeZ A m s):=by
 induction h with
 |refl=>exact .refl
 |head h _ ih=>
  cases h with
  |@mk k i h=>
   have hk:=h.k_
   refine .head (L1:=qeZ (psh _ k i) m s) ?_ ih
   rw[<-qmh hk]
   refine .mk ⟨hk,h.i_,?_,?_⟩
   ·rw[qcn (by omega)];exact h.b_
   rw[qcn (by omega)];exact h.e_
theorem Pst.beyond {n m:Nat} {L A:Nat->SB} (h:Pst n m L A): ∀q,m<=q->A q=L q:=by
 induction h with
 |refl=>exact fun _ _=>rfl
 |head h _ ih=>
  cases h with
  |mk h=>
   intro q hq
   have:=h.k_
   rw[ih q hq,zx _ (by omega) (by omega)]
theorem yN {n k:Nat} (h:k<n):rv5 n k=n-1-k:=if_pos h
theorem qlD {n i:Nat} (hi:i+1<n) (k:Nat):rv5 n (tr5 i k)=tr5 (n-2-i) (rv5 n k):=by
 by_cases hk:k<n
 ·have e:=yN hk
  rcases vo i k with⟨a,b⟩|⟨a,b⟩|⟨a,a',b⟩<;>rw[b]
  ·subst a
   rw[e,yN (by omega),show n-1-k=n-2-k+1 by omega,qaA]
   omega
  ·subst a
   rw[e,yN (by omega),show n-1-(i+1)=n-2-i by omega,qaH]
   omega
  rw[e,jY (by omega) (by omega)]
 rw[jY (by omega) (by omega)]
 have:rv5 n k=k:=if_neg hk
 rw[this,jY (by omega) (by omega)]
theorem qjr {n i:Nat} (hi:i+1<n) (s:SB):(s.bk i).flip n=(s.flip n).bk (n-2-i):=SB.ext fun k=>by
 show rv5 n (tr5 i (s.f (rv5 n k)))=tr5 (n-2-i) (rv5 n (s.f (rv5 n k)))
 exact qlD hi _
theorem qjP {n i:Nat} (hi:i+1<n) (s:SB):(s.fr i).flip n=(s.flip n).fr (n-2-i):=SB.ext fun k=>by
 show rv5 n (s.f (tr5 i (rv5 n k)))=rv5 n (s.f (rv5 n (tr5 (n-2-i) k)))
 have:=qlD (n:=n) (i:=n-2-i) (by omega) k
 rw[show n-2-(n-2-i)=i by omega]at this
 rw[this]
theorem qky {n i:Nat} (hi:i+1<n) {s:SB} (hs:s.Ok n) (h:s.Begs i):(s.flip n).Begs (n-2-i):=by
 unfold SB.Begs at*
 show rv5 n (s.f (rv5 n (n-2-i+1)))<rv5 n (s.f (rv5 n (n-2-i)))
 have h1:=hs.f_ i (by omega)
 have h2:=hs.f_ (i+1) hi
 rw[yN (k:=n-2-i+1) (by omega),yN (k:=n-2-i) (by omega),show n-1-(n-2-i+1)=i by omega,show n-1-(n-2-i)=i+1 by omega,yN h1,yN h2]
 omega
theorem qj6 {n i:Nat} (hi:i+1<n) {s:SB} (hs:s.Ok n) (h: ¬s.Ends i): ¬(s.flip n).Ends (n-2-i):=by
 have h:=SB.nEnds h
 unfold SB.Ends
 show¬rv5 n (s.g (rv5 n (n-2-i+1)))<rv5 n (s.g (rv5 n (n-2-i)))
 have h1:=hs.g_ i (by omega)
 have h2:=hs.g_ (i+1) hi
 rw[yN (k:=n-2-i+1) (by omega),yN (k:=n-2-i) (by omega),show n-1-(n-2-i+1)=i by omega,show n-1-(n-2-i)=i+1 by omega,yN h1,yN h2]
 omega
def qbI (n:Nat) (L:Nat->SB):Nat->SB:=fun q=>(L q).flip n
theorem qkp {n k i:Nat} (hi:i+1<n) (L:Nat->SB):psh (qbI n L) k (n-2-i)=qbI n (psh L k i):=by
 funext q
 by_cases b:q=k
 ·subst b;rw[jR];unfold qbI;rw[jR,qjr hi]
 by_cases c:q=k+1
 ·subst c;rw[zz];unfold qbI;rw[zz,qjP hi]
 rw[zx _ b c];unfold qbI;rw[zx _ b c]
theorem OkM.flip {n m:Nat} {L:Nat->SB} (h:OkM n m L):OkM n m (qbI n L):=fun q hq=>(h q hq).flip
theorem Pst.flip {n m:Nat} {L A:Nat->SB} (h:Pst n m L A) (hL:OkM n m L):Pst n m (qbI n L) (qbI n A)/\OkM n m A:=by
 induction h with
 |refl=>exact⟨.refl,hL⟩
 |head h _ ih=>
  cases h with
  |@mk k i h=>
   have hk:=h.k_
   have hi:=h.i_
   obtain⟨a,b⟩:=ih (hL.psh hk hi)
   refine⟨.head (L1:=qbI n (psh _ k i)) ?_ a,b⟩
   rw[<-qkp hi]
   exact .mk ⟨hk,by omega,qky hi (hL _ hk) h.b_,qj6 hi (hL _ (by omega)) h.e_⟩
def qgf (n:Nat) (p:List Nat):List Nat:=p.reverse.map fun k=>n-1-k
def qb9 (n:Nat):List Nat:=(List.range n).reverse
theorem qcD (n:Nat):(Ud n).row n=qb9 n:=by
 apply List.ext_getElem?
 intro k
 unfold qb9
 by_cases hk:k<n
 ·rw[Uh _ hk,List.getElem?_reverse (by simpa using hk)]
  simp only[List.length_range]
  rw[List.getElem?_range (by omega)]
  show some (rv5 n k)=_
  rw[yN hk]
 rw[Yg (by rw[Ui];omega),Yg (by simp;omega)]
theorem qfl (n:Nat):Ue.row n=List.range n:=by
 unfold SB.row
 exact List.map_id' _
theorem qha {n:Nat} {s:SB} (hs:s.Ok n):(s.flip n).row n=qgf n (s.row n):=by
 apply List.ext_getElem?
 intro k
 unfold qgf
 by_cases hk:k<n
 ·rw[Uh _ hk,YA,List.getElem?_reverse (by rw[Ui];exact hk),Ui,Uh _ (by omega)]
  show some (rv5 n (s.f (rv5 n k)))=_
  rw[yN hk,yN (hs.f_ _ (by omega))]
  rfl
 rw[Yg (by rw[Ui];omega),Yg (by simp[Ui];omega)]
theorem qe1 {n m:Nat} {L:Nat->SB} (hL:OkM n m L): ∀{k:Nat},k<=m->xU n (qbI n L) k=(xU n L k).map (qgf n)
 |0,h=>rfl
 |k+1,h=>by
  rw[xU,xU,List.map_cons,qe1 hL (k:=k) (by omega),<-qha (hL k (by omega))]
  rfl
def vD (l:List SB):Nat->SB:=fun q=>l.getD q Ue
def qbi (n:Nat) (l:List SB) (c:Int):List SB:=if 0<c then l++[Ue.fr (c.natAbs-1)]else l.map (SB.flip n)++[(Ud n).bk (c.natAbs-1)]
theorem qk3 (l:List SB) (s:SB):vD (l++[s])=qeZ (vD l) l.length s:=by
 funext q
 show(l++[s]).getD q Ue=if q=l.length then s else l.getD q Ue
 rw[Yy,Yy]
 by_cases h:q=l.length
 ·subst h;simp
 rw[if_neg h]
 by_cases h2:q<l.length
 ·rw[Yf h2]
 rw[Yg (by simp;omega),Yg (by omega)]
theorem qev (n:Nat) (l:List SB):vD (l.map (SB.flip n))=qbI n (vD l):=by
 funext q
 show(l.map (SB.flip n)).getD q Ue=(l.getD q Ue).flip n
 rw[Yy,Yy,YA]
 cases l[q]? with
 |some s=>rfl
 |none=>
  refine SB.ext fun k=>?_
  show k=rv5 n (rv5 n k)
  rw[qad]
def qjw (n:Nat) (R:List (List Nat)) (c:Int):List (List Nat):=
 if 0<c then qgm n (qfr (c.natAbs-1) (List.range n)) R else qgm n (qbk (c.natAbs-1) (qb9 n)) (R.map (qgf n))
structure QOK (n:Nat) (l:List SB) (R:List (List Nat)):Prop where
 ok: ∀s∈l,s.Ok n
 ex: ∃A,Pst n l.length (vD l) A/\OkM n l.length A/\R=xU n A l.length
theorem qbV {n:Nat} {l:List SB} (h: ∀s∈l,s.Ok n):OkM n l.length (vD l):=fun q hq=>by
 unfold vD
 rw[Yy,Ya hq]
 exact h _ (List.getElem_mem hq)
theorem QOK.step {n:Nat} {l:List SB} {R:List (List Nat)} (h:QOK n l R) {c:Int} (hc:c≠0/\ -(n:Int)<c/\c<n):QOK n (qbi n l c) (qjw n R c)/\(qbi n l c).length=l.length+1:=by
 obtain⟨i,hi⟩: ∃i,c.natAbs=i+1:=⟨c.natAbs-1,by omega⟩
 have hin:i+1<n:=by omega
 obtain⟨A,a1,a2,rfl⟩:=h.ex
 have key: ∀{l':List SB} {B:Nat->SB} {s:SB},l'.length=l.length->(∀t∈l',t.Ok n)->s.Ok n->Pst n l.length (vD l') B->OkM n l.length B->QOK n (l'++[s]) (qgm n (s.row n) (xU n B l.length)):=fun {l' B s} hl hk hs p ok=>by
  refine⟨fun t ht=>(List.mem_append.1 ht).elim (hk t) (fun e=>by rw[List.mem_singleton.1 e];exact hs),?_⟩
  have ok':OkM n (l.length+1) (qeZ B l.length s):=fun q hq=>by
   by_cases e:q=l.length
   ·subst e;rw[qeO];exact hs
   rw[qcn e];exact ok q (by omega)
  obtain⟨D,d1,d2,d3,d4⟩:=qib (n:=n) (m:=l.length+1) l.length (qeZ B l.length s) (by omega) ok'
  rw[qeO,qfG (A:=qeZ B l.length s) (L:=B) fun q hq=>qcn (by omega)]at d2
  rw[qk3,Yq,hl]
  refine⟨D,?_,d4,d2⟩
  have:=(p.upd s).up
  exact this.trans d1
 unfold qbi qjw
 rw[hi,Nat.add_sub_cancel]
 by_cases hp:0<c
 ·rw[if_pos hp,if_pos hp]
  refine⟨?_,by simp⟩
  have:=key (s:=Ue.fr i) rfl h.ok ((Uk n).fr hin) a1 a2
  rwa [qgH hin,qfl]at this
 rw[if_neg hp,if_neg hp]
 refine⟨?_,by simp⟩
 obtain⟨f1,f2⟩:=a1.flip (qbV h.ok)
 have:=key (l':=l.map (SB.flip n)) (B:=qbI n A) (s:=(Ud n).bk i) (by simp) (fun t ht=>by
  obtain⟨u,hu,rfl⟩:=List.mem_map.1 ht
  exact(h.ok u hu).flip) ((Uj n).bk hin) (by rw[qev];exact f1) a2.flip
 rwa [qgY,qcD,qe1 a2 (Nat.le_refl _)]at this
end Go.Av
end
section
namespace Go.Av
def jnL (a:Nat) (P L:Nat->SB):Nat->SB:=fun q=>if q<a then P q else L (q-a)
theorem xy {a q:Nat} {P L:Nat->SB} (h:q<a):jnL a P L q=P q:=if_pos h
theorem qai {a k:Nat} {P L:Nat->SB}:jnL a P L (a+k)=L k:=by
 unfold jnL
 rw[if_neg (by omega),Nat.add_sub_cancel_left]
theorem qcz (p l:List SB):vD (p++l)=jnL p.length (vD p) (vD l):=by
 funext q
 unfold jnL vD
 by_cases h:q<p.length
 ·rw[if_pos h,Yy,Yf h,Yy]
 rw[if_neg h,Yy,Yo (by omega),Yy]
theorem qms {a k i:Nat} {P L:Nat->SB}:psh (jnL a P L) (a+k) i=jnL a P (psh L k i):=by
 funext q
 by_cases h:q<a
 ·rw[zx _ (by omega) (by omega),xy h,xy h]
 obtain⟨j,rfl⟩: ∃j,q=a+j:=⟨q-a,by omega⟩
 rw[qai]
 by_cases h1:j=k
 ·subst h1;rw[jR,jR,qai]
 by_cases h2:j=k+1
 ·subst h2;rw[show a+(k+1)=a+k+1 by omega,zz,zz,show a+k+1=a+(k+1)by omega,qai]
 rw[zx _ (by omega) (by omega),zx _ h1 h2,qai]
theorem qkO {a k i:Nat} {P L:Nat->SB} (hk:k+1<a):psh (jnL a P L) k i=jnL a (psh P k i) L:=by
 funext q
 by_cases h1:q=k
 ·subst h1;rw[jR,xy (by omega),xy (by omega),jR]
 by_cases h2:q=k+1
 ·subst h2;rw[zz,xy hk,xy hk,zz]
 rw[zx _ h1 h2]
 by_cases h:q<a
 ·rw[xy h,xy h,zx _ h1 h2]
 unfold jnL;rw[if_neg h,if_neg h]
theorem Pst.pre {n m a:Nat} {P L A:Nat->SB} (h:Pst n m L A):Pst n (a+m) (jnL a P L) (jnL a P A):=by
 induction h with
 |refl=>exact .refl
 |head h _ ih=>
  cases h with
  |@mk k i h=>
   refine .head (L1:=jnL a P (psh _ k i)) ?_ ih
   rw[<-qms]
   refine .mk ⟨by have:=h.k_;omega,h.i_,?_,?_⟩
   ·rw[show a+k+1=a+(k+1)by omega,qai];exact h.b_
   rw[qai];exact h.e_
theorem Pst.suf {n m a:Nat} {P A L:Nat->SB} (h:Pst n a P A):Pst n (a+m) (jnL a P L) (jnL a A L):=by
 induction h with
 |refl=>exact .refl
 |head h _ ih=>
  cases h with
  |@mk k i h=>
   have hk:=h.k_
   refine .head (L1:=jnL a (psh _ k i) L) ?_ ih
   rw[<-qkO hk]
   refine .mk ⟨by omega,h.i_,?_,?_⟩
   ·rw[xy hk];exact h.b_
   rw[xy (by omega)];exact h.e_
structure Jn (n:Nat) (l l':List SB):Prop where
 len:l.length=l'.length
 o1: ∀s∈l,s.Ok n
 o2: ∀s∈l',s.Ok n
 meet: ∃D,Pst n l.length (vD l) D/\Pst n l.length (vD l') D
theorem Jn.refl {n:Nat} {l:List SB} (h: ∀s∈l,s.Ok n):Jn n l l:=⟨rfl,h,h,_,.refl,.refl⟩
theorem Jn.symm {n:Nat} {l l':List SB} (h:Jn n l l'):Jn n l' l:=by
 obtain⟨D,a,b⟩:=h.meet
 exact⟨h.len.symm,h.o2,h.o1,D,h.len▸b,h.len▸a⟩
theorem Jn.trans {n:Nat} {l l' l2:List SB} (h:Jn n l l') (k:Jn n l' l2):Jn n l l2:=by
 obtain⟨D,a,b⟩:=h.meet
 obtain⟨E,c,d⟩:=k.meet
 rw[<-h.len]at c d
 obtain⟨F,f1,f2⟩:=qew _ D (Nat.le_refl _)
 obtain⟨G,g1,g2⟩:=qew _ E (Nat.le_refl _)
 obtain rfl:=qcU _ (Nat.le_refl _) (b.trans f1) (c.trans g1) f2 g2
 exact⟨h.len.trans k.len,h.o1,k.o2,F,a.trans f1,d.trans g1⟩
theorem Jn.app {n:Nat} {p p' l l':List SB} (h:Jn n p p') (k:Jn n l l'):Jn n (p++l) (p'++l'):=by
 obtain⟨D,a,b⟩:=h.meet
 obtain⟨E,c,d⟩:=k.meet
 refine⟨by rw[Yq,Yq,h.len,k.len],fun s hs=>(List.mem_append.1 hs).elim (h.o1 s) (k.o1 s),fun s hs=>(List.mem_append.1 hs).elim (h.o2 s) (k.o2 s),jnL p.length D E,?_,?_⟩
 ·rw[qcz,Yq]
  exact a.suf.trans c.pre
 rw[qcz,Yq,<-h.len]
 exact b.suf.trans d.pre
theorem Jn.flip {n:Nat} {l l':List SB} (h:Jn n l l'):Jn n (l.map (SB.flip n)) (l'.map (SB.flip n)):=by
 obtain⟨D,a,b⟩:=h.meet
 have f1:=(a.flip (qbV h.o1)).1
 have f2:=(b.flip (by rw[h.len];exact qbV h.o2)).1
 refine⟨by simp[h.len],fun s hs=>?_,fun s hs=>?_,qbI n D,?_,?_⟩
 ·obtain⟨u,hu,rfl⟩:=List.mem_map.1 hs;exact(h.o1 u hu).flip
 ·obtain⟨u,hu,rfl⟩:=List.mem_map.1 hs;exact(h.o2 u hu).flip
 ·rw[qev,List.length_map];exact f1
 rw[qev,List.length_map];exact f2
theorem Jn.nf {n:Nat} {l l':List SB} (h:Jn n l l') {A:Nat->SB} (a:Pst n l.length (vD l) A) (nA:Nf n l.length A):Pst n l'.length (vD l') A:=by
 obtain⟨D,d1,d2⟩:=h.meet
 obtain⟨E,e1,e2⟩:=qew _ D (Nat.le_refl _)
 obtain rfl:=qcU _ (Nat.le_refl _) a (d1.trans e1) nA e2
 rw[<-h.len]
 exact d2.trans e1
def SB.Fix (n:Nat) (s:SB):Prop:= ∀k,n<=k->s.f k=k
theorem SB.Fix.fr {n i:Nat} {s:SB} (h:s.Fix n) (hi:i+1<n):(s.fr i).Fix n:=fun k hk=>by
 show s.f (tr5 i k)=k
 rw[jY (by omega) (by omega)]
 exact h k hk
theorem SB.Fix.bk {n i:Nat} {s:SB} (h:s.Fix n) (hi:i+1<n):(s.bk i).Fix n:=fun k hk=>by
 show tr5 i (s.f k)=k
 rw[h k hk,jY (by omega) (by omega)]
theorem qiO {n k:Nat} (h:n<=k):rv5 n k=k:=if_neg (by omega)
theorem SB.Fix.flip {n:Nat} {s:SB} (h:s.Fix n):(s.flip n).Fix n:=fun k hk=>by
 show rv5 n (s.f (rv5 n k))=k
 rw[qiO hk,h k hk,qiO hk]
theorem Ut (n:Nat):Ue.Fix n:=fun _ _=>rfl
theorem Uu (n:Nat):(Ud n).Fix n:=fun k hk=>qiO hk
theorem qgV {n:Nat} {s t:SB} (hs:s.Fix n) (ht:t.Fix n) (h:s.row n=t.row n):s=t:=SB.ext fun k=>by
 by_cases hk:k<n
 ·have a:=Uh s hk
  rw[h,Uh t hk]at a
  exact(Ye a).symm
 rw[hs k (by omega),ht k (by omega)]
theorem Pst.fix {n m:Nat} {L A:Nat->SB} (h:Pst n m L A) (hL: ∀q,(L q).Fix n): ∀q,(A q).Fix n:=by
 induction h with
 |refl=>exact hL
 |head h _ ih=>
  cases h with
  |@mk k i h=>
   refine ih fun q=>?_
   by_cases h1:q=k
   ·subst h1;rw[jR];exact(hL q).bk h.i_
   by_cases h2:q=k+1
   ·subst h2;rw[zz];exact(hL _).fr h.i_
   rw[zx _ h1 h2];exact hL q
theorem qff {n:Nat} {l:List SB} (h: ∀s∈l,s.Fix n): ∀q,(vD l q).Fix n:=fun q=>by
 unfold vD
 rw[Yy]
 cases e:l[q]? with
 |none=>exact Ut n
 |some s=>exact h s (Yn e)
theorem qbn {l:List SB} {q:Nat} (h:l.length<=q):vD l q=Ue:=by
 unfold vD
 rw[Yy,Yg h]
 rfl
theorem qep (n:Nat) (L:Nat->SB): ∀k,(xU n L k).length=k
 |0=>rfl
 |k+1=>by rw[xU,Yr,qep n L k]
theorem qgr {n:Nat} {A B:Nat->SB}: ∀{k:Nat},xU n A k=xU n B k-> ∀q,q<k->(A q).row n=(B q).row n
 |0,h,q,hq=>by omega
 |k+1,h,q,hq=>by
  rw[xU,xU]at h
  injection h with h1 h2
  by_cases e:q=k
  ·subst e;exact h1
  exact qgr h2 q (by omega)
theorem qeN {n:Nat} {l l':List SB} {R:List (List Nat)} (h:QOK n l R) (h':QOK n l' R) (f: ∀s∈l,s.Fix n) (f': ∀s∈l',s.Fix n):Jn n l l':=by
 obtain⟨A,a1,a2,a3⟩:=h.ex
 obtain⟨B,b1,b2,b3⟩:=h'.ex
 have hl:l.length=l'.length:=by
  have:=congrArg List.length a3
  rw[b3,qep,qep]at this
  exact this.symm
 have e:A=B:=by
  funext q
  by_cases hq:q<l.length
  ·refine qgV (a1.fix (qff f) q) (b1.fix (qff f') q) ?_
   rw[<-hl]at b3
   exact qgr (a3.symm.trans b3) q hq
  rw[a1.beyond q (by omega),b1.beyond q (by omega),qbn (by omega),qbn (by omega)]
 subst e
 exact⟨hl,h.ok,h'.ok,A,a1,hl▸b1⟩
def fac (n:Nat) (w:List Int):List SB:=w.foldl (qbi n) []
def flW (n:Nat) (w:List Int) (p:List SB):List SB:=w.foldl (fun p c=>if 0<c then p else p.map (SB.flip n)) p
theorem qll (n:Nat) (p l:List SB) (c:Int):qbi n (p++l) c=(if 0<c then p else p.map (SB.flip n))++qbi n l c:=by
 unfold qbi
 split
 ·rw[Yz]
 rw[List.map_append,Yz]
theorem qgd (n:Nat): ∀(w:List Int) (p l:List SB),w.foldl (qbi n) (p++l)=flW n w p++w.foldl (qbi n) l
 |[],p,l=>rfl
 |c::w,p,l=>by
  rw[List.foldl_cons,qll,qgd n w,List.foldl_cons]
  rfl
theorem qaw (n:Nat) (u v:List Int):fac n (u++v)=flW n v (fac n u)++fac n v:=by
 unfold fac
 rw[List.foldl_append]
 have:=qgd n v (u.foldl (qbi n) []) []
 rw[List.append_nil]at this
 exact this
def jU (n:Nat) (w:List Int):Prop:= ∀c∈w,c≠0/\ -(n:Int)<c/\c<n
theorem jU.app {n:Nat} {u v:List Int} (h:jU n u) (k:jU n v):jU n (u++v):=fun c hc=>(List.mem_append.1 hc).elim (h c) (k c)
theorem jU.left {n:Nat} {u v:List Int} (h:jU n (u++v)):jU n u:=fun c hc=>h c (List.mem_append_left _ hc)
theorem jU.right {n:Nat} {u v:List Int} (h:jU n (u++v)):jU n v:=fun c hc=>h c (List.mem_append_right _ hc)
def Gd (n:Nat) (s:SB):Prop:= ∃i,i+1<n/\(s=Ue.fr i\/s=(Ud n).bk i)
theorem qcT (n:Nat):Ue.flip n=Ue:=SB.ext fun k=>qad n k
theorem qcQ (n:Nat):(Ud n).flip n=Ud n:=SB.ext fun k=>by
 show rv5 n (rv5 n (rv5 n k))=rv5 n k
 rw[qad]
theorem Gd.flip {n:Nat} {s:SB} (h:Gd n s):Gd n (s.flip n):=by
 obtain⟨i,hi,h|h⟩:=h<;>subst h
 ·exact⟨n-2-i,by omega,.inl (by rw[qjP hi,qcT])⟩
 exact⟨n-2-i,by omega,.inr (by rw[qjr hi,qcQ])⟩
theorem Gd.ok {n:Nat} {s:SB} (h:Gd n s):s.Ok n:=by
 obtain⟨i,hi,h|h⟩:=h<;>subst h
 ·exact(Uk n).fr hi
 exact(Uj n).bk hi
theorem Gd.fix {n:Nat} {s:SB} (h:Gd n s):s.Fix n:=by
 obtain⟨i,hi,h|h⟩:=h<;>subst h
 ·exact(Ut n).fr hi
 exact(Uu n).bk hi
theorem qmK {n:Nat} {l:List SB} (h: ∀s∈l,Gd n s) {c:Int} (hc:c≠0/\ -(n:Int)<c/\c<n): ∀s∈qbi n l c,Gd n s:=fun s hs=>by
 unfold qbi at hs
 split at hs
 ·rcases List.mem_append.1 hs with hs|hs
  ·exact h s hs
  rw[List.mem_singleton.1 hs];exact⟨c.natAbs-1,by omega,.inl rfl⟩
 rcases List.mem_append.1 hs with hs|hs
 ·obtain⟨u,hu,rfl⟩:=List.mem_map.1 hs
  exact(h u hu).flip
 rw[List.mem_singleton.1 hs];exact⟨c.natAbs-1,by omega,.inr rfl⟩
theorem qjf {n:Nat}: ∀{w:List Int} {l:List SB},(∀s∈l,Gd n s)->jU n w-> ∀s∈w.foldl (qbi n) l,Gd n s
 |[],l,h,hw=>h
 |c::w,l,h,hw=>qjf (w:=w) (qmK h (hw c (List.mem_cons_self ..))) (fun d hd=>hw d (List.mem_cons_of_mem _ hd))
theorem xh {n:Nat} {w:List Int} (hw:jU n w): ∀s∈fac n w,Gd n s:=qjf (fun s hs=>by cases hs) hw
theorem qlh (n:Nat) (l:List SB) (c:Int):(qbi n l c).length=l.length+1:=by unfold qbi;split<;>simp
theorem qgg (n:Nat): ∀(w:List Int) (l:List SB),(w.foldl (qbi n) l).length=l.length+w.length
 |[],l=>rfl
 |c::w,l=>by rw[List.foldl_cons,qgg n w,qlh,Yr];omega
theorem xu (n:Nat) (w:List Int):(fac n w).length=w.length:=by unfold fac;rw[qgg];simp
def qW (n:Nat) (w:List Int):List (List Nat):=w.foldl (qjw n) []
theorem qmf {n:Nat}: ∀(w:List Int) {l:List SB} {R:List (List Nat)},QOK n l R->jU n w->QOK n (w.foldl (qbi n) l) (w.foldl (qjw n) R)
 |[],l,R,h,hw=>h
 |c::w,l,R,h,hw=>qmf w (h.step (hw c (List.mem_cons_self ..))).1 (fun d hd=>hw d (List.mem_cons_of_mem _ hd))
theorem qhw {n:Nat} {w:List Int} (hw:jU n w):QOK n (fac n w) (qW n w):=
 qmf w ⟨fun s h=>(by cases h),⟨vD [],Pst.refl,fun q hq=>absurd hq (Nat.not_lt_zero q),rfl⟩⟩ hw
theorem qgS {n:Nat}: ∀(w:List Int) {l l':List SB},Jn n l l'->Jn n (flW n w l) (flW n w l')
 |[],l,l',h=>h
 |c::w,l,l',h=>by
  unfold flW
  rw[List.foldl_cons,List.foldl_cons]
  refine qgS w ?_
  split
  ·exact h
  exact h.flip
theorem qb4 (n:Nat): ∀(w:List Int) (p q:List SB),flW n w (p++q)=flW n w p++flW n w q
 |[],p,q=>rfl
 |c::w,p,q=>by
  unfold flW
  rw[List.foldl_cons,List.foldl_cons,List.foldl_cons]
  split
  ·exact qb4 n w p q
  rw[List.map_append];exact qb4 n w _ _
theorem qgI {n:Nat}: ∀(w:List Int) {l:List SB},(∀s∈l,Gd n s)-> ∀s∈flW n w l,Gd n s
 |[],l,h=>h
 |c::w,l,h=>by
  unfold flW
  rw[List.foldl_cons]
  refine qgI w ?_
  split
  ·exact h
  intro s hs
  obtain⟨u,hu,rfl⟩:=List.mem_map.1 hs
  exact(h u hu).flip
theorem qbQ {n:Nat} {s:SB} (h:s.flip n=s): ∀w:List Int,flW n w [s]=[s]
 |[]=>rfl
 |c::w=>by
  unfold flW
  rw[List.foldl_cons]
  split
  ·exact qbQ h w
  rw[List.map_singleton,h];exact qbQ h w
theorem qcA {n:Nat} {l:List SB} (h: ∀s∈l,Gd n s):Jn n l l:= .refl fun s hs=>(h s hs).ok
theorem qkV {n:Nat} {u m m' v:List Int} (hu:jU n u) (hv:jU n v) (j:Jn n (fac n m) (fac n m')) (hf: ∀p,flW n m p=flW n m' p):Jn n (fac n (u++m++v)) (fac n (u++m'++v)):=by
 rw[qaw,qaw n u m,qaw n (u++m') v,qaw n u m',hf]
 exact(qgS v ((qcA (qgI m' (xh hu))).app j)).app (qcA (xh hv))
end Go.Av
end
section
namespace Go.Av
def qfH (H I:List Int):List (List Int)->Prop
 |x::y::r=>(y=H->x=H)/\(x=I->y=I)/\qfH H I (y::r)
 |_=>True
theorem qfH.tail {H I x:List Int} {r:List (List Int)} (h:qfH H I (x::r)):qfH H I r:=by
 cases r with
 |nil=>trivial
 |cons y r=>exact h.2.2
theorem qfH.allI {H I:List Int}: ∀{r:List (List Int)},qfH H I (I::r)-> ∀y∈r,y=I
 |[],h,y,hy=>by cases hy
 |z::r,h,y,hy=>by
  have hz:z=I:=h.2.1 rfl
  subst hz
  rcases List.mem_cons.1 hy with rfl|hy
  ·rfl
  exact qfH.allI h.tail y hy
theorem qjC {I:List Int}: ∀{r:List (List Int)},(∀y∈r,y=I)->r=List.replicate r.length I
 |[],_=>rfl
 |z::r,h=>by
  rw[Yr,List.replicate_succ,h z List.mem_cons_self,<-qjC (r:=r) fun y hy=>h y (List.mem_cons_of_mem _ hy)]
theorem qfH.split {H I:List Int}: ∀{r:List (List Int)},qfH H I r-> ∃(M:List (List Int)) (d:Nat),r=M++List.replicate d I/\I∉M
 |[],_=>⟨[],0,rfl,by simp⟩
 |x::r,h=>by
  by_cases c:x=I
  ·subst c
   refine⟨[],(x::r).length,?_,by simp⟩
   rw[List.nil_append]
   exact qjC fun y hy=>by
    rcases List.mem_cons.1 hy with rfl|hy
    ·rfl
    exact qfH.allI h y hy
  obtain⟨M,d,h1,h2⟩:=qfH.split h.tail
  exact⟨x::M,d,by rw[h1];rfl,fun g=>by
   rcases List.mem_cons.1 g with g|g
   ·exact c g.symm
   exact h2 g⟩
section
variable {n m:Nat} (hn:n<=12) (n2:2<=n)
include hn n2
theorem qjd:(Ud n).li n≠qa3 n:=fun h=>by
 have:=SB.li_inj (t:=Ue) h (k:=0) (by omega)
 have e:rv5 n 0=0:=this
 unfold rv5 at e
 rw[if_pos (by omega)]at e
 omega
variable {N:Nat} (hN:2000<N)
include hN
theorem qeM {A:Nat->SB} (hm:m<=300) (hA:OkM n m A): ∀(K i:Nat) (h:Int) (out:List (List Int)),i<=m->m<K+i-> -1000<=h->h<=300+i->out.length<=i->
 jS N (n:Int) (jL n m A) K h out (i:Int)=some (h+((((jL n m A).drop i).countP fun x=>decide (x=(Ud n).li n):Nat):Int),out++((jL n m A).drop i).filter fun x=>!decide (x=qa3 n)&&!decide (x=(Ud n).li n))
 |0,i,h,out,hi,hK,h1,h2,ho=>by omega
 |K+1,i,h,out,hi,hK,h1,h2,ho=>by
  unfold jS
  rw[qO]
  by_cases c:i<m
  ·have hl:i<(jL n m A).length:=by rw[qO];exact c
   have hg:(jL n m A)[i]=(A i).li n:=by
    have:=jP (n:=n) (L:=A) c
    rw[Ya hl]at this
    exact Ye this
   obtain⟨b,b1,b2⟩:=qly hn (by omega) (N:=N) hN (A i)
   rw[qiT hn (by omega) (hA i c)]at b2
   have e24: ∀o:List (List Int),o.length<=i->app 24 o [(A i).li n]=some (o++[(A i).li n]):=fun o ho=>qar (by simp;omega) (by simp;omega)
   rw[if_pos (by omega),qz,jP c,YG hl,hg,List.countP_cons,List.filter_cons]
   simp only[ZB,b1]
   by_cases p:(A i).li n=qa3 n
   ·have q:(A i).li n≠(Ud n).li n:=fun e=>qjd hn n2 (e▸p)
    rw[b2.2 p]
    simp only[if_true,ZB]
    rw[qP (by omega),qeM hm hA K (i+1) h out (by omega) (by omega) (by omega) (by omega) (by omega),decide_eq_true p,decide_eq_false q]
    simp
   have bf:b=false:=by
    cases b with
    |false=>rfl
    |true=>exact absurd (b2.1 rfl) p
   subst bf
   simp only[ZF,if_false]
   rw[qjR hN (by omega)]
   simp only[ZB]
   have hln:=Ug n (A i)
   rw[qmE (by omega) (by omega)]
   simp only[ZB]
   by_cases q:(A i).li n=(Ud n).li n
   ·rw[decide_eq_true q,decide_eq_false p]
    simp only[if_true,ZB]
    rw[qP (by omega),qK (n:=h+1) (by omega) (by omega),qeM hm hA K (i+1) (h+1) out (by omega) (by omega) (by omega) (by omega) (by omega)]
    simp
    omega
   rw[decide_eq_false q,decide_eq_false p,e24 out ho]
   simp only[ZF,if_false,ZB]
   rw[qP (by omega),qeM hm hA K (i+1) h _ (by omega) (by omega) (by omega) (by omega) (by simp;omega)]
   simp
  rw[if_neg (by omega),List.drop_eq_nil_of_le (by rw[qO];omega)]
  simp
end
end Go.Av
end
section
namespace Go.Av
def lets (n:Nat):List Int:=(List.range (n-1)).flatMap fun i=>[((i+1:Nat):Int),-((i+1:Nat):Int)]
theorem qby {n:Nat} {c:Int} (h:c≠0/\ -(n:Int)<c/\c<n):c∈lets n:=by
 refine List.mem_flatMap.2 ⟨c.natAbs-1,List.mem_range.2 (by omega),?_⟩
 by_cases p:0<c
 ·exact List.mem_cons.2 (.inl (by omega))
 exact List.mem_cons_of_mem _ (List.mem_singleton.2 (by omega))
def qj5 (x y:Int):Bool:=Nat.ble (x.natAbs+2) y.natAbs||Nat.ble (y.natAbs+2) x.natAbs
def sg5 (c:Int):Int:=if c<0 then-1 else 1
def qbv (x y z:Int):Option (List Int):=
 if x.natAbs=z.natAbs/\(x.natAbs=y.natAbs+1\/y.natAbs=x.natAbs+1)then
  if sg5 x=sg5 y then some [sg5 z*(y.natAbs:Int),x,y]else if sg5 y=sg5 z then some [y,z,sg5 x*(y.natAbs:Int)]else none
 else none
def ngs (w:List Int):Nat:=w.countP fun c=>!decide (0<c)
def qdf:List (List Nat)->List (List Nat)->Bool
 |[],[]=>true
 |x::a,y::b=>rowB x y&&qdf a b
 |_,_=>false
where rowB:List Nat->List Nat->Bool
 |[],[]=>true
 |x::a,y::b=>Nat.beq x y&&rowB a b
 |_,_=>false
theorem qjH: ∀{a b:List Nat},qdf.rowB a b=true->a=b
 |[],[],h=>rfl
 |x::a,y::b,h=>by
  unfold qdf.rowB at h
  simp only[Bool.and_eq_true]at h
  rw[Nat.eq_of_beq_eq_true h.1,qjH h.2]
 |[],y::b,h=>by cases h
 |x::a,[],h=>by cases h
theorem qcl: ∀{a b:List (List Nat)},qdf a b=true->a=b
 |[],[],h=>rfl
 |x::a,y::b,h=>by
  unfold qdf at h
  simp only[Bool.and_eq_true]at h
  rw[qjH h.1,qcl h.2]
 |[],y::b,h=>by cases h
 |x::a,[],h=>by cases h
def okIns (n:Nat):Bool:=(lets n).all fun x=>qdf (qW n [x,-x]) [List.range n,qb9 n]
def okSwp (n:Nat):Bool:=(lets n).all fun x=>(lets n).all fun y=>!qj5 x y||(qdf (qW n [x,y]) (qW n [y,x]))
def okTrn (n:Nat):Bool:=(lets n).all fun x=>(lets n).all fun y=>(lets n).all fun z=>match qbv x y z with
 |none=>true
 |some l=>qdf (qW n [x,y,z]) (qW n l)&&Nat.beq (ngs [x,y,z]) (ngs l)
def qhk (n:Nat) (s t s' t':List Nat):Bool:=qdf [(qdR n (n*n) s t).1,(qdR n (n*n) s t).2] [s',t']
def okGd (n:Nat):Bool:=(List.range (n-1)).all fun i=>
 (qhk n (qfr i (List.range n)) (qb9 n) (qb9 n) (qgf n (qfr i (List.range n)))&&qhk n (qbk i (qb9 n)) (qb9 n) (qb9 n) (qgf n (qbk i (qb9 n))))&&
 (qhk n (List.range n) (qfr i (List.range n)) (qfr i (List.range n)) (List.range n)&&qhk n (List.range n) (qbk i (qb9 n)) (qbk i (qb9 n)) (List.range n))
theorem qnJ:((List.range 7).all okIns)=true:=by kernel_rfl
theorem qn4:((List.range 7).all okSwp)=true:=by kernel_rfl
theorem qnG:((List.range 7).all okTrn)=true:=by kernel_rfl
theorem qnr:((List.range 7).all okGd)=true:=by kernel_rfl
theorem qe4 {f:Nat->Bool} (h:((List.range 7).all f)=true) {n:Nat} (hn:n<=6):f n=true:=Yp.1 h n (List.mem_range.2 (by omega))
theorem qnT {n:Nat} {s t:SB} (hs:s.Ok n) (ht:t.Ok n):QOK n [s,t] [(qdR n (n*n) (s.row n) (t.row n)).2,(qdR n (n*n) (s.row n) (t.row n)).1]:=by
 have ho: ∀u∈[s,t],u.Ok n:=fun u hu=>by
  rcases List.mem_cons.1 hu with rfl|hu
  ·exact hs
  rw[List.mem_singleton.1 hu];exact ht
 obtain⟨A,a1,a2,a3,a4⟩:=qe0 (n:=n) (m:=2) (k:=0) (by omega) (n*n) (vD [s,t]) (qbV ho)
 refine⟨ho,A,a1,a4,?_⟩
 have e:qdR n (n*n) (s.row n) (t.row n)=((A 0).row n,(A 1).row n):=a2
 rw[e]
 rfl
theorem qni {n:Nat} {s t:SB} (hs:s.Ok n) (ht:t.Ok n):QOK n [s,t] [t.row n,s.row n]:=by
 have ho: ∀u∈[s,t],u.Ok n:=fun u hu=>by
  rcases List.mem_cons.1 hu with rfl|hu
  ·exact hs
  rw[List.mem_singleton.1 hu];exact ht
 exact⟨ho,_,.refl,qbV ho,rfl⟩
theorem qhH {n:Nat} {s t s' t':SB} (hs:s.Ok n) (ht:t.Ok n) (hs':s'.Ok n) (ht':t'.Ok n) (f1:s.Fix n) (f2:t.Fix n) (f3:s'.Fix n) (f4:t'.Fix n) (h:qhk n (s.row n) (t.row n) (s'.row n) (t'.row n)=true):Jn n [s,t] [s',t']:=by
 have e:=qcl h
 injection e with e1 e2
 injection e2 with e2 _
 have q:=qnT hs ht
 rw[e1,e2]at q
 refine qeN q (qni hs' ht') (fun u hu=>?_) (fun u hu=>?_)
 ·rcases List.mem_cons.1 hu with rfl|hu
  ·exact f1
  rw[List.mem_singleton.1 hu];exact f2
 rcases List.mem_cons.1 hu with rfl|hu
 ·exact f3
 rw[List.mem_singleton.1 hu];exact f4
section
variable {n:Nat} (hn:n<=6)
include hn
theorem qnc {s:SB} (h:Gd n s):Jn n [s,Ud n] [Ud n,s.flip n]:=by
 refine qhH h.ok (Uj n) (Uj n) h.ok.flip h.fix (Uu n) (Uu n) h.fix.flip ?_
 rw[qha h.ok,qcD]
 obtain⟨i,hi,h⟩:=h
 have c:=Yp.1 (qe4 qnr hn) i (List.mem_range.2 (by omega))
 simp only[Bool.and_eq_true]at c
 rcases h with rfl|rfl
 ·rw[qgH hi,qfl];exact c.1.1
 rw[qgY,qcD];exact c.1.2
theorem gd_id {s:SB} (h:Gd n s):Jn n [Ue,s] [s,Ue]:=by
 refine qhH (Uk n) h.ok h.ok (Uk n) (Ut n) h.fix h.fix (Ut n) ?_
 rw[qfl]
 obtain⟨i,hi,h⟩:=h
 have c:=Yp.1 (qe4 qnr hn) i (List.mem_range.2 (by omega))
 simp only[Bool.and_eq_true]at c
 rcases h with rfl|rfl
 ·rw[qgH hi,qfl];exact c.2.1
 rw[qgY,qcD];exact c.2.2
omit hn in
theorem qdw (n:Nat) (s:SB):(s.flip n).flip n=s:=SB.ext fun k=>by
 show rv5 n (rv5 n (s.f (rv5 n (rv5 n k))))=s.f k
 rw[qad,qad]
omit hn in
theorem qbd {s:SB} (h:s.Ok n): ∀t∈[s],t.Ok n:=fun t ht=>by rw[List.mem_singleton.1 ht];exact h
theorem qg1: ∀{l:List SB},(∀s∈l,Gd n s)->Jn n (l.map (SB.flip n)++[Ud n]) (Ud n::l)
 |[],h=> .refl (qbd (Uj n))
 |s::l,h=>by
  have hs:=h s (List.mem_cons_self ..)
  have hl:=fun t ht=>h t (List.mem_cons_of_mem s ht)
  have a:Jn n ([s.flip n]++(l.map (SB.flip n)++[Ud n])) ([s.flip n]++(Ud n::l)):=(Jn.refl (qbd hs.flip.ok)).app (qg1 hl)
  have b:Jn n ([s.flip n,Ud n]++l) ([Ud n,s]++l):=by
   have:=qnc hn hs.flip
   rw[qdw]at this
   exact this.app (qcA hl)
  exact a.trans b
theorem qjL: ∀{l:List SB},(∀s∈l,Gd n s)->Jn n (Ue::l) (l++[Ue])
 |[],h=> .refl (qbd (Uk n))
 |s::l,h=>by
  have hs:=h s (List.mem_cons_self ..)
  have hl:=fun t ht=>h t (List.mem_cons_of_mem s ht)
  have b:Jn n ([Ue,s]++l) ([s,Ue]++l):=(gd_id hn hs).app (qcA hl)
  have a:Jn n ([s]++(Ue::l)) ([s]++(l++[Ue])):=(Jn.refl (qbd hs.ok)).app (qjL hl)
  exact b.trans a
omit hn in
theorem qjz (n:Nat): ∀(w v:List Int) (p:List SB),ngs w=ngs v->flW n w p=flW n v p:=by
 have key: ∀(w:List Int) (p:List SB),flW n w p=Nat.repeat (fun p=>p.map (SB.flip n)) (ngs w) p:=by
  intro w
  induction w with
  |nil=>intro p;rfl
  |cons c w ih=>
   intro p
   have sh: ∀(k:Nat) (q:List SB),Nat.repeat (fun p=>p.map (SB.flip n)) k (q.map (SB.flip n))=(Nat.repeat (fun p=>p.map (SB.flip n)) k q).map (SB.flip n):=by
    intro k
    induction k with
    |zero=>intro q;rfl
    |succ k ih=>intro q;show List.map _ (Nat.repeat _ k _)=_;rw[ih];rfl
   unfold flW at ih⊢
   rw[List.foldl_cons,ih]
   unfold ngs
   rw[List.countP_cons]
   by_cases h:0<c
   ·simp[h]
   rw[if_neg h,if_pos (by simp[h]),sh]
   rfl
 intro w v p h
 rw[key,key,h]
theorem qnw {x y:Int} (hx:x≠0/\ -(n:Int)<x/\x<n) (hy:y≠0/\ -(n:Int)<y/\y<n) (h:qj5 x y=true):Jn n (fac n [x,y]) (fac n [y,x]):=by
 have c:=Yp.1 (Yp.1 (qe4 qn4 hn) x (qby hx)) y (qby hy)
 rw[h]at c
 have l1:jU n [x,y]:=fun c hc=>by
  rcases List.mem_cons.1 hc with rfl|hc
  ·exact hx
  rw[List.mem_singleton.1 hc];exact hy
 have l2:jU n [y,x]:=fun c hc=>by
  rcases List.mem_cons.1 hc with rfl|hc
  ·exact hy
  rw[List.mem_singleton.1 hc];exact hx
 have c2:qdf (qW n [x,y]) (qW n [y,x])=true:=by simpa using c
 have q:=qhw l1
 rw[qcl c2]at q
 exact qeN q (qhw l2) (fun s hs=>(xh l1 s hs).fix) (fun s hs=>(xh l2 s hs).fix)
theorem qnx {x y z:Int} {l:List Int} (hx:x≠0/\ -(n:Int)<x/\x<n) (hy:y≠0/\ -(n:Int)<y/\y<n) (hz:z≠0/\ -(n:Int)<z/\z<n) (hl:jU n l) (h:qbv x y z=some l):Jn n (fac n [x,y,z]) (fac n l)/\ngs [x,y,z]=ngs l:=by
 have c:=Yp.1 (Yp.1 (Yp.1 (qe4 qnG hn) x (qby hx)) y (qby hy)) z (qby hz)
 rw[h]at c
 simp only[Bool.and_eq_true]at c
 have l1:jU n [x,y,z]:=fun c hc=>by
  rcases List.mem_cons.1 hc with rfl|hc
  ·exact hx
  rcases List.mem_cons.1 hc with rfl|hc
  ·exact hy
  rw[List.mem_singleton.1 hc];exact hz
 have q:=qhw l1
 rw[qcl c.1]at q
 exact⟨qeN q (qhw hl) (fun s hs=>(xh l1 s hs).fix) (fun s hs=>(xh hl s hs).fix),Nat.eq_of_beq_eq_true c.2⟩
theorem qnM {x:Int} (hx:x≠0/\ -(n:Int)<x/\x<n):Jn n (fac n [x,-x]) [Ud n,Ue]:=by
 have c:=Yp.1 (qe4 qnJ hn) x (qby hx)
 have l1:jU n [x,-x]:=fun c hc=>by
  rcases List.mem_cons.1 hc with rfl|hc
  ·exact hx
  rw[List.mem_singleton.1 hc];omega
 have q:=qhw l1
 rw[qcl c]at q
 have q2:=qni (Uj n) (Uk n)
 rw[qfl,qcD]at q2
 refine qeN q q2 (fun s hs=>(xh l1 s hs).fix) (fun s hs=>?_)
 rcases List.mem_cons.1 hs with rfl|hs
 ·exact Uu n
 rw[List.mem_singleton.1 hs];exact Ut n
theorem qm0 {u v:List Int} {x:Int} (hu:jU n u) (hv:jU n v) (hx:x≠0/\ -(n:Int)<x/\x<n):Jn n (fac n (u++[x,-x]++v)) (Ud n::(fac n (u++v)++[Ue])):=by
 have e1:flW n [x,-x] (fac n u)=(fac n u).map (SB.flip n):=by
  unfold flW
  rw[List.foldl_cons,List.foldl_cons,List.foldl_nil]
  by_cases p:0<x
  ·rw[if_pos p,if_neg (by omega)]
  rw[if_neg p,if_pos (by omega)]
 have g1:=xh hu
 have a:Jn n (fac n (u++[x,-x])) ((Ud n::fac n u)++[Ue]):=by
  rw[qaw,e1]
  have a1:Jn n ((fac n u).map (SB.flip n)++fac n [x,-x]) ((fac n u).map (SB.flip n)++[Ud n,Ue]):=(qcA g1).flip.app (qnM hn hx)
  have a2:Jn n (((fac n u).map (SB.flip n)++[Ud n])++[Ue]) ((Ud n::fac n u)++[Ue]):=(qg1 hn g1).app (.refl (qbd (Uk n)))
  rw[Yz]at a2
  exact a1.trans a2
 rw[qaw,qaw n u v]
 have b:=(qgS v a).app (qcA (xh hv))
 rw[qb4,show Ud n::fac n u=[Ud n]++fac n u from rfl,qb4,qbQ (qcQ n),qbQ (qcT n)]at b
 refine b.trans ?_
 have c:Jn n (Ue::fac n v) (fac n v++[Ue]):=qjL hn (xh hv)
 have d:=((Jn.refl (qbd (Uj n))).app (qcA (qgI v g1))).app c
 simpa using d
end
end Go.Av
end
section
namespace Go.Av
theorem qip (n:Int):zQ n=some (if n<1\/12<n then 3 else 0):=by
 unfold zQ
 by_cases a:n<1
 ·rw[if_pos a,if_pos (.inl a)];rfl
 rw[if_neg a,xB]
 by_cases b:12<n
 ·rw[decide_eq_true (show n>12 from b),if_pos rfl,if_pos (.inr b)];rfl
 rw[decide_eq_false (show¬n>12 from b),if_neg (by decide),if_neg (by omega)];rfl
section
variable {k:Nat} (hk:k<=12) (k1:1<=k)
include hk k1
end
structure FOK (k:Nat) (f:xc):Prop where
 k1:1<=k
 k2:k<=12
 half: -200<=f.Half/\f.Half<=200
 one:k=1->f.Half=0
 few:f.Factors.length<=200
 at_: ∀j,j<f.Factors.length-> ∃s:SB,s.Ok k/\f.Factors[j]? =some (s.li k)
end Go.Av
end
section
namespace Go.Av
def qfs (n m:Nat) (A:Nat->SB) (h:Int):xc:=⟨h+(((jL n m A).countP fun x=>decide (x=(Ud n).li n):Nat):Int),(jL n m A).filter fun x=>!decide (x=qa3 n)&&!decide (x=(Ud n).li n)⟩
def vJ (n:Nat) (w:List Int) (f:xc):Prop:= ∃A,Pst n w.length (vD (fac n w)) A/\Nf n w.length A/\f=qfs n w.length A (-((ngs w:Nat):Int))
theorem vJ.uniq {n:Nat} {w:List Int} {f g:xc} (h:vJ n w f) (k:vJ n w g):f=g:=by
 obtain⟨A,a1,a2,a3⟩:=h
 obtain⟨B,b1,b2,b3⟩:=k
 obtain rfl:=qcU _ (Nat.le_refl _) a1 b1 a2 b2
 rw[a3,b3]
theorem vJ.jn {n:Nat} {w v:List Int} {f:xc} (h:vJ n w f) (j:Jn n (fac n w) (fac n v)) (hg:ngs w=ngs v):vJ n v f:=by
 obtain⟨A,a1,a2,a3⟩:=h
 have hl:w.length=v.length:=by have:=j.len;rw[xu,xu]at this;exact this
 have a:=j.nf (A:=A) (by rw[xu];exact a1) (by rw[xu];exact a2)
 rw[xu]at a
 exact⟨A,a,hl▸a2,by rw[a3,hl,hg]⟩
theorem qks {n i:Nat} (hi:i+1<n):(Ud n).Ends i:=by
 show rv5 n (i+1)<rv5 n i
 rw[yN hi,yN (by omega)]
 omega
theorem qjV (i:Nat): ¬Ue.Begs i:=fun h=>by
 have h:i+1<i:=h
 omega
theorem qmT {n:Nat} {l:List SB} {A:Nat->SB} (a:Pst n l.length (vD l) A) (nA:Nf n l.length A): ∃B,Pst n (l.length+2) (vD (Ud n::(l++[Ue]))) B/\Nf n (l.length+2) B/\jL n (l.length+2) B=(Ud n).li n::(jL n l.length A++[Ue.li n]):=by
 have e:vD (Ud n::(l++[Ue]))=jnL 1 (vD [Ud n]) (jnL l.length (vD l) (vD [Ue])):=by
  rw[show Ud n::(l++[Ue])=[Ud n]++(l++[Ue])from rfl,qcz,qcz]
  rfl
 refine⟨jnL 1 (vD [Ud n]) (jnL l.length A (vD [Ue])),?_,fun k i c=>?_,?_⟩
 ·rw[e,show l.length+2=1+(l.length+1)by omega]
  exact(a.suf (m:=1)).pre
 ·obtain⟨k1,k2,k3,k4⟩:=c
  cases k with
  |zero=>exact k4 (qks k2)
  |succ j=>
   rw[show j+1=1+j by omega,qai]at k4
   rw[show j+1+1=1+(j+1)by omega,qai]at k3
   by_cases h:j+1<l.length
   ·rw[xy h]at k3
    rw[xy (by omega)]at k4
    exact nA j i ⟨h,k2,k3,k4⟩
   have h2:j+1=l.length+0:=by omega
   rw[h2,qai]at k3
   exact qjV i k3
 apply List.ext_getElem?
 intro q
 cases q with
 |zero=>rw[jP (by omega)];rfl
 |succ q=>
  rw[YK]
  by_cases h:q<l.length
  ·rw[jP (by omega),Yf (by rw[qO];exact h),jP h,show q+1=1+q by omega,qai,xy h]
  by_cases h2:q=l.length
  ·subst h2
   rw[jP (by omega),Yo (by rw[qO];omega),qO,show l.length+1=1+(l.length+0)by omega,qai,qai]
   simp
   rfl
  rw[Yg (by rw[qO];omega),Yg (by simp[qO];omega)]
theorem yQ (u v:List Int):ngs (u++v)=ngs u+ngs v:=List.countP_append ..
theorem qlR {x:Int} (hx:x≠0):ngs [x,-x]=1:=by
 unfold ngs
 rw[List.countP_cons,List.countP_cons,List.countP_nil]
 by_cases h:0<x
 ·simp[h];omega
 simp[h];omega
section
variable {n:Nat} (hn:n<=6)
include hn
theorem vJ.ins (n2:2<=n) {u v:List Int} {x:Int} (hu:jU n u) (hv:jU n v) (hx:x≠0/\ -(n:Int)<x/\x<n) {f:xc} (h:vJ n (u++v) f):vJ n (u++[x,-x]++v) f:=by
 obtain⟨A,a1,a2,a3⟩:=h
 have j:=qm0 hn hu hv hx
 rw[<-xu n]at a1 a2
 obtain⟨B,b1,b2,b3⟩:=qmT a1 a2
 have hl:(u++[x,-x]++v).length=(fac n (u++v)).length+2:=by rw[xu];simp;omega
 have hl2:(Ud n::(fac n (u++v)++[Ue])).length=(fac n (u++v)).length+2:=by simp
 have c:=j.symm.nf (A:=B) (by rw[hl2];exact b1) (by rw[hl2];exact b2)
 rw[xu,hl]at c
 refine⟨B,by rw[hl];exact c,by rw[hl];exact b2,?_⟩
 rw[a3,hl]
 unfold qfs
 rw[b3,xu]
 have ne:(Ud n).li n≠qa3 n:=qjd (n:=n) (by omega) n2
 have hg:ngs (u++[x,-x]++v)=ngs (u++v)+1:=by
  rw[yQ,yQ,yQ,qlR hx.1];omega
 rw[hg,SB.id_li]
 simp[List.countP_cons,List.filter_cons,List.filter_append,ne,Ne.symm ne]
 omega
end
inductive Mv (n:Nat):List Int->List Int->Prop
 |ins {u v:List Int} {x:Int} (hx:x≠0/\ -(n:Int)<x/\x<n):Mv n (u++v) (u++[x,-x]++v)
 |can {u v:List Int} {x:Int}:Mv n (u++[x,-x]++v) (u++v)
 |swp {u v:List Int} {x y:Int} (h:qj5 x y=true):Mv n (u++[x,y]++v) (u++[y,x]++v)
 |trn {u v l:List Int} {x y z:Int} (h:qbv x y z=some l):Mv n (u++[x,y,z]++v) (u++l++v)
theorem qh4 {n:Nat} {x y z:Int} {l:List Int} (hx:x≠0/\ -(n:Int)<x/\x<n) (hy:y≠0/\ -(n:Int)<y/\y<n) (hz:z≠0/\ -(n:Int)<z/\z<n) (h:qbv x y z=some l):jU n l:=by
 have sg: ∀c d:Int,d≠0/\ -(n:Int)<d/\d<n->sg5 c*(d.natAbs:Int)≠0/\ -(n:Int)<sg5 c*(d.natAbs:Int)/\sg5 c*(d.natAbs:Int)<n:=fun c d hd=>by
  unfold sg5
  split<;>omega
 unfold qbv at h
 split at h
 ·split at h
  ·have h:=Ye h
   subst h
   intro c hc
   rcases List.mem_cons.1 hc with rfl|hc
   ·exact sg z y hy
   rcases List.mem_cons.1 hc with rfl|hc
   ·exact hx
   rw[List.mem_singleton.1 hc];exact hy
  split at h
  ·have h:=Ye h
   subst h
   intro c hc
   rcases List.mem_cons.1 hc with rfl|hc
   ·exact hy
   rcases List.mem_cons.1 hc with rfl|hc
   ·exact hz
   rw[List.mem_singleton.1 hc];exact sg x y hy
  cases h
 cases h
theorem Mv.let_ {n:Nat} {w v:List Int} (h:Mv n w v) (hw:jU n w):jU n v:=by
 cases h with
 |ins hx=>exact(hw.left.app (fun c hc=>by
  rcases List.mem_cons.1 hc with rfl|hc
  ·exact hx
  rw[List.mem_singleton.1 hc];omega)).app hw.right
 |can=>exact hw.left.left.app hw.right
 |swp h=>exact(hw.left.left.app fun c hc=>hw c (by simp at hc⊢;rcases hc with rfl|rfl<;>simp)).app hw.right
 |trn h=>exact(hw.left.left.app (qh4 (hw _ (by simp)) (hw _ (by simp)) (hw _ (by simp)) h)).app hw.right
theorem Mv.form {n:Nat} (hn:n<=6) (n2:2<=n) {w v:List Int} (h:Mv n w v) (hw:jU n w) {f:xc} (k:vJ n v f):vJ n w f:=by
 have hv:=h.let_ hw
 cases h with
 |@ins u v x hx=>
  have hA:vJ n (u++v) (qfs n 0 (vD []) 0)\/ ∃g,vJ n (u++v) g:=by
   obtain⟨A,a1,a2⟩:=qew _ (vD (fac n (u++v))) (Nat.le_refl (mu5 n _ (u++v).length))
   exact .inr ⟨_,A,a1,a2,rfl⟩
  obtain⟨g,hg⟩: ∃g,vJ n (u++v) g:=by
   rcases hA with h|h
   ·exact⟨_,h⟩
   exact h
  obtain rfl:=(hg.ins hn n2 hw.left hw.right hx).uniq k
  exact hg
 |@can u v x=>
  exact k.ins hn n2 hv.left hv.right (hw x (by simp))
 |@swp u v x y h=>
  exact k.jn (qkV hw.left.left hw.right (qnw hn (hw x (by simp)) (hw y (by simp)) h).symm (fun p=>qjz n _ _ p (by unfold ngs;simp[List.countP_cons];omega))) (by rw[yQ,yQ,yQ,yQ];congr 2;unfold ngs;simp[List.countP_cons];omega)
 |@trn u v l x y z h=>
  obtain⟨j,g⟩:=qnx hn (hw x (by simp)) (hw y (by simp)) (hw z (by simp)) (qh4 (hw x (by simp)) (hw y (by simp)) (hw z (by simp)) h) h
  exact k.jn (qkV hw.left.left hw.right j.symm (fun p=>qjz n _ _ p g.symm)) (by rw[yQ,yQ,yQ,yQ,g])
end Go.Av
end
section
namespace Go.Av
section
variable {n:Nat} (hn:n<=12) {N:Nat} (hN:2000<N)
include hn hN
theorem qfE {w:List Int} (W:jW n w) (n2:2<=n): ∀(K i k:Nat) (l:List SB),l.length=i->(∀s∈l,s.Ok n)->k<=i->i<=w.length->w.length<K+i->
 jT N (n:Int) w K (-(k:Int)) (yP n l) (i:Int)=some (-((k+ngs (w.drop i):Nat):Int),yP n ((w.drop i).foldl (qbi n) l))
 |0,i,k,l,hl,ho,h1,hi,hK=>by omega
 |K+1,i,k,l,hl,ho,h1,hiw,hK=>by
  have wl:=W.len
  unfold jT
  by_cases hi:i<w.length
  ·have hx:w[i]? =some w[i]:=Ya hi
   have hc:=W.let_ _ (List.getElem_mem hi)
   rw[YG hi,List.foldl_cons]
   generalize w[i]=c at*
   obtain⟨m,hm⟩: ∃m:Nat,c.natAbs=m+1:=⟨c.natAbs-1,by omega⟩
   have hm2:m+1<n:=by omega
   have q1:w64 (((m+1:Nat):Int)-1)=(m:Int):=by rw[qK (by omega) (by omega)];omega
   rw[if_pos (by omega),qz,hx]
   simp only[ZB,qaU (show-1000<c/\c<1000 by omega),hm,q1]
   unfold ngs qbi
   rw[hm,Nat.add_sub_cancel,List.countP_cons]
   by_cases pos:c>0
   ·rw[if_pos pos,qfk hN (by omega),ZB,<-SB.id_li,qbN (by omega) Ue hm2]
    simp only[ZB]
    rw[qar (by rw[xV];simp;omega) (by rw[xV];simp;omega)]
    simp only[ZB]
    rw[qP (by omega),show yP n l++[(Ue.fr m).li n]=yP n (l++[Ue.fr m])by simp[yP],if_pos (show 0<c from pos),decide_eq_true (show 0<c from pos)]
    exact qfE W n2 K (i+1) k _ (by simp[hl]) (fun s hs=>by
     rcases List.mem_append.1 hs with hs|hs
     ·exact ho s hs
     rw[List.mem_singleton.1 hs];exact(Uk n).fr hm2) (by omega) (by omega) (by omega)
   rw[if_neg pos,qhO hn hN (by omega) ho,ZB,qjR hN (by omega),ZB,qgb (by omega) hN (Uj n) hm2]
   simp only[ZB]
   rw[qar (by rw[xV];simp;omega) (by rw[xV];simp;omega)]
   simp only[ZB]
   rw[qP (by omega),qK (n:= -(k:Int)-1) (by omega) (by omega),if_neg (show¬0<c from pos),decide_eq_false (show¬0<c from pos),show-(k:Int)-1= -((k+1:Nat):Int)by omega,show yP n (l.map (SB.flip n))++[((Ud n).bk m).li n]=yP n (l.map (SB.flip n)++[(Ud n).bk m])by simp[yP]]
   have:=qfE W n2 K (i+1) (k+1) (l.map (SB.flip n)++[(Ud n).bk m]) (by simp[hl]) (fun s hs=>by
    rcases List.mem_append.1 hs with hs|hs
    ·obtain⟨u,hu,rfl⟩:=List.mem_map.1 hs
     exact(ho u hu).flip
    rw[List.mem_singleton.1 hs];exact(Uj n).bk hm2) (by omega) (by omega) (by omega)
   rw[this]
   unfold ngs
   simp only[Bool.not_false,if_true]
   congr 3
   omega
  rw[if_neg (by omega),List.drop_eq_nil_of_le (by omega)]
  rfl
end
theorem qi6 {n:Nat} (n2:2<=n) (n6:n<=6) {N:Nat} (hN:300000<N) {w:List Int} (W:jW n w) (hl:w.length<=60):
 ∃f,qX N (n:Int) w=some f/\vJ n w f/\f.Factors.length<=300/\ ∀x∈f.Factors,x.length<=300:=by
 have hw:jU n w:=W.let_
 have lok:=qbV (n:=n) (l:=fac n w) fun s hs=>(xh hw s hs).ok
 have ll:=xu n w
 rw[ll]at lok
 have hmu: ∀L:Nat->SB,mu5 n L w.length<=129600:=fun L=>by
  refine Nat.le_trans (qma w.length) ?_
  have h1:n*n<=6*6:=Nat.mul_le_mul n6 n6
  have h2:w.length*(n*n)<=60*36:=Nat.mul_le_mul hl h1
  exact Nat.mul_le_mul hl h2
 have hmu0:=hmu (vD (fac n w))
 obtain⟨A,a1,a2,a3,a4⟩:=qgG (n:=n) (m:=w.length) (by omega) (by omega) (by omega) (N:=N) (by omega) (fun L=>by have:=hmu L;omega) N 0 (vD (fac n w)) lok (Nat.zero_le _) (by omega) (fun j hj=>by omega)
 refine⟨qfs n w.length A (-((ngs w:Nat):Int)),?_,⟨A,a2,a3,rfl⟩,?_,?_⟩
 ·unfold qX
  have b0:=qfE (n:=n) (by omega) (N:=N) (by omega) W n2 N 0 0 [] rfl (fun s hs=>by cases hs) (Nat.le_refl _) (Nat.zero_le _) (by omega)
  rw[show yP n ([]:List SB)=[]from rfl,show(-((0:Nat):Int))=0 from rfl,show((0:Nat):Int)=0 from rfl,YR,Nat.zero_add]at b0
  have rF:yP n (fac n w)=jL n w.length (vD (fac n w)):=qhA (by rw[xV,ll]) fun q hq=>by
   rw[qgp (by rw[ll];exact hq)]
   unfold vD
   rw[Yy,Ya (by rw[ll];exact hq)]
   rfl
  have rF':yP n (w.foldl (qbi n) [])=jL n w.length (vD (fac n w)):=rF
  rw[if_neg (by omega),b0,ZB,rF']
  have p0:xC N (jL n w.length (vD (fac n w)))=some (jL n w.length A):=by
   unfold xC
   rw[show((0:Nat):Int)=0 from rfl]at a1
   rw[a1,ZB]
  dsimp only
  rw[p0,ZB,qO,qO,if_pos rfl,ZB]
  have hk:ngs w<=w.length:=List.countP_le_length
  have f0:=qeM (n:=n) (by omega) n2 (N:=N) (by omega) (by omega) a4 N 0 (-((ngs w:Nat):Int)) [] (Nat.zero_le _) (by omega) (by omega) (by omega) (Nat.zero_le _)
  rw[show((0:Nat):Int)=0 from rfl,YR,List.nil_append]at f0
  rw[f0,ZB]
  rfl
 ·show(List.filter _ (jL n w.length A)).length<=300
  have:=List.length_filter_le (fun x=>!decide (x=qa3 n)&&!decide (x=(Ud n).li n)) (jL n w.length A)
  rw[qO]at this
  omega
 intro x hx
 have hx:x∈(jL n w.length A).filter _:=hx
 obtain⟨q,_,rfl⟩:=List.mem_map.1 (List.mem_filter.1 hx).1
 rw[Ug]
 omega
def pmF (s:SB) (w:List Int):SB:=w.foldl (fun s c=>s.bk (c.natAbs-1)) s
theorem vY (s:SB) (u v:List Int):pmF s (u++v)=pmF (pmF s u) v:=List.foldl_append ..
theorem qee {n:Nat}: ∀{w:List Int} {s:SB},s.Ok n->jU n w->(pmF s w).Ok n
 |[],s,h,hw=>h
 |c::w,s,h,hw=>qee (w:=w) (h.bk (by have:=hw c (List.mem_cons_self ..);omega)) (fun d hd=>hw d (List.mem_cons_of_mem _ hd))
section
variable {n:Nat} (hn:n<=12) {N:Nat} (hN:2000<N)
include hn hN
theorem qji {w:List Int} (W:jW n w): ∀(K i:Nat) (s:SB),s.Ok n->i<=w.length->w.length<K+i->qV w K (s.li n) (s.rev.li n) (i:Int)=some ((pmF s (w.drop i)).li n)
 |0,i,s,hs,h,hK=>by omega
 |K+1,i,s,hs,hiw,hK=>by
  have wl:=W.len
  unfold qV qay
  by_cases hi:i<w.length
  ·have hx:w[i]? =some w[i]:=Ya hi
   have hc:=W.let_ _ (List.getElem_mem hi)
   rw[YG hi]
   unfold pmF
   rw[List.foldl_cons]
   generalize w[i]=c at*
   obtain⟨m,hm⟩: ∃m:Nat,c.natAbs=m+1:=⟨c.natAbs-1,by omega⟩
   have hm2:m+1<n:=by omega
   have q1:w64 (((m+1:Nat):Int)-1)=(m:Int):=by rw[qK (by omega) (by omega)];omega
   have q2:w64 ((m:Int)+1)=((m+1:Nat):Int):=qP (by omega)
   have g0:=hs.g_ m (by omega)
   have g1:=hs.g_ (m+1) hm2
   have r0:idx (s.rev.li n) (m:Int)=some ((s.g m:Nat):Int):=Uo (by omega)
   have r1:idx (s.rev.li n) ((m+1:Nat):Int)=some ((s.g (m+1):Nat):Int):=Uo hm2
   have ne:s.g m≠s.g (m+1):=fun e=>by have:=s.ginj e;omega
   have p0:idx (s.li n) ((s.g m:Nat):Int)=some (m:Int):=by rw[Uo g0,s.fg]
   have lset:((s.li n).set (s.g m) ((m+1:Nat):Int)).length=n:=by simp[Ug]
   have p1:idx ((s.li n).set (s.g m) ((m+1:Nat):Int)) ((s.g (m+1):Nat):Int)=some ((m+1:Nat):Int):=by
    rw[qz,Yw ne,Ul s g1,s.fg]
   have q3:w64 (((m+1:Nat):Int)-1)=(m:Int):=q1
   rw[if_pos (by omega),qz,hx]
   simp only[ZB,qaU (show-1000<c/\c<1000 by omega),hm,q1,q2,r0,r1,p0]
   rw[yT (by rw[Ug];exact g0)]
   simp only[ZB,p1,q3]
   rw[yT (by rw[lset];exact g1)]
   simp only[ZB]
   rw[yT (by rw[Ug];omega)]
   simp only[ZB]
   have e17:idx ((s.rev.li n).set m ((s.g (m+1):Nat):Int)) ((m+1:Nat):Int)=some ((s.g (m+1):Nat):Int):=by
    rw[qz,Yw (by omega),Ul s.rev hm2]
    rfl
   rw[e17]
   simp only[ZB]
   rw[yT (by simp[Ug];omega)]
   simp only[ZB]
   have e1:((s.li n).set (s.g m) ((m+1:Nat):Int)).set (s.g (m+1)) (m:Int)=(s.bk m).li n:=Uz (by simp[Ug]) fun k hk=>by
    show _=some ((tr5 m (s.f k):Nat):Int)
    by_cases a:k=s.g (m+1)
    ·subst a
     rw[List.getElem?_set_self (by rw[lset];exact g1),s.fg,qaA]
    rw[Yw (fun e=>a e.symm)]
    by_cases b:k=s.g m
    ·subst b
     rw[List.getElem?_set_self (by rw[Ug];exact g0),s.fg,qaH]
    rw[Yw (fun e=>b e.symm),Ul s hk,jY (fun e=>b (by rw[<-e,s.gf])) (fun e=>a (by rw[<-e,s.gf]))]
   have e2:((s.rev.li n).set m ((s.g (m+1):Nat):Int)).set (m+1) ((s.g m:Nat):Int)=(s.bk m).rev.li n:=Uz (by simp[Ug]) fun k hk=>by
    show _=some ((s.g (tr5 m k):Nat):Int)
    by_cases a:k=m+1
    ·subst a
     rw[List.getElem?_set_self (by simp[Ug];omega),qaA]
    rw[Yw (fun e=>a e.symm)]
    by_cases b:k=m
    ·subst b
     rw[List.getElem?_set_self (by rw[Ug];omega),qaH]
    rw[Yw (fun e=>b e.symm),Ul s.rev hk,jY b a]
    rfl
   rw[e1,e2,qP (by omega)]
   rw[show(m+1-1:Nat)=m by omega]
   exact qji W K (i+1) _ (hs.bk hm2) (by omega) (by omega)
  rw[if_neg (by omega),List.drop_eq_nil_of_le (by omega)]
  rfl
theorem qmB {w:List Int} (W:jW n w):qa0 N (n:Int) w=some ((pmF Ue w).li n):=by
 unfold qa0 vH
 have wl:=W.len
 have:=qji hn hN W N 0 Ue (Uk n) (Nat.zero_le _) (by omega)
 rw[YR,show Ue.rev=Ue from rfl,SB.id_li,show((0:Nat):Int)=0 from rfl]at this
 rw[qfk hN (by omega),ZB,ZB,this]
 rfl
end
theorem bk_bk (s:SB) (i:Nat):(s.bk i).bk i=s:=SB.ext fun k=>qbR i (s.f k)
theorem qob {i j:Nat} (h:i+1<j\/j+1<i) (s:SB):(s.bk i).bk j=(s.bk j).bk i:=SB.ext fun k=>(qfz h (s.f k)).symm
theorem qjl (s:SB) (i:Nat):((s.bk i).bk (i+1)).bk i=((s.bk (i+1)).bk i).bk (i+1):=SB.ext fun k=>qea i (s.f k)
theorem qi9 (s:SB) (x:Int):pmF s [x,-x]=s:=by
 show(s.bk (x.natAbs-1)).bk ((-x).natAbs-1)=s
 rw[Int.natAbs_neg,bk_bk]
theorem qk7 (c:Int) (k:Nat):(sg5 c*(k:Int)).natAbs=k:=by unfold sg5;split<;>omega
theorem qoe {s:SB} {x y z:Int} {l:List Int} (hx:x≠0) (hy:y≠0) (h:qbv x y z=some l):pmF s [x,y,z]=pmF s l:=by
 have key:x.natAbs=z.natAbs->(x.natAbs=y.natAbs+1\/y.natAbs=x.natAbs+1)->((s.bk (x.natAbs-1)).bk (y.natAbs-1)).bk (z.natAbs-1)=((s.bk (y.natAbs-1)).bk (x.natAbs-1)).bk (y.natAbs-1):=fun a b=>by
  rw[<-a]
  rcases b with b|b
  ·rw[show x.natAbs-1=(y.natAbs-1)+1 by omega,qjl]
  rw[show y.natAbs-1=(x.natAbs-1)+1 by omega,qjl]
 unfold qbv at h
 split at h
 ·rename_i a
  split at h
  ·obtain rfl:=Ye h
   show _=((s.bk ((sg5 z*(y.natAbs:Int)).natAbs-1)).bk (x.natAbs-1)).bk (y.natAbs-1)
   rw[qk7]
   exact key a.1 a.2
  split at h
  ·obtain rfl:=Ye h
   show _=((s.bk (y.natAbs-1)).bk (z.natAbs-1)).bk ((sg5 x*(y.natAbs:Int)).natAbs-1)
   have:=key a.1 a.2
   rw[qk7]
   rw[<-a.1]at this⊢
   show((s.bk (x.natAbs-1)).bk (y.natAbs-1)).bk (z.natAbs-1)=_
   rw[<-a.1]
   exact this
  cases h
 cases h
theorem Mv.pm {n:Nat} {w v:List Int} (h:Mv n w v) (hw:jU n w) (s:SB):pmF s w=pmF s v:=by
 cases h with
 |@ins u v x hx=>rw[vY,vY,vY,qi9]
 |@can u v x=>rw[vY,vY,vY,qi9]
 |@swp u v x y h=>
  have hx:=hw x (by simp)
  have hy:=hw y (by simp)
  rw[vY,vY,vY,vY]
  congr 1
  show((pmF s u).bk _).bk _=((pmF s u).bk _).bk _
  refine qob ?_ _
  unfold qj5 at h
  simp only[Bool.or_eq_true,Nat.ble_eq]at h
  omega
 |@trn u v l x y z h=>
  rw[vY,vY,vY,vY,qoe (hw x (by simp)).1 (hw y (by simp)).1 h]
end Go.Av
end
section
namespace Go.Av
theorem qli {x y z:Int} (bx: -1000<x/\x<1000) (by_: -1000<y/\y<1000) (bz: -1000<z/\z<1000):xN x y z=some (match qbv x y z with|none=>([],false)|some l=>(l,true)):=by
 unfold xN
 simp only[vT bx,vT by_,vT bz,qdU,ZB]
 have w1:w64 (((x.natAbs:Nat):Int)-((y.natAbs:Nat):Int))=((x.natAbs:Nat):Int)-((y.natAbs:Nat):Int):=qK (by omega) (by omega)
 rw[w1,vT (c:=((x.natAbs:Nat):Int)-((y.natAbs:Nat):Int)) (by omega)]
 have w2: ∀c d:Int,-1000<d/\d<1000->w64 ((if c<0 then(-1:Int)else 1)*((d.natAbs:Nat):Int))=sg5 c*((d.natAbs:Nat):Int):=fun c d hd=>by
  unfold sg5
  rw[qK]<;>split<;>omega
 rw[w2 z y by_,w2 x y by_]
 simp only[ZB]
 have s1:((if x<0 then(-1:Int)else 1)=if y<0 then-1 else 1)↔sg5 x=sg5 y:=Iff.rfl
 have s2:((if y<0 then(-1:Int)else 1)=if z<0 then-1 else 1)↔sg5 y=sg5 z:=Iff.rfl
 by_cases a:x.natAbs=z.natAbs
 ·have a':((x.natAbs:Nat):Int)=((z.natAbs:Nat):Int):=by rw[a]
  rw[decide_eq_true a',if_neg (by decide),ZB]
  by_cases b:x.natAbs=y.natAbs+1\/y.natAbs=x.natAbs+1
  ·have b':(((((x.natAbs:Nat):Int)-((y.natAbs:Nat):Int)).natAbs:Nat):Int)=1:=by omega
   rw[decide_eq_true b',if_neg (by decide)]
   by_cases c:sg5 x=sg5 y
   ·have t:qbv x y z=some [sg5 z*(y.natAbs:Int),x,y]:=by unfold qbv;rw[if_pos ⟨a,b⟩,if_pos c]
    rw[t,if_pos (s1.2 c)]
   rw[if_neg (fun e=>c (s1.1 e))]
   by_cases d:sg5 y=sg5 z
   ·have t:qbv x y z=some [y,z,sg5 x*(y.natAbs:Int)]:=by unfold qbv;rw[if_pos ⟨a,b⟩,if_neg c,if_pos d]
    rw[t,if_pos (s2.2 d)]
   have t:qbv x y z=none:=by unfold qbv;rw[if_pos ⟨a,b⟩,if_neg c,if_neg d]
   rw[t,if_neg (fun e=>d (s2.1 e))]
  have b': ¬(((((x.natAbs:Nat):Int)-((y.natAbs:Nat):Int)).natAbs:Nat):Int)=1:=by omega
  have t:qbv x y z=none:=by unfold qbv;rw[if_neg (fun e=>b e.2)]
  rw[decide_eq_false b',if_pos (by decide),t]
 have a': ¬((x.natAbs:Nat):Int)=((z.natAbs:Nat):Int):=by omega
 have t:qbv x y z=none:=by unfold qbv;rw[if_neg (fun e=>a e.1)]
 rw[decide_eq_false a',if_pos (by decide),ZB,if_pos rfl,t]
theorem qkU {w:List Int} {i:Nat} {x y:Int} (hx:w[i]? =some x) (hy:w[i+1]? =some y):w=w.take i++[x,y]++w.drop (i+2):=by
 obtain⟨h1,e1⟩:=Yb.1 hx
 obtain⟨h2,e2⟩:=Yb.1 hy
 conv=>lhs;rw[<-YS i w,YG h1,YG h2,e1,e2]
 simp
theorem qof {w:List Int} {i:Nat} {x y z:Int} (hx:w[i]? =some x) (hy:w[i+1]? =some y) (hz:w[i+2]? =some z):w=w.take i++[x,y,z]++w.drop (i+3):=by
 obtain⟨h1,e1⟩:=Yb.1 hx
 obtain⟨h2,e2⟩:=Yb.1 hy
 obtain⟨h3,e3⟩:=Yb.1 hz
 conv=>lhs;rw[<-YS i w,YG h1,YG h2,YG h3,e1,e2,e3]
 simp
section
variable {n:Nat} (h1:1<=n) (h2:n<=12) {w:List Int} (hw:w.length<=400) (hv:jU n w)
include h1 h2 hw hv
theorem qoa {A L:Int} {w':List Int} (h:za n w ⟨[105,110,115,101,114,116],A,L⟩=some (w',0)):Mv n w w':=by
 unfold za jA at h
 simp only[beq_self_eq_true,if_true,ZB,Bool.not_true,ZF,if_false,letter_eq (n:=(n:Int)) (by omega) (by omega),show¬((0:Int)<0)by omega,show¬((0:Int)>0)by omega]at h
 cases hL:yh n L with
 |false=>
  simp only[hL,Bool.not_false,if_true,ZB]at h
  cases h
 |true=>
  simp only[hL,Bool.not_true,ZF,if_false]at h
  have hl:=j6.1 hL
  rcases qaE A w.length 0 (by omega) (by omega)with⟨a,_⟩|⟨a,b⟩|⟨a,b,i,rfl,hi⟩
  ·simp only[if_pos a,ZB,if_true]at h
   cases h
  ·have b:decide (A>w64 ((w.length:Int)-0))=true:=decide_eq_true b
   simp only[if_neg a,ZB,b,if_true]at h
   cases h
  have b:decide ((i:Int)>w64 ((w.length:Int)-0))=false:=decide_eq_false b
  have z:w64 ((i:Int)+0)=(i:Int):=by rw[qK (by omega) (by omega)];omega
  have wL:w64 (0-L)= -L:=by rw[qK (by omega) (by omega)];omega
  simp only[if_neg a,ZB,b,ZF,if_false,z,wL]at h
  rw[xA (by omega),xZ (by omega)]at h
  simp only[ZB]at h
  rw[y8 (by simp;omega)]at h
  simp only[ZB]at h
  rw[y8 (by simp;omega)]at h
  simp only[ZB,ZI,ZP,and_true]at h
  subst h
  have:=Mv.ins (n:=n) (u:=w.take i) (v:=w.drop i) (x:=L) hl
  rw[YS]at this
  exact this
theorem qn0 {A L:Int} {w':List Int} (h:za n w ⟨[99,97,110,99,101,108],A,L⟩=some (w',0)):Mv n w w':=by
 have f1:([99,97,110,99,101,108]==([105,110,115,101,114,116]:Str))=false:=by decide
 unfold za jA at h
 simp only[f1,beq_self_eq_true,if_true,ZB,Bool.not_true,Bool.not_false,ZF,if_false,show¬((2:Int)<0)by omega,show((2:Int)>0)by omega,show¬((2:Int)=0)by omega]at h
 by_cases hL:L=0
 ·subst hL
  simp only[decide_true,Bool.not_true,ZF,if_false,ZB]at h
  rcases qaE A w.length 2 (by omega) (by omega)with⟨a,_⟩|⟨a,b⟩|⟨a,b,i,rfl,hi⟩
  ·simp only[if_pos a,ZB,if_true]at h
   cases h
  ·have b:decide (A>w64 ((w.length:Int)-2))=true:=decide_eq_true b
   simp only[if_neg a,ZB,b,if_true]at h
   cases h
  have b:decide ((i:Int)>w64 ((w.length:Int)-2))=false:=decide_eq_false b
  have z:w64 ((i:Int)+2)=((i+2:Nat):Int):=by rw[qK (by omega) (by omega)];rfl
  have z1:w64 ((i:Int)+1)=((i+1:Nat):Int):=qP (by omega)
  simp only[if_neg a,ZB,b,ZF,if_false,z,z1]at h
  obtain⟨x,hx⟩: ∃x,w[i]? =some x:=⟨_,Ya (by omega)⟩
  obtain⟨y,hy⟩: ∃x,w[i+1]? =some x:=⟨_,Ya (by omega)⟩
  rw[xA (by omega),xZ (by omega),qz,hx,qz,hy]at h
  simp only[ZB]at h
  have ly:=hv y (Yn hy)
  have wy:w64 (0-y)= -y:=by rw[qK (by omega) (by omega)];omega
  rw[wy]at h
  by_cases e:x= -y
  ·rw[decide_eq_true e]at h
   simp only[Bool.not_true,ZF,if_false,ZB]at h
   rw[y8 (by simp;omega)]at h
   simp only[ZB]at h
   rw[y8 (by simp;omega)]at h
   simp only[ZB,ZI,ZP,and_true]at h
   subst h
   have s:=qkU hx hy
   have ey:y= -x:=by omega
   have:=Mv.can (n:=n) (u:=w.take i) (v:=w.drop (i+2)) (x:=x)
   rw[<-ey,<-s]at this
   rw[List.append_nil]
   exact this
  rw[decide_eq_false e]at h
  simp only[Bool.not_false,if_true,ZB]at h
  cases h
 have d:decide (L=0)=false:=decide_eq_false hL
 simp only[d,Bool.not_false,if_true,ZB]at h
 cases h
theorem qnD {A L:Int} {w':List Int} (h:za n w ⟨[115,119,97,112],A,L⟩=some (w',0)):Mv n w w':=by
 have f2:([115,119,97,112]==([105,110,115,101,114,116]:Str))=false:=by decide
 have f3:([115,119,97,112]==([99,97,110,99,101,108]:Str))=false:=by decide
 unfold za jA at h
 simp only[f2,f3,beq_self_eq_true,if_true,ZB,Bool.not_true,Bool.not_false,ZF,if_false,show¬((2:Int)<0)by omega,show((2:Int)>0)by omega,show¬((2:Int)=0)by omega]at h
 by_cases hL:L=0
 ·subst hL
  simp only[decide_true,Bool.not_true,ZF,if_false,ZB]at h
  rcases qaE A w.length 2 (by omega) (by omega)with⟨a,_⟩|⟨a,b⟩|⟨a,b,i,rfl,hi⟩
  ·simp only[if_pos a,ZB,if_true]at h
   cases h
  ·have b:decide (A>w64 ((w.length:Int)-2))=true:=decide_eq_true b
   simp only[if_neg a,ZB,b,if_true]at h
   cases h
  have b:decide ((i:Int)>w64 ((w.length:Int)-2))=false:=decide_eq_false b
  have z:w64 ((i:Int)+2)=((i+2:Nat):Int):=by rw[qK (by omega) (by omega)];rfl
  have z1:w64 ((i:Int)+1)=((i+1:Nat):Int):=qP (by omega)
  simp only[if_neg a,ZB,b,ZF,if_false,z,z1]at h
  obtain⟨x,hx⟩: ∃x,w[i]? =some x:=⟨_,Ya (by omega)⟩
  obtain⟨y,hy⟩: ∃x,w[i+1]? =some x:=⟨_,Ya (by omega)⟩
  have lx:=hv x (Yn hx)
  have ly:=hv y (Yn hy)
  have w1:w64 (((x.natAbs:Nat):Int)-((y.natAbs:Nat):Int))=((x.natAbs:Nat):Int)-((y.natAbs:Nat):Int):=qK (by omega) (by omega)
  rw[xA (by omega),xZ (by omega),qz,hx,qz,hy]at h
  simp only[ZB,vT (show-1000<x/\x<1000 by omega),vT (show-1000<y/\y<1000 by omega),w1,vT (c:=((x.natAbs:Nat):Int)-((y.natAbs:Nat):Int)) (by omega)]at h
  by_cases e:(((((x.natAbs:Nat):Int)-((y.natAbs:Nat):Int)).natAbs:Nat):Int)<2
  ·rw[if_pos e]at h
   simp only[ZB]at h
   cases h
  rw[if_neg e]at h
  simp only[ZB]at h
  rw[y8 (by simp;omega)]at h
  simp only[ZB]at h
  rw[y8 (by simp;omega)]at h
  simp only[ZB,ZI,ZP,and_true]at h
  subst h
  have s:=qkU hx hy
  have fr:qj5 x y=true:=by
   unfold qj5
   simp only[Bool.or_eq_true,Nat.ble_eq]
   omega
  have:=Mv.swp (n:=n) (u:=w.take i) (v:=w.drop (i+2)) fr
  rw[<-s]at this
  exact this
 have d:decide (L=0)=false:=decide_eq_false hL
 simp only[d,Bool.not_false,if_true,ZB]at h
 cases h
theorem qnz {A L:Int} {w':List Int} (h:za n w ⟨[116,117,114,110],A,L⟩=some (w',0)):Mv n w w':=by
 have f4:([116,117,114,110]==([105,110,115,101,114,116]:Str))=false:=by decide
 have f5:([116,117,114,110]==([99,97,110,99,101,108]:Str))=false:=by decide
 have f6:([116,117,114,110]==([115,119,97,112]:Str))=false:=by decide
 unfold za jA at h
 simp only[f4,f5,f6,beq_self_eq_true,if_true,ZB,Bool.not_true,Bool.not_false,ZF,if_false,show¬((3:Int)<0)by omega,show((3:Int)>0)by omega,show¬((3:Int)=0)by omega]at h
 by_cases hL:L=0
 ·subst hL
  simp only[decide_true,Bool.not_true,ZF,if_false,ZB]at h
  rcases qaE A w.length 3 (by omega) (by omega)with⟨a,_⟩|⟨a,b⟩|⟨a,b,i,rfl,hi⟩
  ·simp only[if_pos a,ZB,if_true]at h
   cases h
  ·have b:decide (A>w64 ((w.length:Int)-3))=true:=decide_eq_true b
   simp only[if_neg a,ZB,b,if_true]at h
   cases h
  have b:decide ((i:Int)>w64 ((w.length:Int)-3))=false:=decide_eq_false b
  have z:w64 ((i:Int)+3)=((i+3:Nat):Int):=by rw[qK (by omega) (by omega)];rfl
  have z1:w64 ((i:Int)+1)=((i+1:Nat):Int):=qP (by omega)
  have z2:w64 ((i:Int)+2)=((i+2:Nat):Int):=by rw[qK (by omega) (by omega)];rfl
  simp only[if_neg a,ZB,b,ZF,if_false,z,z1,z2]at h
  obtain⟨x,hx⟩: ∃x,w[i]? =some x:=⟨_,Ya (by omega)⟩
  obtain⟨y,hy⟩: ∃x,w[i+1]? =some x:=⟨_,Ya (by omega)⟩
  obtain⟨c,hc⟩: ∃x,w[i+2]? =some x:=⟨_,Ya (by omega)⟩
  have lx:=hv x (Yn hx)
  have ly:=hv y (Yn hy)
  have lc:=hv c (Yn hc)
  rw[xA (by omega),xZ (by omega),qz,hx,qz,hy,qz,hc]at h
  simp only[ZB]at h
  rw[qli (by omega) (by omega) (by omega)]at h
  cases e:qbv x y c with
  |none=>
   rw[e]at h
   simp only[ZB,Bool.not_false,if_true]at h
   cases h
  |some l=>
   have ll:l.length<=3:=by
    unfold qbv at e
    split at e
    ·split at e
     ·obtain rfl:=Ye e;simp
     split at e
     ·obtain rfl:=Ye e;simp
     cases e
    cases e
   rw[e]at h
   simp only[ZB,Bool.not_true,ZF,if_false]at h
   rw[y8 (by simp;omega)]at h
   simp only[ZB]at h
   rw[y8 (by simp;omega)]at h
   simp only[ZB,ZI,ZP,and_true]at h
   subst h
   have s:=qof hx hy hc
   have:=Mv.trn (n:=n) (u:=w.take i) (v:=w.drop (i+3)) e
   rw[<-s]at this
   exact this
 have d:decide (L=0)=false:=decide_eq_false hL
 simp only[d,Bool.not_false,if_true,ZB]at h
 cases h
theorem do_mv {m:zw} {w':List Int} (h:za n w m=some (w',0)):Mv n w w':=by
 obtain⟨K,A,L⟩:=m
 by_cases k1:K=[105,110,115,101,114,116]
 ·subst k1;exact qoa h1 h2 hw hv h
 by_cases k2:K=[99,97,110,99,101,108]
 ·subst k2;exact qn0 h1 h2 hw hv h
 by_cases k3:K=[115,119,97,112]
 ·subst k3;exact qnD h1 h2 hw hv h
 by_cases k4:K=[116,117,114,110]
 ·subst k4;exact qnz h1 h2 hw hv h
 have e1:(K==([105,110,115,101,114,116]:Str))=false:=beq_false_of_ne k1
 have e2:(K==([99,97,110,99,101,108]:Str))=false:=beq_false_of_ne k2
 have e3:(K==([115,119,97,112]:Str))=false:=beq_false_of_ne k3
 have e4:(K==([116,117,114,110]:Str))=false:=beq_false_of_ne k4
 unfold za jA at h
 simp only[e1,e2,e3,e4,ZF,if_false,ZB,show((-1:Int)<0)by omega,if_true]at h
 cases h
end
inductive Mvs (n:Nat):List Int->List Int->Prop
 |refl {w:List Int}:Mvs n w w
 |head {w v u:List Int} (h:Mv n w v) (t:Mvs n v u):Mvs n w u
theorem Mv.len {n:Nat} {w v:List Int} (h:Mv n w v):v.length<=w.length+2:=by
 cases h with
 |ins hx=>simp;omega
 |can=>simp;omega
 |swp h=>simp
 |@trn u v l x y z h=>
  have ll:l.length=3:=by
   unfold qbv at h
   split at h
   ·split at h
    ·obtain rfl:=Ye h;simp
    split at h
    ·obtain rfl:=Ye h;simp
    cases h
   cases h
  simp[ll]
  omega
theorem Mvs.let_ {n:Nat} {w v:List Int} (h:Mvs n w v) (hw:jU n w):jU n v:=by
 induction h with
 |refl=>exact hw
 |head h _ ih=>exact ih (h.let_ hw)
theorem Mvs.pm {n:Nat} {w v:List Int} (h:Mvs n w v) (hw:jU n w) (s:SB):pmF s w=pmF s v:=by
 induction h with
 |refl=>rfl
 |head h _ ih=>rw[h.pm hw,ih (h.let_ hw)]
theorem Mvs.form {n:Nat} (hn:n<=6) (n2:2<=n) {w v:List Int} (h:Mvs n w v) (hw:jU n w) {f:xc} (k:vJ n v f):vJ n w f:=by
 induction h with
 |refl=>exact k
 |head h _ ih=>exact h.form hn n2 hw (ih (h.let_ hw) k)
theorem qlV {N:Nat} (hN:2000<N) {n:Nat} (h1:1<=n) (h2:n<=12) {w:List Int} (hw:w.length<=400) (hv:jU n w) (m:zw): ∃r,zJ N (n:Int) w m=some r/\za (n:Int) w m=some r/\qf6 (n:Int) w r:=
 qjD hN (by omega) (by omega) hw (fun c hc=>j6.2 (hv c hc)) m
theorem qhm {n:Nat} (h1:1<=n) (h2:n<=12) {l:List zw} (hl:l.length<=30): ∀(K i:Nat) (w w':List Int),w.length<=220+2*i->jU n w->i<=l.length->kr (n:Int) l K w 0 (i:Int)=some (w',0)->Mvs n w w'
 |0,i,w,w',hw,hv,hi,h=>by cases h
 |K+1,i,w,w',hw,hv,hi,h=>by
  unfold kr at h
  by_cases c:i<l.length
  ·rw[if_pos (by omega),qz,Ya c]at h
   simp only[ZB,decide_true,if_true]at h
   obtain⟨r,_,r2,r3⟩:=qlV (N:=2001) (by omega) h1 h2 (w:=w) (by omega) hv l[i]
   rw[r2]at h
   simp only[ZB]at h
   rw[qP (by omega)]at h
   obtain⟨v,e⟩:=r
   by_cases e0:e=0
   ·subst e0
    have mv:=do_mv h1 h2 (by omega) hv r2
    exact .head mv (qhm h1 h2 hl K (i+1) v w' (by have:=mv.len;omega) (mv.let_ hv) (by omega) h)
   exfalso
   cases K with
   |zero=>cases h
   |succ K=>
    unfold kr at h
    dsimp only at h
    rw[decide_eq_false e0]at h
    have e9: ∀(b:Prop) [Decidable b],(if b then some false else some false:Option Bool)=some false:=fun b _=>by split<;>rfl
    rw[e9]at h
    simp only[ZB,ZF,if_false,ZI,ZP]at h
    exact e0 h.2
  rw[if_neg (by omega)]at h
  simp only[ZB,ZF,if_false,ZI,ZP,and_true]at h
  subst h
  exact .refl
theorem qj7 {N:Nat} {n:Nat} (h1:1<=n) (h2:n<=12) {l:List zw} (hl:l.length<=30) {w w':List Int} (hw:w.length<=220) (hv:jU n w) (h:y7 N (n:Int) w l=some (w',0)):Mvs n w w':=by
 unfold y7 at h
 rw[if_neg (by omega)]at h
 cases e:kr (n:Int) l N w 0 0 with
 |none=>rw[e]at h;cases h
 |some r=>
  obtain⟨a,b⟩:=r
  rw[e]at h
  simp only[ZB,ZI,ZP]at h
  obtain⟨rfl,rfl⟩:=h
  exact qhm h1 h2 hl N 0 w a (by omega) hv (Nat.zero_le _) e
end Go.Av
end
section
namespace Go.Av
def NoX (u v:SB):Prop:= ∀a b,a<b->u.g b<u.g a->v.f a<v.f b
theorem qhi {j a b:Nat} (h:a<b):tr5 j a<tr5 j b\/(a=j/\b=j+1):=by
 rcases vo j a with⟨e,f⟩|⟨e,f⟩|⟨e,e',f⟩<;>rcases vo j b with⟨g,k⟩|⟨g,k⟩|⟨g,g',k⟩<;>rw[f,k]<;>omega
theorem NoX.psh {u v:SB} {j:Nat} (h:NoX u v) (hb:v.Begs j):NoX (u.bk j) (v.fr j):=fun a b hab hc=>by
 have hc:u.g (tr5 j b)<u.g (tr5 j a):=hc
 show v.f (tr5 j a)<v.f (tr5 j b)
 rcases qhi (j:=j) hab with e|⟨rfl,rfl⟩
 ·exact h _ _ e hc
 rw[qaH,qaA]
 exact hb
theorem qlw {n:Nat} (n1:1<=n) (n12:n<=12) {u v:SB} (hu:u.Ok n) (hv:v.Ok n) (fu:u.Fix n) (fv:v.Fix n) (h:NoX u v):Jn n [u,v] [u.comp v,Ue]:=by
 have ho: ∀s∈[u,v],s.Ok n:=fun s hs=>by
  rcases List.mem_cons.1 hs with rfl|hs
  ·exact hu
  rw[List.mem_singleton.1 hs];exact hv
 have hf: ∀s∈[u,v],s.Fix n:=fun s hs=>by
  rcases List.mem_cons.1 hs with rfl|hs
  ·exact fu
  rw[List.mem_singleton.1 hs];exact fv
 have key: ∀{L A:Nat->SB},Pst n 2 L A->OkM n 2 L->NoX (L 0) (L 1)->NoX (A 0) (A 1)/\(A 0).comp (A 1)=(L 0).comp (L 1)/\OkM n 2 A:=by
  intro L A p
  induction p with
  |refl=>exact fun a b=>⟨b,rfl,a⟩
  |head h _ ih=>
   cases h with
   |@mk k i h=>
    intro a b
    have hk:=h.k_
    obtain rfl:k=0:=by omega
    obtain⟨c,d,e⟩:=ih (a.psh hk h.i_) (by rw[jR,zz];exact b.psh h.b_)
    refine⟨c,d.trans ?_,e⟩
    rw[jR,zz]
    refine SB.ext fun k=>?_
    show(_:SB).f (tr5 i (tr5 i _))=_
    rw[qbR]
    rfl
 obtain⟨A,a1,a2⟩:=qew _ (vD [u,v]) (Nat.le_refl (mu5 n _ 2))
 obtain⟨b1,b2,b3⟩:=key a1 (qbV ho) h
 have z: ∀j,j+1<n-> ¬(A 1).Begs j:=fun j hj hb=>a2 0 j ⟨by omega,hj,hb,fun he=>by
  have h1:=b1 j (j+1) (by omega) he
  have h2:(A 1).f (j+1)<(A 1).f j:=hb
  omega⟩
 have fA:=a1.fix (qff hf)
 have e1:A 1=Ue:=by
  refine qgV (fA 1) (Ut n) ?_
  have:=(qiT n12 n1 (b3 1 (by omega))).1 z
  rw[<-SB.id_li]at this
  apply List.ext_getElem?
  intro k
  by_cases hk:k<n
  ·rw[Uh _ hk,Uh _ hk,SB.li_inj this hk]
  rw[Yg (by rw[Ui];omega),Yg (by rw[Ui];omega)]
 have e0:A 0=u.comp v:=by
  rw[e1]at b2
  exact b2
 refine⟨rfl,ho,fun s hs=>?_,A,a1,?_⟩
 ·rcases List.mem_cons.1 hs with rfl|hs
  ·exact hu.comp hv
  rw[List.mem_singleton.1 hs];exact Uk n
 have:A=vD [u.comp v,Ue]:=by
  funext q
  by_cases h0:q=0
  ·subst h0;exact e0
  by_cases h1:q=1
  ·subst h1;exact e1
  rw[a1.beyond q (by omega),qbn (by simp;omega),qbn (by simp;omega)]
 rw[this]
 exact .refl
theorem qmP {n i:Nat} (n12:n<=12) (hi:i+1<n) {s:SB} (hs:s.Ok n) (fs:s.Fix n) (hb:s.Begs i):Jn n [Ue.fr i,s.fr i] [s,Ue]:=by
 have h:NoX (Ue.fr i) (s.fr i):=fun a b hab hc=>by
  have hc:tr5 i b<tr5 i a:=hc
  show s.f (tr5 i a)<s.f (tr5 i b)
  rcases qhi (j:=i) hab with e|⟨rfl,rfl⟩
  ·omega
  rw[qaH,qaA];exact hb
 have j:=qlw (by omega) n12 ((Uk n).fr hi) (hs.fr hi) ((Ut n).fr hi) (fs.fr hi) h
 have e:(Ue.fr i).comp (s.fr i)=s:=SB.ext fun k=>by
  show s.f (tr5 i (tr5 i k))=s.f k
  rw[qbR]
 rw[e]at j
 exact j
def PosW (w:List Int):Prop:= ∀c∈w,0<c
theorem qgP {n:Nat}: ∀{w:List Int},PosW w-> ∀p,flW n w p=p
 |[],h,p=>rfl
 |c::w,h,p=>by
  unfold flW
  rw[List.foldl_cons,if_pos (h c (List.mem_cons_self ..))]
  exact qgP (w:=w) (fun d hd=>h d (List.mem_cons_of_mem _ hd)) p
theorem WdB.pos {n:Nat} {s:SB} {W:List Int} (h:WdB n s W):PosW W/\jU n W:=by
 induction h with
 |nil h=>exact⟨fun c hc=>(by cases hc),fun c hc=>(by cases hc)⟩
 |@cons s i W hi hb hm h ih=>
  refine⟨fun c hc=>?_,fun c hc=>?_⟩
  ·rcases List.mem_cons.1 hc with rfl|hc
   ·omega
   exact ih.1 c hc
  rcases List.mem_cons.1 hc with rfl|hc
  ·omega
  exact ih.2 c hc
def xx (k:Nat):List SB:=List.replicate k Ue
theorem qdT {n k:Nat}: ∀s∈xx k,s.Ok n:=fun s hs=>by rw[(List.mem_replicate.1 hs).2];exact Uk n
theorem qnq {n:Nat} (n1:1<=n) (n12:n<=12) {s:SB} {W:List Int} (h:WdB n s W):s.Ok n->s.Fix n->Jn n (fac n W++[Ue]) (s::xx W.length):=by
 induction h with
 |@nil s h=>
  intro hs fs
  have e:s=Ue:=by
   refine qgV fs (Ut n) ?_
   have:=(qiT n12 n1 hs).1 h
   rw[<-SB.id_li]at this
   apply List.ext_getElem?
   intro k
   by_cases hk:k<n
   ·rw[Uh _ hk,Uh _ hk,SB.li_inj this hk]
   rw[Yg (by rw[Ui];omega),Yg (by rw[Ui];omega)]
  subst e
  exact .refl (qbd hs)
 |@cons s i W hi hb hm h ih=>
  intro hs fs
  have j:=ih (hs.fr hi) (fs.fr hi)
  have e:fac n (((i+1:Nat):Int)::W)=Ue.fr i::fac n W:=by
   have:=qaw n [((i+1:Nat):Int)] W
   rw[qgP h.pos.1]at this
   have e1:fac n [((i+1:Nat):Int)]=[Ue.fr i]:=by
    show qbi n [] ((i+1:Nat):Int)=_
    unfold qbi
    rw[if_pos (by omega),Int.natAbs_natCast,Nat.add_sub_cancel]
    rfl
   rw[e1]at this
   exact this
  rw[e]
  have a:Jn n ([Ue.fr i]++(fac n W++[Ue])) ([Ue.fr i]++(s.fr i::xx W.length)):=(Jn.refl (qbd ((Uk n).fr hi))).app j
  have b:Jn n ([Ue.fr i,s.fr i]++xx W.length) ([s,Ue]++xx W.length):=(qmP n12 hi hs fs hb).app (.refl qdT)
  exact a.trans b
section
variable {n:Nat} (hn:n<=6)
include hn
theorem qlY: ∀(k:Nat) {l:List SB},(∀s∈l,Gd n s)->Jn n (xx k++l) (l++xx k)
 |0,l,h=>by
  have e:l++xx 0=l:=List.append_nil l
  rw[e]
  exact qcA h
 |k+1,l,h=>by
  have a:Jn n ([Ue]++(xx k++l)) ([Ue]++(l++xx k)):=(Jn.refl (qbd (Uk n))).app (qlY k h)
  have b:Jn n ((Ue::l)++xx k) ((l++[Ue])++xx k):=(qjL hn h).app (.refl qdT)
  have c:=a.trans b
  rw[Yz]at c
  exact c
theorem qjo {W w:List Int} (n2:2<=n) (h:WdB n (Ud n) W) (hw:jU n w):Jn n (fac n (W++w)++[Ue]) (Ud n::(fac n w++xx W.length)):=by
 have j:=qnq (by omega) (by omega) h (Uj n) (Uu n)
 have j1:=qgS w j
 rw[qb4,qbQ (qcT n),show Ud n::xx W.length=[Ud n]++xx W.length from rfl,qb4,qbQ (qcQ n)]at j1
 have ei: ∀k,flW n w (xx k)=xx k:=by
  intro k
  induction k with
  |zero=>
   have: ∀w:List Int,flW n w []=[]:=by
    intro w
    induction w with
    |nil=>rfl
    |cons c w ih=>
     unfold flW at ih⊢
     rw[List.foldl_cons]
     split
     ·exact ih
     exact ih
   exact this w
  |succ k ih=>
   rw[show xx (k+1)=[Ue]++xx k from rfl,qb4,qbQ (qcT n),ih]
 rw[ei]at j1
 have a:Jn n ((flW n w (fac n W)++[Ue])++fac n w) ((flW n w (fac n W)++fac n w)++[Ue]):=by
  have:=(qcA (qgI w (xh h.pos.2))).app (qjL hn (xh hw))
  simpa using this
 have b:=j1.app (qcA (xh hw))
 have c:Jn n (([Ud n]++xx W.length)++fac n w) (Ud n::(fac n w++xx W.length)):=by
  have:=(Jn.refl (qbd (Uj n))).app (qlY hn W.length (xh hw))
  simpa using this
 rw[qaw]
 exact a.symm.trans (b.trans c)
theorem qhz {W w:List Int} (n2:2<=n) (h:WdB n (Ud n) W) (hw:jU n w):Jn n (fac n (w++W)++[Ue]) (Ud n::((fac n w).map (SB.flip n)++xx W.length)):=by
 have j:=qnq (by omega) (by omega) h (Uj n) (Uu n)
 rw[qaw,qgP h.pos.1,Yz]
 have a:=(qcA (xh hw)).app j
 have hg: ∀s∈(fac n w).map (SB.flip n),Gd n s:=fun s hs=>by
  obtain⟨u,hu,rfl⟩:=List.mem_map.1 hs
  exact(xh hw u hu).flip
 have b:=(qg1 hn hg).app (.refl (n:=n) (qdT (k:=W.length)))
 have e:((fac n w).map (SB.flip n)).map (SB.flip n)=fac n w:=by
  rw[List.map_map]
  conv=>rhs;rw[<-List.map_id (fac n w)]
  congr 1
  funext s
  exact qdw n s
 rw[e]at b
 have c:Jn n (fac n w++(Ud n::xx W.length)) (Ud n::((fac n w).map (SB.flip n)++xx W.length)):=by simpa using b
 exact a.trans c
end
theorem qjx {n:Nat} {l:List SB} {A:Nat->SB} (a:Pst n l.length (vD l) A) (nA:Nf n l.length A): ∃B,Pst n (l.length+1) (vD (l++[Ue])) B/\Nf n (l.length+1) B/\jL n (l.length+1) B=jL n l.length A++[Ue.li n]:=by
 refine⟨jnL l.length A (vD [Ue]),?_,fun k i c=>?_,?_⟩
 ·rw[qcz]
  exact a.suf (m:=1)
 ·obtain⟨k1,k2,k3,k4⟩:=c
  by_cases h:k+1<l.length
  ·rw[xy h]at k3
   rw[xy (by omega)]at k4
   exact nA k i ⟨h,k2,k3,k4⟩
  have h2:k+1=l.length+0:=by omega
  rw[h2,qai]at k3
  exact qjV i k3
 apply List.ext_getElem?
 intro q
 by_cases h:q<l.length
 ·rw[jP (by omega),Yf (by rw[qO];exact h),jP h,xy h]
 by_cases h2:q=l.length
 ·subst h2
  rw[jP (by omega),Yo (by rw[qO];omega),qO]
  have:jnL l.length A (vD [Ue]) (l.length+0)=vD [Ue] 0:=qai
  rw[Nat.add_zero]at this
  rw[this]
  simp
  rfl
 rw[Yg (by rw[qO];omega),Yg (by simp[qO];omega)]
theorem vJ.jn1 {n:Nat} {w v:List Int} {f:xc} (h:vJ n w f) (j:Jn n (fac n w++[Ue]) (fac n v++[Ue])) (hg:ngs w=ngs v):vJ n v f:=by
 obtain⟨A,a1,a2,a3⟩:=h
 obtain⟨C,c1,c2⟩:=qew _ (vD (fac n v)) (Nat.le_refl (mu5 n _ v.length))
 have hl:w.length=v.length:=by have:=j.len;simp[xu]at this;exact this
 have lw:=xu n w
 have lv:=xu n v
 obtain⟨B,b1,b2,b3⟩:=qjx (l:=fac n w) (A:=A) (by rw[lw];exact a1) (by rw[lw];exact a2)
 obtain⟨D,d1,d2,d3⟩:=qjx (l:=fac n v) (A:=C) (by rw[lv];exact c1) (by rw[lv];exact c2)
 have b1':=j.nf (A:=B) (by rw[Yq];exact b1) (by rw[Yq];exact b2)
 have l1:(fac n v++[Ue]).length=(fac n v).length+1:=by simp
 rw[l1]at b1'
 rw[lw,hl,<-lv]at b2
 obtain rfl:=qcU _ (Nat.le_refl _) d1 b1' d2 b2
 have e:jL n v.length C=jL n w.length A:=by
  rw[lw,hl]at b3
  rw[lv,b3]at d3
  have:=List.append_cancel_right d3
  rw[hl]
  exact this.symm
 refine⟨C,c1,c2,?_⟩
 rw[a3]
 unfold qfs
 rw[e,hg]
end Go.Av
end
section
namespace Go.Av
def CInv (p:List Int) (from_:Nat) (S:List Bool) (at_:Nat):Prop:= ∀y:Nat,(S[y]? =some true\/y=at_)->y≠from_-> ∃z:Nat,S[z]? =some true/\p[z]? =some ((y:Nat):Int)
def qnn (p:List Int) (S:List Bool):Prop:= ∀y:Nat,S[y]? =some true-> ∃z:Nat,S[z]? =some true/\p[z]? =some ((y:Nat):Int)
def cntF (S:List Bool):Nat:=S.countP (fun b=>!b)
theorem qhI {S:List Bool} {i:Nat} (h:S[i]? =some false):cntF (S.set i true)+1=cntF S:=by
 obtain⟨hi,e⟩:=Yb.1 h
 unfold cntF
 have hp:0<S.countP (fun b=>!b):=List.countP_pos_iff.2 ⟨S[i],List.getElem_mem hi,by rw[e];rfl⟩
 rw[List.countP_set hi,e]
 simp
 omega
def nxP (p:List Int) (x:Nat):Nat:=((p[x]?).getD 0).toNat
def itP (p:List Int) (x:Nat):Nat->Nat
 |0=>x
 |k+1=>nxP p (itP p x k)
theorem qfP {p:List Int} (hp:IsP p) {x:Nat} (hx:x<p.length):p[x]? =some ((nxP p x:Nat):Int)/\nxP p x<p.length:=by
 obtain⟨v,v1,v2⟩:=hp.at_ x hx
 have e:nxP p x=v:=by
  unfold nxP
  rw[v2]
  simp
 rw[e]
 exact⟨v2,v1⟩
theorem qbY {p:List Int} (hp:IsP p) {x:Nat} (hx:x<p.length): ∀k,itP p x k<p.length
 |0=>hx
 |k+1=>(qfP hp (qbY hp hx k)).2
theorem qgZ (p:List Int) (x a:Nat): ∀b,itP p x (a+b)=itP p (itP p x a) b
 |0=>rfl
 |b+1=>by
  show nxP p (itP p x (a+b))=nxP p (itP p (itP p x a) b)
  rw[qgZ p x a b]
theorem qg3 {p:List Int} (hp:IsP p) {x y:Nat} (hx:x<p.length) (hy:y<p.length) (h:nxP p x=nxP p y):x=y:=
 hp.inj x y _ (qfP hp hx).1 (by rw[h];exact(qfP hp hy).1)
theorem qjS {p:List Int} (hp:IsP p) {x y:Nat} (hx:x<p.length) (hy:y<p.length): ∀k,itP p x k=itP p y k->x=y
 |0,h=>h
 |k+1,h=>qjS hp hx hy k (qg3 hp (qbY hp hx k) (qbY hp hy k) h)
def qeF (p c:List Int):Prop:= ∃s:Nat,0<c.length/\c.length<=p.length/\s<p.length/\(∀j,j<c.length->c[j]? =some ((itP p s j:Nat):Int))/\itP p s c.length=s/\ ∀j,0<j->j<c.length->itP p s j≠s
theorem qnp {p:List Int} (hp:IsP p) (fr:Nat) (hfr0:fr<p.length): ∀(c:Nat) (S:List Bool) (l:List Int) (o:Option (List Int)) (at_ K1:Nat),((o=none/\l=[])\/o=some l)->cntF S=c->c<=K1->S.length=p.length->at_<p.length->S[at_]? =some false->CInv p fr S at_->(S[fr]? =some true\/at_=fr)->l.length+c<=p.length->at_=itP p fr l.length->(∀j,j<l.length->l[j]? =some ((itP p fr j:Nat):Int))->(∀j,0<j->j<=l.length->itP p fr j≠fr)->
 ∃(S':List Bool) (rest:List Int),zh (fr:Int) p K1 S o (at_:Int)=some (S',l++rest)/\S'.length=p.length/\qnn p S'/\qeF p (l++rest)/\(∀y:Nat,S'[y]? =some true↔(S[y]? =some true\/(y:Int)∈rest))/\(∀y:Nat,(y:Int)∈rest->S[y]? =some false)/\rest.Nodup/\S'[fr]? =some true/\rest.length+cntF S'=c
 |0,S,l,o,at_,K1,ho,hc,h1,hl,ha,hf,hi,hfr,hb,hat,hel,hne=>by
  have:=qhI hf
  omega
 |c+1,S,l,o,at_,K1,ho,hc,h1,hl,ha,hf,hi,hfr,hb,hat,hel,hne=>by
  obtain⟨K1,rfl⟩: ∃K,K1=K+1:=⟨K1-1,by omega⟩
  have hcs:=qhI hf
  have hfew:=hp.few
  obtain⟨x,hx,ex⟩:=hp.at_ at_ ha
  have enx:nxP p at_=x:=by
   have:=(qfP hp ha).1
   rw[ex]at this
   have:=Ye this
   omega
  have eit:itP p fr (l.length+1)=x:=by
   show nxP p (itP p fr l.length)=x
   rw[<-hat,enx]
  have r2:vZ S o (at_:Int)=some (S.set at_ true,l++[(at_:Int)]):=by
   unfold vZ
   rw[qz,hf,ZB,yT (by omega),ZB]
   rcases ho with⟨rfl,rfl⟩|rfl
   ·rfl
   simp only
   rw[qar (by simp only[Yr,List.length_nil];omega) (by simp only[Yr,List.length_nil];omega)]
   rfl
  have hl':(S.set at_ true).length=p.length:=by simpa using hl
  have atT:(S.set at_ true)[at_]? =some true:=by rw[List.getElem?_set_self (by omega)]
  have cov: ∀y:Nat,(S.set at_ true)[y]? =some true↔(S[y]? =some true\/y=at_):=fun y=>by
   by_cases e:y=at_
   ·subst e
    exact⟨fun _=> .inr rfl,fun _=>atT⟩
   rw[Yw (fun h=>e h.symm)]
   exact⟨fun h=> .inl h,fun h=>h.elim id (fun h=>absurd h e)⟩
  have frT:(S.set at_ true)[fr]? =some true:=by
   rcases hfr with h|h
   ·exact(cov fr).2 (.inl h)
   exact(cov fr).2 (.inr h.symm)
  have nth: ∀rest:List Int,rest[0]? =some (at_:Int)->(l++rest)[l.length]? =some (at_:Int):=fun rest h=>by
   rw[Yo (by omega),Nat.sub_self,h]
  unfold zh
  rw[r2,ZB]
  simp only
  rw[qz,ex,ZB]
  by_cases e:x=fr
  ·rw[if_pos (by omega)]
   have hlen:(l++[(at_:Int)]).length=l.length+1:=by simp
   refine⟨S.set at_ true,[(at_:Int)],rfl,hl',?_,⟨fr,by omega,by omega,hfr0,?_,by rw[hlen,eit,e],?_⟩,?_,?_,by simp,frT,?_⟩
   ·intro y hy
    by_cases c2:y=fr
    ·subst c2
     exact⟨at_,atT,by rw[ex,e]⟩
    obtain⟨z,z1,z2⟩:=hi y ((cov y).1 hy) c2
    exact⟨z,(cov z).2 (.inl z1),z2⟩
   ·intro j hj
    by_cases c2:j<l.length
    ·rw[Yf c2,hel j c2]
    have:j=l.length:=by omega
    subst this
    rw[nth _ rfl,<-hat]
   ·intro j j0 hj
    exact hne j j0 (by omega)
   ·intro y
    rw[cov y,List.mem_singleton]
    exact⟨fun h=>h.elim .inl (fun h=> .inr (by rw[h])),fun h=>h.elim .inl (fun h=> .inr (by omega))⟩
   ·intro y hy
    have:y=at_:=by
     have:=List.mem_singleton.1 hy
     omega
    rw[this]
    exact hf
   rw[List.length_singleton]
   omega
  rw[if_neg (by omega)]
  have hxF:(S.set at_ true)[x]? =some false:=by
   have hxl:x<(S.set at_ true).length:=by omega
   have h0:(S.set at_ true)[x]? =some (S.set at_ true)[x]:=Ya hxl
   cases hb2:(S.set at_ true)[x]with
   |false=>rw[h0,hb2]
   |true=>
    exfalso
    rw[hb2]at h0
    obtain⟨z,z1,z2⟩:=hi x ((cov x).1 h0) e
    have:=hp.inj z at_ _ z2 ex
    subst this
    rw[hf]at z1
    cases z1
  have hlen:(l++[(at_:Int)]).length=l.length+1:=by simp
  obtain⟨S',rest,g1,g3,g4,g5,g6,g7,g8,g9,g10⟩:=qnp hp fr hfr0 c (S.set at_ true) (l++[(at_:Int)]) (some (l++[(at_:Int)])) x K1 (.inr rfl) (by omega) (by omega) hl' hx hxF (fun y hy hne=>by
   rcases hy with hy|hy
   ·obtain⟨z,z1,z2⟩:=hi y ((cov y).1 hy) hne
    exact⟨z,(cov z).2 (.inl z1),z2⟩
   ·subst hy
    exact⟨at_,atT,ex⟩) (.inl frT) (by omega) (by rw[hlen,eit]) (fun j hj=>by
   by_cases c2:j<l.length
   ·rw[Yf c2,hel j c2]
   ·have:j=l.length:=by omega
    subst this
    rw[nth _ rfl,<-hat]) (fun j j0 hj=>by
   by_cases c2:j<=l.length
   ·exact hne j j0 c2
   have:j=l.length+1:=by omega
   subst this
   rw[eit]
   exact e)
  have ass:(l++[(at_:Int)])++rest=l++((at_:Int)::rest):=by simp
  rw[ass]at g1 g5
  have fresh:(at_:Int)∉rest:=fun h=>by
   have:=g7 at_ h
   rw[atT]at this
   cases this
  refine⟨S',(at_:Int)::rest,g1,g3,g4,g5,fun y=>?_,fun y hy=>?_,List.nodup_cons.2 ⟨fresh,g8⟩,g9,by rw[Yr];omega⟩
  ·rw[g6 y,cov y,List.mem_cons]
   constructor
   ·rintro((h|h)|h)
    ·exact .inl h
    ·exact .inr (.inl (by rw[h]))
    exact .inr (.inr h)
   rintro(h|h|h)
   ·exact .inl (.inl h)
   ·exact .inl (.inr (by omega))
   exact .inr h
  rcases List.mem_cons.1 hy with h|h
  ·have:y=at_:=by omega
   rw[this]
   exact hf
  have:=g7 y h
  by_cases e2:y=at_
  ·rw[e2]
   exact hf
  rw[Yw (fun h=>e2 h.symm)]at this
  exact this
theorem qmd {N:Nat} (hN:2000<N) {p:List Int} (hp:IsP p): ∀(K i:Nat) (S:List Bool) (out:List (List Int)),i<=p.length->p.length<K+i->S.length=p.length->qnn p S->out.length<=i->(∀y,y<i->S[y]? =some true)->(∀c∈out,qeF p c)->(∀y:Nat,S[y]? =some true↔(y:Int)∈out.flatten)->out.flatten.Nodup->out.flatten.length+cntF S=p.length->
 ∃r,zG N p K out S (i:Int)=some r/\r.length<=p.length/\(∀c∈r,qeF p c)/\r.flatten.Nodup/\(∀y:Nat,y<p.length->(y:Int)∈r.flatten)/\r.flatten.length=p.length
 |0,i,S,out,h,hK,hl,hc,ho,hlo,hm,hcov,hnd,hct=>by omega
 |K+1,i,S,out,h,hK,hl,hc,ho,hlo,hm,hcov,hnd,hct=>by
  have hfew:=hp.few
  unfold zG
  by_cases hi:i<p.length
  ·have hs:S[i]? =some S[i]:=Ya (by omega)
   rw[if_pos (by omega),qz,hs,ZB]
   cases hb:S[i]with
   |true=>
    rw[hb]at hs
    rw[if_pos rfl,ZB]
    simp only
    rw[qP (by omega)]
    exact qmd hN hp K (i+1) S out (by omega) (by omega) hl hc (by omega) (fun y hy=>by
     by_cases c:y=i
     ·subst c
      exact hs
     exact hlo y (by omega)) hm hcov hnd hct
   |false=>
    rw[hb]at hs
    have hcl:cntF S<=S.length:=List.countP_le_length
    obtain⟨S1,cy,e1,e3,e4,e5,e6,e7,e8,e9,e10⟩:=qnp hp i hi (cntF S) S [] none i N (.inl ⟨rfl,rfl⟩) rfl (by omega) hl hi hs (fun y hy hne=>by
     rcases hy with hy|hy
     ·exact hc y hy
     exact absurd hy hne) (.inr rfl) (by simp;omega) rfl (fun j hj=>by simp at hj) (fun j j0 hj=>by simp at hj;omega)
    rw[List.nil_append]at e1 e5
    have e0:xG p (i:Int)=some ():=rfl
    have e11:vE N S (i:Int) p=some (S1,cy):=by
     unfold vE
     rw[e1,ZB]
    rw[if_neg (by decide),e0,ZB,e11,ZB]
    simp only
    rw[qar (by simp only[Yr,List.length_nil];omega) (by simp only[Yr,List.length_nil];omega)]
    simp only[ZB]
    rw[qP (by omega)]
    have hfl:(out++[cy]).flatten=out.flatten++cy:=by simp
    refine qmd hN hp K (i+1) S1 (out++[cy]) (by omega) (by omega) e3 e4 (by simp;omega) (fun y hy=>by
     by_cases c:y=i
     ·subst c
      exact e9
     ·exact(e6 y).2 (.inl (hlo y (by omega)))) (fun c hc=>by
     rcases List.mem_append.1 hc with c|c
     ·exact hm _ c
     obtain rfl:=List.mem_singleton.1 c
     exact e5) (fun y=>by rw[hfl,List.mem_append,e6 y,hcov y]) ?_ ?_
    ·rw[hfl,List.nodup_append]
     refine⟨hnd,e8,fun a ha b hb hab=>?_⟩
     subst hab
     obtain⟨s,c0,c1,c2,c3,_⟩:=e5
     obtain⟨j,hj⟩:=List.mem_iff_getElem?.1 hb
     have hjl:=(Yb.1 hj).1
     have:=c3 j hjl
     rw[hj]at this
     have:=Ye this
     subst this
     have h1:=(hcov _).2 ha
     rw[e7 _ hb]at h1
     cases h1
    rw[hfl,Yq]
    omega
  rw[if_neg (by omega)]
  have hin:i=p.length:=by omega
  have hz:cntF S=0:=by
   unfold cntF
   rw[List.countP_eq_zero]
   intro b hb
   obtain⟨j,hj⟩:=List.mem_iff_getElem?.1 hb
   have hjl:=(Yb.1 hj).1
   have:=hlo j (by omega)
   rw[hj]at this
   obtain rfl:=Ye this
   simp
  exact⟨out,rfl,by omega,hm,hnd,fun y hy=>(hcov y).1 (hlo y (by omega)),by omega⟩
theorem qfF {N:Nat} (hN:2000<N) {p:List Int} (hp:IsP p): ∃r,j5 N p=some r/\r.length<=p.length/\(∀c∈r,qeF p c)/\r.flatten.Nodup/\(∀y:Nat,y<p.length->(y:Int)∈r.flatten)/\r.flatten.length=p.length:=by
 have hfew:=hp.few
 have hmk:mk 1 (p.length:Int) false=some (List.replicate p.length false):=by
  unfold mk
  rw[if_pos (by omega)]
  simp
 obtain⟨r,g1,g2⟩:=qmd hN hp N 0 (List.replicate p.length false) [] (by omega) (by omega) (by simp) (fun y hy=>by
  rw[List.getElem?_replicate]at hy
  split at hy<;>cases hy) (by simp) (fun y hy=>by omega) (fun l h=>by cases h) (fun y=>by
  rw[List.getElem?_replicate]
  constructor
  ·intro hy
   split at hy<;>cases hy
  intro hy
  simp at hy) (by simp) (by simp[cntF,List.countP_replicate])
 rw[show((0:Nat):Int)=0 from rfl]at g1
 refine⟨r,?_,g2⟩
 unfold j5
 rw[hmk,ZB,g1,ZB]
theorem qcm {α β:Type} {f:α->β}: ∀l:List α,(∀a∈l,∀b∈l,f a=f b->a=b)->l.Nodup->(l.map f).Nodup
 |[],_,_=>by simp
 |a::l,h,hn=>by
  rw[List.nodup_cons]at hn
  rw[List.map_cons,List.nodup_cons]
  refine⟨fun hm=>?_,qcm l (fun x hx y hy=>h x (List.mem_cons_of_mem _ hx) y (List.mem_cons_of_mem _ hy)) hn.2⟩
  obtain⟨b,hb,e⟩:=List.mem_map.1 hm
  have:=h b (List.mem_cons_of_mem _ hb) a (List.mem_cons_self ..) e
  subst this
  exact hn.1 hb
theorem qmR {b:List Int} (hb:IsP b): ∀y,y<b.length-> ∃x,x<b.length/\nxP b x=y:=by
 obtain⟨r,_,_,h2,h3,h4,_⟩:=qfF (N:=2001) (by decide) hb
 intro y hy
 obtain⟨c,c1,c2⟩:=List.mem_flatten.1 (h4 y hy)
 obtain⟨s,d0,d1,d2,d3,d4,d5⟩:=h2 c c1
 obtain⟨j,hj⟩:=List.mem_iff_getElem?.1 c2
 have hjl:=(Yb.1 hj).1
 have e:=d3 j hjl
 rw[hj]at e
 have e:=Ye e
 have e:y=itP b s j:=by omega
 subst e
 by_cases z:j=0
 ·subst z
  refine⟨itP b s (c.length-1),qbY hb d2 _,?_⟩
  have:itP b s (c.length-1+1)=s:=by rw[show c.length-1+1=c.length by omega,d4]
  exact this
 refine⟨itP b s (j-1),qbY hb d2 _,?_⟩
 show itP b s (j-1+1)=itP b s j
 rw[show j-1+1=j by omega]
def qho (p:List Int) (L x:Nat):Bool:=decide (itP p x L=x)&&(List.range L).all fun j=>decide (j=0)||!decide (itP p x j=x)
theorem qfj {p:List Int} {L x:Nat}:qho p L x=true↔itP p x L=x/\ ∀j,0<j->j<L->itP p x j≠x:=by
 unfold qho
 rw[Bool.and_eq_true,decide_eq_true_iff,Yp]
 constructor
 ·rintro⟨h1,h2⟩
  refine⟨h1,fun j j0 hj=>?_⟩
  have:=h2 j (List.mem_range.2 hj)
  rw[Bool.or_eq_true,decide_eq_true_iff,Bool.not_eq_true',decide_eq_false_iff_not]at this
  rcases this with h|h
  ·omega
  exact h
 rintro⟨h1,h2⟩
 refine⟨h1,fun j hj=>?_⟩
 rw[Bool.or_eq_true,decide_eq_true_iff,Bool.not_eq_true',decide_eq_false_iff_not]
 by_cases z:j=0
 ·exact .inl z
 exact .inr (h2 j (by omega) (List.mem_range.1 hj))
theorem qdI {p:List Int} (hp:IsP p) {s:Nat} (hs:s<p.length) (j m:Nat):itP p (itP p s j) m=itP p s j↔itP p s m=s:=by
 rw[<-qgZ,Nat.add_comm,qgZ]
 exact⟨fun h=>qjS hp (qbY hp hs m) hs j h,fun h=>by rw[h]⟩
theorem qmH {p c:List Int} (hp:IsP p) {L:Nat} (hL:0<L) (hc:qeF p c): ∀z∈c,qho p L z.toNat=decide (c.length=L):=by
 obtain⟨s,c0,c1,c2,c3,c4,c5⟩:=hc
 intro z hz
 obtain⟨j,hj⟩:=List.mem_iff_getElem?.1 hz
 have hjl:=(Yb.1 hj).1
 have e:=c3 j hjl
 rw[hj]at e
 have e:=Ye e
 subst e
 rw[Int.toNat_natCast,Bool.eq_iff_iff,qfj,decide_eq_true_iff]
 constructor
 ·rintro⟨h1,h2⟩
  rw[qdI hp c2]at h1
  rcases Nat.lt_trichotomy L c.length with g|g|g
  ·exact absurd h1 (c5 L hL g)
  ·exact g.symm
  exact absurd ((qdI hp c2 j c.length).2 c4) (h2 c.length c0 g)
 intro h
 subst h
 refine⟨(qdI hp c2 j _).2 c4,fun i i0 hi h=>c5 i i0 hi ((qdI hp c2 j i).1 h)⟩
theorem qdA {p:List Int} (hp:IsP p) {L:Nat} (hL:0<L): ∀ls:List (List Int),(∀c∈ls,qeF p c)->ls.flatten.countP (fun z=>qho p L z.toNat)=L*(ls.map List.length).count L
 |[],_=>by simp
 |c::ls,h=>by
  have hc:=qmH hp hL (h c (List.mem_cons_self ..))
  rw[List.flatten_cons,List.countP_append,qdA hp hL ls (fun d hd=>h d (List.mem_cons_of_mem _ hd)),List.map_cons,List.count_cons]
  by_cases g:c.length=L
  ·have:c.countP (fun z=>qho p L z.toNat)=c.length:=List.countP_eq_length.2 (fun z hz=>by rw[hc z hz];simp[g])
   rw[this,g,if_pos (by simp),Nat.mul_add,Nat.mul_one]
   omega
  have:c.countP (fun z=>qho p L z.toNat)=0:=List.countP_eq_zero.2 (fun z hz=>by rw[hc z hz];simp[g])
  rw[this,if_neg (by simpa using g),Nat.add_zero,Nat.zero_add]
theorem qgu {p:List Int} {r:List (List Int)} (hc: ∀c∈r,qeF p c) (hp:IsP p) (hn:r.flatten.Nodup) (ha: ∀y:Nat,y<p.length->(y:Int)∈r.flatten):r.flatten.Perm ((List.range p.length).map fun k:Nat=>(k:Int)):=by
 refine(List.perm_ext_iff_of_nodup hn ?_).2 fun z=>?_
 ·exact qcm _ (fun a _ b _ h=>by omega) List.nodup_range
 constructor
 ·intro hz
  obtain⟨c,h1,h2⟩:=List.mem_flatten.1 hz
  obtain⟨s,c0,c1,c2,c3,c4,c5⟩:=hc c h1
  obtain⟨j,hj⟩:=List.mem_iff_getElem?.1 h2
  have hjl:=(Yb.1 hj).1
  have e:=c3 j hjl
  rw[hj]at e
  have e:=Ye e
  subst e
  exact List.mem_map.2 ⟨_,List.mem_range.2 (qbY hp c2 j),rfl⟩
 intro hz
 obtain⟨k,hk,rfl⟩:=List.mem_map.1 hz
 exact ha k (List.mem_range.1 hk)
theorem qeL {p q b:List Int} (hr: ∀x,x<p.length->nxP q (nxP b x)=nxP b (nxP p x)) (hp:IsP p) {x:Nat} (hx:x<p.length): ∀m,itP q (nxP b x) m=nxP b (itP p x m)
 |0=>rfl
 |m+1=>by
  show nxP q (itP q (nxP b x) m)=nxP b (nxP p (itP p x m))
  rw[qeL hr hp hx m,hr _ (qbY hp hx m)]
theorem qgO {p q b:List Int} (hp:IsP p) (hq:IsP q) (hb:IsP b) (hl:b.length=p.length) (hl2:q.length=p.length) (hr: ∀x,x<p.length->nxP q (nxP b x)=nxP b (nxP p x)) {r r':List (List Int)}
 (h1: ∀c∈r,qeF p c) (h2:r.flatten.Nodup) (h3: ∀y:Nat,y<p.length->(y:Int)∈r.flatten) (k1: ∀c∈r',qeF q c) (k2:r'.flatten.Nodup) (k3: ∀y:Nat,y<q.length->(y:Int)∈r'.flatten):(r.map List.length).Perm (r'.map List.length):=by
 rw[List.perm_iff_count]
 intro L
 by_cases hL:L=0
 ·subst hL
  rw[List.count_eq_zero.2 (fun h=>by
   obtain⟨c,c1,c2⟩:=List.mem_map.1 h
   obtain⟨s,c0,_⟩:=h1 c c1
   omega),List.count_eq_zero.2 (fun h=>by
   obtain⟨c,c1,c2⟩:=List.mem_map.1 h
   obtain⟨s,c0,_⟩:=k1 c c1
   omega)]
 have hL:0<L:=by omega
 have e1:=qdA hp hL r h1
 have e2:=qdA hq hL r' k1
 rw[(qgu h1 hp h2 h3).countP_eq,List.countP_map]at e1
 rw[(qgu k1 hq k2 k3).countP_eq,List.countP_map,hl2]at e2
 have ep:((List.range p.length).map fun x=>nxP b x).Perm (List.range p.length):=by
  refine(List.perm_ext_iff_of_nodup ?_ List.nodup_range).2 fun z=>?_
  ·exact qcm _ (fun x hx y hy h=>qg3 hb (by rw[hl];exact List.mem_range.1 hx) (by rw[hl];exact List.mem_range.1 hy) h) List.nodup_range
  rw[List.mem_map,List.mem_range]
  constructor
  ·rintro⟨x,hx,rfl⟩
   have:=(qfP hb (show x<b.length by rw[hl];exact List.mem_range.1 hx)).2
   omega
  intro hz
  obtain⟨x,hx,e⟩:=qmR hb z (by omega)
  exact⟨x,List.mem_range.2 (by omega),e⟩
 rw[<-ep.countP_eq,List.countP_map]at e2
 have e3:(List.range p.length).countP (((fun z:Int=>qho q L z.toNat)∘fun k:Nat=>(k:Int))∘fun x=>nxP b x)=(List.range p.length).countP ((fun z:Int=>qho p L z.toNat)∘fun k:Nat=>(k:Int)):=by
  refine List.countP_congr fun x hx=>?_
  have hx:=List.mem_range.1 hx
  simp only[Function.comp,Int.toNat_natCast]
  rw[qfj,qfj,qeL hr hp hx L]
  have inj: ∀m,nxP b (itP p x m)=nxP b x↔itP p x m=x:=fun m=>⟨fun h=>qg3 hb (by rw[hl];exact qbY hp hx m) (by rw[hl];exact hx) h,fun h=>by rw[h]⟩
  constructor
  ·rintro⟨a,c⟩
   exact⟨(inj L).1 a,fun j j0 hj h=>c j j0 hj (by rw[qeL hr hp hx j];exact(inj j).2 h)⟩
  rintro⟨a,c⟩
  exact⟨(inj L).2 a,fun j j0 hj h=>c j j0 hj (by rw[qeL hr hp hx j]at h;exact(inj j).1 h)⟩
 rw[e3,e1]at e2
 exact Nat.eq_of_mul_eq_mul_left hL e2
end Go.Av
end
section
namespace Go.Av
theorem qjm {N:Nat} (hN:1000<N) {a:List (List Int)} (ha: ∀x∈a,x.length<=300) (hl:a.length<=300): ∀(K i:Nat),i<=a.length->a.length<K+i->zR N a a K (i:Int)=some (.inl ())
 |0,i,h,hK=>by omega
 |K+1,i,h,hK=>by
  unfold zR
  by_cases hi:i<a.length
  ·have hx:=ha _ (List.getElem_mem hi)
   rw[if_pos (by omega),qz,Ya hi,ZB,ZB,qic (by omega) (by omega),ZB,decide_eq_true rfl,if_neg (by decide),qP (by omega),qjm hN ha hl K (i+1) (by omega) (by omega)]
  rw[if_neg (by omega)]
theorem qhd {N:Nat} (hN:1000<N) {a:List (List Int)} (ha: ∀x∈a,x.length<=300) (hl:a.length<=300):vL N a a=some true:=by
 unfold vL
 have:=qjm hN ha hl N 0 (by omega) (by omega)
 rw[show((0:Nat):Int)=0 from rfl]at this
 rw[decide_eq_true rfl,if_neg (by decide),this]
 rfl
theorem qnl {N:Nat} (hN:1000<N) {a:List (List Int)} (ha: ∀x∈a,x.length<=300) (hl:a.length<=300): ∀(K i:Nat),i<=a.length->a.length<K+i->qJ N a a K (i:Int)=some (.inl ())
 |0,i,h,hK=>by omega
 |K+1,i,h,hK=>by
  unfold qJ
  by_cases hi:i<a.length
  ·have hx:=ha _ (List.getElem_mem hi)
   rw[if_pos (by omega),qz,Ya hi,ZB,ZB,qj3 (by omega) (by omega),ZB,decide_eq_true rfl,if_neg (by decide),qP (by omega),qnl hN ha hl K (i+1) (by omega) (by omega)]
  rw[if_neg (by omega)]
theorem qoi {N:Nat} (hN:1000<N) {a:List (List Int)} (ha: ∀x∈a,x.length<=300) (hl:a.length<=300):zX N a a=some true:=by
 unfold zX
 have:=qnl hN ha hl N 0 (by omega) (by omega)
 rw[show((0:Nat):Int)=0 from rfl]at this
 rw[decide_eq_true rfl,if_neg (by decide),this]
 rfl
theorem qk0 {N:Nat} (hN:1000<N) {f:xc} (h1:f.Factors.length<=300) (h2: ∀x∈f.Factors,x.length<=300):yE N f f=some true:=by
 unfold yE
 rw[if_pos rfl,qoi hN h2 h1]
 rfl
theorem qmm {p:List Int} (hp:IsP p): ∀(K i:Nat) (m:List (Int×Bool)),i<=p.length->p.length<K+i->(∀x,(qbC m x).getD false=true↔ ∃k,k<i/\p[k]? =some x)->zD p K m (i:Int)=some (.inl ())
 |0,i,m,h,hK,hm=>by omega
 |K+1,i,m,h,hK,hm=>by
  have few:=hp.few
  unfold zD
  by_cases hi:i<p.length
  ·obtain⟨v,hv,hx⟩:=hp.at_ i hi
   rw[if_pos (by omega),qz,hx]
   simp only[ZB]
   rw[if_neg (by omega),if_neg (by omega)]
   have hf:(qbC m (v:Int)).getD false=false:=by
    cases c:(qbC m (v:Int)).getD false with
    |false=>rfl
    |true=>
     obtain⟨k,k1,k2⟩:=(hm _).1 c
     have:=hp.inj k i _ k2 hx
     omega
   rw[hf,qP (by omega)]
   simp only[ZF,if_false,ZB]
   refine qmm hp K (i+1) _ (by omega) (by omega) (fun y=>?_)
   rw[ql2]
   by_cases e:y=(v:Int)
   ·rw[if_pos e]
    exact⟨fun _=>⟨i,by omega,by rw[hx,e]⟩,fun _=>rfl⟩
   rw[if_neg e,hm y]
   constructor
   ·rintro⟨k,k1,k2⟩
    exact⟨k,by omega,k2⟩
   rintro⟨k,k1,k2⟩
   refine⟨k,?_,k2⟩
   rcases Nat.lt_or_ge k i with c|c
   ·exact c
   have:k=i:=by omega
   subst this
   rw[hx]at k2
   exact absurd (Ye k2).symm e
  rw[if_neg (by omega)]
theorem qlq {N:Nat} (hN:2000<N) {p:List Int} (hp:IsP p):ve N p=some 0:=by
 have few:=hp.few
 unfold ve
 rw[if_neg (by omega),show(0:Int)=((0:Nat):Int)from rfl,qmm hp N 0 [] (by omega) (by omega) (fun x=>by
  constructor
  ·intro c;simp[qbC]at c
  rintro⟨k,k1,_⟩;omega)]
 rfl
theorem qdS {n:Nat} (hn:n<=256) {s:SB} (hs:s.Ok n):IsP (s.li n):=by
 refine⟨by rw[Ug];exact hn,fun k hk=>?_,fun k k' v h h'=>?_⟩
 ·rw[Ug]at hk⊢
  exact⟨s.f k,hs.f_ k hk,Ul s hk⟩
 have l1:=(Yb.1 h).1
 have l2:=(Yb.1 h').1
 rw[Ug]at l1 l2
 rw[Ul s l1]at h
 rw[Ul s l2]at h'
 have e:=Ye (h.trans h'.symm)
 exact s.finj (by omega)
theorem qft {N:Nat} (hN:2000<N) {n:Nat} {w:List Int} (W:jW n w) (hc:qeG (n:Int) w=0): ∃r,zY N (n:Int) w=some (r,0)/\r.length<=n/\(∀c∈r,qeF ((pmF Ue w).li n) c)/\r.flatten.Nodup/\(∀y:Nat,y<n->(y:Int)∈r.flatten)/\j5 N ((pmF Ue w).li n)=some r:=by
 have wl:=W.len
 have n2:=W.n2
 have ok:=qee (Uk n) (W.let_:jU n w)
 have ip:=qdS (n:=n) (by omega) ok
 obtain⟨r,r1,r2,r3,r4,r5,r6⟩:=qfF hN ip
 rw[Ug]at r2 r5
 refine⟨r,?_,r2,r3,r4,r5,r1⟩
 unfold zY qax
 rw[qaX hN (by omega),hc,ZB,decide_eq_true rfl,if_neg (by decide),qmB n2 hN W,ZB,qlq hN ip,ZB,decide_eq_true rfl,if_neg (by decide),r1]
 rfl
theorem qdQ: ∀(w:List Int) (s:SB) (k:Nat),(pmF s w).f k=(pmF Ue w).f (s.f k)
 |[],s,k=>rfl
 |c::w,s,k=>by
  unfold pmF
  rw[List.foldl_cons,List.foldl_cons]
  have a:=qdQ w (s.bk (c.natAbs-1)) k
  have b:=qdQ w (Ue.bk (c.natAbs-1)) (s.f k)
  unfold pmF at a b
  rw[a,b]
  rfl
theorem qg4 {n k:Nat} {s:SB} (hk:k<n):nxP (s.li n) k=s.f k:=by
 unfold nxP
 rw[Ul s hk]
 simp
theorem qkt {N:Nat} {n:Nat} (hn:n<=256) {u v:List Int} (hu:jU n u) (hv:jU n v) {r r':List (List Int)}
 (h1: ∀c∈r,qeF ((pmF Ue (u++v)).li n) c) (h2:r.flatten.Nodup) (h3: ∀y:Nat,y<n->(y:Int)∈r.flatten) (k1: ∀c∈r',qeF ((pmF Ue (v++u)).li n) c) (k2:r'.flatten.Nodup) (k3: ∀y:Nat,y<n->(y:Int)∈r'.flatten):r.length=r'.length:=by
 have o1:=qee (Uk n) (hu.app hv)
 have o2:=qee (Uk n) (hv.app hu)
 have o3:=qee (Uk n) hu
 have o4:=qee (Uk n) hv
 have:=qgO (p:=(pmF Ue (u++v)).li n) (q:=(pmF Ue (v++u)).li n) (b:=(pmF Ue u).li n) (qdS hn o1) (qdS hn o2) (qdS hn o3) (by rw[Ug,Ug]) (by rw[Ug,Ug]) (fun x hx=>by
  rw[Ug]at hx
  rw[qg4 hx,qg4 hx,qg4 (o3.f_ x hx),qg4 (o1.f_ x hx),vY,vY,qdQ u,qdQ v (pmF Ue u)]) h1 h2 (by rw[Ug];exact h3) k1 k2 (by rw[Ug];exact k3)
 have e:=this.length_eq
 rw[List.length_map,List.length_map]at e
 exact e
def exS (w:List Int):Int:=(w.length:Int)-2*(ngs w:Int)
theorem qjy (u v:List Int):exS (u++v)=exS u+exS v:=by
 unfold exS
 rw[yQ,Yq]
 omega
theorem qmg {c:Int} (h:c≠0):zS c=some (if 0<c then 1 else-1):=by
 unfold zS
 by_cases p:0<c
 ·rw[if_neg (show¬c<1 by omega),if_pos (by decide),if_pos p]
 rw[if_pos (show c<1 by omega),if_neg p]
 by_cases q:c> -1
 ·omega
 rw[if_neg q]
theorem qis {n:Nat} {w:List Int} (W:jW n w): ∀(K i:Nat) (x:Int),i<=w.length->w.length<K+i-> -(i:Int)<=x->x<=i->jd w K x (i:Int)=some (x+exS (w.drop i))
 |0,i,x,h,hK,h1,h2=>by omega
 |K+1,i,x,h,hK,h1,h2=>by
  have wl:=W.len
  unfold jd
  by_cases hi:i<w.length
  ·have hc:=W.let_ _ (List.getElem_mem hi)
   rw[if_pos (by omega),qz,Ya hi,YG hi]
   generalize w[i]=c at*
   rw[ZB,qmg hc.1,ZB,qP (by omega)]
   have e:exS (c::w.drop (i+1))=(if 0<c then 1 else-1)+exS (w.drop (i+1)):=by
    unfold exS ngs
    rw[List.countP_cons,Yr]
    by_cases p:0<c
    ·simp[p];omega
    simp[p];omega
   rw[e]
   by_cases p:0<c
   ·rw[if_pos p,qK (by omega) (by omega),qis W K (i+1) _ (by omega) (by omega) (by omega) (by omega)]
    congr 1
    omega
   rw[if_neg p,qK (by omega) (by omega),qis W K (i+1) _ (by omega) (by omega) (by omega) (by omega)]
   congr 1
   omega
  rw[if_neg (by omega),List.drop_eq_nil_of_le (by omega)]
  show some x=some (x+exS [])
  congr 1
  unfold exS ngs
  simp
theorem qjQ {N:Nat} (hN:2000<N) {n:Nat} {w:List Int} (W:jW n w) (hc:qeG (n:Int) w=0):jJ N (n:Int) w=some (exS w,0):=by
 have wl:=W.len
 unfold jJ qaa
 have:=qis W N 0 0 (Nat.zero_le _) (by omega) (by omega) (by omega)
 rw[YR,show((0:Nat):Int)=0 from rfl]at this
 rw[qaX hN (by omega),hc,ZB,decide_eq_true rfl,if_neg (by decide),this]
 simp
theorem qdn {n:Nat} {w:List Int} (W:jW n w):qeG (n:Int) w=0:=by
 have:=W.n1
 have:=W.n2
 have:=W.len
 unfold qeG
 rw[if_neg (by omega),if_neg (by omega),if_pos (Yp.2 fun c hc=>j6.2 (W.let_ c hc))]
theorem qjM {N:Nat} (hN:2000<N) {n:Nat} {a b:List Int} (A:jW n a) (B:jW n b):vM N (n:Int) a b=some 0:=by
 have:=A.len
 have:=B.len
 unfold vM
 rw[qaX hN (by omega),qaX hN (by omega),qdn A,qdn B,ZB,ZB,xY (by simp) (by simp;omega),ZB,qbb,qdB]
theorem qeg {N:Nat} (hN:2000<N) {n:Nat} {a b:List Int} (A:jW n a) (B:jW n b) (hl:a.length+b.length<=200):yD N (n:Int) a b=some (a++b,0):=by
 have:=A.len
 have:=B.len
 unfold yD
 rw[qjM hN A B,ZB,decide_eq_true rfl,if_neg (by decide),qkj hN (by omega) (by omega),ZB,qfL,if_neg (by rw[Yq];omega)]
 rfl
theorem jW.app {n:Nat} {a b:List Int} (A:jW n a) (B:jW n b) (hl:a.length+b.length<=200):jW n (a++b):=by
 refine⟨A.n1,A.n2,by rw[Yq];exact hl,?_⟩
 have h:jU n (a++b):=jU.app A.let_ B.let_
 exact h
theorem qjX {N:Nat} (hN:2000<N) {n:Nat} (n1:1<=n) (n2:n<=12) {s:SB} (hs:s.Ok n) {W:List Int} (h:WdB n s W) (hl:W.length<=1000):qab N (n:Int) (s.li n)=some (W,0):=by
 unfold qab xD
 rw[qip,if_neg (by omega),ZB,Ug,decide_eq_true rfl,xB,qlq hN (qdS (by omega) hs)]
 simp only[Bool.not_true,ZF,if_false,ZB]
 rw[xY (by simp) (by simp;omega),ZB,qbb,qdB]
 simp only[ZB]
 rw[xY (by simp) (by simp;omega),ZB,qbb,qdB,decide_eq_true rfl]
 simp only[Bool.not_true,ZF,if_false]
 rw[qmG n2 n1 hN h hl]
 rfl
end Go.Av
end
