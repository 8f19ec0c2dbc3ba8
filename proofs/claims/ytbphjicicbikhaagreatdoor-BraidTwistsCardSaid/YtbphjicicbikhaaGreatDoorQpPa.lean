/-
  Words of crossings: what the program and the reference make of them, and the law of words.
-/
import Derived.Test.YtbphjicicbikhaaGreatDoorQGenTw
import Derived.Test.YtbphjicicbikhaaGreatDoorAvPt
import Derived.KernelRfl
noncomputable section
set_option linter.unusedVariables false
set_option linter.unusedSimpArgs false
set_option maxRecDepth 100000
set_option linter.unusedSectionVars false
section
namespace Go.Av
def qbK (n c:Int):Bool:=decide (c≠0)&&decide (-n<c)&&decide (c<n)
def qiW (n:Int) (w:List Int):Int:=if n<1\/12<n then 3 else if 200<w.length then 5 else if w.all (qbK n)=true then 0 else 3
theorem letter_eq {n:Int} (h1:1<=n) (h2:n<=12) (c:Int):qbM n c=some (qbK n c):=by
 unfold qbM qbK
 have hw:w64 (0-n)= -n:=by rw[yG (by omega) (by omega)];omega
 rw[hw]
 by_cases a:c=0
 ·simp[a]
 by_cases b: -n<c
 ·simp[a,b]
 simp[a,b]
theorem ql6 {n:Int} (h1:1<=n) (h2:n<=12) (c:Int):qbm n c=some (!qbK n c):=by
 unfold qbm qbK
 have hw:w64 (0-n)= -n:=by rw[yG (by omega) (by omega)];omega
 rw[hw]
 by_cases a:c=0
 ·simp[a]
 by_cases b: -n<c
 ·rw[if_neg a,if_neg (by omega)]
  by_cases d:c<n
  ·simp[a,b,d]
  simp[a,b,d];omega
 rw[if_neg a,if_pos (by omega)]
 simp[a,b]
theorem qlh {n:Int} {w:List Int} {i:Nat} (h:i<w.length):(w.drop i).all (qbK n)=(qbK n w[i]&&(w.drop (i+1)).all (qbK n)):=by
 rw[YG h,List.all_cons]
theorem qn5 {n:Int} (h1:1<=n) (h2:n<=12) {w:List Int} (hl:w.length<=300): ∀(K i:Nat),i<=w.length->w.length<K+i->vz n w K (i:Int)=some (if(w.drop i).all (qbK n)=true then .inl ()else .inr 3)
 |0,i,h,hK=>by omega
 |K+1,i,h,hK=>by
  unfold vz
  by_cases hi:i<w.length
  ·rw[if_pos (by omega),qz,Ya hi,ZB,letter_eq h1 h2,ZB,qlh hi]
   cases c:qbK n w[i]with
   |false=>rfl
   |true=>
    rw[if_neg (by decide),kr (by omega),qn5 h1 h2 hl K (i+1) (by omega) (by omega),Bool.true_and]
  rw[if_neg (by omega),List.drop_eq_nil_of_le (by omega)]
  rfl
theorem qhM {N:Nat} (hN:2000<N) {n:Int} {w:List Int} (hl:w.length<=300):qag N n w=some (qiW n w):=by
 unfold qag qiW
 by_cases a:n<1
 ·rw[if_pos a,ZB,if_pos rfl,if_pos (.inl a)]
 by_cases b:12<n
 ·rw[if_neg a,decide_eq_true (by omega),ZB,if_pos rfl,if_pos (.inr b)]
 rw[if_neg a,decide_eq_false (by omega),ZB,if_neg (by decide),if_neg (show¬(n<1\/12<n)by omega)]
 by_cases c:200<w.length
 ·rw[if_pos (by omega),if_pos c]
 rw[if_neg (by omega),if_neg c,show(0:Int)=((0:Nat):Int)from rfl,qn5 (by omega) (by omega) hl N 0 (by omega) (by omega),YR]
 cases w.all (qbK n)<;>rfl
theorem qn8 {n:Int} (h1:1<=n) (h2:n<=12) {w:List Int} (hl:w.length<=300): ∀(K i:Nat),i<=w.length->w.length<K+i->((w.drop i).all (qbK n)=true/\qo w n K (i:Int)=some (.inl ()))\/((w.drop i).all (qbK n)=false/\ ∃j:Nat,qo w n K (i:Int)=some (.inr (j:Int)))
 |0,i,h,hK=>by omega
 |K+1,i,h,hK=>by
  unfold qo qad
  by_cases hi:i<w.length
  ·rw[if_pos (by omega),qz,Ya hi,ZB,ql6 h1 h2,ZB,ZB,qlh hi]
   cases c:qbK n w[i]with
   |false=>exact .inr ⟨rfl,i,rfl⟩
   |true=>
    rw[if_neg (by decide),kr (by omega),Bool.true_and]
    exact qn8 h1 h2 hl K (i+1) (by omega) (by omega)
  rw[if_neg (by omega),List.drop_eq_nil_of_le (by omega)]
  exact .inl ⟨rfl,rfl⟩
theorem qmO {N:Nat} (hN:10<N) (a b:Int):xK N [a,b]=some (if a=0 then b else a):=by
 obtain⟨K,rfl⟩: ∃K,N=K+1+1+1:=⟨N-3,by omega⟩
 have w1:w64 1=1:=rfl
 have w2:w64 2=2:=rfl
 have i0: ∀a b:Int,idx [a,b] 0=some a:=fun _ _=>rfl
 have i1: ∀a b:Int,idx [a,b] 1=some b:=fun _ _=>rfl
 unfold xK
 by_cases ha:a=0
 ·by_cases hb:b=0
  ·simp[jE,i0,i1,ha,hb,w1,w2]
  simp[jE,i0,i1,ha,hb,w1,w2]
 simp[jE,i0,ha]
theorem qeU (b:Bool) (e:Int):yx b e=some (if b=true then e else 0):=by
 unfold yx
 cases b<;>rfl
theorem qcr {N:Nat} (hN:2000<N) {n:Int} {w:List Int} (hl:w.length<=300):jf N n w=some (qiW n w):=by
 unfold jf jZ qiW
 by_cases a:n<1\/12<n
 ·have:(Option.bind (if n<1 then(yx true 3).bind fun r2=>some r2 else(yx (decide (n>12)) 3).bind fun r3=>some r3:Option Int) fun n4=>some n4)=some 3:=by
   by_cases b:n<1
   ·rw[if_pos b];rfl
   rw[if_neg b,decide_eq_true (by omega)];rfl
  rw[this,ZB,qeU,ZB,qmO (by omega),if_neg (by decide),ZB,if_pos (by decide),if_pos a]
 have:(Option.bind (if n<1 then(yx true 3).bind fun r2=>some r2 else(yx (decide (n>12)) 3).bind fun r3=>some r3:Option Int) fun n4=>some n4)=some 0:=by
  rw[if_neg (by omega),decide_eq_false (by omega)];rfl
 rw[this,ZB,qeU,ZB,qmO (by omega),if_pos rfl,ZB,if_neg a]
 by_cases c:200<w.length
 ·rw[decide_eq_true (show(w.length:Int)>200 by omega),if_pos rfl,if_pos (by decide),if_pos c]
 rw[decide_eq_false (show¬(w.length:Int)>200 by omega),if_neg Bool.false_ne_true,if_neg (show¬(!decide ((0:Int)=0))=true by decide),if_neg c]
 unfold vI yY
 rcases qn8 (n:=n) (by omega) (by omega) hl N 0 (by omega) (by omega)with⟨g1,g2⟩|⟨g1,j,g2⟩<;>rw[show((0:Nat):Int)=0 from rfl]at g2
 ·rw[g2,<-YR (l:=w),g1]
  rfl
 rw[g2,<-YR (l:=w),g1]
 simp only[ZB]
 rw[decide_eq_true (show(j:Int)>=0 by omega),qeU]
 rfl
structure yL (n:Nat) (w:List Int):Prop where
 n1:1<=n
 n2:n<=12
 len:w.length<=200
 let_: ∀c∈w,c≠0/\ -(n:Int)<c/\c<n
theorem qpG {n:Int} {w:List Int} (h:qiW n w=0): ∃k:Nat,n=k/\yL k w:=by
 unfold qiW at h
 split at h
 ·omega
 rename_i a
 split at h
 ·omega
 rename_i b
 split at h
 ·rename_i c
  refine⟨n.toNat,by omega,by omega,by omega,by omega,fun x hx=>?_⟩
  have:=Yp.1 c x hx
  simp only[qbK,Bool.and_eq_true,decide_eq_true_eq]at this
  omega
 omega
end Go.Av
end
section
namespace Go.Av
def yS (n:Nat):List Int:=(List.range n).map fun k:Nat=>(k:Int)
theorem qbf (n:Nat):(yS n).length=n:=by simp[yS]
theorem qgQ {n k:Nat} (h:k<n):(yS n)[k]? =some (k:Int):=by
 simp[yS,List.getElem?_map,List.getElem?_range h]
theorem qlF (n:Nat):yS (n+1)=yS n++[(n:Int)]:=by simp[yS,List.range_succ]
theorem qhw {c:Int} (h: -1000<c/\c<1000):qby c=some ((c.natAbs:Nat):Int):=by
 unfold qby
 rw[yG (by omega) (by omega)]
 by_cases a:0-c>c
 ·rw[if_pos a];congr 1;omega
 rw[if_neg a];congr 1;omega
theorem qmF {n:Nat} (hn:n<=1000) {l2:List Int} (h2:l2.length=n): ∀(K i:Nat) (l:List Int),l.length=n->i<=n->n<K+i->(∀k,k<i->l[k]? =some (k:Int))->ja l2 K l (i:Int)=some (yS n)
 |0,i,l,hl,h,hK,hk=>by omega
 |K+1,i,l,hl,h,hK,hk=>by
  unfold ja
  by_cases hi:i<n
  ·rw[if_pos (by omega),qz,Ya (by omega),ZB,qan (by omega),ZB,kr (by omega)]
   refine qmF hn h2 K (i+1) _ (by simpa using hl) (by omega) (by omega) (fun k hki=>?_)
   by_cases e:k=i
   ·subst e;rw[List.getElem?_set_self (by omega)]
   rw[Yw (fun c=>e c.symm)];exact hk k (by omega)
  rw[if_neg (by omega)]
  congr 1
  apply List.ext_getElem?
  intro k
  by_cases hkn:k<n
  ·rw[hk k (by omega),qgQ hkn]
  rw[Yg (by omega),Yg (by rw[qbf];omega)]
theorem qjQ {n:Nat} (hn:n<=1000):mk 8 (n:Int) (0:Int)=some (List.replicate n 0):=by
 unfold mk
 rw[if_pos (by omega)]
 simp
theorem qf7 {N n:Nat} (hN:2000<N) (hn:n<=1000):zK N (n:Int)=some (yS n):=by
 unfold zK
 rw[qjQ hn,ZB,show(0:Int)=((0:Nat):Int)from rfl,qmF hn (by simp) N 0 _ (by simp) (by omega) (by omega) (fun k hk=>by omega),ZB]
theorem qk4 {n:Nat} (hn:n<=1000): ∀(K i:Nat),i<=n->n<K+i->zX (n:Int) K (yS i) (i:Int)=some (yS n)
 |0,i,h,hK=>by omega
 |K+1,i,h,hK=>by
  unfold zX
  by_cases hi:i<n
  ·rw[if_pos (by omega),qdd (by rw[qbf];simp only[Yr,List.length_nil];omega) (by rw[qbf];simp only[Yr,List.length_nil];omega),ZB,kr (by omega),<-qlF]
   exact qk4 hn K (i+1) (by omega) (by omega)
  rw[if_neg (by omega),show i=n by omega]
theorem qm2 {N n:Nat} (hN:2000<N) (hn:n<=1000):qai N (n:Int)=some (yS n):=by
 unfold qai
 have:=qk4 hn N 0 (by omega) (by omega)
 rw[show yS 0=([]:List Int)from rfl]at this
 rw[show(0:Int)=((0:Nat):Int)from rfl,this,ZB]
structure PInv (n:Nat) (row p:List Int):Prop where
 rl:row.length=n
 pl:p.length=n
 at_: ∀k,k<n-> ∃v:Nat,v<n/\row[k]? =some (v:Int)/\p[v]? =some (k:Int)
 all: ∀v,v<n-> ∃k,k<n/\row[k]? =some (v:Int)
theorem PInv.back {n:Nat} {row p:List Int} (h:PInv n row p) {k v:Nat} (hk:k<n) (e:row[k]? =some (v:Int)):v<n/\p[v]? =some (k:Int):=by
 obtain⟨u,hu,e1,e2⟩:=h.at_ k hk
 rw[e]at e1
 have:v=u:=by have:=Ye e1;omega
 subst this
 exact⟨hu,e2⟩
theorem PInv.inj {n:Nat} {row p:List Int} (h:PInv n row p) {k k' v:Nat} (hk:k<n) (hk':k'<n) (e:row[k]? =some (v:Int)) (e':row[k']? =some (v:Int)):k=k':=by
 have h1:=(h.back hk e).2
 have h2:=(h.back hk' e').2
 rw[h1]at h2
 have:=Ye h2
 omega
end Go.Av
end
section
namespace Go.Av
theorem qlA (w:List Int):qbj w=some (if 200<w.length then([],5)else(w,0)):=by
 unfold qbj
 by_cases c:200<w.length
 ·rw[if_pos (by omega),if_pos c]
 rw[if_neg (by omega),if_neg c]
theorem qne {N:Nat} (hN:2000<N) {a b:List Int} (ha:a.length<=300) (hb:b.length<=300):qaj N [a,b]=some (a++b):=by
 obtain⟨K,rfl⟩: ∃K,N=K+1+1+1:=⟨N-3,by omega⟩
 have w1:w64 (0+1)=1:=rfl
 have w2:w64 (1+1)=2:=rfl
 have i0:idx [a,b] 0=some a:=rfl
 have i1:idx [a,b] 1=some b:=rfl
 have s1:w64 (0+(a.length:Int))=(a.length:Int):=by rw[yG (by omega) (by omega)];omega
 have s2:w64 ((a.length:Int)+(b.length:Int))=((a.length+b.length:Nat):Int):=by rw[yG (by omega) (by omega)];omega
 have len:(([a,b]:List (List Int)).length:Int)=2:=rfl
 have L0:qL [a,b] (K+1+1+1) 0 0=some ((a.length+b.length:Nat):Int):=by
  rw[qL,len,if_pos (by decide),i0,ZB,s1,if_neg (by omega),ZB,w1,qL,len,if_pos (by decide),i1,ZB,s2,if_neg (by omega),ZB,w2,qL,len,if_neg (by decide)]
 have G: ∀m:Nat,m<=600-> ∃o:Option (List Int),xP (m:Int)=some o/\((m=0/\o=none)\/o=some []):=by
  intro m hm
  unfold xP
  rw[if_neg (by omega),ZB]
  have e:w64 ((m:Int)-w64 (0-0))=(m:Int):=by
   rw[show w64 (0-0)=0 from rfl,yG (by omega) (by omega)]
   omega
  rw[e]
  by_cases h:(m:Int)>0
  ·rw[if_pos h,show cut ([]:List Int) 0 0=some []from rfl,ZB]
   have z:qln 8 (m:Int) (0:Int)=some (List.replicate m 0):=by
    unfold qln
    rw[if_pos (by omega)]
    simp
   have hct:cut (List.replicate m (0:Int)) 0 0=some []:=by
    have:=qpv (l:=List.replicate m (0:Int)) (k:=0) (Nat.zero_le _)
    rw[List.take_zero]at this
    exact this
   rw[z,ZB,hct,ZB,ZB]
   exact⟨some [],rfl,.inr rfl⟩
  rw[if_neg h]
  exact⟨none,rfl,.inl ⟨by omega,rfl⟩⟩
 unfold qaj
 rw[L0,ZB]
 obtain⟨o,g1,g2⟩:=G (a.length+b.length) (by omega)
 rw[g1,ZB]
 rcases g2 with⟨h0,rfl⟩|rfl
 ·have ea:a=[]:=YL.1 (by omega)
  have eb:b=[]:=YL.1 (by omega)
  subst ea eb
  rw[ql,len,if_pos (by decide),i0,ZB]
  simp only[ZB]
  rw[w1,ql,len,if_pos (by decide),i1,ZB]
  simp only[ZB]
  rw[w2,ql,len,if_neg (by decide)]
  rfl
 rw[ql,len,if_pos (by decide),i0,ZB]
 simp only
 rw[qdd (by simp;omega) (by simp;omega)]
 simp only[ZB,List.nil_append]
 rw[w1,ql,len,if_pos (by decide),i1,ZB]
 simp only
 rw[qdd (by omega) (by omega)]
 simp only[ZB]
 rw[w2,ql,len,if_neg (by decide)]
 rfl
end Go.Av
end
section
namespace Go.Av
def qkT (l:List Int):Int:=(l.find? fun x=>!decide (x=0)).getD 0
theorem qkV {l:List Int} (hl:l.length<=100): ∀(K i:Nat),i<=l.length->l.length<K+i->jE l K (i:Int)=some (match(l.drop i).find? (fun x=>!decide (x=0))with|some x=> .inr x|none=> .inl ())
 |0,i,h,hK=>by omega
 |K+1,i,h,hK=>by
  unfold jE
  by_cases hi:i<l.length
  ·rw[if_pos (by omega),qz,Ya hi,ZB,YG hi,List.find?_cons]
   by_cases c:l[i]=0
   ·rw[if_neg (by simp[c]),kr (by omega),qkV hl K (i+1) (by omega) (by omega)]
    simp[c]
   rw[if_pos (by simp[c])]
   simp[c]
  rw[if_neg (by omega),List.drop_eq_nil_of_le (by omega)]
  rfl
theorem qgC {N:Nat} {l:List Int} (hl:l.length<=100) (hN:l.length<N):xK N l=some (qkT l):=by
 unfold xK qkT
 have:=qkV hl N 0 (by omega) (by omega)
 rw[YR,show((0:Nat):Int)=0 from rfl]at this
 rw[this]
 cases l.find? (fun x=>!decide (x=0))<;>rfl
theorem qlT (l:List Int):qkT (0::l)=qkT l:=by simp[qkT]
theorem qqT {x:Int} (h:x≠0) (l:List Int):qkT (x::l)=x:=by simp[qkT,h]
theorem qlD (x:Int):qkT [x]=x:=by
 by_cases h:x=0
 ·subst h;rfl
 exact qqT h []
theorem qnh {n c:Int}:qbK n c=true↔c≠0/\ -n<c/\c<n:=by
 unfold qbK
 simp only[Bool.and_eq_true,decide_eq_true_eq]
 constructor
 ·rintro⟨⟨a,b⟩,c⟩
  exact⟨a,b,c⟩
 rintro⟨a,b,c⟩
 exact⟨⟨a,b⟩,c⟩
def MvOK (n:Int) (w:List Int) (r:List Int×Int):Prop:=(r.2≠0->r.1=[])/\(r.2=0->r.1.length<=w.length+2/\ ∀c∈r.1,qbK n c=true)
theorem MvOK.bad {n:Int} {w:List Int} {e:Int} (h:e≠0):MvOK n w ([],e):=⟨fun _=>rfl,fun g=>absurd g h⟩
section
end
end Go.Av
end
section
namespace Go.Av
def tr5 (i k:Nat):Nat:=if k=i then i+1 else if k=i+1 then i else k
theorem qda (i k:Nat):tr5 i (tr5 i k)=k:=by
 unfold tr5
 by_cases a:k=i
 ·subst a;simp
 by_cases b:k=i+1
 ·subst b;simp
 simp[a,b]
theorem qbE (i:Nat):tr5 i i=i+1:=by simp[tr5]
theorem qbx (i:Nat):tr5 i (i+1)=i:=by simp[tr5]
theorem xc {i k:Nat} (a:k≠i) (b:k≠i+1):tr5 i k=k:=by simp[tr5,a,b]
theorem xN (i k:Nat):(k=i/\tr5 i k=i+1)\/(k=i+1/\tr5 i k=i)\/(k≠i/\k≠i+1/\tr5 i k=k):=by
 by_cases a:k=i
 ·subst a;exact .inl ⟨rfl,qbE k⟩
 by_cases b:k=i+1
 ·subst b;exact .inr (.inl ⟨rfl,qbx i⟩)
 exact .inr (.inr ⟨a,b,xc a b⟩)
theorem qkK {i j:Nat} (h:i+1<j\/j+1<i) (k:Nat):tr5 i (tr5 j k)=tr5 j (tr5 i k):=by
 by_cases a:k=i
 ·subst a;rw[xc (i:=j) (k:=k) (by omega) (by omega),qbE,xc (i:=j) (k:=k+1) (by omega) (by omega)]
 by_cases b:k=i+1
 ·subst b;rw[xc (i:=j) (k:=i+1) (by omega) (by omega),qbx,xc (i:=j) (k:=i) (by omega) (by omega)]
 rw[xc (i:=i) (k:=k) a b]
 rcases xN j k with⟨c,e⟩|⟨c,e⟩|⟨c,c',e⟩<;>rw[e]
 ·exact xc (by omega) (by omega)
 ·exact xc (by omega) (by omega)
 exact xc a b
theorem qi7 (i k:Nat):tr5 i (tr5 (i+1) (tr5 i k))=tr5 (i+1) (tr5 i (tr5 (i+1) k)):=by
 have a1:=qbE i
 have a2:=qbx i
 have a3:tr5 i (i+1+1)=i+1+1:=xc (by omega) (by omega)
 have b1:=qbE (i+1)
 have b2:=qbx (i+1)
 have b3:tr5 (i+1) i=i:=xc (by omega) (by omega)
 by_cases a:k=i
 ·subst a;rw[a1,b1,a3,b3,a1,b1]
 by_cases b:k=i+1
 ·subst b;rw[a2,b3,a1,b1,a3,b2]
 by_cases c:k=i+1+1
 ·subst c;rw[a3,b2,a2,b3]
 rw[xc (i:=i) (k:=k) a b,xc (i:=i+1) (k:=k) b c,xc (i:=i) (k:=k) a b,xc (i:=i+1) (k:=k) b c]
structure SB where
 f:Nat->Nat
 g:Nat->Nat
 gf: ∀k,g (f k)=k
 fg: ∀k,f (g k)=k
theorem SB.ext {s t:SB} (h: ∀k,s.f k=t.f k):s=t:=by
 obtain⟨f,g,a,b⟩:=s
 obtain⟨f',g',a',b'⟩:=t
 have e:f=f':=funext h
 subst e
 have e:g=g':=funext fun k=>by
  have:=a (g' k)
  rwa [b']at this
 subst e
 rfl
theorem SB.finj (s:SB) {a b:Nat} (h:s.f a=s.f b):a=b:=by
 have:=congrArg s.g h
 rwa [s.gf,s.gf]at this
theorem SB.ginj (s:SB) {a b:Nat} (h:s.g a=s.g b):a=b:=by
 have:=congrArg s.f h
 rwa [s.fg,s.fg]at this
def SB.fr (s:SB) (i:Nat):SB:=⟨fun k=>s.f (tr5 i k),fun k=>tr5 i (s.g k),fun k=>by rw[s.gf,qda],fun k=>by rw[qda,s.fg]⟩
def SB.bk (s:SB) (i:Nat):SB:=⟨fun k=>tr5 i (s.f k),fun k=>s.g (tr5 i k),fun k=>by rw[qda,s.gf],fun k=>by rw[s.fg,qda]⟩
def SB.Begs (s:SB) (i:Nat):Prop:=s.f (i+1)<s.f i
def SB.Ends (s:SB) (i:Nat):Prop:=s.g (i+1)<s.g i
theorem SB.nEnds {s:SB} {i:Nat} (h: ¬s.Ends i):s.g i<s.g (i+1):=by
 unfold SB.Ends at h
 have:s.g i≠s.g (i+1):=fun e=>by have:=s.ginj e;omega
 omega
def psh (L:Nat->SB) (k i:Nat):Nat->SB:=fun q=>if q=k then(L k).bk i else if q=k+1 then(L (k+1)).fr i else L q
theorem psh_k (L:Nat->SB) (k i:Nat):psh L k i k=(L k).bk i:=by simp[psh]
theorem jh (L:Nat->SB) (k i:Nat):psh L k i (k+1)=(L (k+1)).fr i:=by simp[psh]
theorem jg (L:Nat->SB) {k i q:Nat} (a:q≠k) (b:q≠k+1):psh L k i q=L q:=by simp[psh,a,b]
structure CanP (n m:Nat) (L:Nat->SB) (k i:Nat):Prop where
 k_:k+1<m
 i_:i+1<n
 b_:(L (k+1)).Begs i
 e_: ¬(L k).Ends i
inductive Psh (n m:Nat):(Nat->SB)->(Nat->SB)->Prop
 |mk {L:Nat->SB} {k i:Nat} (h:CanP n m L k i):Psh n m L (psh L k i)
inductive Pst (n m:Nat):(Nat->SB)->(Nat->SB)->Prop
 |refl {L:Nat->SB}:Pst n m L L
 |head {L L1 A:Nat->SB} (h:Psh n m L L1) (t:Pst n m L1 A):Pst n m L A
theorem Pst.trans {n m:Nat} {L A B:Nat->SB} (h:Pst n m L A) (k:Pst n m A B):Pst n m L B:=by
 induction h with
 |refl=>exact k
 |head h _ ih=>exact .head h (ih k)
theorem Pst.one {n m:Nat} {L A:Nat->SB} (h:Psh n m L A):Pst n m L A:= .head h .refl
def Nf (n m:Nat) (L:Nat->SB):Prop:= ∀k i,¬CanP n m L k i
def qgM:List Nat->Nat
 |[]=>0
 |x::r=>r.countP (fun y=>decide (y<x))+qgM r
theorem qju {x y:Nat} (h:y<x) (b:List Nat): ∀a:List Nat,qgM (a++y::x::b)+1=qgM (a++x::y::b)
 |[]=>by
  simp only[List.nil_append,qgM,List.countP_cons]
  rw[decide_eq_true h,decide_eq_false (show¬x<y by omega)]
  simp only[if_true,ZF,if_false]
  omega
 |z::a=>by
  simp only[List.cons_append,qgM]
  have:=qju h b a
  simp only[List.countP_append,List.countP_cons]
  omega
theorem qqt {i:Nat}: ∀r:List Nat,r.Nodup->i∉r->r.countP (fun y=>decide (tr5 i y<i+1))<=r.countP (fun y=>decide (y<i))+(if i+1∈r then 1 else 0)
 |[],_,_=>by simp
 |y::r,hn,hi=>by
  have hn2:=(List.nodup_cons.1 hn)
  have hi2:i∉r:=fun h=>hi (List.mem_cons_of_mem _ h)
  have hy:y≠i:=fun e=>hi (e▸List.mem_cons_self)
  have ih:=qqt r hn2.2 hi2
  rw[List.countP_cons,List.countP_cons]
  by_cases c:y=i+1
  ·subst c
   rw[qbx,decide_eq_true (by omega),decide_eq_false (by omega),if_pos rfl,if_neg (by decide),if_pos List.mem_cons_self]
   rw[if_neg hn2.1]at ih
   omega
  rw[xc hy c]
  have e1:decide (y<i+1)=decide (y<i):=by
   by_cases d:y<i
   ·rw[decide_eq_true d,decide_eq_true (by omega)]
   rw[decide_eq_false d,decide_eq_false (by omega)]
  rw[e1]
  have e2:(if i+1∈y::r then 1 else 0)=(if i+1∈r then 1 else 0:Nat):=by
   by_cases d:i+1∈r
   ·rw[if_pos d,if_pos (List.mem_cons_of_mem _ d)]
   rw[if_neg d,if_neg (fun h=>by rcases List.mem_cons.1 h with h|h;exact c h.symm;exact d h)]
  rw[e2]
  omega
theorem qls {i:Nat}: ∀p:List Nat,p.Nodup->qgM (p.map (tr5 i))<=qgM p+(if i∈p then 1 else 0)
 |[],_=>by simp[qgM]
 |x::r,hn=>by
  have hn2:=(List.nodup_cons.1 hn)
  have ih:=qls (i:=i) r hn2.2
  simp only[List.map_cons,qgM,List.countP_map]
  have e:(fun y=>decide (y<tr5 i x))∘tr5 i=fun y=>decide (tr5 i y<tr5 i x):=rfl
  rw[e]
  by_cases c:x=i
  ·subst c
   have hc:=qqt r hn2.2 hn2.1
   rw[qbE,if_pos List.mem_cons_self]
   rw[if_neg hn2.1]at ih
   have:(if x+1∈r then 1 else 0:Nat)<=1:=by split<;>omega
   omega
  have h1:r.countP (fun y=>decide (tr5 i y<tr5 i x))<=r.countP (fun y=>decide (y<x)):=by
   refine List.countP_mono_left fun y hy h=>?_
   have hyx:y≠x:=fun e=>hn2.1 (e▸hy)
   simp only[decide_eq_true_eq]at h⊢
   rcases xN i x with⟨a,ea⟩|⟨a,ea⟩|⟨a,a',ea⟩<;>rcases xN i y with⟨b,eb⟩|⟨b,eb⟩|⟨b,b',eb⟩<;>rw[ea,eb]at h<;>omega
  have e2:(if i∈x::r then 1 else 0)=(if i∈r then 1 else 0:Nat):=by
   by_cases d:i∈r
   ·rw[if_pos d,if_pos (List.mem_cons_of_mem _ d)]
   rw[if_neg d,if_neg (fun h=>by rcases List.mem_cons.1 h with h|h;exact c h.symm;exact d h)]
  rw[e2]
  omega
def SB.row (n:Nat) (s:SB):List Nat:=(List.range n).map s.f
theorem Uh (n:Nat) (s:SB):(s.row n).length=n:=by simp[SB.row]
theorem Ug {n k:Nat} (s:SB) (h:k<n):(s.row n)[k]? =some (s.f k):=by simp[SB.row,List.getElem?_range h]
theorem qfW {f:Nat->Nat} (hf: ∀a b,f a=f b->a=b): ∀l:List Nat,l.Nodup->(l.map f).Nodup
 |[],_=>List.nodup_nil
 |x::l,h=>by
  have h2:=List.nodup_cons.1 h
  rw[List.map_cons,List.nodup_cons]
  refine⟨fun hx=>?_,qfW hf l h2.2⟩
  obtain⟨y,hy,e⟩:=List.mem_map.1 hx
  exact h2.1 (hf _ _ e▸hy)
theorem SB.row_nodup (n:Nat) (s:SB):(s.row n).Nodup:=qfW (fun _ _ h=>s.finj h) _ List.nodup_range
def SB.inv (n:Nat) (s:SB):Nat:=qgM (s.row n)
theorem qnU {l:List Nat} {i:Nat} (h:i+1<l.length):l=l.take i++l[i]::l[i+1]::l.drop (i+2):=by
 rw[<-YG h,<-YG (by omega),List.take_append_drop]
theorem SB.inv_fr {n i:Nat} {s:SB} (hi:i+1<n) (h:s.Begs i):(s.fr i).inv n+1=s.inv n:=by
 unfold SB.inv
 have e1:=qnU (l:=s.row n) (i:=i) (by rw[Uh];omega)
 have e2:=qnU (l:=(s.fr i).row n) (i:=i) (by rw[Uh];omega)
 have g: ∀(t:SB) (k:Nat) (hk:k<(t.row n).length),(t.row n)[k]=t.f k:=fun t k hk=>by simp[SB.row]
 have t1:((s.fr i).row n).take i=(s.row n).take i:=by
  apply List.ext_getElem?
  intro k
  by_cases hk:k<i
  ·rw[List.getElem?_take_of_lt hk,List.getElem?_take_of_lt hk,Ug _ (by omega),Ug _ (by omega)]
   show some (s.f (tr5 i k))=_
   rw[xc (by omega) (by omega)]
  rw[Yg (by simp;omega),Yg (by simp;omega)]
 have t2:((s.fr i).row n).drop (i+2)=(s.row n).drop (i+2):=by
  apply List.ext_getElem?
  intro k
  rw[YI,YI]
  by_cases hk:i+2+k<n
  ·rw[Ug _ hk,Ug _ hk]
   show some (s.f (tr5 i _))=_
   rw[xc (by omega) (by omega)]
  rw[Yg (by rw[Uh];omega),Yg (by rw[Uh];omega)]
 rw[e1,e2,t1,t2,g,g,g,g]
 show qgM (_++s.f (tr5 i i)::s.f (tr5 i (i+1))::_)+1=_
 rw[qbE,qbx]
 exact qju h _ _
theorem SB.inv_bk (n i:Nat) (s:SB):(s.bk i).inv n<=s.inv n+1:=by
 unfold SB.inv
 have e:(s.bk i).row n=(s.row n).map (tr5 i):=by
  unfold SB.row
  rw[List.map_map]
  rfl
 rw[e]
 have:=qls (i:=i) (s.row n) (s.row_nodup n)
 have h2:(if i∈s.row n then 1 else 0:Nat)<=1:=by split<;>omega
 omega
def mu5 (n:Nat) (L:Nat->SB):Nat->Nat
 |0=>0
 |m+1=>mu5 n L m+m*(L m).inv n
theorem qoI {n k:Nat} {L L':Nat->SB} (h: ∀q,q<k->L' q=L q): ∀m,m<=k->mu5 n L' m=mu5 n L m
 |0,_=>rfl
 |m+1,hm=>by simp only[mu5];rw[qoI h m (by omega),h m (by omega)]
theorem qgn {n m k i:Nat} {L:Nat->SB} (h:CanP n m L k i):mu5 n (psh L k i) m<mu5 n L m:=by
 have base:mu5 n (psh L k i) (k+2)+1<=mu5 n L (k+2):=by
  simp only[mu5]
  rw[qoI (L':=psh L k i) (L:=L) (k:=k) (fun q hq=>jg L (by omega) (by omega)) k (Nat.le_refl _),psh_k,jh]
  have a:=SB.inv_fr h.i_ h.b_
  have b:=Nat.mul_le_mul_left k (SB.inv_bk n i (L k))
  rw[<-a,Nat.mul_add,Nat.mul_one]
  rw[Nat.mul_add,Nat.mul_one]at b
  omega
 have up: ∀d,mu5 n (psh L k i) (k+2+d)+1<=mu5 n L (k+2+d):=by
  intro d
  induction d with
  |zero=>exact base
  |succ d ih=>
   show mu5 n (psh L k i) (k+2+d)+(k+2+d)*(psh L k i (k+2+d)).inv n+1<=mu5 n L (k+2+d)+(k+2+d)*(L (k+2+d)).inv n
   rw[jg L (q:=k+2+d) (by omega) (by omega)]
   omega
 have hk:=h.k_
 have:=up (m-(k+2))
 rw[show k+2+(m-(k+2))=m by omega]at this
 omega
theorem Psh.lt {n m:Nat} {L A:Nat->SB} (h:Psh n m L A):mu5 n A m<mu5 n L m:=by
 cases h with
 |mk h=>exact qgn h
theorem qiC {n m:Nat}: ∀(M:Nat) (L:Nat->SB),mu5 n L m<=M-> ∃A,Pst n m L A/\Nf n m A
 |M,L,hM=>by
  by_cases h: ∃k i,CanP n m L k i
  ·obtain⟨k,i,h⟩:=h
   have:=qgn h
   cases M with
   |zero=>omega
   |succ M=>
    obtain⟨A,h1,h2⟩:=qiC (n:=n) (m:=m) M (psh L k i) (by omega)
    exact⟨A,.head (.mk h) h1,h2⟩
  exact⟨L,.refl,fun k i c=>h ⟨k,i,c⟩⟩
theorem qkp {s:SB} {i j:Nat} (h:i+1<j\/j+1<i):(s.fr i).Begs j↔s.Begs j:=by
 show s.f (tr5 i (j+1))<s.f (tr5 i j)↔_
 rw[xc (by omega) (by omega),xc (by omega) (by omega)]
 rfl
theorem qkU {s:SB} {i j:Nat} (h:i+1<j\/j+1<i):(s.bk i).Ends j↔s.Ends j:=by
 show s.g (tr5 i (j+1))<s.g (tr5 i j)↔_
 rw[xc (by omega) (by omega),xc (by omega) (by omega)]
 rfl
theorem pst3 {n m k i j l:Nat} {L:Nat->SB} (h1:CanP n m L k i) (h2:CanP n m (psh L k i) k j) (h3:CanP n m (psh (psh L k i) k j) k l):Pst n m (psh L k i) (psh (psh (psh L k i) k j) k l):=
 .head (.mk h2) (.one (.mk h3))
theorem qql {L:Nat->SB} {k i:Nat}:psh (psh (psh L k i) k (i+1)) k i=psh (psh (psh L k (i+1)) k i) k (i+1):=by
 funext q
 by_cases a:q=k
 ·subst a
  simp only[psh_k]
  exact SB.ext fun x=>qi7 i _
 by_cases b:q=k+1
 ·subst b
  simp only[jh]
  exact SB.ext fun x=>congrArg (L (k+1)).f (qi7 i x)
 simp only[jg _ a b]
theorem qjo {n m k i:Nat} {L:Nat->SB} (h:CanP n m L k i) (h':CanP n m L k (i+1)): ∃D,Pst n m (psh L k i) D/\Pst n m (psh L k (i+1)) D:=by
 have b1:(L (k+1)).f (i+1)<(L (k+1)).f i:=h.b_
 have b2:(L (k+1)).f (i+2)<(L (k+1)).f (i+1):=h'.b_
 have e1:=SB.nEnds h.e_
 have e2:(L k).g (i+1)<(L k).g (i+2):=SB.nEnds h'.e_
 have ki:=h.k_
 have ii:=h.i_
 have ii':=h'.i_
 have t1:tr5 i (i+2)=i+2:=xc (by omega) (by omega)
 have t2:tr5 (i+1) i=i:=xc (by omega) (by omega)
 have t3:tr5 (i+1) (i+2)=i+1:=qbx (i+1)
 have t4:tr5 (i+1) (i+1)=i+2:=qbE (i+1)
 have p1:CanP n m (psh L k i) k (i+1):=by
  refine⟨ki,ii',?_,?_⟩
  ·rw[jh]
   show(L (k+1)).f (tr5 i (i+2))<(L (k+1)).f (tr5 i (i+1))
   rw[t1,qbx];omega
  rw[psh_k]
  show¬(L k).g (tr5 i (i+2))<(L k).g (tr5 i (i+1))
  rw[t1,qbx];omega
 have p2:CanP n m (psh (psh L k i) k (i+1)) k i:=by
  refine⟨ki,ii,?_,?_⟩
  ·rw[jh,jh]
   show(L (k+1)).f (tr5 i (tr5 (i+1) (i+1)))<(L (k+1)).f (tr5 i (tr5 (i+1) i))
   rw[qbE,t1,t2,qbE];omega
  rw[psh_k,psh_k]
  show¬(L k).g (tr5 i (tr5 (i+1) (i+1)))<(L k).g (tr5 i (tr5 (i+1) i))
  rw[qbE,t1,t2,qbE];omega
 have q1:CanP n m (psh L k (i+1)) k i:=by
  refine⟨ki,ii,?_,?_⟩
  ·rw[jh]
   show(L (k+1)).f (tr5 (i+1) (i+1))<(L (k+1)).f (tr5 (i+1) i)
   rw[t4,t2];omega
  rw[psh_k]
  show¬(L k).g (tr5 (i+1) (i+1))<(L k).g (tr5 (i+1) i)
  rw[t4,t2];omega
 have q2:CanP n m (psh (psh L k (i+1)) k i) k (i+1):=by
  refine⟨ki,ii',?_,?_⟩
  ·rw[jh,jh]
   show(L (k+1)).f (tr5 (i+1) (tr5 i (i+2)))<(L (k+1)).f (tr5 (i+1) (tr5 i (i+1)))
   rw[t1,t3,qbx,t2];omega
  rw[psh_k,psh_k]
  show¬(L k).g (tr5 (i+1) (tr5 i (i+2)))<(L k).g (tr5 (i+1) (tr5 i (i+1)))
  rw[t1,t3,qbx,t2];omega
 exact⟨_,pst3 h p1 p2,qql▸pst3 h' q1 q2⟩
theorem qoF {n m k i j:Nat} {L:Nat->SB} (hd:i+1<j\/j+1<i) (h:CanP n m L k i) (h':CanP n m L k j): ∃D,Pst n m (psh L k i) D/\Pst n m (psh L k j) D:=by
 have p1:CanP n m (psh L k i) k j:=⟨h.k_,h'.i_,by rw[jh,qkp hd];exact h'.b_,by rw[psh_k,qkU hd];exact h'.e_⟩
 have p2:CanP n m (psh L k j) k i:=⟨h.k_,h.i_,by rw[jh,qkp (i:=j) (j:=i) (by omega)];exact h.b_,by rw[psh_k,qkU (i:=j) (j:=i) (by omega)];exact h.e_⟩
 have e:psh (psh L k i) k j=psh (psh L k j) k i:=by
  funext q
  by_cases a:q=k
  ·subst a
   simp only[psh_k]
   exact SB.ext fun x=>qkK (i:=j) (j:=i) (by omega) _
  by_cases b:q=k+1
  ·subst b
   simp only[jh]
   exact SB.ext fun x=>congrArg (L (k+1)).f (qkK (i:=i) (j:=j) (by omega) x)
  simp only[jg _ a b]
 exact⟨_,.one (.mk p1),e▸ .one (.mk p2)⟩
theorem qjm {n m k i j:Nat} {L:Nat->SB} (h:CanP n m L k i) (h':CanP n m L (k+1) j): ∃D,Pst n m (psh L k i) D/\Pst n m (psh L (k+1) j) D:=by
 have b1:(L (k+1)).f (i+1)<(L (k+1)).f i:=h.b_
 have e2:(L (k+1)).g j<(L (k+1)).g (j+1):=SB.nEnds h'.e_
 have gf:=(L (k+1)).gf
 have fg:=(L (k+1)).fg
 have p1:CanP n m (psh L k i) (k+1) j:=by
  refine⟨h'.k_,h'.i_,?_,?_⟩
  ·rw[jg L (q:=k+1+1) (by omega) (by omega)];exact h'.b_
  rw[jh]
  show¬tr5 i ((L (k+1)).g (j+1))<tr5 i ((L (k+1)).g j)
  rcases xN i ((L (k+1)).g (j+1))with⟨a,ea⟩|⟨a,ea⟩|⟨a,a',ea⟩<;>rcases xN i ((L (k+1)).g j)with⟨b,eb⟩|⟨b,eb⟩|⟨b,b',eb⟩<;>rw[ea,eb]<;>try omega
  have x1:=fg (j+1)
  have x2:=fg j
  rw[a]at x1
  rw[b]at x2
  omega
 have p2:CanP n m (psh L (k+1) j) k i:=by
  refine⟨h.k_,h.i_,?_,?_⟩
  ·rw[psh_k]
   show tr5 j ((L (k+1)).f (i+1))<tr5 j ((L (k+1)).f i)
   rcases xN j ((L (k+1)).f (i+1))with⟨a,ea⟩|⟨a,ea⟩|⟨a,a',ea⟩<;>rcases xN j ((L (k+1)).f i)with⟨b,eb⟩|⟨b,eb⟩|⟨b,b',eb⟩<;>rw[ea,eb]<;>try omega
   have x1:=gf (i+1)
   have x2:=gf i
   rw[a]at x1
   rw[b]at x2
   omega
  rw[jg L (q:=k) (by omega) (by omega)];exact h.e_
 have e:psh (psh L k i) (k+1) j=psh (psh L (k+1) j) k i:=by
  funext q
  by_cases a:q=k
  ·subst a
   rw[jg _ (q:=q) (by omega) (by omega),psh_k,psh_k,jg _ (q:=q) (by omega) (by omega)]
  by_cases b:q=k+1
  ·subst b
   rw[psh_k,jh,jh,psh_k]
   rfl
  by_cases c:q=k+1+1
  ·subst c
   rw[jh,jg _ (q:=k+1+1) (by omega) (by omega),jg _ (q:=k+1+1) (by omega) (by omega),jh]
  rw[jg _ b c,jg _ a b,jg _ a b,jg _ b c]
 exact⟨_,.one (.mk p1),e▸ .one (.mk p2)⟩
theorem qit {n m k k' i j:Nat} {L:Nat->SB} (hk:k+1<k') (h:CanP n m L k i) (h':CanP n m L k' j): ∃D,Pst n m (psh L k i) D/\Pst n m (psh L k' j) D:=by
 have p1:CanP n m (psh L k i) k' j:=⟨h'.k_,h'.i_,by rw[jg L (q:=k'+1) (by omega) (by omega)];exact h'.b_,by rw[jg L (q:=k') (by omega) (by omega)];exact h'.e_⟩
 have p2:CanP n m (psh L k' j) k i:=⟨h.k_,h.i_,by rw[jg L (q:=k+1) (by omega) (by omega)];exact h.b_,by rw[jg L (q:=k) (by omega) (by omega)];exact h.e_⟩
 have e:psh (psh L k i) k' j=psh (psh L k' j) k i:=by
  funext q
  by_cases a:q=k
  ·subst a
   rw[jg _ (q:=q) (by omega) (by omega),psh_k,psh_k,jg _ (q:=q) (by omega) (by omega)]
  by_cases b:q=k+1
  ·subst b
   rw[jg _ (q:=k+1) (by omega) (by omega),jh,jh,jg _ (q:=k+1) (by omega) (by omega)]
  by_cases c:q=k'
  ·subst c
   rw[psh_k,jg _ a b,jg _ a b,psh_k]
  by_cases d:q=k'+1
  ·subst d
   rw[jh,jg _ a b,jg _ a b,jh]
  rw[jg _ c d,jg _ a b,jg _ a b,jg _ c d]
 exact⟨_,.one (.mk p1),e▸ .one (.mk p2)⟩
theorem meet5 {n m k k' i j:Nat} {L:Nat->SB} (h:CanP n m L k i) (h':CanP n m L k' j): ∃D,Pst n m (psh L k i) D/\Pst n m (psh L k' j) D:=by
 have sw: ∀{A B:Nat->SB},(∃D,Pst n m A D/\Pst n m B D)-> ∃D,Pst n m B D/\Pst n m A D:=fun⟨D,a,b⟩=>⟨D,b,a⟩
 by_cases e:k=k'
 ·subst e
  by_cases c:i=j
  ·subst c;exact⟨_,.refl,.refl⟩
  by_cases c1:j=i+1
  ·subst c1;exact qjo h h'
  by_cases c2:i=j+1
  ·subst c2;exact sw (qjo h' h)
  exact qoF (by omega) h h'
 by_cases e1:k'=k+1
 ·subst e1;exact qjm h h'
 by_cases e2:k=k'+1
 ·subst e2;exact sw (qjm h' h)
 by_cases e3:k<k'
 ·exact qit (by omega) h h'
 exact sw (qit (by omega) h' h)
theorem qd4 {n m:Nat}: ∀(M:Nat) {L A B:Nat->SB},mu5 n L m<=M->Pst n m L A->Pst n m L B->Nf n m A->Nf n m B->A=B
 |M,L,A,B,hM,hA,hB,nA,nB=>by
  cases hA with
  |refl=>
   cases hB with
   |refl=>rfl
   |head h _=>cases h with|mk h=>exact absurd h (nA _ _)
  |head h tA=>
   cases hB with
   |refl=>cases h with|mk h=>exact absurd h (nB _ _)
   |head h' tB=>
    cases h with
    |mk h=>
     cases h' with
     |mk h'=>
      obtain⟨D,d1,d2⟩:=meet5 h h'
      obtain⟨E,e1,e2⟩:=qiC _ D (Nat.le_refl _)
      have l1:=qgn h
      have l2:=qgn h'
      cases M with
      |zero=>omega
      |succ M=>rw[qd4 M (by omega) tA (d1.trans e1) nA e2,qd4 M (by omega) tB (d2.trans e1) nB e2]
end Go.Av
end
section
namespace Go.Av
theorem qk0 {m:List (Int×Bool)} (k k':Int) (v:Bool):qcc (qfl m k v) k'=if k'=k then some v else qcc m k':=by
 induction m with
 |nil=>
  unfold qfl qcc
  by_cases h:k'=k
  ·simp[h]
  simp[h]
 |cons p m ih=>
  obtain⟨a,b⟩:=p
  unfold qfl
  by_cases h:(k==a)=true
  ·have e:k=a:=by simpa using h
   subst e
   rw[if_pos h]
   unfold qcc
   by_cases c:k'=k
   ·simp[c]
   have c2:(k'==k)=false:=by simpa using c
   rw[List.find?_cons_of_neg (by simp[c2]),List.find?_cons_of_neg (by simp[c2]),if_neg c]
  rw[if_neg h]
  have e:k≠a:=by simpa using h
  unfold qcc at ih⊢
  by_cases c:k'=a
  ·have c2:(k'==a)=true:=by simpa using c
   rw[List.find?_cons_of_pos (by simpa using c2),List.find?_cons_of_pos (by simpa using c2),if_neg (by rw[c];exact fun x=>e x.symm)]
  have c2:(k'==a)=false:=by simpa using c
  rw[List.find?_cons_of_neg (by simp[c2]),List.find?_cons_of_neg (by simp[c2])]
  exact ih
structure IsP (p:List Int):Prop where
 few:p.length<=256
 at_: ∀k,k<p.length-> ∃v:Nat,v<p.length/\p[k]? =some (v:Int)
 inj: ∀(k k':Nat) (v:Int),p[k]? =some v->p[k']? =some v->k=k'
theorem qoO {p:List Int} (hl:p.length<=256) {i:Nat} (hi:i<p.length) {x:Int} (hx:p[i]? =some x): ∀(K j:Nat),j<=i->i<K+j->(∀k,k<j->p[k]? ≠some x)->
 (zY p (i:Int) K (j:Int)=some (.inl ())/\ ∀k,k<i->p[k]? ≠some x)\/(zY p (i:Int) K (j:Int)=some (.inr 15)/\ ∃k,k<i/\p[k]? =some x)
 |0,j,h,hK,hn=>by omega
 |K+1,j,h,hK,hn=>by
  unfold zY
  by_cases hj:j<i
  ·have hy:p[j]? =some p[j]:=Ya (by omega)
   rw[if_pos (by omega),qz,hy,ZB,qz,hx,ZB]
   by_cases e:p[j]=x
   ·rw[if_pos e]
    exact .inr ⟨rfl,j,hj,by rw[hy,e]⟩
   rw[if_neg e,kr (by omega)]
   refine qoO hl hi hx K (j+1) (by omega) (by omega) (fun k hk=>?_)
   by_cases c:k=j
   ·subst c
    rw[hy]
    exact fun z=>e (Ye z)
   exact hn k (by omega)
  rw[if_neg (by omega)]
  exact .inl ⟨rfl,fun k hk=>hn k (by omega)⟩
theorem qmv {N:Nat} (hN:2000<N) {p:List Int} (hl:p.length<=256): ∀(K i:Nat) (m:List (Int×Bool)),i<=p.length->p.length<K+i->(∀x,(qcc m x).getD false=true↔ ∃k,k<i/\p[k]? =some x)->
 ∃r,qX p K m (i:Int)=some r/\j6 N p K (i:Int)=some r/\((r= .inl ()/\ ∀j,i<=j->j<p.length-> ∃v:Nat,v<p.length/\p[j]? =some (v:Int)/\ ∀k,k<j->p[k]? ≠some (v:Int))\/r= .inr 15)
 |0,i,m,h,hK,hm=>by omega
 |K+1,i,m,h,hK,hm=>by
  unfold qX j6
  by_cases hi:i<p.length
  ·have hx:p[i]? =some p[i]:=Ya hi
   generalize p[i]=x at hx
   rw[if_pos (by omega),if_pos (by omega),qz,hx]
   simp only[ZB]
   by_cases h1:x<0
   ·rw[if_pos h1,if_pos h1]
    exact⟨_,rfl,rfl,.inr rfl⟩
   by_cases h2:x>=(p.length:Int)
   ·rw[if_neg h1,if_pos h2,if_neg h1,decide_eq_true h2]
    exact⟨_,rfl,rfl,.inr rfl⟩
   rw[if_neg h1,if_neg h2,if_neg h1,decide_eq_false h2]
   simp only[ZB,ZF,if_false]
   rcases qoO hl hi hx N 0 (by omega) (by omega) (fun k hk=>by omega)with⟨g1,g2⟩|⟨g1,k,g2,g3⟩
   ·have hf:(qcc m x).getD false=false:=by
     cases c:(qcc m x).getD false with
     |false=>rfl
     |true=>
      obtain⟨k,k1,k2⟩:=(hm x).1 c
      exact absurd k2 (g2 k k1)
    rw[show((0:Nat):Int)=0 from rfl]at g1
    rw[hf,g1,kr (by omega)]
    simp only[ZF,if_false,ZB]
    obtain⟨r,r1,r2,r3⟩:=qmv hN hl K (i+1) (qfl m x true) (by omega) (by omega) (fun y=>by
     rw[qk0]
     by_cases e:y=x
     ·rw[if_pos e]
      exact⟨fun _=>⟨i,by omega,by rw[hx,e]⟩,fun _=>rfl⟩
     rw[if_neg e,hm y]
     constructor
     ·rintro⟨k,k1,k2⟩
      exact⟨k,by omega,k2⟩
     rintro⟨k,k1,k2⟩
     refine⟨k,?_,k2⟩
     rcases Nat.lt_or_ge k i with c|c
     ·exact c
     have:k=i:=by omega
     subst this
     rw[hx]at k2
     exact absurd (Ye k2).symm e)
    refine⟨r,r1,r2,?_⟩
    rcases r3 with⟨r3,r4⟩|r3
    ·refine .inl ⟨r3,fun j hj hjl=>?_⟩
     by_cases c:j=i
     ·subst c
      refine⟨x.toNat,by omega,by rw[hx];congr 1;omega,fun k hk=>?_⟩
      rw[show((x.toNat:Nat):Int)=x by omega]
      exact g2 k hk
     exact r4 j (by omega) hjl
    exact .inr r3
   have ht:(qcc m x).getD false=true:=(hm x).2 ⟨k,g2,g3⟩
   rw[show((0:Nat):Int)=0 from rfl]at g1
   rw[ht,g1]
   exact⟨_,rfl,rfl,.inr rfl⟩
  rw[if_neg (by omega),if_neg (by omega)]
  exact⟨_,rfl,rfl,.inl ⟨rfl,fun j hj hjl=>by omega⟩⟩
theorem qnr {N:Nat} (hN:2000<N) {p:List Int} (hl:p.length<=1000): ∃e,yI N p=some e/\qaT N p=some e/\(e=0->IsP p)/\(p.length<=256->e=0\/e=15):=by
 unfold yI qaT
 by_cases h:256<p.length
 ·rw[if_pos (by omega),if_pos (by omega)]
  exact⟨5,rfl,rfl,fun c=>absurd c (by decide),fun h2=>by omega⟩
 rw[if_neg (by omega),if_neg (by omega)]
 obtain⟨r,r1,r2,r3⟩:=qmv hN (p:=p) (by omega) N 0 [] (by omega) (by omega) (fun x=>by
  constructor
  ·intro c;simp[qcc]at c
  rintro⟨k,k1,_⟩;omega)
 rw[show(0:Int)=((0:Nat):Int)from rfl,r1,r2]
 rcases r3 with⟨rfl,r4⟩|rfl
 ·refine⟨0,rfl,rfl,fun _=>⟨by omega,fun k hk=>?_,fun k k' v hk hk'=>?_⟩,fun _=> .inl rfl⟩
  ·obtain⟨v,v1,v2,_⟩:=r4 k (by omega) hk
   exact⟨v,v1,v2⟩
  have l1:k<p.length:=(Yb.1 hk).1
  have l2:k'<p.length:=(Yb.1 hk').1
  rcases Nat.lt_trichotomy k k' with c|c|c
  ·obtain⟨w,w1,w2,w3⟩:=r4 k' (by omega) l2
   rw[hk']at w2
   have:=Ye w2
   subst this
   exact absurd hk (w3 k c)
  ·exact c
  obtain⟨w,w1,w2,w3⟩:=r4 k (by omega) l1
  rw[hk]at w2
  have:=Ye w2
  subst this
  exact absurd hk' (w3 k' c)
 exact⟨15,rfl,rfl,fun c=>absurd c (by decide),fun _=> .inr rfl⟩
structure SB.Ok (n:Nat) (s:SB):Prop where
 f_: ∀k,k<n->s.f k<n
 g_: ∀k,k<n->s.g k<n
def SB.li (n:Nat) (s:SB):List Int:=(List.range n).map fun k=>(s.f k:Int)
theorem Uf (n:Nat) (s:SB):(s.li n).length=n:=by simp[SB.li]
theorem Uk {n k:Nat} (s:SB) (h:k<n):(s.li n)[k]? =some (s.f k:Int):=by simp[SB.li,List.getElem?_range h]
theorem Ur {n:Nat} {s:SB} {p:List Int} (hl:p.length=n) (h: ∀k,k<n->p[k]? =some (s.f k:Int)):p=s.li n:=by
 apply List.ext_getElem?
 intro k
 by_cases hk:k<n
 ·rw[h k hk,Uk s hk]
 rw[Yg (by omega),Yg (by rw[Uf];omega)]
theorem SB.li_inj {n:Nat} {s t:SB} (h:s.li n=t.li n) {k:Nat} (hk:k<n):s.f k=t.f k:=by
 have h1:=Uk s hk
 have h2:=Uk t hk
 rw[h,h2]at h1
 have:=Ye h1
 omega
theorem qii {n i k:Nat} (hi:i+1<n) (h:k<n):tr5 i k<n:=by
 rcases xN i k with⟨a,e⟩|⟨a,e⟩|⟨a,a',e⟩<;>omega
theorem SB.Ok.fr {n i:Nat} {s:SB} (h:s.Ok n) (hi:i+1<n):(s.fr i).Ok n:=⟨fun k hk=>h.f_ _ (qii hi hk),fun k hk=>qii hi (h.g_ k hk)⟩
theorem SB.Ok.bk {n i:Nat} {s:SB} (h:s.Ok n) (hi:i+1<n):(s.bk i).Ok n:=⟨fun k hk=>qii hi (h.f_ k hk),fun k hk=>h.g_ _ (qii hi hk)⟩
def SB.rev (s:SB):SB:=⟨s.g,s.f,s.fg,s.gf⟩
theorem SB.Ok.rev {n:Nat} {s:SB} (h:s.Ok n):s.rev.Ok n:=⟨h.g_,h.f_⟩
def Ud:SB:=⟨fun k=>k,fun k=>k,fun _=>rfl,fun _=>rfl⟩
theorem Ul (n:Nat):Ud.Ok n:=⟨fun _ h=>h,fun _ h=>h⟩
theorem Uv (n:Nat):Ud.li n=yS n:=rfl
def rv5 (n k:Nat):Nat:=if k<n then n-1-k else k
theorem qbI (n k:Nat):rv5 n (rv5 n k)=k:=by
 unfold rv5
 by_cases h:k<n
 ·rw[if_pos h,if_pos (by omega)];omega
 rw[if_neg h,if_neg h]
theorem qgW {n k:Nat} (h:k<n):rv5 n k<n:=by unfold rv5;rw[if_pos h];omega
def Ub (n:Nat):SB:=⟨rv5 n,rv5 n,qbI n,qbI n⟩
theorem Ui (n:Nat):(Ub n).Ok n:=⟨fun _ h=>qgW h,fun _ h=>qgW h⟩
def SB.flip (n:Nat) (s:SB):SB:=⟨fun k=>rv5 n (s.f (rv5 n k)),fun k=>rv5 n (s.g (rv5 n k)),fun k=>by rw[qbI,s.gf,qbI],fun k=>by rw[qbI,s.fg,qbI]⟩
theorem SB.Ok.flip {n:Nat} {s:SB} (h:s.Ok n):(s.flip n).Ok n:=⟨fun k hk=>qgW (h.f_ _ (qgW hk)),fun k hk=>qgW (h.g_ _ (qgW hk))⟩
theorem qmD: ∀(n:Nat) (l:List Nat),l.Nodup->(∀x∈l,x<n)->l.length<=n
 |0,[],_,_=>Nat.le_refl _
 |0,x::l,_,h=>absurd (h x List.mem_cons_self) (Nat.not_lt_zero _)
 |n+1,l,hn,h=>by
  have:=qmD n (l.erase n) (hn.erase n) (fun x hx=>by
   have:=hn.mem_erase_iff.1 hx
   have:=h x this.2
   omega)
  have e:=List.length_erase (a:=n) (l:=l)
  split at e<;>omega
theorem qpV {n v:Nat} {l:List Nat} (hn:l.Nodup) (h: ∀x∈l,x<n) (hl:n<=l.length) (hv:v<n):v∈l:=by
 by_cases c:v∈l
 ·exact c
 have:=qmD n (v::l) (List.nodup_cons.2 ⟨c,hn⟩) (fun x hx=>by
  rcases List.mem_cons.1 hx with e|e
  ·omega
  exact h x e)
 simp only[Yr]at this
 omega
theorem sb_of {p:List Int} (hp:IsP p): ∃s:SB,s.Ok p.length/\p=s.li p.length:=by
 have n0: ∀k,k<p.length-> ∃v:Nat,v<p.length/\p[k]? =some (v:Int):=hp.at_
 let F:Nat->Nat:=fun k=>if h:k<p.length then(Classical.choose (n0 k h))else k
 have hF: ∀k (h:k<p.length),F k<p.length/\p[k]? =some (F k:Int):=fun k h=>by
  have:=Classical.choose_spec (n0 k h)
  simp only[F,dif_pos h]
  exact this
 have hO: ∀k,¬k<p.length->F k=k:=fun k h=>by simp only[F,dif_neg h]
 have inj: ∀a b,F a=F b->a=b:=fun a b e=>by
  by_cases ha:a<p.length
  ·by_cases hb:b<p.length
   ·have h1:=(hF a ha).2
    have h2:=(hF b hb).2
    rw[e]at h1
    exact hp.inj a b _ h1 h2
   have:=(hF a ha).1
   rw[e,hO b hb]at this
   omega
  by_cases hb:b<p.length
  ·have:=(hF b hb).1
   rw[<-e,hO a ha]at this
   omega
  rw[hO a ha,hO b hb]at e
  exact e
 have sur: ∀v,∃k,F k=v:=fun v=>by
  by_cases hv:v<p.length
  ·have hs: ∀x∈(List.range p.length).map F,x∈List.range p.length:=fun x hx=>by
    obtain⟨k,hk,rfl⟩:=List.mem_map.1 hx
    exact List.mem_range.2 (hF k (List.mem_range.1 hk)).1
   have nd:=qfW inj _ (List.nodup_range (n:=p.length))
   have hm:v∈(List.range p.length).map F:=qpV nd (fun x hx=>List.mem_range.1 (hs x hx)) (by simp) hv
   obtain⟨k,_,e⟩:=List.mem_map.1 hm
   exact⟨k,e⟩
  exact⟨v,hO v hv⟩
 let G:Nat->Nat:=fun v=>Classical.choose (sur v)
 have fg: ∀v,F (G v)=v:=fun v=>Classical.choose_spec (sur v)
 have gf: ∀k,G (F k)=k:=fun k=>inj _ _ (fg (F k))
 refine⟨⟨F,G,gf,fg⟩,⟨fun k hk=>(hF k hk).1,fun v hv=>?_⟩,Ur rfl fun k hk=>(hF k hk).2⟩
 show G v<p.length
 rcases Nat.lt_or_ge (G v) p.length with h|h
 ·exact h
 have:=fg v
 rw[hO _ (by omega)]at this
 omega
end Go.Av
end
section
namespace Go.Av
theorem Uj {n k:Nat} {s:SB} (h:k<n):idx (s.li n) (k:Int)=some (s.f k:Int):=by rw[qz,Uk s h]
section
variable {n:Nat} (hn:n<=300)
include hn
theorem qmu {s:SB} (hs:s.Ok n): ∀(K i:Nat) (l:List Int),l.length=n->i<=n->n<K+i->(∀k,k<i->l[s.f k]? =some (k:Int))->zB (s.li n) K l (i:Int)=some (s.rev.li n)
 |0,i,l,hl,h,hK,hk=>by omega
 |K+1,i,l,hl,h,hK,hk=>by
  unfold zB
  rw[Uf]
  by_cases hi:i<n
  ·have hf:=hs.f_ i hi
   rw[if_pos (by omega),Uj hi,ZB,qz,Ya (by omega),ZB,qan (by omega),ZB,kr (by omega)]
   refine qmu hs K (i+1) _ (by simpa using hl) (by omega) (by omega) (fun k hki=>?_)
   by_cases e:k=i
   ·subst e;rw[List.getElem?_set_self (by omega)]
   rw[Yw (fun c=>e (s.finj c.symm))];exact hk k (by omega)
  rw[if_neg (by omega)]
  congr 1
  refine Ur hl fun v hv=>?_
  have:=hk (s.g v) (by have:=hs.g_ v hv;omega)
  rw[s.fg]at this;exact this
theorem qhG {N:Nat} (hN:2000<N) {s:SB} (hs:s.Ok n):vg N (s.li n)=some (s.rev.li n):=by
 unfold vg
 have:=qmu hn hs N 0 (List.replicate n 0) (by simp) (by omega) (by omega) (fun k hk=>by omega)
 rw[show((0:Nat):Int)=0 from rfl]at this
 rw[Uf,qjQ (by omega),ZB,this,ZB]
theorem qd5 (s:SB) {i:Nat} (hi:i+1<n):ky (s.li n) (i:Int)=some ((s.fr i).li n):=by
 unfold ky
 have hl:=Uf n s
 have hc:qeB (s.li n)=some ():=by
  unfold qeB
  rw[if_pos (by omega)]
 rw[hc,ZB,kr (by omega),Uj hi,ZB,Uj (by omega),ZB,qan (by omega),ZB,qz,Yw (by omega),Uk _ hi,ZB,qan (by simp;omega),ZB]
 congr 1
 refine Ur (by simp[hl]) fun k hk=>?_
 show _=some ((s.f (tr5 i k):Nat):Int)
 rcases xN i k with⟨rfl,e⟩|⟨rfl,e⟩|⟨a,b,e⟩<;>rw[e]
 ·rw[Yw (by omega),List.getElem?_set_self (by omega)]
 ·rw[List.getElem?_set_self (by simp;omega)]
 rw[Yw (by omega),Yw (by omega),Uk s hk]
theorem qjl {N:Nat} (hN:2000<N) {s:SB} (hs:s.Ok n) {i:Nat} (hi:i+1<n):vW N (s.li n) (i:Int)=some ((s.bk i).li n):=by
 unfold vW
 rw[qhG hn hN hs,ZB,qd5 hn s.rev hi,ZB,qhG hn hN (hs.rev.fr hi),ZB]
 rfl
theorem qgG (s:SB) {i:Nat} (hi:i+1<n):jy (s.li n) (i:Int)=some (decide (s.f (i+1)<s.f i)):=by
 unfold jy
 rw[Uj (by omega),ZB,kr (by omega),Uj hi,ZB]
 congr 1
 exact decide_eq_decide.2 (by omega)
theorem qqr {N:Nat} (hN:2000<N) {s:SB} (hs:s.Ok n) {i:Nat} (hi:i+1<n):qao N (s.li n) (i:Int)=some (decide (s.g (i+1)<s.g i)):=by
 unfold qao
 rw[qhG hn hN hs,ZB,qgG hn s.rev hi,ZB]
 rfl
theorem qgu {N:Nat} (hN:2000<N) {s t:SB} (hs:s.Ok n): ∀(K i:Nat),i+1<=n->n<K+i->
 (∃j,i<=j/\j+1<n/\t.Begs j/\ ¬s.Ends j/\vE N (s.li n) (t.li n) K (i:Int) ((n:Int)-1)=some (.inr ((j:Int),true)))\/
 ((∀j,i<=j->j+1<n->t.Begs j->s.Ends j)/\vE N (s.li n) (t.li n) K (i:Int) ((n:Int)-1)=some (.inl ()))
 |0,i,h,hK=>by omega
 |K+1,i,h,hK=>by
  unfold vE
  by_cases hi:i+1<n
  ·rw[if_pos (by omega),qgG hn t hi,ZB]
   by_cases a:t.f (i+1)<t.f i
   ·rw[decide_eq_true a,if_pos rfl,qqr hn hN hs hi,ZB,ZB]
    by_cases b:s.g (i+1)<s.g i
    ·rw[decide_eq_true b,if_neg (by decide),kr (by omega)]
     rcases qgu hN hs K (i+1) (by omega) (by omega)with⟨j,h1,h2⟩|⟨h1,h2⟩
     ·exact .inl ⟨j,by omega,h2⟩
     refine .inr ⟨fun j hj hj2 hb=>?_,h2⟩
     by_cases e:j=i
     ·subst e;exact b
     exact h1 j (by omega) hj2 hb
    rw[decide_eq_false b,if_pos (by decide)]
    exact .inl ⟨i,Nat.le_refl _,hi,a,b,rfl⟩
   rw[decide_eq_false a,if_neg (by decide),ZB,if_neg (by decide),kr (by omega)]
   rcases qgu hN hs K (i+1) (by omega) (by omega)with⟨j,h1,h2⟩|⟨h1,h2⟩
   ·exact .inl ⟨j,by omega,h2⟩
   refine .inr ⟨fun j hj hj2 hb=>?_,h2⟩
   by_cases e:j=i
   ·subst e;exact absurd hb a
   exact h1 j (by omega) hj2 hb
  rw[if_neg (by omega)]
  exact .inr ⟨fun j hj hj2=>by omega,rfl⟩
theorem ql4 {N:Nat} (hN:2000<N) (n1:1<=n) {s t:SB} (hs:s.Ok n):
 (∃j:Nat,j+1<n/\t.Begs j/\ ¬s.Ends j/\qaX N (s.li n) (t.li n)=some ((j:Int),true))\/((∀j,j+1<n->t.Begs j->s.Ends j)/\qaX N (s.li n) (t.li n)=some (0,false)):=by
 unfold qaX
 rw[Uf,show w64 ((n:Int)-1)=(n:Int)-1 from yG (by omega) (by omega)]
 have:=qgu hn hN (t:=t) hs N 0 (by omega) (by omega)
 rw[show((0:Nat):Int)=0 from rfl]at this
 rcases this with⟨j,_,h2,h3,h4,h5⟩|⟨h1,h2⟩
 ·exact .inl ⟨j,h2,h3,h4,by rw[h5];rfl⟩
 exact .inr ⟨fun j=>h1 j (Nat.zero_le _),by rw[h2];rfl⟩
end
theorem qnS {l0:List Int} {n:Nat} (hn:l0.length=n) (hb:n<=100000): ∀(K i:Nat) (l:List Int),l.length=n->2*i<=n+1->n+1<K+2*i->(∀k:Nat,k<n->l[k]? =if k<i\/n<=k+i then l0[n-1-k]? else l0[k]?)->qO K l (i:Int) ((n:Int)-1-i)=some l0.reverse
 |0,i,l,hl,h2,hK,hk=>by omega
 |K+1,i,l,hl,h2,hK,hk=>by
  unfold qO
  by_cases hi:(i:Int)<(n:Int)-1-i
  ·have e1:(n:Int)-1-i=((n-1-i:Nat):Int):=by omega
   have e2:w64 (((n-1-i:Nat):Int)-1)=(n:Int)-1-((i+1:Nat):Int):=by rw[yG (by omega) (by omega)];omega
   have q1:=hk (n-1-i) (by omega)
   have q2:=hk i (by omega)
   rw[if_neg (by omega)]at q1 q2
   have g1:l0[n-1-i]? =some l0[n-1-i]:=Ya (by omega)
   have g2:l0[i]? =some l0[i]:=Ya (by omega)
   rw[g1]at q1
   rw[g2]at q2
   rw[if_pos hi,e1,qz,q1,ZB,qz,q2,ZB,qan (by omega),ZB,qz,Yw (by omega),q1,ZB,qan (by simp;omega),ZB,kr (by omega),e2]
   refine qnS hn hb K (i+1) _ (by simp;omega) (by omega) (by omega) (fun k hkn=>?_)
   by_cases c1:k=n-1-i
   ·subst c1
    rw[List.getElem?_set_self (by simp;omega),if_pos (by omega),show n-1-(n-1-i)=i by omega,g2]
   rw[Yw (fun e=>c1 e.symm)]
   by_cases c2:k=i
   ·subst c2
    rw[List.getElem?_set_self (by omega),if_pos (by omega),g1]
   rw[Yw (fun e=>c2 e.symm),hk k hkn]
   by_cases c3:k<i\/n<=k+i
   ·rw[if_pos c3,if_pos (by omega)]
   rw[if_neg c3,if_neg (by omega)]
  rw[if_neg hi]
  congr 1
  apply List.ext_getElem?
  intro k
  by_cases hkn:k<n
  ·rw[hk k hkn,List.getElem?_reverse (by omega),hn]
   by_cases c3:k<i\/n<=k+i
   ·rw[if_pos c3]
   rw[if_neg c3,show n-1-k=k by omega]
  rw[Yg (by omega),Yg (by simp;omega)]
theorem qlk {N:Nat} {l:List Int} (hN:l.length+1<N) (hb:l.length<=100000):yh N l=some l.reverse:=by
 unfold yh
 have:=qnS (l0:=l) rfl hb N 0 l rfl (by omega) (by omega) (fun k hk=>by rw[if_neg (by omega)])
 rw[yG (by omega) (by omega),show((l.length:Int)-1)=(l.length:Int)-1-((0:Nat):Int)by omega,show(0:Int)=((0:Nat):Int)from rfl]
 rw[this]
 rfl
theorem qpR (n:Nat):(yS n).reverse=(Ub n).li n:=by
 refine Ur (by simp[qbf]) fun k hk=>?_
 rw[List.getElem?_reverse (by rw[qbf];exact hk),qbf,qgQ (by omega)]
 show _=some ((rv5 n k:Nat):Int)
 unfold rv5
 rw[if_pos hk]
theorem qm1 {N n:Nat} (hN:2000<N) (hn:n<=300):qb0 N (n:Int)=some ((Ub n).li n):=by
 unfold qb0
 rw[qf7 hN (by omega),ZB,qlk (by rw[qbf];omega) (by rw[qbf];omega),ZB,if_pos (by simp),ZB,qpR]
theorem qpj {n:Nat} (hn:n<=300): ∀(K i:Nat) (l:List Int),l.length=i->i<=n->n<K+i->(∀k,k<i->l[k]? =some ((rv5 n k:Nat):Int))->vQ (n:Int) K l (i:Int)=some ((Ub n).li n)
 |0,i,l,hl,h,hK,hk=>by omega
 |K+1,i,l,hl,h,hK,hk=>by
  unfold vQ
  by_cases hi:i<n
  ·have e:w64 (w64 ((n:Int)-1)-(i:Int))=((rv5 n i:Nat):Int):=by
    unfold rv5
    rw[if_pos hi,yG (n:=(n:Int)-1) (by omega) (by omega),yG (by omega) (by omega)]
    omega
   rw[if_pos (by omega),e,qdd (by simp only[Yr,List.length_nil];omega) (by simp only[Yr,List.length_nil];omega),ZB,kr (by omega)]
   refine qpj hn K (i+1) _ (by simp[hl]) (by omega) (by omega) (fun k hki=>?_)
   by_cases c:k<i
   ·rw[Yf (by omega)];exact hk k c
   rw[Yo (by omega),show k-l.length=0 by omega,show k=i by omega]
   rfl
  rw[if_neg (by omega)]
  congr 1
  exact Ur (by omega) fun k hkn=>hk k (by omega)
theorem qp4 {N n:Nat} (hN:2000<N) (hn:n<=300):qaF N (n:Int)=some ((Ub n).li n):=by
 unfold qaF
 have:=qpj hn N 0 [] rfl (by omega) (by omega) (fun k hk=>by omega)
 rw[show((0:Nat):Int)=0 from rfl]at this
 rw[this,ZB]
end Go.Av
end
section
namespace Go.Av
def SB.comp (s t:SB):SB:=⟨fun k=>t.f (s.f k),fun k=>s.g (t.g k),fun k=>by rw[t.gf,s.gf],fun k=>by rw[s.fg,t.fg]⟩
theorem SB.Ok.comp {n:Nat} {s t:SB} (hs:s.Ok n) (ht:t.Ok n):(s.comp t).Ok n:=⟨fun k hk=>ht.f_ _ (hs.f_ k hk),fun k hk=>hs.g_ _ (ht.g_ k hk)⟩
section
variable {n:Nat} (hn:n<=300)
include hn
theorem qmH {s:SB} (hs:s.Ok n): ∀(K i:Nat) (l:List Int),l.length=n->i<=n->n<K+i->(∀k,k<i->l[n-1-k]? =some ((n-1-s.f k:Nat):Int))->kg (s.li n) K l (i:Int)=some ((s.flip n).li n)
 |0,i,l,hl,h,hK,hk=>by omega
 |K+1,i,l,hl,h,hK,hk=>by
  unfold kg
  rw[Uf]
  by_cases hi:i<n
  ·have hf:=hs.f_ i hi
   have e0:w64 ((n:Int)-1)=(n:Int)-1:=yG (by omega) (by omega)
   have e1:w64 ((n:Int)-1-(i:Int))=((n-1-i:Nat):Int):=by rw[yG (by omega) (by omega)];omega
   have e2:w64 ((n:Int)-1-(s.f i:Int))=((n-1-s.f i:Nat):Int):=by rw[yG (by omega) (by omega)];omega
   rw[if_pos (by omega),Uj hi,ZB,e0,e1,e2,qz,Ya (by omega),ZB,qan (by omega),ZB,kr (by omega)]
   refine qmH hs K (i+1) _ (by simpa using hl) (by omega) (by omega) (fun k hki=>?_)
   by_cases e:k=i
   ·subst e;rw[List.getElem?_set_self (by omega)]
   rw[Yw (by omega)];exact hk k (by omega)
  rw[if_neg (by omega)]
  congr 1
  refine Ur hl fun v hv=>?_
  have:=hk (n-1-v) (by omega)
  rw[show n-1-(n-1-v)=v by omega]at this
  rw[this]
  show _=some ((rv5 n (s.f (rv5 n v)):Nat):Int)
  have h2:rv5 n v=n-1-v:=by unfold rv5;rw[if_pos hv]
  have h3:=hs.f_ (n-1-v) (by omega)
  rw[h2]
  unfold rv5
  rw[if_pos h3]
theorem qk1 {N:Nat} (hN:2000<N) {s:SB} (hs:s.Ok n):yN N (s.li n)=some ((s.flip n).li n):=by
 unfold yN
 have:=qmH hn hs N 0 (List.replicate n 0) (by simp) (by omega) (by omega) (fun k hk=>by omega)
 rw[show((0:Nat):Int)=0 from rfl]at this
 rw[Uf,qjQ (by omega),ZB,this,ZB]
end
def qa2 (n:Nat) (l:List SB):List (List Int):=l.map (SB.li n)
theorem qbw (n:Nat) (l:List SB):(qa2 n l).length=l.length:=by simp[qa2]
theorem qjs {n k:Nat} {l:List SB} (h:k<l.length):(qa2 n l)[k]? =some (l[k].li n):=by
 unfold qa2
 rw[YA,Ya h]
 rfl
section
variable {n:Nat} (hn:n<=12) {N:Nat} (hN:2000<N)
include hn hN
theorem qlu {l:List SB} (hl:l.length<=300) (ho: ∀s∈l,s.Ok n): ∀(K i:Nat),i<=l.length->l.length<K+i->qK N (qa2 n l) K (qa2 n ((l.take i).map (SB.flip n))) (i:Int)=some (qa2 n (l.map (SB.flip n)))
 |0,i,h,hK=>by omega
 |K+1,i,h,hK=>by
  unfold qK
  rw[qbw]
  by_cases hi:i<l.length
  ·rw[if_pos (by omega),qz,qjs hi,ZB,qk1 (by omega) hN (ho _ (List.getElem_mem hi)),ZB,qdd (by rw[qbw];simp;omega) (by rw[qbw];simp;omega),ZB,kr (by omega)]
   have e:qa2 n ((l.take i).map (SB.flip n))++[(l[i].flip n).li n]=qa2 n ((l.take (i+1)).map (SB.flip n)):=by
    rw[List.take_succ_eq_append_getElem hi,List.map_append]
    unfold qa2
    rw[List.map_append]
    rfl
   rw[e]
   exact qlu hl ho K (i+1) (by omega) (by omega)
  rw[if_neg (by omega),List.take_of_length_le (by omega)]
theorem qkJ {l:List SB} (hl:l.length<=300) (ho: ∀s∈l,s.Ok n):vV N (qa2 n l)=some (qa2 n (l.map (SB.flip n))):=by
 unfold vV
 have:=qlu hn hN hl ho N 0 (by omega) (by omega)
 rw[show((0:Nat):Int)=0 from rfl,List.take_zero]at this
 rw[show([]:List (List Int))=qa2 n (([]:List SB).map (SB.flip n))from rfl,this,ZB]
end
end Go.Av
end
section
namespace Go.Av
structure MdOK (n:Int) (k:Nat) (r:List Int×Int):Prop where
 bad:r.2≠0->r.1=[]
 len:r.2=0->r.1.length<=k
 let_:r.2=0-> ∀c∈r.1,qbK n c=true
theorem qmE {a b:List Int} (hl:a.length<=100000) (hab:a.length=b.length): ∀(K i:Nat),i<=a.length->a.length<K+i->vO a b K (i:Int)=some (if a.drop i=b.drop i then .inl ()else .inr false)
 |0,i,h,hK=>by omega
 |K+1,i,h,hK=>by
  unfold vO
  by_cases hi:i<a.length
  ·have hb:i<b.length:=by omega
   rw[if_pos (by omega),qz,Ya hi,qz,Ya hb,ZB,ZB,YG hi,YG hb]
   by_cases c:a[i]=b[i]
   ·rw[decide_eq_true c,if_neg (by decide),kr (by omega),qmE hl hab K (i+1) (by omega) (by omega),c]
    simp only[List.cons.injEq,true_and]
   rw[decide_eq_false c,if_pos (by decide),if_neg (fun h=>c (List.cons.inj h).1)]
  rw[if_neg (by omega),List.drop_eq_nil_of_le (by omega),List.drop_eq_nil_of_le (by omega),if_pos rfl]
theorem qeS {N:Nat} {a b:List Int} (hl:a.length<=100000) (hN:a.length<N):yP N a b=some (decide (a=b)):=by
 unfold yP
 by_cases c:(a.length:Int)=(b.length:Int)
 ·have:=qmE hl (b:=b) (by omega) N 0 (by omega) (by omega)
  rw[show((0:Nat):Int)=0 from rfl,YR,YR]at this
  rw[decide_eq_true c,if_neg (by decide),this]
  by_cases e:a=b
  ·rw[if_pos e,decide_eq_true e];rfl
  rw[if_neg e,decide_eq_false e];rfl
 rw[decide_eq_false c,if_pos (by decide),decide_eq_false (fun e=>c (by rw[e]))]
theorem qk5 {a b:List Int} (hl:a.length<=100000) (hab:a.length=b.length): ∀(K i:Nat),i<=a.length->a.length<K+i->zu a b K (i:Int)=some (if a.drop i=b.drop i then .inl ()else .inr false)
 |0,i,h,hK=>by omega
 |K+1,i,h,hK=>by
  unfold zu
  by_cases hi:i<a.length
  ·have hb:i<b.length:=by omega
   rw[if_pos (by omega),qz,Ya hi,qz,Ya hb,ZB,ZB,YG hi,YG hb]
   by_cases c:a[i]=b[i]
   ·rw[decide_eq_true c,if_neg (by decide),kr (by omega),qk5 hl hab K (i+1) (by omega) (by omega),c]
    simp only[List.cons.injEq,true_and]
   rw[decide_eq_false c,if_pos (by decide),if_neg (fun h=>c (List.cons.inj h).1)]
  rw[if_neg (by omega),List.drop_eq_nil_of_le (by omega),List.drop_eq_nil_of_le (by omega),if_pos rfl]
theorem qns {N:Nat} {a b:List Int} (hl:a.length<=100000) (hN:a.length<N):xD N a b=some (decide (a=b)):=by
 unfold xD
 by_cases c:(a.length:Int)=(b.length:Int)
 ·have:=qk5 hl (b:=b) (by omega) N 0 (by omega) (by omega)
  rw[show((0:Nat):Int)=0 from rfl,YR,YR]at this
  rw[decide_eq_true c,if_neg (by decide),this]
  by_cases e:a=b
  ·rw[if_pos e,decide_eq_true e];rfl
  rw[if_neg e,decide_eq_false e];rfl
 rw[decide_eq_false c,if_pos (by decide),decide_eq_false (fun e=>c (by rw[e]))]
end Go.Av
end
section
namespace Go.Av
theorem qnP {a b:List Int} (hl:a.length<=100000) (hab:a.length=b.length): ∀(K i:Nat),i<=a.length->a.length<K+i->jw a b K (i:Int)=some (if a.drop i=b.drop i then .inl ()else .inr false)
 |0,i,h,hK=>by omega
 |K+1,i,h,hK=>by
  unfold jw
  by_cases hi:i<a.length
  ·have hb:i<b.length:=by omega
   rw[if_pos (by omega),qz,Ya hi,qz,Ya hb,ZB,ZB,YG hi,YG hb]
   by_cases c:a[i]=b[i]
   ·rw[decide_eq_true c,if_neg (by decide),kr (by omega),qnP hl hab K (i+1) (by omega) (by omega),c]
    simp only[List.cons.injEq,true_and]
   rw[decide_eq_false c,if_pos (by decide),if_neg (fun h=>c (List.cons.inj h).1)]
  rw[if_neg (by omega),List.drop_eq_nil_of_le (by omega),List.drop_eq_nil_of_le (by omega),if_pos rfl]
theorem qpE {N:Nat} {a b:List Int} (hl:a.length<=100000) (hN:a.length<N):slices_Equal_int N a b=some (decide (a=b)):=by
 unfold slices_Equal_int
 by_cases c:(a.length:Int)=(b.length:Int)
 ·have:=qnP hl (b:=b) (by omega) N 0 (by omega) (by omega)
  rw[show((0:Nat):Int)=0 from rfl,YR,YR]at this
  rw[decide_eq_true c,if_neg (by decide),this]
  by_cases e:a=b
  ·rw[if_pos e,decide_eq_true e];rfl
  rw[if_neg e,decide_eq_false e];rfl
 rw[decide_eq_false c,if_pos (by decide),decide_eq_false (fun e=>c (by rw[e]))]
inductive WdB (n:Nat):SB->List Int->Prop
 |nil {s:SB} (h: ∀q,q+1<n-> ¬s.Begs q):WdB n s []
 |cons {s:SB} {i:Nat} {W:List Int} (hi:i+1<n) (hb:s.Begs i) (hm: ∀q,q<i-> ¬s.Begs q) (h:WdB n (s.fr i) W):WdB n s (((i+1:Nat):Int)::W)
theorem qlH {n:Nat} (s:SB):(∀q,q+1<n-> ¬s.Begs q)\/ ∃i,i+1<n/\s.Begs i/\ ∀q,q<i-> ¬s.Begs q:=by
 have go: ∀d i,i+d=n->(∀q,q<i-> ¬s.Begs q)->(∀q,q+1<n-> ¬s.Begs q)\/ ∃i,i+1<n/\s.Begs i/\ ∀q,q<i-> ¬s.Begs q:=by
  intro d
  induction d with
  |zero=>exact fun i hi h=> .inl fun q hq=>h q (by omega)
  |succ d ih=>
   intro i hi h
   by_cases c:i+1<n/\s.Begs i
   ·exact .inr ⟨i,c.1,c.2,h⟩
   by_cases e:i+1<n
   ·refine ih (i+1) (by omega) fun q hq=>?_
    by_cases g:q=i
    ·subst g;exact fun b=>c ⟨e,b⟩
    exact h q (by omega)
   exact .inl fun q hq=>h q (by omega)
 exact go n 0 (by omega) (fun q hq=>by omega)
theorem qnN {n:Nat}: ∀(M:Nat) (s:SB),s.inv n<=M-> ∃W,WdB n s W/\W.length<=M
 |M,s,hM=>by
  rcases qlH (n:=n) s with h|⟨i,hi,hb,hm⟩
  ·exact⟨[],.nil h,Nat.zero_le _⟩
  have:=SB.inv_fr hi hb
  cases M with
  |zero=>omega
  |succ M=>
   obtain⟨W,h1,h2⟩:=qnN (n:=n) M (s.fr i) (by omega)
   exact⟨_,.cons hi hb hm h1,by simp;omega⟩
theorem qmN: ∀l:List Nat,qgM l<=l.length*l.length
 |[]=>Nat.le_refl _
 |x::r=>by
  have h1:r.countP (fun y=>decide (y<x))<=r.length:=List.countP_le_length
  have h2:=qmN r
  simp only[qgM,Yr,Nat.add_mul,Nat.mul_add,Nat.one_mul,Nat.mul_one]
  omega
theorem SB.inv_le (n:Nat) (s:SB):s.inv n<=n*n:=by
 have:=qmN (s.row n)
 rwa [Uh]at this
theorem qqh (x y:Int):cmp_Less_int x y=some (decide (x<y)):=by
 unfold cmp_Less_int cmp_isNaN_int
 simp
section
variable {n:Nat} (hn:n<=12) (n1:1<=n)
include hn n1
theorem qmK (s:SB): ∀(K i:Nat),i+1<=n->n<K+i->
 (∃j,i<=j/\j+1<n/\s.Begs j/\(∀q,i<=q->q<j-> ¬s.Begs q)/\kw (s.li n) K (i:Int)=some (j:Int))\/((∀q,i<=q->q+1<n-> ¬s.Begs q)/\kw (s.li n) K (i:Int)=some ((n-1:Nat):Int))
 |0,i,h,hK=>by omega
 |K+1,i,h,hK=>by
  unfold kw
  rw[Uf,kr (by omega)]
  by_cases hi:i+1<n
  ·rw[if_pos (by omega),qgG (by omega) s hi,ZB,ZB]
   by_cases a:s.f (i+1)<s.f i
   ·rw[decide_eq_true a,if_neg (by decide)]
    exact .inl ⟨i,Nat.le_refl _,hi,a,fun q h1 h2=>by omega,rfl⟩
   rw[decide_eq_false a,if_pos (by decide)]
   rcases qmK s K (i+1) (by omega) (by omega)with⟨j,h1,h2,h3,h4,h5⟩|⟨h1,h2⟩
   ·refine .inl ⟨j,by omega,h2,h3,fun q g1 g2=>?_,h5⟩
    by_cases e:q=i
    ·subst e;exact a
    exact h4 q (by omega) g2
   refine .inr ⟨fun q g1 g2=>?_,h2⟩
   by_cases e:q=i
   ·subst e;exact a
   exact h1 q (by omega) g2
  rw[if_neg (by omega),ZB,if_neg (by decide)]
  exact .inr ⟨fun q g1 g2=>by omega,by rw[show n-1=i by omega]⟩
theorem qmS {N:Nat} (hN:2000<N): ∀(W:List Int) {s:SB},WdB n s W-> ∀(K:Nat) (out:List Int),W.length<K->out.length+W.length<=100000->zW N K out (s.li n)=some (out++W)
 |W,s,h,0,out,hK,hb=>by omega
 |W,s,h,K+1,out,hK,hb=>by
  unfold zW
  have l1:=qmK hn n1 s N 0 (by omega) (by omega)
  rw[show((0:Nat):Int)=0 from rfl]at l1
  cases h with
  |nil h=>
   rcases l1 with⟨j,_,h2,h3,_⟩|⟨_,h2⟩
   ·exact absurd h3 (h j h2)
   rw[h2,ZB,kr (by omega),Uf,if_pos (by omega),List.append_nil]
  |@cons _ i W hi hb' hm h=>
   rcases l1 with⟨j,_,h2,h3,h4,h5⟩|⟨h1,_⟩
   ·have e:j=i:=by
     rcases Nat.lt_trichotomy j i with c|c|c
     ·exact absurd h3 (hm j c)
     ·exact c
     exact absurd hb' (h4 i (by omega) c)
    subst e
    simp only[Yr]at hK hb
    rw[h5,ZB,kr (by omega),Uf,if_neg (by omega),qd5 (by omega) s hi,ZB,qdd (by simp only[Yr,List.length_nil];omega) (by simp only[Yr,List.length_nil];omega),ZB,
     qmS hN W h K _ (by omega) (by simp;omega)]
    simp
   exact absurd hb' (h1 i (Nat.zero_le _) hi)
theorem qpN {N:Nat} (hN:2000<N) {s:SB} {W:List Int} (h:WdB n s W) (hl:W.length<=1000):qam N (s.li n)=some W:=by
 unfold qam
 have hc:qeB (s.li n)=some ():=by
  unfold qeB
  rw[Uf,if_pos (by omega)]
 rw[hc,ZB,qmS hn n1 hN W h N [] (by omega) (by simp;omega),ZB,List.nil_append]
theorem qli (s:SB): ∀(K i:Nat),i<n->i<K->(∀q,i<=q->q+1<n-> ¬s.Begs q)-> ∃r,zt (s.li n) K (i:Int)=some r/\((r= .inl ()/\ ∀q,q+1<n-> ¬s.Begs q)\/(r= .inr false/\ ∃q,q+1<n/\s.Begs q))
 |0,i,h,hK,hd=>by omega
 |K+1,i,h,hK,hd=>by
  unfold zt
  cases i with
  |zero=>
   rw[if_neg (by omega)]
   exact⟨_,rfl,.inl ⟨rfl,fun q hq=>hd q (Nat.zero_le _) hq⟩⟩
  |succ i=>
   have e:w64 (((i+1:Nat):Int)-1)=(i:Int):=by rw[yG (by omega) (by omega)];omega
   rw[if_pos (by omega),e,Uj h,Uj (by omega)]
   simp only[ZB,qqh]
   by_cases a:s.f (i+1)<s.f i
   ·rw[decide_eq_true (show((s.f (i+1):Nat):Int)<(s.f i:Int)by omega),if_pos rfl]
    exact⟨_,rfl,.inr ⟨rfl,i,h,a⟩⟩
   rw[decide_eq_false (show¬((s.f (i+1):Nat):Int)<(s.f i:Int)by omega),if_neg (by decide)]
   refine qli s K i (by omega) (by omega) fun q h1 h2=>?_
   by_cases c:q=i
   ·subst c;exact a
   exact hd q (by omega) h2
theorem qou {N:Nat} (hN:2000<N) (s:SB): ∃b,xU N (s.li n)=some b/\(b=true↔ ∀q,q+1<n-> ¬s.Begs q):=by
 unfold xU slices_IsSorted_int
 have e:w64 ((((s.li n).length:Nat):Int)-1)=((n-1:Nat):Int):=by rw[Uf,yG (by omega) (by omega)];omega
 obtain⟨r,r1,r2⟩:=qli hn n1 s N (n-1) (by omega) (by omega) (fun q h1 h2=>by omega)
 rw[e,r1]
 rcases r2 with⟨rfl,r3⟩|⟨rfl,q,q1,q2⟩
 ·exact⟨true,rfl,fun _=>r3,fun _=>rfl⟩
 exact⟨false,rfl,fun h=>(by cases h),fun h=>absurd q2 (h q q1)⟩
theorem qjU {s:SB} (hs:s.Ok n):(∀q,q+1<n-> ¬s.Begs q)↔s.li n=yS n:=by
 constructor
 ·intro h
  have lo: ∀k,k<n->k<=s.f k:=by
   intro k
   induction k with
   |zero=>exact fun _=>Nat.zero_le _
   |succ k ih=>
    intro hk
    have h1:=ih (by omega)
    have h2:=h k hk
    have h3:s.f k≠s.f (k+1):=fun c=>by have:=s.finj c;omega
    have h4: ¬s.f (k+1)<s.f k:=h2
    omega
  have hi: ∀d,d<n->s.f (n-1-d)<=n-1-d:=by
   intro d
   induction d with
   |zero=>
    intro hd
    have:=hs.f_ (n-1-0) (by omega)
    omega
   |succ d ih=>
    intro hd
    have h1:=ih (by omega)
    have h2: ¬s.f (n-1-(d+1)+1)<s.f (n-1-(d+1)):=h (n-1-(d+1)) (by omega)
    have h3:s.f (n-1-(d+1))≠s.f (n-1-(d+1)+1):=fun c=>by have:=s.finj c;omega
    have e:n-1-(d+1)+1=n-1-d:=by omega
    rw[e]at h2 h3
    omega
  refine(Ur (qbf n) fun k hk=>?_).symm
  rw[qgQ hk]
  have h1:=lo k hk
  have h2:=hi (n-1-k) (by omega)
  rw[show n-1-(n-1-k)=k by omega]at h2
  congr 1
  omega
 intro h q hq hb
 have e: ∀k,k<n->s.f k=k:=fun k hk=>SB.li_inj (t:=Ud) h hk
 have hb:s.f (q+1)<s.f q:=hb
 rw[e _ hq,e _ (by omega)]at hb
 omega
end
end Go.Av
end
section
namespace Go.Av
def yf (n m:Nat) (L:Nat->SB):List (List Int):=(List.range m).map fun q=>(L q).li n
theorem qJ (n m:Nat) (L:Nat->SB):(yf n m L).length=m:=by simp[yf]
theorem vX {n m q:Nat} {L:Nat->SB} (h:q<m):(yf n m L)[q]? =some ((L q).li n):=by simp[yf,List.getElem?_range h]
theorem qkw {n m:Nat} {L:Nat->SB} {R:List (List Int)} (hl:R.length=m) (h: ∀q,q<m->R[q]? =some ((L q).li n)):R=yf n m L:=by
 apply List.ext_getElem?
 intro q
 by_cases hq:q<m
 ·rw[h q hq,vX hq]
 rw[Yg (by omega),Yg (by rw[qJ];omega)]
theorem qnH {n m k i:Nat} {L:Nat->SB} (hk:k+1<m):((yf n m L).set k (((L k).bk i).li n)).set (k+1) (((L (k+1)).fr i).li n)=yf n m (psh L k i):=by
 refine qkw (by simp[qJ]) fun q hq=>?_
 by_cases a:q=k+1
 ·subst a
  rw[List.getElem?_set_self (by simp[qJ];omega),jh]
 by_cases b:q=k
 ·subst b
  rw[Yw (by omega),List.getElem?_set_self (by rw[qJ];omega),psh_k]
 rw[Yw (by omega),Yw (by omega),vX hq,jg L b a]
def OkM (n m:Nat) (L:Nat->SB):Prop:= ∀q,q<m->(L q).Ok n
theorem OkM.psh {n m k i:Nat} {L:Nat->SB} (h:OkM n m L) (hk:k+1<m) (hi:i+1<n):OkM n m (psh L k i):=fun q hq=>by
 by_cases a:q=k
 ·subst a;rw[psh_k];exact(h q hq).bk hi
 by_cases b:q=k+1
 ·subst b;rw[jh];exact(h (k+1) hq).fr hi
 rw[jg L a b];exact h q hq
theorem qoT {n:Nat} {L:Nat->SB}: ∀m,mu5 n L m<=m*(m*(n*n))
 |0=>Nat.zero_le _
 |m+1=>by
  have h1:=qoT (n:=n) (L:=L) m
  have h2:=Nat.mul_le_mul_left m ((L m).inv_le n)
  simp only[mu5,Nat.add_mul,Nat.mul_add,Nat.one_mul]at*
  omega
section
variable {n m:Nat} (hn:n<=12) (n1:1<=n) (hm:m<=300) {N:Nat} (hN:2000<N)
include hn n1 hm hN
theorem qqg {L:Nat->SB} (hL:OkM n m L) {k:Nat} (hk:k+1<m):
 (∃i,CanP n m L k i/\xL N (k:Int) (yf n m L)=some (yf n m (psh L k i),true))\/((∀i,¬CanP n m L k i)/\xL N (k:Int) (yf n m L)=some (yf n m L,false)):=by
 unfold xL
 rw[qz,vX (by omega),ZB,kr (by omega),qz,vX hk,ZB]
 rcases ql4 (n:=n) (by omega) hN n1 (t:=L (k+1)) (hL k (by omega))with⟨j,j1,j2,j3,j4⟩|⟨j1,j2⟩
 ·left
  refine⟨j,⟨hk,j1,j2,j3⟩,?_⟩
  rw[j4,ZB]
  simp only[if_true]
  rw[qjl (by omega) hN (hL k (by omega)) j1,ZB,qd5 (by omega) _ j1,ZB,qan (by rw[qJ];omega),ZB,qz,Yw (by omega),vX hk,ZB,qan (by simp[qJ];omega),ZB,ZB,qnH hk]
 right
 refine⟨fun i c=>c.e_ (j1 i c.i_ c.b_),?_⟩
 rw[j2,ZB]
 rfl
theorem qmA {k:Nat} (hk:k+1<m): ∀(K:Nat) (L:Nat->SB) (b:Bool),OkM n m L->mu5 n L m<K->
 ∃(L':Nat->SB) (b':Bool),yw N (k:Int) K (yf n m L) b=some (yf n m L',b')/\Pst n m L L'/\OkM n m L'/\(∀i,¬CanP n m L' k i)/\(∀q,q≠k->q≠k+1->L' q=L q)/\((b'=b/\L'=L)\/(b'=true/\mu5 n L' m<mu5 n L m))
 |0,L,b,hL,h=>by omega
 |K+1,L,b,hL,h=>by
  unfold yw
  rcases qqg hn n1 hm hN hL hk with⟨i,c,e⟩|⟨c,e⟩
  ·have hmu:=qgn c
   obtain⟨L',b',h1,h2,h3,h4,h5,h6⟩:=qmA hk K (psh L k i) true (hL.psh hk c.i_) (by omega)
   rw[e,ZB]
   simp only[qJ,if_true,ZB]
   refine⟨L',b',h1,.head (.mk c) h2,h3,h4,fun q q1 q2=>by rw[h5 q q1 q2,jg L q1 q2],?_⟩
   rcases h6 with⟨g1,g2⟩|⟨g1,g2⟩
   ·subst g1 g2;exact .inr ⟨rfl,hmu⟩
   exact .inr ⟨g1,by omega⟩
  rw[e,ZB]
  simp only[qJ,if_true,ZB,ZF,if_false]
  exact⟨L,b,rfl,.refl,hL,c,fun q _ _=>rfl,.inl ⟨rfl,rfl⟩⟩
theorem qjG (hmu: ∀L:Nat->SB,mu5 n L m<N): ∀(K k:Nat) (L:Nat->SB),OkM n m L->k<=m->2*mu5 n L m+(m-k)<K->(∀j,j<k-> ∀i,¬CanP n m L j i)->
 ∃A,yH N K (yf n m L) (k:Int)=some (yf n m A)/\Pst n m L A/\Nf n m A/\OkM n m A
 |0,k,L,hL,hk,h,ht=>by omega
 |K+1,k,L,hL,hk,h,ht=>by
  unfold yH
  rw[qJ,kr (by omega)]
  by_cases c:k+1<m
  ·obtain⟨L',b',h1,h2,h3,h4,h5,h6⟩:=qmA hn n1 hm hN c N L false hL (hmu L)
   rw[if_pos (by omega),h1]
   simp only[ZB]
   have tight: ∀j,j+1<k-> ∀i,¬CanP n m L' j i:=fun j hj i d=>ht j (by omega) i ⟨d.k_,d.i_,by have:=d.b_;rwa [h5 (j+1) (by omega) (by omega)]at this,by have:=d.e_;rwa [h5 j (by omega) (by omega)]at this⟩
   by_cases d:b'=true/\0<k
   ·obtain⟨d1,d2⟩:=d
    subst d1
    rcases h6 with⟨g1,_⟩|⟨_,g2⟩
    ·cases g1
    rw[if_pos rfl,decide_eq_true (show(k:Int)>0 by omega)]
    simp only[ZB,if_true]
    rw[show w64 ((k:Int)-1)=((k-1:Nat):Int)from qqO (by omega) d2]
    obtain⟨A,a1,a2,a3,a4⟩:=qjG hmu K (k-1) L' h3 (by omega) (by omega) (fun j hj=>tight j (by omega))
    exact⟨A,a1,h2.trans a2,a3,a4⟩
   have e:(if b'=true then some (decide ((k:Int)>0))else some false:Option Bool)=some false:=by
    cases b' with
    |false=>rfl
    |true=>rw[if_pos rfl,decide_eq_false (by have: ¬0<k:=fun g=>d ⟨rfl,g⟩;omega)]
   rw[e]
   simp only[ZB,ZF,if_false]
   have hmu2:mu5 n L' m<=mu5 n L m:=by
    rcases h6 with⟨_,g2⟩|⟨_,g2⟩
    ·rw[g2];exact Nat.le_refl _
    omega
   obtain⟨A,a1,a2,a3,a4⟩:=qjG hmu K (k+1) L' h3 (by omega) (by omega) (fun j hj i g=>by
    by_cases f:j=k
    ·subst f;exact h4 i g
    rcases h6 with⟨_,g2⟩|⟨g1,_⟩
    ·rw[g2]at g;exact ht j (by omega) i g
    exact d ⟨g1,by omega⟩)
   exact⟨A,a1,h2.trans a2,a3,a4⟩
  rw[if_neg (by omega)]
  exact⟨L,rfl,.refl,fun j i g=>by have:=g.k_;exact ht j (by omega) i g,hL⟩
end
end Go.Av
end
section
namespace Go.Av
def qbk (i:Nat) (p:List Nat):List Nat:=p.map (tr5 i)
def qfr:Nat->List Nat->List Nat
 |0,a::b::l=>b::a::l
 |i+1,a::l=>a::qfr i l
 |_,l=>l
def qlU:List Nat->Nat->Nat
 |[],_=>0
 |a::_,0=>a
 |_::l,k+1=>qlU l k
def qlQ (v:Nat):List Nat->Nat
 |[]=>0
 |a::l=>bif Nat.beq a v then 0 else qlQ v l+1
def qkS (i:Nat) (p:List Nat):Bool:=Nat.blt (qlU p (i+1)) (qlU p i)
def qko (i:Nat) (p:List Nat):Bool:=Nat.blt (qlQ (i+1) p) (qlQ i p)
def qk6 (s t:List Nat):Nat->Option Nat
 |0=>none
 |i+1=>bif qkS i t&&!qko i s then some i else qk6 s t i
def qga (n:Nat):Nat->List Nat->List Nat->List Nat×List Nat
 |0,s,t=>(s,t)
 |K+1,s,t=>match qk6 s t (n-1)with
  |none=>(s,t)
  |some i=>qga n K (qbk i s) (qfr i t)
def qjh (n:Nat):List Nat->List (List Nat)->List (List Nat)
 |x,[]=>[x]
 |x,s::r=>match qga n (n*n) s x with
  |(s',x')=>x'::qjh n s' r
theorem qmy: ∀(l:List Nat) (k:Nat),qlU l k=l.getD k 0
 |[],k=>by simp[qlU]
 |a::l,0=>rfl
 |a::l,k+1=>by rw[qlU,qmy l k];rfl
theorem qmt: ∀(i:Nat) (l:List Nat) (k:Nat),i+1<l.length->(qfr i l)[k]? =l[tr5 i k]?
 |0,[],k,h=>by simp at h
 |0,[a],k,h=>by simp at h
 |0,a::b::l,0,h=>by simp[qfr,tr5]
 |0,a::b::l,1,h=>by simp[qfr,tr5]
 |0,a::b::l,k+2,h=>by simp[qfr,tr5]
 |i+1,[],k,h=>by simp at h
 |i+1,a::l,0,h=>by simp[qfr,tr5]
 |i+1,a::l,k+1,h=>by
  rw[qfr,YK,qmt i l k (by simp at h;omega)]
  rcases xN i k with⟨c,e⟩|⟨c,e⟩|⟨c,c',e⟩<;>rw[e]
  ·subst c;rw[qbE,YK]
  ·subst c;rw[qbx,YK]
  rw[xc (by omega) (by omega),YK]
theorem qjY (n i:Nat) (s:SB):(s.bk i).row n=qbk i (s.row n):=by
 unfold SB.row qbk
 rw[List.map_map]
 rfl
theorem qjP {n i:Nat} (hi:i+1<n) (s:SB):(s.fr i).row n=qfr i (s.row n):=by
 apply List.ext_getElem?
 intro k
 rw[qmt i _ k (by rw[Uh];exact hi)]
 by_cases hk:k<n
 ·rw[Ug _ hk,Ug _ (qii hi hk)]
  rfl
 rw[xc (by omega) (by omega),Yg (by rw[Uh];omega),Yg (by rw[Uh];omega)]
theorem qkY {n k:Nat} (s:SB) (h:k<n):qlU (s.row n) k=s.f k:=by
 rw[qmy,Yy,Ug s h]
 rfl
theorem qmY: ∀(l:List Nat) (k v:Nat),l[k]? =some v->(∀j,j<k->l[j]? ≠some v)->qlQ v l=k
 |[],k,v,h,hj=>by simp at h
 |a::l,0,v,h,hj=>by
  simp at h
  subst h
  simp[qlQ]
 |a::l,k+1,v,h,hj=>by
  have:=hj 0 (by omega)
  have ne:a≠v:=fun e=>this (by simp[e])
  have hb:Nat.beq a v=false:=by
   cases c:Nat.beq a v with
   |false=>rfl
   |true=>exact absurd (Nat.eq_of_beq_eq_true c) ne
  rw[qlQ,hb,cond_false,qmY l k v (by simpa using h) (fun j hjk=>by have:=hj (j+1) (by omega);simpa using this)]
theorem qkm {n v:Nat} {s:SB} (hs:s.Ok n) (h:v<n):qlQ v (s.row n)=s.g v:=by
 refine qmY _ _ _ (by rw[Ug s (hs.g_ v h),s.fg]) (fun j hj=>?_)
 rw[Ug s (by have:=hs.g_ v h;omega)]
 intro e
 have:=Ye e
 have e2:j=s.g v:=by rw[<-this,s.gf]
 omega
theorem qny {n i:Nat} (hi:i+1<n) (s:SB):qkS i (s.row n)=true↔s.Begs i:=by
 unfold qkS SB.Begs
 rw[qkY s hi,qkY s (by omega)]
 simp[Nat.blt_eq]
theorem qm3 {n i:Nat} (hi:i+1<n) {s:SB} (hs:s.Ok n):qko i (s.row n)=true↔s.Ends i:=by
 unfold qko SB.Ends
 rw[qkm hs hi,qkm hs (by omega)]
 simp[Nat.blt_eq]
theorem qil {s t:List Nat}: ∀{j i:Nat},qk6 s t j=some i->i<j/\qkS i t=true/\qko i s=false
 |0,i,h=>by cases h
 |j+1,i,h=>by
  unfold qk6 at h
  cases c:(qkS j t&&!qko j s)with
  |false=>
   rw[c,cond_false]at h
   have:=qil h
   exact⟨by omega,this.2⟩
  |true=>
   rw[c,cond_true]at h
   have:=Ye h
   subst this
   simp only[Bool.and_eq_true,Bool.not_eq_true']at c
   exact⟨by omega,c⟩
theorem qio {n m k:Nat} (hk:k+1<m): ∀(K:Nat) (L:Nat->SB),OkM n m L-> ∃A,Pst n m L A/\qga n K ((L k).row n) ((L (k+1)).row n)=((A k).row n,(A (k+1)).row n)/\(∀q,q≠k->q≠k+1->A q=L q)/\OkM n m A
 |0,L,hL=>⟨L,.refl,rfl,fun _ _ _=>rfl,hL⟩
 |K+1,L,hL=>by
  unfold qga
  cases c:qk6 ((L k).row n) ((L (k+1)).row n) (n-1)with
  |none=>exact⟨L,.refl,rfl,fun _ _ _=>rfl,hL⟩
  |some i=>
   obtain⟨h1,h2,h3⟩:=qil c
   have hi:i+1<n:=by omega
   have can:CanP n m L k i:=⟨hk,hi,(qny hi _).1 h2,fun e=>by
    have:=(qm3 hi (hL k (by omega))).2 e
    rw[h3]at this
    cases this⟩
   obtain⟨A,a1,a2,a3,a4⟩:=qio hk K (psh L k i) (hL.psh hk hi)
   refine⟨A,.head (.mk can) a1,?_,fun q q1 q2=>by rw[a3 q q1 q2,jg L q1 q2],a4⟩
   dsimp only
   rw[psh_k,jh,qjY,qjP hi]at a2
   exact a2
def qbD (n:Nat) (L:Nat->SB):Nat->List (List Nat)
 |0=>[]
 |k+1=>(L k).row n::qbD n L k
theorem qiv {n:Nat} {L A:Nat->SB}: ∀{k:Nat},(∀q,q<k->A q=L q)->qbD n A k=qbD n L k
 |0,h=>rfl
 |k+1,h=>by rw[qbD,qbD,h k (by omega),qiv fun q hq=>h q (by omega)]
theorem qkR {n m:Nat}: ∀(k:Nat) (L:Nat->SB),k<m->OkM n m L-> ∃A,Pst n m L A/\qjh n ((L k).row n) (qbD n L k)=qbD n A (k+1)/\(∀q,k<q->A q=L q)/\OkM n m A
 |0,L,hk,hL=>⟨L,.refl,rfl,fun _ _=>rfl,hL⟩
 |k+1,L,hk,hL=>by
  obtain⟨B,b1,b2,b3,b4⟩:=qio (n:=n) (m:=m) (k:=k) hk (n*n) L hL
  obtain⟨A,a1,a2,a3,a4⟩:=qkR k B (by omega) b4
  refine⟨A,b1.trans a1,?_,fun q hq=>by rw[a3 q (by omega),b3 q (by omega) (by omega)],a4⟩
  rw[qbD,qjh,b2]
  dsimp only
  rw[qiv (A:=L) (L:=B) fun q hq=>(b3 q (by omega) (by omega)).symm,a2,<-a3 (k+1) (by omega)]
  rfl
end Go.Av
end
section
namespace Go.Av
theorem CanP.up {n m k i:Nat} {L:Nat->SB} (h:CanP n m L k i):CanP n (m+1) L k i:=⟨by have:=h.k_;omega,h.i_,h.b_,h.e_⟩
theorem Pst.up {n m:Nat} {L A:Nat->SB} (h:Pst n m L A):Pst n (m+1) L A:=by
 induction h with
 |refl=>exact .refl
 |head h _ ih=>cases h with|mk h=>exact .head (.mk h.up) ih
def qhT (L:Nat->SB) (m:Nat) (s:SB):Nat->SB:=fun q=>if q=m then s else L q
theorem qhj (L:Nat->SB) (m:Nat) (s:SB):qhT L m s m=s:=if_pos rfl
theorem qev {L:Nat->SB} {m q:Nat} {s:SB} (h:q≠m):qhT L m s q=L q:=if_neg h
theorem qnO {L:Nat->SB} {m k i:Nat} {s:SB} (h:k+1<m):psh (qhT L m s) k i=qhT (psh L k i) m s:=by
 funext q
 by_cases a:q=m
 ·subst a
  rw[qhj,jg _ (by omega) (by omega),qhj]
 rw[qev a]
 by_cases b:q=k
 ·subst b;rw[psh_k,psh_k,qev a]
 by_cases c:q=k+1
 ·subst c;rw[jh,jh,qev a]
 rw[jg _ b c,jg _ b c,qev a]
theorem Pst.upd {n m:Nat} {L A:Nat->SB} (h:Pst n m L A) (s:SB):Pst n m (qhT L m s) (qhT A m s):=by
 induction h with
 |refl=>exact .refl
 |head h _ ih=>
  cases h with
  |@mk k i h=>
   have hk:=h.k_
   refine .head (L1:=qhT (psh _ k i) m s) ?_ ih
   rw[<-qnO hk]
   refine .mk ⟨hk,h.i_,?_,?_⟩
   ·rw[qev (by omega)];exact h.b_
   rw[qev (by omega)];exact h.e_
theorem Pst.beyond {n m:Nat} {L A:Nat->SB} (h:Pst n m L A): ∀q,m<=q->A q=L q:=by
 induction h with
 |refl=>exact fun _ _=>rfl
 |head h _ ih=>
  cases h with
  |mk h=>
   intro q hq
   have:=h.k_
   rw[ih q hq,jg _ (by omega) (by omega)]
theorem qaZ {n k:Nat} (h:k<n):rv5 n k=n-1-k:=if_pos h
theorem qod {n i:Nat} (hi:i+1<n) (k:Nat):rv5 n (tr5 i k)=tr5 (n-2-i) (rv5 n k):=by
 by_cases hk:k<n
 ·have e:=qaZ hk
  rcases xN i k with⟨a,b⟩|⟨a,b⟩|⟨a,a',b⟩<;>rw[b]
  ·subst a
   rw[e,qaZ (by omega),show n-1-k=n-2-k+1 by omega,qbx]
   omega
  ·subst a
   rw[e,qaZ (by omega),show n-1-(i+1)=n-2-i by omega,qbE]
   omega
  rw[e,xc (by omega) (by omega)]
 rw[xc (by omega) (by omega)]
 have:rv5 n k=k:=if_neg hk
 rw[this,xc (by omega) (by omega)]
theorem qjM {n i:Nat} (hi:i+1<n) (s:SB):(s.bk i).flip n=(s.flip n).bk (n-2-i):=SB.ext fun k=>by
 show rv5 n (tr5 i (s.f (rv5 n k)))=tr5 (n-2-i) (rv5 n (s.f (rv5 n k)))
 exact qod hi _
theorem qkb {n i:Nat} (hi:i+1<n) (s:SB):(s.fr i).flip n=(s.flip n).fr (n-2-i):=SB.ext fun k=>by
 show rv5 n (s.f (tr5 i (rv5 n k)))=rv5 n (s.f (rv5 n (tr5 (n-2-i) k)))
 have:=qod (n:=n) (i:=n-2-i) (by omega) k
 rw[show n-2-(n-2-i)=i by omega]at this
 rw[this]
theorem qm4 {n i:Nat} (hi:i+1<n) {s:SB} (hs:s.Ok n) (h:s.Begs i):(s.flip n).Begs (n-2-i):=by
 unfold SB.Begs at*
 show rv5 n (s.f (rv5 n (n-2-i+1)))<rv5 n (s.f (rv5 n (n-2-i)))
 have h1:=hs.f_ i (by omega)
 have h2:=hs.f_ (i+1) hi
 rw[qaZ (k:=n-2-i+1) (by omega),qaZ (k:=n-2-i) (by omega),show n-1-(n-2-i+1)=i by omega,show n-1-(n-2-i)=i+1 by omega,qaZ h1,qaZ h2]
 omega
theorem qnq {n i:Nat} (hi:i+1<n) {s:SB} (hs:s.Ok n) (h: ¬s.Ends i): ¬(s.flip n).Ends (n-2-i):=by
 have h:=SB.nEnds h
 unfold SB.Ends
 show¬rv5 n (s.g (rv5 n (n-2-i+1)))<rv5 n (s.g (rv5 n (n-2-i)))
 have h1:=hs.g_ i (by omega)
 have h2:=hs.g_ (i+1) hi
 rw[qaZ (k:=n-2-i+1) (by omega),qaZ (k:=n-2-i) (by omega),show n-1-(n-2-i+1)=i by omega,show n-1-(n-2-i)=i+1 by omega,qaZ h1,qaZ h2]
 omega
def qdy (n:Nat) (L:Nat->SB):Nat->SB:=fun q=>(L q).flip n
theorem qnu {n k i:Nat} (hi:i+1<n) (L:Nat->SB):psh (qdy n L) k (n-2-i)=qdy n (psh L k i):=by
 funext q
 by_cases b:q=k
 ·subst b;rw[psh_k];unfold qdy;rw[psh_k,qjM hi]
 by_cases c:q=k+1
 ·subst c;rw[jh];unfold qdy;rw[jh,qkb hi]
 rw[jg _ b c];unfold qdy;rw[jg _ b c]
theorem OkM.flip {n m:Nat} {L:Nat->SB} (h:OkM n m L):OkM n m (qdy n L):=fun q hq=>(h q hq).flip
theorem Pst.flip {n m:Nat} {L A:Nat->SB} (h:Pst n m L A) (hL:OkM n m L):Pst n m (qdy n L) (qdy n A)/\OkM n m A:=by
 induction h with
 |refl=>exact⟨.refl,hL⟩
 |head h _ ih=>
  cases h with
  |@mk k i h=>
   have hk:=h.k_
   have hi:=h.i_
   obtain⟨a,b⟩:=ih (hL.psh hk hi)
   refine⟨.head (L1:=qdy n (psh _ k i)) ?_ a,b⟩
   rw[<-qnu hi]
   exact .mk ⟨hk,by omega,qm4 hi (hL _ hk) h.b_,qnq hi (hL _ (by omega)) h.e_⟩
def qjk (n:Nat) (p:List Nat):List Nat:=p.reverse.map fun k=>n-1-k
def qem (n:Nat):List Nat:=(List.range n).reverse
theorem qer (n:Nat):(Ub n).row n=qem n:=by
 apply List.ext_getElem?
 intro k
 unfold qem
 by_cases hk:k<n
 ·rw[Ug _ hk,List.getElem?_reverse (by simpa using hk)]
  simp only[List.length_range]
  rw[List.getElem?_range (by omega)]
  show some (rv5 n k)=_
  rw[qaZ hk]
 rw[Yg (by rw[Uh];omega),Yg (by simp;omega)]
theorem qid (n:Nat):Ud.row n=List.range n:=by
 unfold SB.row
 exact List.map_id' _
theorem qkI {n:Nat} {s:SB} (hs:s.Ok n):(s.flip n).row n=qjk n (s.row n):=by
 apply List.ext_getElem?
 intro k
 unfold qjk
 by_cases hk:k<n
 ·rw[Ug _ hk,YA,List.getElem?_reverse (by rw[Uh];exact hk),Uh,Ug _ (by omega)]
  show some (rv5 n (s.f (rv5 n k)))=_
  rw[qaZ hk,qaZ (hs.f_ _ (by omega))]
  rfl
 rw[Yg (by rw[Uh];omega),Yg (by simp[Uh];omega)]
theorem qhS {n m:Nat} {L:Nat->SB} (hL:OkM n m L): ∀{k:Nat},k<=m->qbD n (qdy n L) k=(qbD n L k).map (qjk n)
 |0,h=>rfl
 |k+1,h=>by
  rw[qbD,qbD,List.map_cons,qhS hL (k:=k) (by omega),<-qkI (hL k (by omega))]
  rfl
def xE (l:List SB):Nat->SB:=fun q=>l.getD q Ud
def qbO (n:Nat) (l:List SB) (c:Int):List SB:=if 0<c then l++[Ud.fr (c.natAbs-1)]else l.map (SB.flip n)++[(Ub n).bk (c.natAbs-1)]
theorem qnV (l:List SB) (s:SB):xE (l++[s])=qhT (xE l) l.length s:=by
 funext q
 show(l++[s]).getD q Ud=if q=l.length then s else l.getD q Ud
 rw[Yy,Yy]
 by_cases h:q=l.length
 ·subst h;simp
 rw[if_neg h]
 by_cases h2:q<l.length
 ·rw[Yf h2]
 rw[Yg (by simp;omega),Yg (by omega)]
theorem qgU (n:Nat) (l:List SB):xE (l.map (SB.flip n))=qdy n (xE l):=by
 funext q
 show(l.map (SB.flip n)).getD q Ud=(l.getD q Ud).flip n
 rw[Yy,Yy,YA]
 cases l[q]? with
 |some s=>rfl
 |none=>
  refine SB.ext fun k=>?_
  show k=rv5 n (rv5 n k)
  rw[qbI]
def qmX (n:Nat) (R:List (List Nat)) (c:Int):List (List Nat):=
 if 0<c then qjh n (qfr (c.natAbs-1) (List.range n)) R else qjh n (qbk (c.natAbs-1) (qem n)) (R.map (qjk n))
structure QOK (n:Nat) (l:List SB) (R:List (List Nat)):Prop where
 ok: ∀s∈l,s.Ok n
 ex: ∃A,Pst n l.length (xE l) A/\OkM n l.length A/\R=qbD n A l.length
theorem qd7 {n:Nat} {l:List SB} (h: ∀s∈l,s.Ok n):OkM n l.length (xE l):=fun q hq=>by
 unfold xE
 rw[Yy,Ya hq]
 exact h _ (List.getElem_mem hq)
theorem QOK.step {n:Nat} {l:List SB} {R:List (List Nat)} (h:QOK n l R) {c:Int} (hc:c≠0/\ -(n:Int)<c/\c<n):QOK n (qbO n l c) (qmX n R c)/\(qbO n l c).length=l.length+1:=by
 obtain⟨i,hi⟩: ∃i,c.natAbs=i+1:=⟨c.natAbs-1,by omega⟩
 have hin:i+1<n:=by omega
 obtain⟨A,a1,a2,rfl⟩:=h.ex
 have key: ∀{l':List SB} {B:Nat->SB} {s:SB},l'.length=l.length->(∀t∈l',t.Ok n)->s.Ok n->Pst n l.length (xE l') B->OkM n l.length B->QOK n (l'++[s]) (qjh n (s.row n) (qbD n B l.length)):=fun {l' B s} hl hk hs p ok=>by
  refine⟨fun t ht=>(List.mem_append.1 ht).elim (hk t) (fun e=>by rw[List.mem_singleton.1 e];exact hs),?_⟩
  have ok':OkM n (l.length+1) (qhT B l.length s):=fun q hq=>by
   by_cases e:q=l.length
   ·subst e;rw[qhj];exact hs
   rw[qev e];exact ok q (by omega)
  obtain⟨D,d1,d2,d3,d4⟩:=qkR (n:=n) (m:=l.length+1) l.length (qhT B l.length s) (by omega) ok'
  rw[qhj,qiv (A:=qhT B l.length s) (L:=B) fun q hq=>qev (by omega)]at d2
  rw[qnV,Yq,hl]
  refine⟨D,?_,d4,d2⟩
  have:=(p.upd s).up
  exact this.trans d1
 unfold qbO qmX
 rw[hi,Nat.add_sub_cancel]
 by_cases hp:0<c
 ·rw[if_pos hp,if_pos hp]
  refine⟨?_,by simp⟩
  have:=key (s:=Ud.fr i) rfl h.ok ((Ul n).fr hin) a1 a2
  rwa [qjP hin,qid]at this
 rw[if_neg hp,if_neg hp]
 refine⟨?_,by simp⟩
 obtain⟨f1,f2⟩:=a1.flip (qd7 h.ok)
 have:=key (l':=l.map (SB.flip n)) (B:=qdy n A) (s:=(Ub n).bk i) (by simp) (fun t ht=>by
  obtain⟨u,hu,rfl⟩:=List.mem_map.1 ht
  exact(h.ok u hu).flip) ((Ui n).bk hin) (by rw[qgU];exact f1) a2.flip
 rwa [qjY,qer,qhS a2 (Nat.le_refl _)]at this
end Go.Av
end
section
namespace Go.Av
def jnL (a:Nat) (P L:Nat->SB):Nat->SB:=fun q=>if q<a then P q else L (q-a)
theorem qbg {a q:Nat} {P L:Nat->SB} (h:q<a):jnL a P L q=P q:=if_pos h
theorem qbJ {a k:Nat} {P L:Nat->SB}:jnL a P L (a+k)=L k:=by
 unfold jnL
 rw[if_neg (by omega),Nat.add_sub_cancel_left]
theorem qeN (p l:List SB):xE (p++l)=jnL p.length (xE p) (xE l):=by
 funext q
 unfold jnL xE
 by_cases h:q<p.length
 ·rw[if_pos h,Yy,Yf h,Yy]
 rw[if_neg h,Yy,Yo (by omega),Yy]
theorem qpo {a k i:Nat} {P L:Nat->SB}:psh (jnL a P L) (a+k) i=jnL a P (psh L k i):=by
 funext q
 by_cases h:q<a
 ·rw[jg _ (by omega) (by omega),qbg h,qbg h]
 obtain⟨j,rfl⟩: ∃j,q=a+j:=⟨q-a,by omega⟩
 rw[qbJ]
 by_cases h1:j=k
 ·subst h1;rw[psh_k,psh_k,qbJ]
 by_cases h2:j=k+1
 ·subst h2;rw[show a+(k+1)=a+k+1 by omega,jh,jh,show a+k+1=a+(k+1)by omega,qbJ]
 rw[jg _ (by omega) (by omega),jg _ h1 h2,qbJ]
theorem qpl {a k i:Nat} {P L:Nat->SB} (hk:k+1<a):psh (jnL a P L) k i=jnL a (psh P k i) L:=by
 funext q
 by_cases h1:q=k
 ·subst h1;rw[psh_k,qbg (by omega),qbg (by omega),psh_k]
 by_cases h2:q=k+1
 ·subst h2;rw[jh,qbg hk,qbg hk,jh]
 rw[jg _ h1 h2]
 by_cases h:q<a
 ·rw[qbg h,qbg h,jg _ h1 h2]
 unfold jnL;rw[if_neg h,if_neg h]
theorem Pst.pre {n m a:Nat} {P L A:Nat->SB} (h:Pst n m L A):Pst n (a+m) (jnL a P L) (jnL a P A):=by
 induction h with
 |refl=>exact .refl
 |head h _ ih=>
  cases h with
  |@mk k i h=>
   refine .head (L1:=jnL a P (psh _ k i)) ?_ ih
   rw[<-qpo]
   refine .mk ⟨by have:=h.k_;omega,h.i_,?_,?_⟩
   ·rw[show a+k+1=a+(k+1)by omega,qbJ];exact h.b_
   rw[qbJ];exact h.e_
theorem Pst.suf {n m a:Nat} {P A L:Nat->SB} (h:Pst n a P A):Pst n (a+m) (jnL a P L) (jnL a A L):=by
 induction h with
 |refl=>exact .refl
 |head h _ ih=>
  cases h with
  |@mk k i h=>
   have hk:=h.k_
   refine .head (L1:=jnL a (psh _ k i) L) ?_ ih
   rw[<-qpl hk]
   refine .mk ⟨by omega,h.i_,?_,?_⟩
   ·rw[qbg hk];exact h.b_
   rw[qbg (by omega)];exact h.e_
structure Jn (n:Nat) (l l':List SB):Prop where
 len:l.length=l'.length
 o1: ∀s∈l,s.Ok n
 o2: ∀s∈l',s.Ok n
 meet: ∃D,Pst n l.length (xE l) D/\Pst n l.length (xE l') D
theorem Jn.refl {n:Nat} {l:List SB} (h: ∀s∈l,s.Ok n):Jn n l l:=⟨rfl,h,h,_,.refl,.refl⟩
theorem Jn.symm {n:Nat} {l l':List SB} (h:Jn n l l'):Jn n l' l:=by
 obtain⟨D,a,b⟩:=h.meet
 exact⟨h.len.symm,h.o2,h.o1,D,h.len▸b,h.len▸a⟩
theorem Jn.trans {n:Nat} {l l' l2:List SB} (h:Jn n l l') (k:Jn n l' l2):Jn n l l2:=by
 obtain⟨D,a,b⟩:=h.meet
 obtain⟨E,c,d⟩:=k.meet
 rw[<-h.len]at c d
 obtain⟨F,f1,f2⟩:=qiC _ D (Nat.le_refl _)
 obtain⟨G,g1,g2⟩:=qiC _ E (Nat.le_refl _)
 obtain rfl:=qd4 _ (Nat.le_refl _) (b.trans f1) (c.trans g1) f2 g2
 exact⟨h.len.trans k.len,h.o1,k.o2,F,a.trans f1,d.trans g1⟩
theorem Jn.app {n:Nat} {p p' l l':List SB} (h:Jn n p p') (k:Jn n l l'):Jn n (p++l) (p'++l'):=by
 obtain⟨D,a,b⟩:=h.meet
 obtain⟨E,c,d⟩:=k.meet
 refine⟨by rw[Yq,Yq,h.len,k.len],fun s hs=>(List.mem_append.1 hs).elim (h.o1 s) (k.o1 s),fun s hs=>(List.mem_append.1 hs).elim (h.o2 s) (k.o2 s),jnL p.length D E,?_,?_⟩
 ·rw[qeN,Yq]
  exact a.suf.trans c.pre
 rw[qeN,Yq,<-h.len]
 exact b.suf.trans d.pre
theorem Jn.flip {n:Nat} {l l':List SB} (h:Jn n l l'):Jn n (l.map (SB.flip n)) (l'.map (SB.flip n)):=by
 obtain⟨D,a,b⟩:=h.meet
 have f1:=(a.flip (qd7 h.o1)).1
 have f2:=(b.flip (by rw[h.len];exact qd7 h.o2)).1
 refine⟨by simp[h.len],fun s hs=>?_,fun s hs=>?_,qdy n D,?_,?_⟩
 ·obtain⟨u,hu,rfl⟩:=List.mem_map.1 hs;exact(h.o1 u hu).flip
 ·obtain⟨u,hu,rfl⟩:=List.mem_map.1 hs;exact(h.o2 u hu).flip
 ·rw[qgU,List.length_map];exact f1
 rw[qgU,List.length_map];exact f2
theorem Jn.nf {n:Nat} {l l':List SB} (h:Jn n l l') {A:Nat->SB} (a:Pst n l.length (xE l) A) (nA:Nf n l.length A):Pst n l'.length (xE l') A:=by
 obtain⟨D,d1,d2⟩:=h.meet
 obtain⟨E,e1,e2⟩:=qiC _ D (Nat.le_refl _)
 obtain rfl:=qd4 _ (Nat.le_refl _) a (d1.trans e1) nA e2
 rw[<-h.len]
 exact d2.trans e1
def SB.Fix (n:Nat) (s:SB):Prop:= ∀k,n<=k->s.f k=k
theorem SB.Fix.fr {n i:Nat} {s:SB} (h:s.Fix n) (hi:i+1<n):(s.fr i).Fix n:=fun k hk=>by
 show s.f (tr5 i k)=k
 rw[xc (by omega) (by omega)]
 exact h k hk
theorem SB.Fix.bk {n i:Nat} {s:SB} (h:s.Fix n) (hi:i+1<n):(s.bk i).Fix n:=fun k hk=>by
 show tr5 i (s.f k)=k
 rw[h k hk,xc (by omega) (by omega)]
theorem ql5 {n k:Nat} (h:n<=k):rv5 n k=k:=if_neg (by omega)
theorem SB.Fix.flip {n:Nat} {s:SB} (h:s.Fix n):(s.flip n).Fix n:=fun k hk=>by
 show rv5 n (s.f (rv5 n k))=k
 rw[ql5 hk,h k hk,ql5 hk]
theorem Us (n:Nat):Ud.Fix n:=fun _ _=>rfl
theorem Uu (n:Nat):(Ub n).Fix n:=fun k hk=>ql5 hk
theorem qjT {n:Nat} {s t:SB} (hs:s.Fix n) (ht:t.Fix n) (h:s.row n=t.row n):s=t:=SB.ext fun k=>by
 by_cases hk:k<n
 ·have a:=Ug s hk
  rw[h,Ug t hk]at a
  exact(Ye a).symm
 rw[hs k (by omega),ht k (by omega)]
theorem Pst.fix {n m:Nat} {L A:Nat->SB} (h:Pst n m L A) (hL: ∀q,(L q).Fix n): ∀q,(A q).Fix n:=by
 induction h with
 |refl=>exact hL
 |head h _ ih=>
  cases h with
  |@mk k i h=>
   refine ih fun q=>?_
   by_cases h1:q=k
   ·subst h1;rw[psh_k];exact(hL q).bk h.i_
   by_cases h2:q=k+1
   ·subst h2;rw[jh];exact(hL _).fr h.i_
   rw[jg _ h1 h2];exact hL q
theorem qia {n:Nat} {l:List SB} (h: ∀s∈l,s.Fix n): ∀q,(xE l q).Fix n:=fun q=>by
 unfold xE
 rw[Yy]
 cases e:l[q]? with
 |none=>exact Us n
 |some s=>exact h s (Yn e)
theorem qc8 {l:List SB} {q:Nat} (h:l.length<=q):xE l q=Ud:=by
 unfold xE
 rw[Yy,Yg h]
 rfl
theorem qgB (n:Nat) (L:Nat->SB): ∀k,(qbD n L k).length=k
 |0=>rfl
 |k+1=>by rw[qbD,Yr,qgB n L k]
theorem qjt {n:Nat} {A B:Nat->SB}: ∀{k:Nat},qbD n A k=qbD n B k-> ∀q,q<k->(A q).row n=(B q).row n
 |0,h,q,hq=>by omega
 |k+1,h,q,hq=>by
  rw[qbD,qbD]at h
  injection h with h1 h2
  by_cases e:q=k
  ·subst e;exact h1
  exact qjt h2 q (by omega)
theorem qmp {n:Nat} {l l':List SB} {R:List (List Nat)} (h:QOK n l R) (h':QOK n l' R) (f: ∀s∈l,s.Fix n) (f': ∀s∈l',s.Fix n):Jn n l l':=by
 obtain⟨A,a1,a2,a3⟩:=h.ex
 obtain⟨B,b1,b2,b3⟩:=h'.ex
 have hl:l.length=l'.length:=by
  have:=congrArg List.length a3
  rw[b3,qgB,qgB]at this
  exact this.symm
 have e:A=B:=by
  funext q
  by_cases hq:q<l.length
  ·refine qjT (a1.fix (qia f) q) (b1.fix (qia f') q) ?_
   rw[<-hl]at b3
   exact qjt (a3.symm.trans b3) q hq
  rw[a1.beyond q (by omega),b1.beyond q (by omega),qc8 (by omega),qc8 (by omega)]
 subst e
 exact⟨hl,h.ok,h'.ok,A,a1,hl▸b1⟩
def fac (n:Nat) (w:List Int):List SB:=w.foldl (qbO n) []
def flW (n:Nat) (w:List Int) (p:List SB):List SB:=w.foldl (fun p c=>if 0<c then p else p.map (SB.flip n)) p
theorem qoN (n:Nat) (p l:List SB) (c:Int):qbO n (p++l) c=(if 0<c then p else p.map (SB.flip n))++qbO n l c:=by
 unfold qbO
 split
 ·rw[Yz]
 rw[List.map_append,Yz]
theorem qi3 (n:Nat): ∀(w:List Int) (p l:List SB),w.foldl (qbO n) (p++l)=flW n w p++w.foldl (qbO n) l
 |[],p,l=>rfl
 |c::w,p,l=>by
  rw[List.foldl_cons,qoN,qi3 n w,List.foldl_cons]
  rfl
theorem qfi (n:Nat) (u v:List Int):fac n (u++v)=flW n v (fac n u)++fac n v:=by
 unfold fac
 rw[List.foldl_append]
 have:=qi3 n v (u.foldl (qbO n) []) []
 rw[List.append_nil]at this
 exact this
def LetN (n:Nat) (w:List Int):Prop:= ∀c∈w,c≠0/\ -(n:Int)<c/\c<n
theorem LetN.app {n:Nat} {u v:List Int} (h:LetN n u) (k:LetN n v):LetN n (u++v):=fun c hc=>(List.mem_append.1 hc).elim (h c) (k c)
theorem LetN.left {n:Nat} {u v:List Int} (h:LetN n (u++v)):LetN n u:=fun c hc=>h c (List.mem_append_left _ hc)
theorem LetN.right {n:Nat} {u v:List Int} (h:LetN n (u++v)):LetN n v:=fun c hc=>h c (List.mem_append_right _ hc)
def Gd (n:Nat) (s:SB):Prop:= ∃i,i+1<n/\(s=Ud.fr i\/s=(Ub n).bk i)
theorem qd1 (n:Nat):Ud.flip n=Ud:=SB.ext fun k=>qbI n k
theorem qdK (n:Nat):(Ub n).flip n=Ub n:=SB.ext fun k=>by
 show rv5 n (rv5 n (rv5 n k))=rv5 n k
 rw[qbI]
theorem Gd.flip {n:Nat} {s:SB} (h:Gd n s):Gd n (s.flip n):=by
 obtain⟨i,hi,h|h⟩:=h<;>subst h
 ·exact⟨n-2-i,by omega,.inl (by rw[qkb hi,qd1])⟩
 exact⟨n-2-i,by omega,.inr (by rw[qjM hi,qdK])⟩
theorem Gd.ok {n:Nat} {s:SB} (h:Gd n s):s.Ok n:=by
 obtain⟨i,hi,h|h⟩:=h<;>subst h
 ·exact(Ul n).fr hi
 exact(Ui n).bk hi
theorem Gd.fix {n:Nat} {s:SB} (h:Gd n s):s.Fix n:=by
 obtain⟨i,hi,h|h⟩:=h<;>subst h
 ·exact(Us n).fr hi
 exact(Uu n).bk hi
theorem qpF {n:Nat} {l:List SB} (h: ∀s∈l,Gd n s) {c:Int} (hc:c≠0/\ -(n:Int)<c/\c<n): ∀s∈qbO n l c,Gd n s:=fun s hs=>by
 unfold qbO at hs
 split at hs
 ·rcases List.mem_append.1 hs with hs|hs
  ·exact h s hs
  rw[List.mem_singleton.1 hs];exact⟨c.natAbs-1,by omega,.inl rfl⟩
 rcases List.mem_append.1 hs with hs|hs
 ·obtain⟨u,hu,rfl⟩:=List.mem_map.1 hs
  exact(h u hu).flip
 rw[List.mem_singleton.1 hs];exact⟨c.natAbs-1,by omega,.inr rfl⟩
theorem qmM {n:Nat}: ∀{w:List Int} {l:List SB},(∀s∈l,Gd n s)->LetN n w-> ∀s∈w.foldl (qbO n) l,Gd n s
 |[],l,h,hw=>h
 |c::w,l,h,hw=>qmM (w:=w) (qpF h (hw c (List.mem_cons_self ..))) (fun d hd=>hw d (List.mem_cons_of_mem _ hd))
theorem qcv {n:Nat} {w:List Int} (hw:LetN n w): ∀s∈fac n w,Gd n s:=qmM (fun s hs=>by cases hs) hw
theorem qoR (n:Nat) (l:List SB) (c:Int):(qbO n l c).length=l.length+1:=by unfold qbO;split<;>simp
theorem qi8 (n:Nat): ∀(w:List Int) (l:List SB),(w.foldl (qbO n) l).length=l.length+w.length
 |[],l=>rfl
 |c::w,l=>by rw[List.foldl_cons,qi8 n w,qoR,Yr];omega
theorem qa4 (n:Nat) (w:List Int):(fac n w).length=w.length:=by unfold fac;rw[qi8];simp
def qW (n:Nat) (w:List Int):List (List Nat):=w.foldl (qmX n) []
theorem qnM {n:Nat}: ∀(w:List Int) {l:List SB} {R:List (List Nat)},QOK n l R->LetN n w->QOK n (w.foldl (qbO n) l) (w.foldl (qmX n) R)
 |[],l,R,h,hw=>h
 |c::w,l,R,h,hw=>qnM w (h.step (hw c (List.mem_cons_self ..))).1 (fun d hd=>hw d (List.mem_cons_of_mem _ hd))
theorem fac_q {n:Nat} {w:List Int} (hw:LetN n w):QOK n (fac n w) (qW n w):=
 qnM w ⟨fun s h=>(by cases h),⟨xE [],Pst.refl,fun q hq=>absurd hq (Nat.not_lt_zero q),rfl⟩⟩ hw
theorem qlB {n:Nat}: ∀(w:List Int) {l l':List SB},Jn n l l'->Jn n (flW n w l) (flW n w l')
 |[],l,l',h=>h
 |c::w,l,l',h=>by
  unfold flW
  rw[List.foldl_cons,List.foldl_cons]
  refine qlB w ?_
  split
  ·exact h
  exact h.flip
theorem qeb (n:Nat): ∀(w:List Int) (p q:List SB),flW n w (p++q)=flW n w p++flW n w q
 |[],p,q=>rfl
 |c::w,p,q=>by
  unfold flW
  rw[List.foldl_cons,List.foldl_cons,List.foldl_cons]
  split
  ·exact qeb n w p q
  rw[List.map_append];exact qeb n w _ _
theorem qmh {n:Nat}: ∀(w:List Int) {l:List SB},(∀s∈l,Gd n s)-> ∀s∈flW n w l,Gd n s
 |[],l,h=>h
 |c::w,l,h=>by
  unfold flW
  rw[List.foldl_cons]
  refine qmh w ?_
  split
  ·exact h
  intro s hs
  obtain⟨u,hu,rfl⟩:=List.mem_map.1 hs
  exact(h u hu).flip
theorem qec {n:Nat} {s:SB} (h:s.flip n=s): ∀w:List Int,flW n w [s]=[s]
 |[]=>rfl
 |c::w=>by
  unfold flW
  rw[List.foldl_cons]
  split
  ·exact qec h w
  rw[List.map_singleton,h];exact qec h w
theorem qge {n:Nat} {l:List SB} (h: ∀s∈l,Gd n s):Jn n l l:= .refl fun s hs=>(h s hs).ok
end Go.Av
end
section
namespace Go.Av
def qh6 (H I:List Int):List (List Int)->Prop
 |x::y::r=>(y=H->x=H)/\(x=I->y=I)/\qh6 H I (y::r)
 |_=>True
theorem qh6.tail {H I x:List Int} {r:List (List Int)} (h:qh6 H I (x::r)):qh6 H I r:=by
 cases r with
 |nil=>trivial
 |cons y r=>exact h.2.2
theorem qh6.allI {H I:List Int}: ∀{r:List (List Int)},qh6 H I (I::r)-> ∀y∈r,y=I
 |[],h,y,hy=>by cases hy
 |z::r,h,y,hy=>by
  have hz:z=I:=h.2.1 rfl
  subst hz
  rcases List.mem_cons.1 hy with rfl|hy
  ·rfl
  exact qh6.allI h.tail y hy
theorem qmJ {I:List Int}: ∀{r:List (List Int)},(∀y∈r,y=I)->r=List.replicate r.length I
 |[],_=>rfl
 |z::r,h=>by
  rw[Yr,List.replicate_succ,h z List.mem_cons_self,<-qmJ (r:=r) fun y hy=>h y (List.mem_cons_of_mem _ hy)]
theorem qh6.split {H I:List Int}: ∀{r:List (List Int)},qh6 H I r-> ∃(M:List (List Int)) (d:Nat),r=M++List.replicate d I/\I∉M
 |[],_=>⟨[],0,rfl,by simp⟩
 |x::r,h=>by
  by_cases c:x=I
  ·subst c
   refine⟨[],(x::r).length,?_,by simp⟩
   rw[List.nil_append]
   exact qmJ fun y hy=>by
    rcases List.mem_cons.1 hy with rfl|hy
    ·rfl
    exact qh6.allI h y hy
  obtain⟨M,d,h1,h2⟩:=qh6.split h.tail
  exact⟨x::M,d,by rw[h1];rfl,fun g=>by
   rcases List.mem_cons.1 g with g|g
   ·exact c g.symm
   exact h2 g⟩
section
variable {n m:Nat} (hn:n<=12) (n2:2<=n)
include hn n2
theorem qkd:(Ub n).li n≠yS n:=fun h=>by
 have:=SB.li_inj (t:=Ud) h (k:=0) (by omega)
 have e:rv5 n 0=0:=this
 unfold rv5 at e
 rw[if_pos (by omega)]at e
 omega
variable {N:Nat} (hN:2000<N)
include hN
theorem qhk {A:Nat->SB} (hm:m<=300) (hA:OkM n m A): ∀(K i:Nat) (h:Int) (out:List (List Int)),i<=m->m<K+i-> -1000<=h->h<=300+i->out.length<=i->
 xz N (n:Int) (yf n m A) K h out (i:Int)=some (h+((((yf n m A).drop i).countP fun x=>decide (x=(Ub n).li n):Nat):Int),out++((yf n m A).drop i).filter fun x=>!decide (x=yS n)&&!decide (x=(Ub n).li n))
 |0,i,h,out,hi,hK,h1,h2,ho=>by omega
 |K+1,i,h,out,hi,hK,h1,h2,ho=>by
  unfold xz
  rw[qJ]
  by_cases c:i<m
  ·have hl:i<(yf n m A).length:=by rw[qJ];exact c
   have hg:(yf n m A)[i]=(A i).li n:=by
    have:=vX (n:=n) (L:=A) c
    rw[Ya hl]at this
    exact Ye this
   obtain⟨b,b1,b2⟩:=qou hn (by omega) (N:=N) hN (A i)
   rw[qjU hn (by omega) (hA i c)]at b2
   have e24: ∀o:List (List Int),o.length<=i->app 24 o [(A i).li n]=some (o++[(A i).li n]):=fun o ho=>qdd (by simp;omega) (by simp;omega)
   rw[if_pos (by omega),qz,vX c,YG hl,hg,List.countP_cons,List.filter_cons]
   simp only[ZB,b1]
   by_cases p:(A i).li n=yS n
   ·have q:(A i).li n≠(Ub n).li n:=fun e=>qkd hn n2 (e▸p)
    rw[b2.2 p]
    simp only[if_true,ZB]
    rw[kr (by omega),qhk hm hA K (i+1) h out (by omega) (by omega) (by omega) (by omega) (by omega),decide_eq_true p,decide_eq_false q]
    simp
   have bf:b=false:=by
    cases b with
    |false=>rfl
    |true=>exact absurd (b2.1 rfl) p
   subst bf
   simp only[ZF,if_false]
   rw[qm1 hN (by omega)]
   simp only[ZB]
   have hln:=Uf n (A i)
   rw[qpE (by omega) (by omega)]
   simp only[ZB]
   by_cases q:(A i).li n=(Ub n).li n
   ·rw[decide_eq_true q,decide_eq_false p]
    simp only[if_true,ZB]
    rw[kr (by omega),yG (n:=h+1) (by omega) (by omega),qhk hm hA K (i+1) (h+1) out (by omega) (by omega) (by omega) (by omega) (by omega)]
    simp
    omega
   rw[decide_eq_false q,decide_eq_false p,e24 out ho]
   simp only[ZF,if_false,ZB]
   rw[kr (by omega),qhk hm hA K (i+1) h _ (by omega) (by omega) (by omega) (by omega) (by simp;omega)]
   simp
  rw[if_neg (by omega),List.drop_eq_nil_of_le (by rw[qJ];omega)]
  simp
end
end Go.Av
end
section
namespace Go.Av
def lets (n:Nat):List Int:=(List.range (n-1)).flatMap fun i=>[((i+1:Nat):Int),-((i+1:Nat):Int)]
theorem qoi {n:Nat} {c:Int} (h:c≠0/\ -(n:Int)<c/\c<n):c∈lets n:=by
 refine List.mem_flatMap.2 ⟨c.natAbs-1,List.mem_range.2 (by omega),?_⟩
 by_cases p:0<c
 ·exact List.mem_cons.2 (.inl (by omega))
 exact List.mem_cons_of_mem _ (List.mem_singleton.2 (by omega))
def far5 (x y:Int):Bool:=Nat.ble (x.natAbs+2) y.natAbs||Nat.ble (y.natAbs+2) x.natAbs
def sg5 (c:Int):Int:=if c<0 then-1 else 1
def trn5 (x y z:Int):Option (List Int):=
 if x.natAbs=z.natAbs/\(x.natAbs=y.natAbs+1\/y.natAbs=x.natAbs+1)then
  if sg5 x=sg5 y then some [sg5 z*(y.natAbs:Int),x,y]else if sg5 y=sg5 z then some [y,z,sg5 x*(y.natAbs:Int)]else none
 else none
def ngs (w:List Int):Nat:=w.countP fun c=>!decide (0<c)
def qiA:List (List Nat)->List (List Nat)->Bool
 |[],[]=>true
 |x::a,y::b=>rowB x y&&qiA a b
 |_,_=>false
where rowB:List Nat->List Nat->Bool
 |[],[]=>true
 |x::a,y::b=>Nat.beq x y&&rowB a b
 |_,_=>false
theorem qmG: ∀{a b:List Nat},qiA.rowB a b=true->a=b
 |[],[],h=>rfl
 |x::a,y::b,h=>by
  unfold qiA.rowB at h
  simp only[Bool.and_eq_true]at h
  rw[Nat.eq_of_beq_eq_true h.1,qmG h.2]
 |[],y::b,h=>by cases h
 |x::a,[],h=>by cases h
theorem qhH: ∀{a b:List (List Nat)},qiA a b=true->a=b
 |[],[],h=>rfl
 |x::a,y::b,h=>by
  unfold qiA at h
  simp only[Bool.and_eq_true]at h
  rw[qmG h.1,qhH h.2]
 |[],y::b,h=>by cases h
 |x::a,[],h=>by cases h
def okIns (n:Nat):Bool:=(lets n).all fun x=>qiA (qW n [x,-x]) [List.range n,qem n]
def qk2 (n:Nat) (s t s' t':List Nat):Bool:=qiA [(qga n (n*n) s t).1,(qga n (n*n) s t).2] [s',t']
def okGd (n:Nat):Bool:=(List.range (n-1)).all fun i=>
 (qk2 n (qfr i (List.range n)) (qem n) (qem n) (qjk n (qfr i (List.range n)))&&qk2 n (qbk i (qem n)) (qem n) (qem n) (qjk n (qbk i (qem n))))&&
 (qk2 n (List.range n) (qfr i (List.range n)) (qfr i (List.range n)) (List.range n)&&qk2 n (List.range n) (qbk i (qem n)) (qbk i (qem n)) (List.range n))
theorem qrj:((List.range 7).all okIns)=true:=by kernel_rfl
theorem qqw:((List.range 7).all okGd)=true:=by kernel_rfl
theorem qml {f:Nat->Bool} (h:((List.range 7).all f)=true) {n:Nat} (hn:n<=6):f n=true:=Yp.1 h n (List.mem_range.2 (by omega))
theorem qq6 {n:Nat} {s t:SB} (hs:s.Ok n) (ht:t.Ok n):QOK n [s,t] [(qga n (n*n) (s.row n) (t.row n)).2,(qga n (n*n) (s.row n) (t.row n)).1]:=by
 have ho: ∀u∈[s,t],u.Ok n:=fun u hu=>by
  rcases List.mem_cons.1 hu with rfl|hu
  ·exact hs
  rw[List.mem_singleton.1 hu];exact ht
 obtain⟨A,a1,a2,a3,a4⟩:=qio (n:=n) (m:=2) (k:=0) (by omega) (n*n) (xE [s,t]) (qd7 ho)
 refine⟨ho,A,a1,a4,?_⟩
 have e:qga n (n*n) (s.row n) (t.row n)=((A 0).row n,(A 1).row n):=a2
 rw[e]
 rfl
theorem qqD {n:Nat} {s t:SB} (hs:s.Ok n) (ht:t.Ok n):QOK n [s,t] [t.row n,s.row n]:=by
 have ho: ∀u∈[s,t],u.Ok n:=fun u hu=>by
  rcases List.mem_cons.1 hu with rfl|hu
  ·exact hs
  rw[List.mem_singleton.1 hu];exact ht
 exact⟨ho,_,.refl,qd7 ho,rfl⟩
theorem qlf {n:Nat} {s t s' t':SB} (hs:s.Ok n) (ht:t.Ok n) (hs':s'.Ok n) (ht':t'.Ok n) (f1:s.Fix n) (f2:t.Fix n) (f3:s'.Fix n) (f4:t'.Fix n) (h:qk2 n (s.row n) (t.row n) (s'.row n) (t'.row n)=true):Jn n [s,t] [s',t']:=by
 have e:=qhH h
 injection e with e1 e2
 injection e2 with e2 _
 have q:=qq6 hs ht
 rw[e1,e2]at q
 refine qmp q (qqD hs' ht') (fun u hu=>?_) (fun u hu=>?_)
 ·rcases List.mem_cons.1 hu with rfl|hu
  ·exact f1
  rw[List.mem_singleton.1 hu];exact f2
 rcases List.mem_cons.1 hu with rfl|hu
 ·exact f3
 rw[List.mem_singleton.1 hu];exact f4
theorem qdM (n:Nat) (s:SB):(s.flip n).flip n=s:=SB.ext fun k=>by
 show rv5 n (rv5 n (s.f (rv5 n (rv5 n k))))=s.f k
 rw[qbI,qbI]
theorem qcK {n:Nat} {s:SB} (h:s.Ok n): ∀t∈[s],t.Ok n:=fun t ht=>by rw[List.mem_singleton.1 ht];exact h
section
variable {n:Nat} (hn:n<=6)
include hn
theorem qpL {s:SB} (h:Gd n s):Jn n [s,Ub n] [Ub n,s.flip n]:=by
 refine qlf h.ok (Ui n) (Ui n) h.ok.flip h.fix (Uu n) (Uu n) h.fix.flip ?_
 rw[qkI h.ok,qer]
 obtain⟨i,hi,h⟩:=h
 have c:=Yp.1 (qml qqw hn) i (List.mem_range.2 (by omega))
 simp only[Bool.and_eq_true]at c
 rcases h with rfl|rfl
 ·rw[qjP hi,qid];exact c.1.1
 rw[qjY,qer];exact c.1.2
theorem gd_id {s:SB} (h:Gd n s):Jn n [Ud,s] [s,Ud]:=by
 refine qlf (Ul n) h.ok h.ok (Ul n) (Us n) h.fix h.fix (Us n) ?_
 rw[qid]
 obtain⟨i,hi,h⟩:=h
 have c:=Yp.1 (qml qqw hn) i (List.mem_range.2 (by omega))
 simp only[Bool.and_eq_true]at c
 rcases h with rfl|rfl
 ·rw[qjP hi,qid];exact c.2.1
 rw[qjY,qer];exact c.2.2
theorem qjJ: ∀{l:List SB},(∀s∈l,Gd n s)->Jn n (l.map (SB.flip n)++[Ub n]) (Ub n::l)
 |[],h=> .refl (qcK (Ui n))
 |s::l,h=>by
  have hs:=h s (List.mem_cons_self ..)
  have hl:=fun t ht=>h t (List.mem_cons_of_mem s ht)
  have a:Jn n ([s.flip n]++(l.map (SB.flip n)++[Ub n])) ([s.flip n]++(Ub n::l)):=(Jn.refl (qcK hs.flip.ok)).app (qjJ hl)
  have b:Jn n ([s.flip n,Ub n]++l) ([Ub n,s]++l):=by
   have:=qpL hn hs.flip
   rw[qdM]at this
   exact this.app (qge hl)
  exact a.trans b
theorem qmr: ∀{l:List SB},(∀s∈l,Gd n s)->Jn n (Ud::l) (l++[Ud])
 |[],h=> .refl (qcK (Ul n))
 |s::l,h=>by
  have hs:=h s (List.mem_cons_self ..)
  have hl:=fun t ht=>h t (List.mem_cons_of_mem s ht)
  have b:Jn n ([Ud,s]++l) ([s,Ud]++l):=(gd_id hn hs).app (qge hl)
  have a:Jn n ([s]++(Ud::l)) ([s]++(l++[Ud])):=(Jn.refl (qcK hs.ok)).app (qmr hl)
  exact b.trans a
theorem qrq {x:Int} (hx:x≠0/\ -(n:Int)<x/\x<n):Jn n (fac n [x,-x]) [Ub n,Ud]:=by
 have c:=Yp.1 (qml qrj hn) x (qoi hx)
 have l1:LetN n [x,-x]:=fun c hc=>by
  rcases List.mem_cons.1 hc with rfl|hc
  ·exact hx
  rw[List.mem_singleton.1 hc];omega
 have q:=fac_q l1
 rw[qhH c]at q
 have q2:=qqD (Ui n) (Ul n)
 rw[qid,qer]at q2
 refine qmp q q2 (fun s hs=>(qcv l1 s hs).fix) (fun s hs=>?_)
 rcases List.mem_cons.1 hs with rfl|hs
 ·exact Uu n
 rw[List.mem_singleton.1 hs];exact Us n
theorem qqf {u v:List Int} {x:Int} (hu:LetN n u) (hv:LetN n v) (hx:x≠0/\ -(n:Int)<x/\x<n):Jn n (fac n (u++[x,-x]++v)) (Ub n::(fac n (u++v)++[Ud])):=by
 have e1:flW n [x,-x] (fac n u)=(fac n u).map (SB.flip n):=by
  unfold flW
  rw[List.foldl_cons,List.foldl_cons,List.foldl_nil]
  by_cases p:0<x
  ·rw[if_pos p,if_neg (by omega)]
  rw[if_neg p,if_pos (by omega)]
 have g1:=qcv hu
 have a:Jn n (fac n (u++[x,-x])) ((Ub n::fac n u)++[Ud]):=by
  rw[qfi,e1]
  have a1:Jn n ((fac n u).map (SB.flip n)++fac n [x,-x]) ((fac n u).map (SB.flip n)++[Ub n,Ud]):=(qge g1).flip.app (qrq hn hx)
  have a2:Jn n (((fac n u).map (SB.flip n)++[Ub n])++[Ud]) ((Ub n::fac n u)++[Ud]):=(qjJ hn g1).app (.refl (qcK (Ul n)))
  rw[Yz]at a2
  exact a1.trans a2
 rw[qfi,qfi n u v]
 have b:=(qlB v a).app (qge (qcv hv))
 rw[qeb,show Ub n::fac n u=[Ub n]++fac n u from rfl,qeb,qec (qdK n),qec (qd1 n)]at b
 refine b.trans ?_
 have c:Jn n (Ud::fac n v) (fac n v++[Ud]):=qmr hn (qcv hv)
 have d:=((Jn.refl (qcK (Ui n))).app (qge (qmh v g1))).app c
 simpa using d
end
end Go.Av
end
section
namespace Go.Av
theorem qlI (n:Int):jZ n=some (if n<1\/12<n then 3 else 0):=by
 unfold jZ
 by_cases a:n<1
 ·rw[if_pos a,if_pos (.inl a)];rfl
 rw[if_neg a,qeU]
 by_cases b:12<n
 ·rw[decide_eq_true (show n>12 from b),if_pos rfl,if_pos (.inr b)];rfl
 rw[decide_eq_false (show¬n>12 from b),if_neg (by decide),if_neg (by omega)];rfl
section
variable {k:Nat} (hk:k<=12) (k1:1<=k)
include hk k1
end
structure FOK (k:Nat) (f:qaR):Prop where
 k1:1<=k
 k2:k<=12
 half: -200<=f.Half/\f.Half<=200
 one:k=1->f.Half=0
 few:f.Factors.length<=200
 at_: ∀j,j<f.Factors.length-> ∃s:SB,s.Ok k/\f.Factors[j]? =some (s.li k)
end Go.Av
end
section
namespace Go.Av
def qiE (n m:Nat) (A:Nat->SB) (h:Int):qaR:=⟨h+(((yf n m A).countP fun x=>decide (x=(Ub n).li n):Nat):Int),(yf n m A).filter fun x=>!decide (x=yS n)&&!decide (x=(Ub n).li n)⟩
def qaM (n:Nat) (w:List Int) (f:qaR):Prop:= ∃A,Pst n w.length (xE (fac n w)) A/\Nf n w.length A/\f=qiE n w.length A (-((ngs w:Nat):Int))
theorem qaM.uniq {n:Nat} {w:List Int} {f g:qaR} (h:qaM n w f) (k:qaM n w g):f=g:=by
 obtain⟨A,a1,a2,a3⟩:=h
 obtain⟨B,b1,b2,b3⟩:=k
 obtain rfl:=qd4 _ (Nat.le_refl _) a1 b1 a2 b2
 rw[a3,b3]
theorem qaM.jn {n:Nat} {w v:List Int} {f:qaR} (h:qaM n w f) (j:Jn n (fac n w) (fac n v)) (hg:ngs w=ngs v):qaM n v f:=by
 obtain⟨A,a1,a2,a3⟩:=h
 have hl:w.length=v.length:=by have:=j.len;rw[qa4,qa4]at this;exact this
 have a:=j.nf (A:=A) (by rw[qa4];exact a1) (by rw[qa4];exact a2)
 rw[qa4]at a
 exact⟨A,a,hl▸a2,by rw[a3,hl,hg]⟩
theorem qm9 {n i:Nat} (hi:i+1<n):(Ub n).Ends i:=by
 show rv5 n (i+1)<rv5 n i
 rw[qaZ hi,qaZ (by omega)]
 omega
theorem qjV (i:Nat): ¬Ud.Begs i:=fun h=>by
 have h:i+1<i:=h
 omega
theorem qqs {n:Nat} {l:List SB} {A:Nat->SB} (a:Pst n l.length (xE l) A) (nA:Nf n l.length A): ∃B,Pst n (l.length+2) (xE (Ub n::(l++[Ud]))) B/\Nf n (l.length+2) B/\yf n (l.length+2) B=(Ub n).li n::(yf n l.length A++[Ud.li n]):=by
 have e:xE (Ub n::(l++[Ud]))=jnL 1 (xE [Ub n]) (jnL l.length (xE l) (xE [Ud])):=by
  rw[show Ub n::(l++[Ud])=[Ub n]++(l++[Ud])from rfl,qeN,qeN]
  rfl
 refine⟨jnL 1 (xE [Ub n]) (jnL l.length A (xE [Ud])),?_,fun k i c=>?_,?_⟩
 ·rw[e,show l.length+2=1+(l.length+1)by omega]
  exact(a.suf (m:=1)).pre
 ·obtain⟨k1,k2,k3,k4⟩:=c
  cases k with
  |zero=>exact k4 (qm9 k2)
  |succ j=>
   rw[show j+1=1+j by omega,qbJ]at k4
   rw[show j+1+1=1+(j+1)by omega,qbJ]at k3
   by_cases h:j+1<l.length
   ·rw[qbg h]at k3
    rw[qbg (by omega)]at k4
    exact nA j i ⟨h,k2,k3,k4⟩
   have h2:j+1=l.length+0:=by omega
   rw[h2,qbJ]at k3
   exact qjV i k3
 apply List.ext_getElem?
 intro q
 cases q with
 |zero=>rw[vX (by omega)];rfl
 |succ q=>
  rw[YK]
  by_cases h:q<l.length
  ·rw[vX (by omega),Yf (by rw[qJ];exact h),vX h,show q+1=1+q by omega,qbJ,qbg h]
  by_cases h2:q=l.length
  ·subst h2
   rw[vX (by omega),Yo (by rw[qJ];omega),qJ,show l.length+1=1+(l.length+0)by omega,qbJ,qbJ]
   simp
   rfl
  rw[Yg (by rw[qJ];omega),Yg (by simp[qJ];omega)]
theorem qdU (u v:List Int):ngs (u++v)=ngs u+ngs v:=List.countP_append ..
theorem qoM {x:Int} (hx:x≠0):ngs [x,-x]=1:=by
 unfold ngs
 rw[List.countP_cons,List.countP_cons,List.countP_nil]
 by_cases h:0<x
 ·simp[h];omega
 simp[h];omega
section
variable {n:Nat} (hn:n<=6)
include hn
theorem qaM.ins (n2:2<=n) {u v:List Int} {x:Int} (hu:LetN n u) (hv:LetN n v) (hx:x≠0/\ -(n:Int)<x/\x<n) {f:qaR} (h:qaM n (u++v) f):qaM n (u++[x,-x]++v) f:=by
 obtain⟨A,a1,a2,a3⟩:=h
 have j:=qqf hn hu hv hx
 rw[<-qa4 n]at a1 a2
 obtain⟨B,b1,b2,b3⟩:=qqs a1 a2
 have hl:(u++[x,-x]++v).length=(fac n (u++v)).length+2:=by rw[qa4];simp;omega
 have hl2:(Ub n::(fac n (u++v)++[Ud])).length=(fac n (u++v)).length+2:=by simp
 have c:=j.symm.nf (A:=B) (by rw[hl2];exact b1) (by rw[hl2];exact b2)
 rw[qa4,hl]at c
 refine⟨B,by rw[hl];exact c,by rw[hl];exact b2,?_⟩
 rw[a3,hl]
 unfold qiE
 rw[b3,qa4]
 have ne:(Ub n).li n≠yS n:=qkd (n:=n) (by omega) n2
 have hg:ngs (u++[x,-x]++v)=ngs (u++v)+1:=by
  rw[qdU,qdU,qdU,qoM hx.1];omega
 rw[hg,Uv]
 simp[List.countP_cons,List.filter_cons,List.filter_append,ne,Ne.symm ne]
 omega
end
inductive Mv (n:Nat):List Int->List Int->Prop
 |ins {u v:List Int} {x:Int} (hx:x≠0/\ -(n:Int)<x/\x<n):Mv n (u++v) (u++[x,-x]++v)
 |can {u v:List Int} {x:Int}:Mv n (u++[x,-x]++v) (u++v)
 |swp {u v:List Int} {x y:Int} (h:far5 x y=true):Mv n (u++[x,y]++v) (u++[y,x]++v)
 |trn {u v l:List Int} {x y z:Int} (h:trn5 x y z=some l):Mv n (u++[x,y,z]++v) (u++l++v)
theorem qnT {n:Nat} {x y z:Int} {l:List Int} (hx:x≠0/\ -(n:Int)<x/\x<n) (hy:y≠0/\ -(n:Int)<y/\y<n) (hz:z≠0/\ -(n:Int)<z/\z<n) (h:trn5 x y z=some l):LetN n l:=by
 have sg: ∀c d:Int,d≠0/\ -(n:Int)<d/\d<n->sg5 c*(d.natAbs:Int)≠0/\ -(n:Int)<sg5 c*(d.natAbs:Int)/\sg5 c*(d.natAbs:Int)<n:=fun c d hd=>by
  unfold sg5
  split<;>omega
 unfold trn5 at h
 split at h
 ·split at h
  ·have h:=Ye h
   subst h
   intro c hc
   rcases List.mem_cons.1 hc with rfl|hc
   ·exact sg z y hy
   rcases List.mem_cons.1 hc with rfl|hc
   ·exact hx
   rw[List.mem_singleton.1 hc];exact hy
  split at h
  ·have h:=Ye h
   subst h
   intro c hc
   rcases List.mem_cons.1 hc with rfl|hc
   ·exact hy
   rcases List.mem_cons.1 hc with rfl|hc
   ·exact hz
   rw[List.mem_singleton.1 hc];exact sg x y hy
  cases h
 cases h
theorem Mv.let_ {n:Nat} {w v:List Int} (h:Mv n w v) (hw:LetN n w):LetN n v:=by
 cases h with
 |ins hx=>exact(hw.left.app (fun c hc=>by
  rcases List.mem_cons.1 hc with rfl|hc
  ·exact hx
  rw[List.mem_singleton.1 hc];omega)).app hw.right
 |can=>exact hw.left.left.app hw.right
 |swp h=>exact(hw.left.left.app fun c hc=>hw c (by simp at hc⊢;rcases hc with rfl|rfl<;>simp)).app hw.right
 |trn h=>exact(hw.left.left.app (qnT (hw _ (by simp)) (hw _ (by simp)) (hw _ (by simp)) h)).app hw.right
end Go.Av
end
section
namespace Go.Av
section
variable {n:Nat} (hn:n<=12) {N:Nat} (hN:2000<N)
include hn hN
theorem qhL {w:List Int} (W:yL n w) (n2:2<=n): ∀(K i k:Nat) (l:List SB),l.length=i->(∀s∈l,s.Ok n)->k<=i->i<=w.length->w.length<K+i->
 xn N (n:Int) w K (-(k:Int)) (qa2 n l) (i:Int)=some (-((k+ngs (w.drop i):Nat):Int),qa2 n ((w.drop i).foldl (qbO n) l))
 |0,i,k,l,hl,ho,h1,hi,hK=>by omega
 |K+1,i,k,l,hl,ho,h1,hiw,hK=>by
  have wl:=W.len
  unfold xn
  by_cases hi:i<w.length
  ·have hx:w[i]? =some w[i]:=Ya hi
   have hc:=W.let_ _ (List.getElem_mem hi)
   rw[YG hi,List.foldl_cons]
   generalize w[i]=c at*
   obtain⟨m,hm⟩: ∃m:Nat,c.natAbs=m+1:=⟨c.natAbs-1,by omega⟩
   have hm2:m+1<n:=by omega
   have q1:w64 (((m+1:Nat):Int)-1)=(m:Int):=by rw[yG (by omega) (by omega)];omega
   rw[if_pos (by omega),qz,hx]
   simp only[ZB,qhw (show-1000<c/\c<1000 by omega),hm,q1]
   unfold ngs qbO
   rw[hm,Nat.add_sub_cancel,List.countP_cons]
   by_cases pos:c>0
   ·rw[if_pos pos,qf7 hN (by omega),ZB,<-Uv,qd5 (by omega) Ud hm2]
    simp only[ZB]
    rw[qdd (by rw[qbw];simp;omega) (by rw[qbw];simp;omega)]
    simp only[ZB]
    rw[kr (by omega),show qa2 n l++[(Ud.fr m).li n]=qa2 n (l++[Ud.fr m])by simp[qa2],if_pos (show 0<c from pos),decide_eq_true (show 0<c from pos)]
    exact qhL W n2 K (i+1) k _ (by simp[hl]) (fun s hs=>by
     rcases List.mem_append.1 hs with hs|hs
     ·exact ho s hs
     rw[List.mem_singleton.1 hs];exact(Ul n).fr hm2) (by omega) (by omega) (by omega)
   rw[if_neg pos,qkJ hn hN (by omega) ho,ZB,qm1 hN (by omega),ZB,qjl (by omega) hN (Ui n) hm2]
   simp only[ZB]
   rw[qdd (by rw[qbw];simp;omega) (by rw[qbw];simp;omega)]
   simp only[ZB]
   rw[kr (by omega),yG (n:= -(k:Int)-1) (by omega) (by omega),if_neg (show¬0<c from pos),decide_eq_false (show¬0<c from pos),show-(k:Int)-1= -((k+1:Nat):Int)by omega,show qa2 n (l.map (SB.flip n))++[((Ub n).bk m).li n]=qa2 n (l.map (SB.flip n)++[(Ub n).bk m])by simp[qa2]]
   have:=qhL W n2 K (i+1) (k+1) (l.map (SB.flip n)++[(Ub n).bk m]) (by simp[hl]) (fun s hs=>by
    rcases List.mem_append.1 hs with hs|hs
    ·obtain⟨u,hu,rfl⟩:=List.mem_map.1 hs
     exact(ho u hu).flip
    rw[List.mem_singleton.1 hs];exact(Ui n).bk hm2) (by omega) (by omega) (by omega)
   rw[this]
   unfold ngs
   simp only[Bool.not_false,if_true]
   congr 3
   omega
  rw[if_neg (by omega),List.drop_eq_nil_of_le (by omega)]
  rfl
end
theorem qkM {n:Nat} (n2:2<=n) (n6:n<=6) {N:Nat} (hN:1000000<N) {w:List Int} (W:yL n w) (hl:w.length<=100):
 ∃f,qM N (n:Int) w=some f/\qaM n w f/\f.Factors.length<=300/\ ∀x∈f.Factors,x.length<=300:=by
 have hw:LetN n w:=W.let_
 have lok:=qd7 (n:=n) (l:=fac n w) fun s hs=>(qcv hw s hs).ok
 have ll:=qa4 n w
 rw[ll]at lok
 have hmu: ∀L:Nat->SB,mu5 n L w.length<=360000:=fun L=>by
  refine Nat.le_trans (qoT w.length) ?_
  have h1:n*n<=6*6:=Nat.mul_le_mul n6 n6
  have h2:w.length*(n*n)<=100*36:=Nat.mul_le_mul hl h1
  exact Nat.mul_le_mul hl h2
 have hmu0:=hmu (xE (fac n w))
 obtain⟨A,a1,a2,a3,a4⟩:=qjG (n:=n) (m:=w.length) (by omega) (by omega) (by omega) (N:=N) (by omega) (fun L=>by have:=hmu L;omega) N 0 (xE (fac n w)) lok (Nat.zero_le _) (by omega) (fun j hj=>by omega)
 refine⟨qiE n w.length A (-((ngs w:Nat):Int)),?_,⟨A,a2,a3,rfl⟩,?_,?_⟩
 ·unfold qM
  have b0:=qhL (n:=n) (by omega) (N:=N) (by omega) W n2 N 0 0 [] rfl (fun s hs=>by cases hs) (Nat.le_refl _) (Nat.zero_le _) (by omega)
  rw[show qa2 n ([]:List SB)=[]from rfl,show(-((0:Nat):Int))=0 from rfl,show((0:Nat):Int)=0 from rfl,YR,Nat.zero_add]at b0
  have rF:qa2 n (fac n w)=yf n w.length (xE (fac n w)):=qkw (by rw[qbw,ll]) fun q hq=>by
   rw[qjs (by rw[ll];exact hq)]
   unfold xE
   rw[Yy,Ya (by rw[ll];exact hq)]
   rfl
  have rF':qa2 n (w.foldl (qbO n) [])=yf n w.length (xE (fac n w)):=rF
  rw[if_neg (by omega),b0,ZB,rF']
  have p0:qbh N (yf n w.length (xE (fac n w)))=some (yf n w.length A):=by
   unfold qbh
   rw[show((0:Nat):Int)=0 from rfl]at a1
   rw[a1,ZB]
  dsimp only
  rw[p0,ZB,qJ,qJ,if_pos rfl,ZB]
  have hk:ngs w<=w.length:=List.countP_le_length
  have f0:=qhk (n:=n) (by omega) n2 (N:=N) (by omega) (by omega) a4 N 0 (-((ngs w:Nat):Int)) [] (Nat.zero_le _) (by omega) (by omega) (by omega) (Nat.zero_le _)
  rw[show((0:Nat):Int)=0 from rfl,YR,List.nil_append]at f0
  rw[f0,ZB]
  rfl
 ·show(List.filter _ (yf n w.length A)).length<=300
  have:=List.length_filter_le (fun x=>!decide (x=yS n)&&!decide (x=(Ub n).li n)) (yf n w.length A)
  rw[qJ]at this
  omega
 intro x hx
 have hx:x∈(yf n w.length A).filter _:=hx
 obtain⟨q,_,rfl⟩:=List.mem_map.1 (List.mem_filter.1 hx).1
 rw[Uf]
 omega
def pmF (s:SB) (w:List Int):SB:=w.foldl (fun s c=>s.bk (c.natAbs-1)) s
section
variable {n:Nat} (hn:n<=12) {N:Nat} (hN:2000<N)
include hn hN
theorem qmq {w:List Int} (W:yL n w): ∀(K i:Nat) (s:SB),s.Ok n->i<=w.length->w.length<K+i->qQ w K (s.li n) (s.rev.li n) (i:Int)=some ((pmF s (w.drop i)).li n)
 |0,i,s,hs,h,hK=>by omega
 |K+1,i,s,hs,hiw,hK=>by
  have wl:=W.len
  unfold qQ qb2
  by_cases hi:i<w.length
  ·have hx:w[i]? =some w[i]:=Ya hi
   have hc:=W.let_ _ (List.getElem_mem hi)
   rw[YG hi]
   unfold pmF
   rw[List.foldl_cons]
   generalize w[i]=c at*
   obtain⟨m,hm⟩: ∃m:Nat,c.natAbs=m+1:=⟨c.natAbs-1,by omega⟩
   have hm2:m+1<n:=by omega
   have q1:w64 (((m+1:Nat):Int)-1)=(m:Int):=by rw[yG (by omega) (by omega)];omega
   have q2:w64 ((m:Int)+1)=((m+1:Nat):Int):=kr (by omega)
   have g0:=hs.g_ m (by omega)
   have g1:=hs.g_ (m+1) hm2
   have r0:idx (s.rev.li n) (m:Int)=some ((s.g m:Nat):Int):=Uj (by omega)
   have r1:idx (s.rev.li n) ((m+1:Nat):Int)=some ((s.g (m+1):Nat):Int):=Uj hm2
   have ne:s.g m≠s.g (m+1):=fun e=>by have:=s.ginj e;omega
   have p0:idx (s.li n) ((s.g m:Nat):Int)=some (m:Int):=by rw[Uj g0,s.fg]
   have lset:((s.li n).set (s.g m) ((m+1:Nat):Int)).length=n:=by simp[Uf]
   have p1:idx ((s.li n).set (s.g m) ((m+1:Nat):Int)) ((s.g (m+1):Nat):Int)=some ((m+1:Nat):Int):=by
    rw[qz,Yw ne,Uk s g1,s.fg]
   have q3:w64 (((m+1:Nat):Int)-1)=(m:Int):=q1
   rw[if_pos (by omega),qz,hx]
   simp only[ZB,qhw (show-1000<c/\c<1000 by omega),hm,q1,q2,r0,r1,p0]
   rw[qan (by rw[Uf];exact g0)]
   simp only[ZB,p1,q3]
   rw[qan (by rw[lset];exact g1)]
   simp only[ZB]
   rw[qan (by rw[Uf];omega)]
   simp only[ZB]
   have e17:idx ((s.rev.li n).set m ((s.g (m+1):Nat):Int)) ((m+1:Nat):Int)=some ((s.g (m+1):Nat):Int):=by
    rw[qz,Yw (by omega),Uk s.rev hm2]
    rfl
   rw[e17]
   simp only[ZB]
   rw[qan (by simp[Uf];omega)]
   simp only[ZB]
   have e1:((s.li n).set (s.g m) ((m+1:Nat):Int)).set (s.g (m+1)) (m:Int)=(s.bk m).li n:=Ur (by simp[Uf]) fun k hk=>by
    show _=some ((tr5 m (s.f k):Nat):Int)
    by_cases a:k=s.g (m+1)
    ·subst a
     rw[List.getElem?_set_self (by rw[lset];exact g1),s.fg,qbx]
    rw[Yw (fun e=>a e.symm)]
    by_cases b:k=s.g m
    ·subst b
     rw[List.getElem?_set_self (by rw[Uf];exact g0),s.fg,qbE]
    rw[Yw (fun e=>b e.symm),Uk s hk,xc (fun e=>b (by rw[<-e,s.gf])) (fun e=>a (by rw[<-e,s.gf]))]
   have e2:((s.rev.li n).set m ((s.g (m+1):Nat):Int)).set (m+1) ((s.g m:Nat):Int)=(s.bk m).rev.li n:=Ur (by simp[Uf]) fun k hk=>by
    show _=some ((s.g (tr5 m k):Nat):Int)
    by_cases a:k=m+1
    ·subst a
     rw[List.getElem?_set_self (by simp[Uf];omega),qbx]
    rw[Yw (fun e=>a e.symm)]
    by_cases b:k=m
    ·subst b
     rw[List.getElem?_set_self (by rw[Uf];omega),qbE]
    rw[Yw (fun e=>b e.symm),Uk s.rev hk,xc b a]
    rfl
   rw[e1,e2,kr (by omega)]
   rw[show(m+1-1:Nat)=m by omega]
   exact qmq W K (i+1) _ (hs.bk hm2) (by omega) (by omega)
  rw[if_neg (by omega),List.drop_eq_nil_of_le (by omega)]
  rfl
theorem qp2 {w:List Int} (W:yL n w):qcx N (n:Int) w=some ((pmF Ud w).li n):=by
 unfold qcx xY
 have wl:=W.len
 have:=qmq hn hN W N 0 Ud (Ul n) (Nat.zero_le _) (by omega)
 rw[YR,show Ud.rev=Ud from rfl,Uv,show((0:Nat):Int)=0 from rfl]at this
 rw[qf7 hN (by omega),ZB,ZB,this]
 rfl
end
end Go.Av
end
section
namespace Go.Av
def NoX (u v:SB):Prop:= ∀a b,a<b->u.g b<u.g a->v.f a<v.f b
theorem qgf {j a b:Nat} (h:a<b):tr5 j a<tr5 j b\/(a=j/\b=j+1):=by
 rcases xN j a with⟨e,f⟩|⟨e,f⟩|⟨e,e',f⟩<;>rcases xN j b with⟨g,k⟩|⟨g,k⟩|⟨g,g',k⟩<;>rw[f,k]<;>omega
theorem NoX.psh {u v:SB} {j:Nat} (h:NoX u v) (hb:v.Begs j):NoX (u.bk j) (v.fr j):=fun a b hab hc=>by
 have hc:u.g (tr5 j b)<u.g (tr5 j a):=hc
 show v.f (tr5 j a)<v.f (tr5 j b)
 rcases qgf (j:=j) hab with e|⟨rfl,rfl⟩
 ·exact h _ _ e hc
 rw[qbE,qbx]
 exact hb
theorem qn4 {n:Nat} (n1:1<=n) (n12:n<=12) {u v:SB} (hu:u.Ok n) (hv:v.Ok n) (fu:u.Fix n) (fv:v.Fix n) (h:NoX u v):Jn n [u,v] [u.comp v,Ud]:=by
 have ho: ∀s∈[u,v],s.Ok n:=fun s hs=>by
  rcases List.mem_cons.1 hs with rfl|hs
  ·exact hu
  rw[List.mem_singleton.1 hs];exact hv
 have hf: ∀s∈[u,v],s.Fix n:=fun s hs=>by
  rcases List.mem_cons.1 hs with rfl|hs
  ·exact fu
  rw[List.mem_singleton.1 hs];exact fv
 have key: ∀{L A:Nat->SB},Pst n 2 L A->OkM n 2 L->NoX (L 0) (L 1)->NoX (A 0) (A 1)/\(A 0).comp (A 1)=(L 0).comp (L 1)/\OkM n 2 A:=by
  intro L A p
  induction p with
  |refl=>exact fun a b=>⟨b,rfl,a⟩
  |head h _ ih=>
   cases h with
   |@mk k i h=>
    intro a b
    have hk:=h.k_
    obtain rfl:k=0:=by omega
    obtain⟨c,d,e⟩:=ih (a.psh hk h.i_) (by rw[psh_k,jh];exact b.psh h.b_)
    refine⟨c,d.trans ?_,e⟩
    rw[psh_k,jh]
    refine SB.ext fun k=>?_
    show(_:SB).f (tr5 i (tr5 i _))=_
    rw[qda]
    rfl
 obtain⟨A,a1,a2⟩:=qiC _ (xE [u,v]) (Nat.le_refl (mu5 n _ 2))
 obtain⟨b1,b2,b3⟩:=key a1 (qd7 ho) h
 have z: ∀j,j+1<n-> ¬(A 1).Begs j:=fun j hj hb=>a2 0 j ⟨by omega,hj,hb,fun he=>by
  have h1:=b1 j (j+1) (by omega) he
  have h2:(A 1).f (j+1)<(A 1).f j:=hb
  omega⟩
 have fA:=a1.fix (qia hf)
 have e1:A 1=Ud:=by
  refine qjT (fA 1) (Us n) ?_
  have:=(qjU n12 n1 (b3 1 (by omega))).1 z
  rw[<-Uv]at this
  apply List.ext_getElem?
  intro k
  by_cases hk:k<n
  ·rw[Ug _ hk,Ug _ hk,SB.li_inj this hk]
  rw[Yg (by rw[Uh];omega),Yg (by rw[Uh];omega)]
 have e0:A 0=u.comp v:=by
  rw[e1]at b2
  exact b2
 refine⟨rfl,ho,fun s hs=>?_,A,a1,?_⟩
 ·rcases List.mem_cons.1 hs with rfl|hs
  ·exact hu.comp hv
  rw[List.mem_singleton.1 hs];exact Ul n
 have:A=xE [u.comp v,Ud]:=by
  funext q
  by_cases h0:q=0
  ·subst h0;exact e0
  by_cases h1:q=1
  ·subst h1;exact e1
  rw[a1.beyond q (by omega),qc8 (by simp;omega),qc8 (by simp;omega)]
 rw[this]
 exact .refl
theorem qqb {n i:Nat} (n12:n<=12) (hi:i+1<n) {s:SB} (hs:s.Ok n) (fs:s.Fix n) (hb:s.Begs i):Jn n [Ud.fr i,s.fr i] [s,Ud]:=by
 have h:NoX (Ud.fr i) (s.fr i):=fun a b hab hc=>by
  have hc:tr5 i b<tr5 i a:=hc
  show s.f (tr5 i a)<s.f (tr5 i b)
  rcases qgf (j:=i) hab with e|⟨rfl,rfl⟩
  ·omega
  rw[qbE,qbx];exact hb
 have j:=qn4 (by omega) n12 ((Ul n).fr hi) (hs.fr hi) ((Us n).fr hi) (fs.fr hi) h
 have e:(Ud.fr i).comp (s.fr i)=s:=SB.ext fun k=>by
  show s.f (tr5 i (tr5 i k))=s.f k
  rw[qda]
 rw[e]at j
 exact j
def PosW (w:List Int):Prop:= ∀c∈w,0<c
theorem qj9 {n:Nat}: ∀{w:List Int},PosW w-> ∀p,flW n w p=p
 |[],h,p=>rfl
 |c::w,h,p=>by
  unfold flW
  rw[List.foldl_cons,if_pos (h c (List.mem_cons_self ..))]
  exact qj9 (w:=w) (fun d hd=>h d (List.mem_cons_of_mem _ hd)) p
theorem qpP {w:List Int} (h:PosW w):ngs w=0:=by
 unfold ngs
 rw[List.countP_eq_zero]
 intro c hc
 simp[h c hc]
theorem WdB.pos {n:Nat} {s:SB} {W:List Int} (h:WdB n s W):PosW W/\LetN n W:=by
 induction h with
 |nil h=>exact⟨fun c hc=>(by cases hc),fun c hc=>(by cases hc)⟩
 |@cons s i W hi hb hm h ih=>
  refine⟨fun c hc=>?_,fun c hc=>?_⟩
  ·rcases List.mem_cons.1 hc with rfl|hc
   ·omega
   exact ih.1 c hc
  rcases List.mem_cons.1 hc with rfl|hc
  ·omega
  exact ih.2 c hc
def qaG (k:Nat):List SB:=List.replicate k Ud
theorem qgb {n k:Nat}: ∀s∈qaG k,s.Ok n:=fun s hs=>by rw[(List.mem_replicate.1 hs).2];exact Ul n
theorem qoC {n:Nat} (n1:1<=n) (n12:n<=12) {s:SB} {W:List Int} (h:WdB n s W):s.Ok n->s.Fix n->Jn n (fac n W++[Ud]) (s::qaG W.length):=by
 induction h with
 |@nil s h=>
  intro hs fs
  have e:s=Ud:=by
   refine qjT fs (Us n) ?_
   have:=(qjU n12 n1 hs).1 h
   rw[<-Uv]at this
   apply List.ext_getElem?
   intro k
   by_cases hk:k<n
   ·rw[Ug _ hk,Ug _ hk,SB.li_inj this hk]
   rw[Yg (by rw[Uh];omega),Yg (by rw[Uh];omega)]
  subst e
  exact .refl (qcK hs)
 |@cons s i W hi hb hm h ih=>
  intro hs fs
  have j:=ih (hs.fr hi) (fs.fr hi)
  have e:fac n (((i+1:Nat):Int)::W)=Ud.fr i::fac n W:=by
   have:=qfi n [((i+1:Nat):Int)] W
   rw[qj9 h.pos.1]at this
   have e1:fac n [((i+1:Nat):Int)]=[Ud.fr i]:=by
    show qbO n [] ((i+1:Nat):Int)=_
    unfold qbO
    rw[if_pos (by omega),Int.natAbs_natCast,Nat.add_sub_cancel]
    rfl
   rw[e1]at this
   exact this
  rw[e]
  have a:Jn n ([Ud.fr i]++(fac n W++[Ud])) ([Ud.fr i]++(s.fr i::qaG W.length)):=(Jn.refl (qcK ((Ul n).fr hi))).app j
  have b:Jn n ([Ud.fr i,s.fr i]++qaG W.length) ([s,Ud]++qaG W.length):=(qqb n12 hi hs fs hb).app (.refl qgb)
  exact a.trans b
section
variable {n:Nat} (hn:n<=6)
include hn
theorem qnY: ∀(k:Nat) {l:List SB},(∀s∈l,Gd n s)->Jn n (qaG k++l) (l++qaG k)
 |0,l,h=>by
  have e:l++qaG 0=l:=List.append_nil l
  rw[e]
  exact qge h
 |k+1,l,h=>by
  have a:Jn n ([Ud]++(qaG k++l)) ([Ud]++(l++qaG k)):=(Jn.refl (qcK (Ul n))).app (qnY k h)
  have b:Jn n ((Ud::l)++qaG k) ((l++[Ud])++qaG k):=(qmr hn h).app (.refl qgb)
  have c:=a.trans b
  rw[Yz]at c
  exact c
theorem qj3 {W w:List Int} (n2:2<=n) (h:WdB n (Ub n) W) (hw:LetN n w):Jn n (fac n (W++w)++[Ud]) (Ub n::(fac n w++qaG W.length)):=by
 have j:=qoC (by omega) (by omega) h (Ui n) (Uu n)
 have j1:=qlB w j
 rw[qeb,qec (qd1 n),show Ub n::qaG W.length=[Ub n]++qaG W.length from rfl,qeb,qec (qdK n)]at j1
 have ei: ∀k,flW n w (qaG k)=qaG k:=by
  intro k
  induction k with
  |zero=>
   have: ∀w:List Int,flW n w []=[]:=by
    intro w
    induction w with
    |nil=>rfl
    |cons c w ih=>
     unfold flW at ih⊢
     rw[List.foldl_cons]
     split
     ·exact ih
     exact ih
   exact this w
  |succ k ih=>
   rw[show qaG (k+1)=[Ud]++qaG k from rfl,qeb,qec (qd1 n),ih]
 rw[ei]at j1
 have a:Jn n ((flW n w (fac n W)++[Ud])++fac n w) ((flW n w (fac n W)++fac n w)++[Ud]):=by
  have:=(qge (qmh w (qcv h.pos.2))).app (qmr hn (qcv hw))
  simpa using this
 have b:=j1.app (qge (qcv hw))
 have c:Jn n (([Ub n]++qaG W.length)++fac n w) (Ub n::(fac n w++qaG W.length)):=by
  have:=(Jn.refl (qcK (Ui n))).app (qnY hn W.length (qcv hw))
  simpa using this
 rw[qfi]
 exact a.symm.trans (b.trans c)
theorem qif {W w:List Int} (n2:2<=n) (h:WdB n (Ub n) W) (hw:LetN n w):Jn n (fac n (w++W)++[Ud]) (Ub n::((fac n w).map (SB.flip n)++qaG W.length)):=by
 have j:=qoC (by omega) (by omega) h (Ui n) (Uu n)
 rw[qfi,qj9 h.pos.1,Yz]
 have a:=(qge (qcv hw)).app j
 have hg: ∀s∈(fac n w).map (SB.flip n),Gd n s:=fun s hs=>by
  obtain⟨u,hu,rfl⟩:=List.mem_map.1 hs
  exact(qcv hw u hu).flip
 have b:=(qjJ hn hg).app (.refl (n:=n) (qgb (k:=W.length)))
 have e:((fac n w).map (SB.flip n)).map (SB.flip n)=fac n w:=by
  rw[List.map_map]
  conv=>rhs;rw[<-List.map_id (fac n w)]
  congr 1
  funext s
  exact qdM n s
 rw[e]at b
 have c:Jn n (fac n w++(Ub n::qaG W.length)) (Ub n::((fac n w).map (SB.flip n)++qaG W.length)):=by simpa using b
 exact a.trans c
end
theorem qj8 {n:Nat} {l:List SB} {A:Nat->SB} (a:Pst n l.length (xE l) A) (nA:Nf n l.length A): ∃B,Pst n (l.length+1) (xE (l++[Ud])) B/\Nf n (l.length+1) B/\yf n (l.length+1) B=yf n l.length A++[Ud.li n]:=by
 refine⟨jnL l.length A (xE [Ud]),?_,fun k i c=>?_,?_⟩
 ·rw[qeN]
  exact a.suf (m:=1)
 ·obtain⟨k1,k2,k3,k4⟩:=c
  by_cases h:k+1<l.length
  ·rw[qbg h]at k3
   rw[qbg (by omega)]at k4
   exact nA k i ⟨h,k2,k3,k4⟩
  have h2:k+1=l.length+0:=by omega
  rw[h2,qbJ]at k3
  exact qjV i k3
 apply List.ext_getElem?
 intro q
 by_cases h:q<l.length
 ·rw[vX (by omega),Yf (by rw[qJ];exact h),vX h,qbg h]
 by_cases h2:q=l.length
 ·subst h2
  rw[vX (by omega),Yo (by rw[qJ];omega),qJ]
  have:jnL l.length A (xE [Ud]) (l.length+0)=xE [Ud] 0:=qbJ
  rw[Nat.add_zero]at this
  rw[this]
  simp
  rfl
 rw[Yg (by rw[qJ];omega),Yg (by simp[qJ];omega)]
theorem qaM.jn1 {n:Nat} {w v:List Int} {f:qaR} (h:qaM n w f) (j:Jn n (fac n w++[Ud]) (fac n v++[Ud])) (hg:ngs w=ngs v):qaM n v f:=by
 obtain⟨A,a1,a2,a3⟩:=h
 obtain⟨C,c1,c2⟩:=qiC _ (xE (fac n v)) (Nat.le_refl (mu5 n _ v.length))
 have hl:w.length=v.length:=by have:=j.len;simp[qa4]at this;exact this
 have lw:=qa4 n w
 have lv:=qa4 n v
 obtain⟨B,b1,b2,b3⟩:=qj8 (l:=fac n w) (A:=A) (by rw[lw];exact a1) (by rw[lw];exact a2)
 obtain⟨D,d1,d2,d3⟩:=qj8 (l:=fac n v) (A:=C) (by rw[lv];exact c1) (by rw[lv];exact c2)
 have b1':=j.nf (A:=B) (by rw[Yq];exact b1) (by rw[Yq];exact b2)
 have l1:(fac n v++[Ud]).length=(fac n v).length+1:=by simp
 rw[l1]at b1'
 rw[lw,hl,<-lv]at b2
 obtain rfl:=qd4 _ (Nat.le_refl _) d1 b1' d2 b2
 have e:yf n v.length C=yf n w.length A:=by
  rw[lw,hl]at b3
  rw[lv,b3]at d3
  have:=List.append_cancel_right d3
  rw[hl]
  exact this.symm
 refine⟨C,c1,c2,?_⟩
 rw[a3]
 unfold qiE
 rw[e,hg]
end Go.Av
end
section
namespace Go.Av
theorem qqx {N:Nat} (hN:1000<N) {a:List (List Int)} (ha: ∀x∈a,x.length<=300) (hl:a.length<=300): ∀(K i:Nat),i<=a.length->a.length<K+i->qH N a a K (i:Int)=some (.inl ())
 |0,i,h,hK=>by omega
 |K+1,i,h,hK=>by
  unfold qH
  by_cases hi:i<a.length
  ·have hx:=ha _ (List.getElem_mem hi)
   rw[if_pos (by omega),qz,Ya hi,ZB,ZB,qns (by omega) (by omega),ZB,decide_eq_true rfl,if_neg (by decide),kr (by omega),qqx hN ha hl K (i+1) (by omega) (by omega)]
  rw[if_neg (by omega)]
theorem qqF {N:Nat} (hN:1000<N) {a:List (List Int)} (ha: ∀x∈a,x.length<=300) (hl:a.length<=300):vD N a a=some true:=by
 unfold vD
 have:=qqx hN ha hl N 0 (by omega) (by omega)
 rw[show((0:Nat):Int)=0 from rfl]at this
 rw[decide_eq_true rfl,if_neg (by decide),this]
 rfl
theorem qpy {N:Nat} (hN:1000<N) {f:qaR} (h1:f.Factors.length<=300) (h2: ∀x∈f.Factors,x.length<=300):qaS N f f=some true:=by
 unfold qaS
 rw[if_pos rfl,qqF hN h2 h1]
 rfl
theorem qoJ {p:List Int} (hp:IsP p): ∀(K i:Nat) (m:List (Int×Bool)),i<=p.length->p.length<K+i->(∀x,(qcc m x).getD false=true↔ ∃k,k<i/\p[k]? =some x)->qX p K m (i:Int)=some (.inl ())
 |0,i,m,h,hK,hm=>by omega
 |K+1,i,m,h,hK,hm=>by
  have few:=hp.few
  unfold qX
  by_cases hi:i<p.length
  ·obtain⟨v,hv,hx⟩:=hp.at_ i hi
   rw[if_pos (by omega),qz,hx]
   simp only[ZB]
   rw[if_neg (by omega),if_neg (by omega)]
   have hf:(qcc m (v:Int)).getD false=false:=by
    cases c:(qcc m (v:Int)).getD false with
    |false=>rfl
    |true=>
     obtain⟨k,k1,k2⟩:=(hm _).1 c
     have:=hp.inj k i _ k2 hx
     omega
   rw[hf,kr (by omega)]
   simp only[ZF,if_false,ZB]
   refine qoJ hp K (i+1) _ (by omega) (by omega) (fun y=>?_)
   rw[qk0]
   by_cases e:y=(v:Int)
   ·rw[if_pos e]
    exact⟨fun _=>⟨i,by omega,by rw[hx,e]⟩,fun _=>rfl⟩
   rw[if_neg e,hm y]
   constructor
   ·rintro⟨k,k1,k2⟩
    exact⟨k,by omega,k2⟩
   rintro⟨k,k1,k2⟩
   refine⟨k,?_,k2⟩
   rcases Nat.lt_or_ge k i with c|c
   ·exact c
   have:k=i:=by omega
   subst this
   rw[hx]at k2
   exact absurd (Ye k2).symm e
  rw[if_neg (by omega)]
theorem qq0 {N:Nat} (hN:2000<N) {p:List Int} (hp:IsP p):yI N p=some 0:=by
 have few:=hp.few
 unfold yI
 rw[if_neg (by omega),show(0:Int)=((0:Nat):Int)from rfl,qoJ hp N 0 [] (by omega) (by omega) (fun x=>by
  constructor
  ·intro c;simp[qcc]at c
  rintro⟨k,k1,_⟩;omega)]
 rfl
theorem qp5 {n:Nat} (hn:n<=256) {s:SB} (hs:s.Ok n):IsP (s.li n):=by
 refine⟨by rw[Uf];exact hn,fun k hk=>?_,fun k k' v h h'=>?_⟩
 ·rw[Uf]at hk⊢
  exact⟨s.f k,hs.f_ k hk,Uk s hk⟩
 have l1:=(Yb.1 h).1
 have l2:=(Yb.1 h').1
 rw[Uf]at l1 l2
 rw[Uk s l1]at h
 rw[Uk s l2]at h'
 have e:=Ye (h.trans h'.symm)
 exact s.finj (by omega)
theorem qpc {c:Int} (h:c≠0):qaK c=some (if 0<c then 1 else-1):=by
 unfold qaK
 by_cases p:0<c
 ·rw[if_neg (show¬c<1 by omega),if_pos (by decide),if_pos p]
 rw[if_pos (show c<1 by omega),if_neg p]
 by_cases q:c> -1
 ·omega
 rw[if_neg q]
theorem qfT {n:Nat} {w:List Int} (W:yL n w):qiW (n:Int) w=0:=by
 have:=W.n1
 have:=W.n2
 have:=W.len
 unfold qiW
 rw[if_neg (by omega),if_neg (by omega),if_pos (Yp.2 fun c hc=>qnh.2 (W.let_ c hc))]
theorem qmI {N:Nat} (hN:2000<N) {n:Nat} {a b:List Int} (A:yL n a) (B:yL n b):qah N (n:Int) a b=some 0:=by
 have:=A.len
 have:=B.len
 unfold qah
 rw[qcr hN (by omega),qcr hN (by omega),qfT A,qfT B,ZB,ZB,qgC (by simp) (by simp;omega),ZB,qlT,qlD]
theorem qdH {N:Nat} (hN:2000<N) {n:Nat} {a b:List Int} (A:yL n a) (B:yL n b) (hl:a.length+b.length<=200):xI N (n:Int) a b=some (a++b,0):=by
 have:=A.len
 have:=B.len
 unfold xI
 rw[qmI hN A B,ZB,decide_eq_true rfl,if_neg (by decide),qne hN (by omega) (by omega),ZB,qlA,if_neg (by rw[Yq];omega)]
 rfl
theorem yL.app {n:Nat} {a b:List Int} (A:yL n a) (B:yL n b) (hl:a.length+b.length<=200):yL n (a++b):=by
 refine⟨A.n1,A.n2,by rw[Yq];exact hl,?_⟩
 have h:LetN n (a++b):=LetN.app A.let_ B.let_
 exact h
theorem qjg {N:Nat} (hN:2000<N) {n:Nat} (n1:1<=n) (n2:n<=12) {s:SB} (hs:s.Ok n) {W:List Int} (h:WdB n s W) (hl:W.length<=1000):qbe N (n:Int) (s.li n)=some (W,0):=by
 unfold qbe qbp
 rw[qlI,if_neg (by omega),ZB,Uf,decide_eq_true rfl,qeU,qq0 hN (qp5 (by omega) hs)]
 simp only[Bool.not_true,ZF,if_false,ZB]
 rw[qgC (by simp) (by simp;omega),ZB,qlT,qlD]
 simp only[ZB]
 rw[qgC (by simp) (by simp;omega),ZB,qlT,qlD,decide_eq_true rfl]
 simp only[Bool.not_true,ZF,if_false]
 rw[qpN n2 n1 hN h hl]
 rfl
end Go.Av
end
section
namespace Go.Av
def qgs (n:Nat) (g:Nat->Int):List Int:=(List.range n).map g
def qdt (n:Nat) (f:Nat->Nat->Int):List (List Int):=(List.range n).map fun i=>qgs n (f i)
theorem qcT (n:Nat) (g:Nat->Int):(qgs n g).length=n:=by simp[qgs]
theorem qdB (n:Nat) (f:Nat->Nat->Int):(qdt n f).length=n:=by simp[qdt]
theorem qdv {n k:Nat} {g:Nat->Int} (h:k<n):(qgs n g)[k]? =some (g k):=by simp[qgs,List.getElem?_range h]
theorem qcu {n k:Nat} {f:Nat->Nat->Int} (h:k<n):(qdt n f)[k]? =some (qgs n (f k)):=by simp[qdt,List.getElem?_range h]
theorem qkC {n b:Nat} {g:Nat->Int} (h:b<n) (v:Int):(qgs n g).set b v=qgs n (fun k=>if k=b then v else g k):=by
 apply List.ext_getElem?
 intro k
 by_cases hk:k<n
 ·rw[qdv hk]
  by_cases e:k=b
  ·subst e;rw[List.getElem?_set_self (by rw[qcT];exact h),if_pos rfl]
  rw[Yw (fun c=>e c.symm),qdv hk,if_neg e]
 rw[Yg (by simp[qcT];omega),Yg (by rw[qcT];omega)]
theorem qlv {n a:Nat} {f:Nat->Nat->Int} (h:a<n) (g:Nat->Int):(qdt n f).set a (qgs n g)=qdt n (fun i=>if i=a then g else f i):=by
 apply List.ext_getElem?
 intro k
 by_cases hk:k<n
 ·rw[qcu hk]
  by_cases e:k=a
  ·subst e;rw[List.getElem?_set_self (by rw[qdB];exact h),if_pos rfl]
  rw[Yw (fun c=>e c.symm),qcu hk,if_neg e]
 rw[Yg (by simp[qdB];omega),Yg (by rw[qdB];omega)]
theorem qix {α:Type} (l:List α) (a:Nat) (x:α):xC l (a:Int) x=l.set a x:=by
 unfold xC
 rw[Int.toNat_natCast]
theorem ql8 {n:Nat} {f g:Nat->Nat->Int} (h: ∀i k,f i k=g i k):qdt n f=qdt n g:=by
 have:f=g:=by funext i k;exact h i k
 rw[this]
def qkk (f:Nat->Nat->Int) (a b:Nat) (s:Int):Nat->Nat->Int:=fun i k=>if(i=a/\k=b)\/(i=b/\k=a)then f i k+s else f i k
theorem qob {n a b:Nat} {f:Nat->Nat->Int} (ha:a<n) (hb:b<n) (ne:a≠b) (s:Int):
 ((qdt n f).set a ((qgs n (f a)).set b (f a b+s))).set b ((qgs n (f b)).set a (f b a+s))=qdt n (qkk f a b s):=by
 rw[qkC hb,qlv ha,qkC ha,qlv hb]
 refine ql8 fun i k=>?_
 unfold qkk
 by_cases h1:i=b
 ·subst h1
  rw[if_pos rfl]
  by_cases h2:k=a
  ·subst h2;rw[if_pos rfl,if_pos (.inr ⟨rfl,rfl⟩)]
  rw[if_neg h2,if_neg (fun h=>by rcases h with h|h<;>omega)]
 rw[if_neg h1]
 by_cases h3:i=a
 ·subst h3
  rw[if_pos rfl]
  by_cases h2:k=b
  ·subst h2;rw[if_pos rfl,if_pos (.inl ⟨rfl,rfl⟩)]
  rw[if_neg h2,if_neg (fun h=>by rcases h with h|h<;>omega)]
 rw[if_neg h3,if_neg (fun h=>by rcases h with h|h<;>omega)]
def lkF (s:SB) (f:Nat->Nat->Int):List Int->Nat->Nat->Int
 |[]=>f
 |c::w=>lkF (s.bk (c.natAbs-1)) (qkk f (s.g (c.natAbs-1)) (s.g c.natAbs) (if 0<c then 1 else-1)) w
theorem qnz {c:Int} (h:c≠0):qaK c=some (if 0<c then 1 else-1):=by
 unfold qaK
 by_cases p:0<c
 ·rw[if_neg (show¬c<1 by omega),if_pos (by decide),if_pos p]
 rw[if_pos (show c<1 by omega),if_neg p]
 by_cases q:c> -1
 ·omega
 rw[if_neg q]
theorem qmg {n a b:Nat} (hn:n<=1000) {f:Nat->Nat->Int} {B:Nat} (hB:B<=10000) (hf: ∀i k,-(B:Int)<=f i k/\f i k<=B) (ha:a<n) (hb:b<n) (ne:a≠b) {c:Int} (hc:c≠0):
 qbn (qdt n f) c (a:Int) (b:Int)=some (qdt n (qkk f a b (if 0<c then 1 else-1))):=by
 unfold qbn
 have w1: ∀i k,w64 (f i k+(if 0<c then(1:Int)else-1))=f i k+(if 0<c then(1:Int)else-1):=fun i k=>by
  have:=hf i k
  exact yG (by split<;>omega) (by split<;>omega)
 rw[qz,qcu ha,ZB,qz,qdv hb,ZB,qnz hc,ZB,w1,qan (by rw[qcT];exact hb),ZB,qix,qz,Yw ne,qcu hb,ZB,qz,qdv ha,ZB,ZB,w1,qan (by rw[qcT];exact ha),ZB,qix,qob ha hb ne]
theorem qqq {f:Nat->Nat->Int} {a b:Nat} {s:Int} {B:Nat} (hf: ∀i k,-(B:Int)<=f i k/\f i k<=B) (hs: -1<=s/\s<=1): ∀i k,-((B+1:Nat):Int)<=qkk f a b s i k/\qkk f a b s i k<=((B+1:Nat):Int):=fun i k=>by
 have:=hf i k
 unfold qkk
 split<;>omega
section
variable {n:Nat} (hn:n<=12) {N:Nat} (hN:2000<N)
include hn hN
theorem qpf {s:SB} {m:Nat} (hm2:m+1<n):((s.rev.li n).set m ((s.g (m+1):Nat):Int)).set (m+1) ((s.g m:Nat):Int)=(s.bk m).rev.li n:=Ur (by simp[Uf]) fun k hk=>by
 show _=some ((s.g (tr5 m k):Nat):Int)
 by_cases a:k=m+1
 ·subst a
  rw[List.getElem?_set_self (by simp[Uf];omega),qbx]
 rw[Yw (fun e=>a e.symm)]
 by_cases b:k=m
 ·subst b
  rw[List.getElem?_set_self (by rw[Uf];omega),qbE]
 rw[Yw (fun e=>b e.symm),Uk s.rev hk,xc b a]
 rfl
theorem qk8 {w:List Int} (W:yL n w): ∀(K i:Nat) (s:SB) (f:Nat->Nat->Int),s.Ok n->(∀j k,-(i:Int)<=f j k/\f j k<=i)->i<=w.length->w.length<K+i->qR w K (qdt n f) (s.rev.li n) (i:Int)=some (qdt n (lkF s f (w.drop i)))
 |0,i,s,f,hs,hf,h,hK=>by omega
 |K+1,i,s,f,hs,hf,hiw,hK=>by
  have wl:=W.len
  unfold qR
  by_cases hi:i<w.length
  ·have hx:w[i]? =some w[i]:=Ya hi
   have hc:=W.let_ _ (List.getElem_mem hi)
   rw[YG hi,lkF]
   generalize w[i]=c at*
   obtain⟨m,hm⟩: ∃m:Nat,c.natAbs=m+1:=⟨c.natAbs-1,by omega⟩
   have hm2:m+1<n:=by omega
   have q1:w64 (((m+1:Nat):Int)-1)=(m:Int):=by rw[yG (by omega) (by omega)];omega
   have q2:w64 ((m:Int)+1)=((m+1:Nat):Int):=kr (by omega)
   have g0:=hs.g_ m (by omega)
   have g1:=hs.g_ (m+1) hm2
   have r0:idx (s.rev.li n) (m:Int)=some ((s.g m:Nat):Int):=Uj (by omega)
   have r1:idx (s.rev.li n) ((m+1:Nat):Int)=some ((s.g (m+1):Nat):Int):=Uj hm2
   have ne:s.g m≠s.g (m+1):=fun e=>by have:=s.ginj e;omega
   rw[if_pos (by omega),qz,hx]
   simp only[ZB,qhw (show-1000<c/\c<1000 by omega),hm,q1,q2,r0,r1]
   rw[qmg (by omega) (B:=i) (by omega) hf g0 g1 ne hc.1]
   simp only[ZB]
   rw[qan (by rw[Uf];omega)]
   simp only[ZB]
   have e17:idx ((s.rev.li n).set m ((s.g (m+1):Nat):Int)) ((m+1:Nat):Int)=some ((s.g (m+1):Nat):Int):=by
    rw[qz,Yw (by omega),Uk s.rev hm2]
    rfl
   rw[e17]
   simp only[ZB]
   rw[qan (by simp[Uf];omega)]
   simp only[ZB]
   rw[qpf hn hN hm2,kr (by omega),show(m+1-1:Nat)=m by omega]
   exact qk8 W K (i+1) _ _ (hs.bk hm2) (qqq hf (by split<;>omega)) (by omega) (by omega)
  rw[if_neg (by omega),List.drop_eq_nil_of_le (by omega)]
  rfl
theorem qq8:mk 8 (n:Int) (0:Int)=some (qgs n fun _=>0):=by
 rw[qjQ (by omega)]
 congr 1
 apply List.ext_getElem?
 intro k
 by_cases hk:k<n
 ·rw[qdv hk];simp[hk]
 rw[Yg (by simp;omega),Yg (by rw[qcT];omega)]
theorem qmz: ∀(K i:Nat) (l1 l:List (List Int)),l1.length=n->l.length=n->i<=n->n<K+i->(∀k,k<i->l[k]? =some (qgs n fun _=>0))->qap (n:Int) l1 K l (i:Int)=some (qdt n fun _ _=>0)
 |0,i,l1,l,h1,h2,hi,hK,hk=>by omega
 |K+1,i,l1,l,h1,h2,hin,hK,hk=>by
  unfold qap
  rw[h1]
  by_cases hi:i<n
  ·have hs:idx l (i:Int)=some (l[i]'(by omega)):=by rw[qz];exact Ya _
   rw[if_pos (by omega),qq8 hn hN]
   simp only[ZB]
   rw[hs,ZB,qix,kr (by omega)]
   refine qmz K (i+1) l1 _ h1 (by simpa using h2) (by omega) (by omega) (fun k hk1=>?_)
   by_cases e:k=i
   ·subst e;rw[List.getElem?_set_self (by omega)]
   rw[Yw (fun c=>e c.symm),hk k (by omega)]
  rw[if_neg (by omega)]
  congr 1
  apply List.ext_getElem?
  intro k
  by_cases hkn:k<n
  ·rw[hk k (by omega),qcu hkn]
  rw[Yg (by omega),Yg (by rw[qdB];omega)]
theorem qrn:mk 24 (n:Int) ([]:List Int)=some (List.replicate n []):=by
 unfold mk
 rw[if_pos (by omega)]
 simp
theorem qp7 {w:List Int} (W:yL n w):qcA N (n:Int) w=some (qdt n (lkF Ud (fun _ _=>0) w)):=by
 have wl:=W.len
 unfold qcA qac xR
 have a:=qmz hn hN N 0 (List.replicate n []) (List.replicate n []) (by simp) (by simp) (Nat.zero_le _) (by omega) (fun k hk=>by omega)
 have b:=qk8 hn hN W N 0 Ud (fun _ _=>0) (Ul n) (fun _ _=>by simp) (Nat.zero_le _) (by omega)
 rw[show((0:Nat):Int)=0 from rfl]at a b
 rw[YR,show Ud.rev=Ud from rfl,Uv]at b
 rw[qrn hn hN,ZB,a,ZB,ZB,qf7 hN (by omega),ZB,b]
 rfl
end
end Go.Av
end
section
namespace Go.Av
theorem qqV {n:Nat} {s:SB} (hs:s.Ok n): ∃t:SB,t.Ok n/\t.Fix n/\t.li n=s.li n:=by
 refine⟨⟨fun k=>if k<n then s.f k else k,fun k=>if k<n then s.g k else k,fun k=>?_,fun k=>?_⟩,⟨fun k hk=>?_,fun k hk=>?_⟩,fun k hk=>?_,?_⟩
 ·by_cases h:k<n
  ·simp only[if_pos h,if_pos (hs.f_ k h),s.gf]
  simp only[if_neg h]
 ·by_cases h:k<n
  ·simp only[if_pos h,if_pos (hs.g_ k h),s.fg]
  simp only[if_neg h]
 ·show(if k<n then s.f k else k)<n
  rw[if_pos hk];exact hs.f_ k hk
 ·show(if k<n then s.g k else k)<n
  rw[if_pos hk];exact hs.g_ k hk
 ·show(if k<n then s.f k else k)=k
  rw[if_neg (by omega)]
 unfold SB.li
 refine List.map_congr_left fun k hk=>?_
 show(((if k<n then s.f k else k:Nat)):Int)=_
 rw[if_pos (List.mem_range.1 hk)]
theorem qks {n:Nat} (n12:n<=12) (n1:1<=n) {s:SB} (hs:s.Ok n) (fs:s.Fix n) (h: ∀q,q+1<n-> ¬s.Begs q):s=Ud:=by
 refine SB.ext fun k=>?_
 by_cases hk:k<n
 ·have:=(qjU n12 n1 hs).1 h
  rw[<-Uv]at this
  exact SB.li_inj this hk
 exact fs k (by omega)
theorem wd_pm {n:Nat} (n12:n<=12) (n1:1<=n) {s:SB} {W:List Int} (h:WdB n s W):s.Ok n->s.Fix n-> ∀t:SB,pmF t W=t.comp s:=by
 induction h with
 |@nil s h=>
  intro hs fs t
  rw[qks n12 n1 hs fs h]
  exact SB.ext fun k=>rfl
 |@cons s i W hi hb hm h ih=>
  intro hs fs t
  show pmF (t.bk (((i+1:Nat):Int).natAbs-1)) W=_
  rw[Int.natAbs_natCast,Nat.add_sub_cancel,ih (hs.fr hi) (fs.fr hi)]
  refine SB.ext fun k=>?_
  show s.f (tr5 i (tr5 i (t.f k)))=s.f (t.f k)
  rw[qda]
def crX (s:SB) (a b:Nat):Int:=if(a<b/\s.f b<s.f a)\/(b<a/\s.f a<s.f b)then 1 else 0
theorem qre (a b:Nat):crX Ud a b=0:=by
 unfold crX
 rw[if_neg]
 intro h
 have h:(a<b/\b<a)\/(b<a/\a<b):=h
 omega
theorem qro {s:SB} {i a b:Nat} (hb:s.Begs i) (ab:a≠b):crX s a b=crX (s.fr i) (tr5 i a) (tr5 i b)+(if(a=i/\b=i+1)\/(a=i+1/\b=i)then 1 else 0):=by
 have hb:s.f (i+1)<s.f i:=hb
 have e: ∀k,(s.fr i).f (tr5 i k)=s.f k:=fun k=>by
  show s.f (tr5 i (tr5 i k))=s.f k
  rw[qda]
 unfold crX
 rw[e,e]
 by_cases h:(a=i/\b=i+1)\/(a=i+1/\b=i)
 ·rcases h with⟨rfl,rfl⟩|⟨rfl,rfl⟩
  ·rw[qbE,qbx,if_pos (.inl ⟨by omega,hb⟩),if_neg (by omega),if_pos (.inl ⟨rfl,rfl⟩)]
   rfl
  rw[qbE,qbx,if_pos (.inr ⟨by omega,hb⟩),if_neg (by omega),if_pos (.inr ⟨rfl,rfl⟩)]
  rfl
 rw[if_neg h,Int.add_zero]
 have k:(a<b↔tr5 i a<tr5 i b)/\(b<a↔tr5 i b<tr5 i a):=by
  rcases Nat.lt_or_ge a b with c|c
  ·have:=qgf (j:=i) c
   omega
  have:=qgf (j:=i) (show b<a by omega)
  omega
 have:((a<b/\s.f b<s.f a)\/(b<a/\s.f a<s.f b))↔((tr5 i a<tr5 i b/\s.f b<s.f a)\/(tr5 i b<tr5 i a/\s.f a<s.f b)):=by rw[k.1,k.2]
 by_cases g:(a<b/\s.f b<s.f a)\/(b<a/\s.f a<s.f b)
 ·rw[if_pos g,if_pos (this.1 g)]
 rw[if_neg g,if_neg (fun x=>g (this.2 x))]
theorem wd_lk {n:Nat} (n12:n<=12) (n1:1<=n) {s:SB} {W:List Int} (h:WdB n s W):s.Ok n->s.Fix n-> ∀(t:SB) (f:Nat->Nat->Int) (x y:Nat),x≠y->lkF t f W x y=f x y+crX s (t.f x) (t.f y):=by
 induction h with
 |@nil s h=>
  intro hs fs t f x y ne
  rw[qks n12 n1 hs fs h,qre,Int.add_zero]
  rfl
 |@cons s i W hi hb hm h ih=>
  intro hs fs t f x y ne
  rw[lkF,Int.natAbs_natCast,Nat.add_sub_cancel,ih (hs.fr hi) (fs.fr hi) _ _ x y ne,if_pos (show(0:Int)<((i+1:Nat):Int)by omega)]
  have ab:t.f x≠t.f y:=fun e=>ne (t.finj e)
  rw[qro hb ab]
  show qkk f (t.g i) (t.g (i+1)) 1 x y+crX (s.fr i) (tr5 i (t.f x)) (tr5 i (t.f y))=_
  unfold qkk
  have e1:((x=t.g i/\y=t.g (i+1))\/(x=t.g (i+1)/\y=t.g i))↔((t.f x=i/\t.f y=i+1)\/(t.f x=i+1/\t.f y=i)):=by
   have q: ∀z j,z=t.g j↔t.f z=j:=fun z j=>⟨fun e=>by rw[e,t.fg],fun e=>by rw[<-e,t.gf]⟩
   rw[q,q,q,q]
  by_cases g:(x=t.g i/\y=t.g (i+1))\/(x=t.g (i+1)/\y=t.g i)
  ·rw[if_pos g,if_pos (e1.1 g)];omega
  rw[if_neg g,if_neg (fun z=>g (e1.2 z))];omega
def flc (n:Nat) (c:Int):Int:=if 0<c then(n:Int)-c else-((n:Int)+c)
theorem qj4 {n:Nat} {c:Int} (hc:c≠0/\ -(n:Int)<c/\c<n):(flc n c).natAbs-1=n-2-(c.natAbs-1)/\(0<flc n c↔0<c)/\(flc n c≠0/\ -(n:Int)<flc n c/\flc n c<n):=by
 unfold flc
 split<;>omega
theorem qlw {n:Nat}: ∀{w:List Int},LetN n w-> ∀l:List SB,(w.map (flc n)).foldl (qbO n) (l.map (SB.flip n))=(w.foldl (qbO n) l).map (SB.flip n)
 |[],hw,l=>rfl
 |c::w,hw,l=>by
  have hc:=hw c (List.mem_cons_self ..)
  obtain⟨h1,h2,h3⟩:=qj4 hc
  rw[List.map_cons,List.foldl_cons,List.foldl_cons]
  have e:qbO n (l.map (SB.flip n)) (flc n c)=(qbO n l c).map (SB.flip n):=by
   unfold qbO
   have hi:c.natAbs-1+1<n:=by omega
   rw[h1]
   by_cases p:0<c
   ·rw[if_pos p,if_pos (h2.2 p),List.map_append,List.map_singleton,qkb hi,qd1]
   rw[if_neg p,if_neg (fun q=>p (h2.1 q)),List.map_append,List.map_singleton,qjM hi,qdK]
  rw[e]
  exact qlw (w:=w) (fun d hd=>hw d (List.mem_cons_of_mem _ hd)) _
theorem qmm {n:Nat} {w:List Int} (hw:LetN n w):LetN n (w.map (flc n)):=fun c hc=>by
 obtain⟨d,hd,rfl⟩:=List.mem_map.1 hc
 exact(qj4 (hw d hd)).2.2
theorem qqc {n:Nat} {w:List Int} (hw:LetN n w):ngs (w.map (flc n))=ngs w:=by
 unfold ngs
 rw[List.countP_map]
 refine List.countP_congr fun c hc=>?_
 have:=(qj4 (hw c hc)).2.1
 simp[this]
theorem qmn {n:Nat} {w:List Int} (W:yL n w): ∀(K i:Nat),i<=w.length->w.length<K+i->zi w (n:Int) K ((w.take i).map (flc n)) (i:Int)=some (w.map (flc n))
 |0,i,h,hK=>by omega
 |K+1,i,h,hK=>by
  have wl:=W.len
  have n2:=W.n2
  unfold zi qbb
  by_cases hi:i<w.length
  ·have hc:=W.let_ _ (List.getElem_mem hi)
   have e1:(w.take i).map (flc n)++[flc n w[i]]=(w.take (i+1)).map (flc n):=by
    rw[List.take_succ_eq_append_getElem hi,List.map_append]
    rfl
   rw[if_pos (by omega),qz,Ya hi,ZB]
   have e2:w64 ((if 0<w[i]then 1 else-1)*w64 ((n:Int)-((w[i].natAbs:Nat):Int)))=flc n w[i]:=by
    rw[yG (n:=(n:Int)-((w[i].natAbs:Nat):Int)) (by omega) (by omega)]
    unfold flc
    split
    ·rw[yG (by omega) (by omega)];omega
    rw[yG (by omega) (by omega)];omega
   rw[qpc hc.1,ZB,qhw (by omega),ZB,e2,ZB,qdd (by simp;omega) (by simp;omega),ZB,kr (by omega),e1]
   exact qmn W K (i+1) (by omega) (by omega)
  rw[if_neg (by omega),List.take_of_length_le (by omega)]
theorem qoX {N n:Nat} (hN:2000<N) {w:List Int} (W:yL n w):qcM N (n:Int) w=some (w.map (flc n),0):=by
 have wl:=W.len
 unfold qcM qay
 have:=qmn W N 0 (Nat.zero_le _) (by omega)
 rw[show((0:Nat):Int)=0 from rfl,List.take_zero,List.map_nil]at this
 rw[qcr hN (by omega),qfT W,ZB,decide_eq_true rfl,if_neg (by decide),this]
 rfl
theorem qnx {n:Nat} (n6:n<=6) (n2:2<=n) {W w:List Int} (h:WdB n (Ub n) W) (hw:LetN n w) {f:qaR} (k:qaM n (W++W++w) f):qaM n (w++(W++W)) f:=by
 have hW:=h.pos.2
 have h0: ∃c W',W=c::W':=by
  cases W with
  |cons c W'=>exact⟨c,W',rfl⟩
  |nil=>
   cases h with
   |nil h=>
    exfalso
    refine h 0 (by omega) ?_
    show rv5 n 1<rv5 n 0
    rw[qaZ (by omega),qaZ (by omega)]
    omega
 obtain⟨c,W',e⟩:=h0
 have eL:qaG W.length=[Ud]++qaG W'.length:=by rw[e];rfl
 have one:Jn n [Ub n] [Ub n]:= .refl (qcK (Ui n))
 have a1:=qj3 n6 n2 h (hW.app hw)
 have a2:=one.app ((qj3 n6 n2 h hw).app (.refl (n:=n) (qgb (k:=W'.length))))
 have a3:Jn n (fac n (W++(W++w))++[Ud]) ([Ub n]++((Ub n::(fac n w++qaG W.length))++qaG W'.length)):=by
  refine a1.trans ?_
  rw[eL]
  rw[eL]at a2
  simpa using a2
 have b1:=qif n6 n2 h (hw.app hW)
 have b2:=(qif n6 n2 h hw).flip
 have ef:(((fac n w).map (SB.flip n)).map (SB.flip n))=fac n w:=by
  rw[List.map_map]
  conv=>rhs;rw[<-List.map_id (fac n w)]
  congr 1
  funext s
  exact qdM n s
 have ei: ∀k,(qaG k).map (SB.flip n)=qaG k:=fun k=>by
  unfold qaG
  rw[List.map_replicate,qd1]
 simp only[List.map_append,List.map_cons,List.map_nil,ef,ei,qdK,qd1]at b2
 have b3:=one.app (b2.app (.refl (n:=n) (qgb (k:=W'.length))))
 have b4:Jn n (fac n (w++W++W)++[Ud]) ([Ub n]++((Ub n::(fac n w++qaG W.length))++qaG W'.length)):=by
  refine b1.trans ?_
  rw[eL]
  rw[eL]at b3
  simpa using b3
 have j:=a3.trans b4.symm
 rw[<-Yz,Yz w W W]at j
 exact k.jn1 j (by rw[qdU,qdU w,Nat.add_comm])
theorem qnc {n:Nat} (n6:n<=6) (n2:2<=n) {H w:List Int} (h:WdB n (Ub n) H) (hw:LetN n w) {f:qaR} (k:qaM n (H++w) f):qaM n (w.map (flc n)++H) f:=by
 have a:=qj3 n6 n2 h hw
 have b:=qif n6 n2 h (qmm hw)
 have e:(fac n (w.map (flc n))).map (SB.flip n)=fac n w:=by
  have:=qlw hw []
  rw[List.map_nil]at this
  unfold fac
  rw[this,List.map_map]
  conv=>rhs;rw[<-List.map_id (w.foldl (qbO n) [])]
  congr 1
  funext s
  exact qdM n s
 rw[e]at b
 exact k.jn1 (a.trans b.symm) (by rw[qdU,qdU,qqc hw,Nat.add_comm])
theorem qpT {n:Nat} (n2:2<=n) (n12:n<=12) {s:SB} {W:List Int} (h:WdB n s W) (hs:s.Ok n) (fs:s.Fix n) {f:qaR} (k:qaM n W f):
 (s.li n=yS n/\f=⟨0,[]⟩)\/(s.li n≠yS n/\s.li n=(Ub n).li n/\f=⟨1,[]⟩)\/(s.li n≠yS n/\s.li n≠(Ub n).li n/\f=⟨0,[s.li n]⟩):=by
 obtain⟨A,a1,a2,rfl⟩:=k
 have lw:=qa4 n W
 obtain⟨B,b1,b2,b3⟩:=qj8 (l:=fac n W) (A:=A) (by rw[lw];exact a1) (by rw[lw];exact a2)
 have j:=qoC (by omega) n12 h hs fs
 have lr:(s::qaG W.length).length=W.length+1:=by simp[qaG]
 have nS:Nf n (W.length+1) (xE (s::qaG W.length)):=fun q i c=>by
  obtain⟨k1,k2,k3,k4⟩:=c
  have:xE (s::qaG W.length) (q+1)=Ud:=by
   unfold xE qaG
   rw[Yy,YK,List.getElem?_replicate]
   split<;>rfl
  rw[this]at k3
  exact qjV i k3
 have p:=j.symm.nf (A:=xE (s::qaG W.length)) .refl (by rw[lr];exact nS)
 have le:(fac n W++[Ud]).length=(fac n W).length+1:=by simp
 rw[le]at p
 have eB:=qd4 _ (Nat.le_refl _) b1 p b2 (by rw[lw];exact nS)
 have rows:yf n W.length A++[Ud.li n]=s.li n::List.replicate W.length (Ud.li n):=by
  rw[<-lw,<-b3,eB,lw]
  apply List.ext_getElem?
  intro q
  cases q with
  |zero=>rw[vX (by omega)];rfl
  |succ q=>
   rw[YK,List.getElem?_replicate]
   by_cases hq:q<W.length
   ·rw[vX (by omega),if_pos hq]
    unfold xE qaG
    rw[Yy,YK,List.getElem?_replicate,if_pos hq]
    rfl
   rw[Yg (by rw[qJ];omega),if_neg hq]
 have ng:ngs W=0:=qpP h.pos.1
 have ne:(Ub n).li n≠yS n:=qkd (n:=n) n12 n2
 have d1:decide (yS n=(Ub n).li n)=false:=decide_eq_false (Ne.symm ne)
 have d2:decide (yS n=yS n)=true:=decide_eq_true rfl
 have c1:(yf n W.length A).countP (fun x=>decide (x=(Ub n).li n))=if s.li n=(Ub n).li n then 1 else 0:=by
  have c:=congrArg (List.countP fun x=>decide (x=(Ub n).li n)) rows
  rw[Uv,List.countP_append,List.countP_cons,List.countP_nil,List.countP_cons,List.countP_replicate,d1]at c
  simp only[ZF,if_false,Nat.add_zero,Nat.zero_add,decide_eq_true_eq]at c
  exact c
 have c2:(yf n W.length A).filter (fun x=>!decide (x=yS n)&&!decide (x=(Ub n).li n))=if s.li n=yS n\/s.li n=(Ub n).li n then[]else[s.li n]:=by
  have c:=congrArg (List.filter fun x=>!decide (x=yS n)&&!decide (x=(Ub n).li n)) rows
  rw[Uv,List.filter_append,List.filter_cons,List.filter_nil,List.filter_cons,List.filter_replicate,d1,d2]at c
  simp only[Bool.not_true,Bool.false_and,ZF,if_false,List.append_nil]at c
  rw[c]
  generalize s.li n=x
  by_cases e1:x=yS n
  ·simp[e1]
  by_cases e2:x=(Ub n).li n
  ·simp[e2]
  simp[e1,e2]
 unfold qiE
 rw[ng,c1,c2]
 by_cases e1:s.li n=yS n
 ·exact .inl ⟨e1,by rw[if_neg (fun h=>ne (by rw[<-h,e1])),if_pos (.inl e1)];rfl⟩
 by_cases e2:s.li n=(Ub n).li n
 ·exact .inr (.inl ⟨e1,e2,by rw[if_pos e2,if_pos (.inr e2)];rfl⟩)
 exact .inr (.inr ⟨e1,e2,by rw[if_neg e2,if_neg (fun h=>h.elim e1 e2)];rfl⟩)
end Go.Av
end
section
namespace Go.Av
theorem qpB {N:Nat} (hN:2000<N) (n:Int) (w:List Int):qdI N n w 6 6=some (decide (n<=6/\w.length<=6/\qiW n w=0)):=by
 unfold qdI
 by_cases a:n<=6
 ·by_cases b:(w.length:Int)<=6
  ·rw[if_pos a,if_pos b,qhM hN (by omega)]
   simp only[ZB]
   congr 1
   rw[decide_eq_decide]
   omega
  rw[if_pos a,if_neg b,decide_eq_false (by omega)];rfl
 rw[if_neg a,decide_eq_false (by omega)];rfl
theorem qk7 {n:Nat} (hn:n<=12) (f:Nat->Nat->Int): ∀(K i:Nat),i<=n->n<K+i->xy (qdt n f) (n:Int) K (i:Int)=some (.inl ())
 |0,i,h,hK=>by omega
 |K+1,i,h,hK=>by
  unfold xy
  rw[qdB]
  by_cases hi:i<n
  ·rw[if_pos (by omega),qz,qcu hi,ZB,qcT,decide_eq_true rfl,if_neg (by decide),kr (by omega)]
   exact qk7 hn f K (i+1) (by omega) (by omega)
  rw[if_neg (by omega)]
theorem qnE {N n:Nat} (hN:2000<N) (hn:n<=12) (f:Nat->Nat->Int):qbF N (qdt n f) (n:Int)=some true:=by
 unfold qbF
 have:=qk7 hn f N 0 (Nat.zero_le _) (by omega)
 rw[show((0:Nat):Int)=0 from rfl]at this
 rw[this,qdB,decide_eq_true rfl]
 rfl
theorem qqC {n:Nat} (hn:n<=12) {s:SB} (f:Nat->Nat->Int) {i:Nat} (hi:i<n) (hf: ∀j,j≠i->f i j=crX s i j): ∀(K k:Nat),i<k->k<=n->n<K+k->zV (n:Int) (s.li n) (qdt n f,0) (i:Int) K (k:Int)=some (.inl ())
 |0,k,h,h2,hK=>by omega
 |K+1,k,h,h2,hK=>by
  unfold zV
  by_cases hk:k<n
  ·have e:(if((s.f i:Nat):Int)>((s.f k:Nat):Int)then some (1:Int)else some 0:Option Int)=some (crX s i k):=by
    unfold crX
    by_cases c:s.f k<s.f i
    ·rw[if_pos (by omega),if_pos (.inl ⟨h,c⟩)]
    rw[if_neg (by omega),if_neg (by omega)]
   rw[if_pos (by omega),Uj hi,ZB,Uj hk,ZB,e,ZB]
   dsimp only
   rw[qz,qcu hi,ZB,qz,qdv hk,ZB,hf k (by omega),decide_eq_true rfl,if_neg (by decide),kr (by omega)]
   exact qqC hn f hi hf K (k+1) (by omega) (by omega) (by omega)
  rw[if_neg (by omega)]
theorem qqu {n N:Nat} (hN:2000<N) (hn:n<=12) {s:SB} (f:Nat->Nat->Int) (hf: ∀i j,j≠i->f i j=crX s i j): ∀(K i:Nat),i<=n->n<K+i->zT N (n:Int) (s.li n) (qdt n f,0) K (i:Int)=some (.inl ())
 |0,i,h,hK=>by omega
 |K+1,i,h,hK=>by
  unfold zT
  by_cases hi:i<n
  ·rw[if_pos (by omega),kr (by omega),qqC hn f hi (hf i) N (i+1) (by omega) (by omega) (by omega)]
   exact qqu hN hn f hf K (i+1) (by omega) (by omega)
  rw[if_neg (by omega)]
theorem qkt (N:Nat) (w:List Int):qM N ((1:Nat):Int) w=some ⟨0,[]⟩:=by
 unfold qM
 rw[if_pos (show((1:Nat):Int)=1 from rfl)]
theorem qle {N n:Nat} (hN:2000<N) {a b:List Int} (A:yL n a) (B:yL n b) {f:qaR} (h1:qM N (n:Int) a=some f) (h2:qM N (n:Int) b=some f) (h3:f.Factors.length<=300) (h4: ∀x∈f.Factors,x.length<=300):qbB N (n:Int) a b=some (true,0):=by
 unfold qbB qcZ
 rw[qmI hN A B,ZB,decide_eq_true rfl]
 simp only[Bool.not_true,ZF,if_false]
 rw[h1,h2]
 simp only[ZB]
 rw[qpy (by omega) h3 h4]
 rfl
theorem qnb {N n:Nat} (hN:2000<N) {a:List Int} (A:yL n a) {f:qaR} (h1:qM N (n:Int) a=some f):qbL N (n:Int) a=some (f,0):=by
 have:=A.len
 unfold qbL
 rw[qcr hN (by omega),qfT A,ZB,decide_eq_true rfl]
 simp only[Bool.not_true,ZF,if_false]
 rw[h1]
 rfl
theorem yL.flc {n:Nat} {w:List Int} (W:yL n w):yL n (w.map (flc n)):=by
 refine⟨W.n1,W.n2,by rw[List.length_map];exact W.len,?_⟩
 have h:LetN n (w.map (Go.Av.flc n)):=qmm W.let_
 exact h
theorem qgj {N:Nat} (hN:1000000<N) (n:Int) (p w:List Int):qa3 N n p w=some true:=by
 unfold qa3 awk
 simp only[ZB,Bool.not_true,ZF,if_false]
 by_cases a1:n<1
 ·rw[if_pos a1];rfl
 by_cases a2:n>6
 ·rw[if_neg a1,if_pos a2];rfl
 rw[if_neg a1,if_neg a2]
 by_cases a3:(p.length:Int)=n
 ·obtain⟨k,rfl⟩: ∃k:Nat,n=k:=⟨n.toNat,by omega⟩
  have hpk:p.length=k:=by omega
  rw[decide_eq_true a3]
  simp only[Bool.not_true,ZF,if_false]
  obtain⟨e,e1,e2,e3,_⟩:=qnr (N:=N) (by omega) (p:=p) (by omega)
  rw[e2]
  simp only[ZB]
  by_cases e0:e=0
  ·subst e0
   simp only[decide_true,Bool.not_true,ZF,if_false]
   rw[qpB (by omega)]
   simp only[ZB]
   by_cases F:(k:Int)<=6/\w.length<=6/\qiW (k:Int) w=0
   ·rw[decide_eq_true F]
    simp only[Bool.not_true,ZF,if_false]
    obtain⟨F1,F2,F3⟩:=F
    obtain⟨k',ek,V⟩:=qpG F3
    obtain rfl:k=k':=by omega
    have k1:=V.n1
    obtain⟨s0,s1,s2⟩:=sb_of (e3 rfl)
    rw[hpk]at s1 s2
    obtain⟨s,so,sf,sl⟩:=qqV s1
    have hp:p=s.li k:=by rw[s2,sl]
    obtain⟨W,w1,w2⟩:=qnN (n:=k) (k*k) s (SB.inv_le k _)
    obtain⟨H,h1,h2⟩:=qnN (n:=k) (k*k) (Ub k) (SB.inv_le k _)
    have kk:k*k<=6*6:=Nat.mul_le_mul (by omega) (by omega)
    have WW:yL k W:=⟨k1,by omega,by omega,w1.pos.2⟩
    have HH:yL k H:=⟨k1,by omega,by omega,h1.pos.2⟩
    have VF:=V.flc
    have lF:(w.map (flc k)).length=w.length:=List.length_map ..
    rw[hp,qjg (by omega) k1 (by omega) so w1 (by omega)]
    simp only[ZB]
    have eP:qcG N (k:Int) W=some (s.li k,0):=by
     unfold qcG
     rw[qcr (by omega) (by omega),qfT WW,ZB,decide_eq_true rfl]
     simp only[Bool.not_true,ZF,if_false]
     rw[qp2 (by omega) (by omega) WW,wd_pm (by omega) k1 w1 so sf]
     rfl
    have eL:qcz N (k:Int) W=some (qdt k (lkF Ud (fun _ _=>0) W),0):=by
     unfold qcz
     rw[qcr (by omega) (by omega),qfT WW,ZB,decide_eq_true rfl]
     simp only[Bool.not_true,ZF,if_false]
     rw[qp7 (by omega) (by omega) WW]
     rfl
    rw[eP,eL]
    simp only[ZB]
    rw[show w64 (w64 (0+0)+0)=0 by decide,decide_eq_true rfl]
    simp only[Bool.not_true,ZF,if_false]
    rw[qeS (by rw[Uf];omega) (by rw[Uf];omega),decide_eq_true rfl]
    simp only[ZB,Bool.not_true,ZF,if_false]
    rw[qnE (by omega) (by omega)]
    simp only[ZB,Bool.not_true,ZF,if_false]
    rw[qhM (by omega) (by omega),qfT WW,ZB,decide_eq_true rfl]
    simp only[ZB,Bool.not_true,ZF,if_false]
    have t0:=qqu (N:=N) (by omega) (n:=k) (by omega) (s:=s) (lkF Ud (fun _ _=>0) W) (fun i j ne=>by
     rw[wd_lk (by omega) k1 w1 so sf Ud _ i j (fun e=>ne e.symm),Int.zero_add]
     rfl) N 0 (Nat.zero_le _) (by omega)
    rw[show((0:Nat):Int)=0 from rfl]at t0
    rw[t0]
    simp only[ZB]
    rw[qp4 (by omega) (by omega)]
    simp only[ZB]
    rw[qjg (by omega) k1 (by omega) (Ui k) h1 (by omega),qoX (by omega) V]
    simp only[ZB]
    have HV:=HH.app V (by omega)
    have FH:=VF.app HH (by omega)
    have lHV:(H++w).length=H.length+w.length:=Yq
    have HHV:=HH.app HV (by omega)
    have VH:=V.app HH (by omega)
    have lVH:(w++H).length=w.length+H.length:=Yq
    have VHH:=VH.app HH (by omega)
    have lFH:(w.map (flc k)++H).length=w.length+H.length:=by rw[Yq,lF]
    have lHHV:(H++(H++w)).length=H.length+(H.length+w.length):=by rw[Yq,lHV]
    have lVHH:(w++H++H).length=w.length+H.length+H.length:=by rw[Yq,lVH]
    rw[qdH (by omega) HH V (by omega),qdH (by omega) VF HH (by omega)]
    simp only[ZB]
    have both:(∃f,qM N (k:Int) (H++w)=some f/\qM N (k:Int) (w.map (flc k)++H)=some f/\f.Factors.length<=300/\ ∀x∈f.Factors,x.length<=300)/\
     (∃f,qM N (k:Int) (H++(H++w))=some f/\qM N (k:Int) (w++H++H)=some f/\f.Factors.length<=300/\ ∀x∈f.Factors,x.length<=300)/\
     (∃f,qM N (k:Int) W=some f/\((k=1/\f=⟨0,[]⟩)\/(2<=k/\qaM k W f))):=by
     by_cases n1:k=1
     ·subst n1
      exact⟨⟨_,qkt N _,qkt N _,by simp,fun x hx=>by cases hx⟩,⟨_,qkt N _,qkt N _,by simp,fun x hx=>by cases hx⟩,⟨_,qkt N _,.inl ⟨rfl,rfl⟩⟩⟩
     have n2:2<=k:=by omega
     obtain⟨f1,g1,i1,b1,b2⟩:=qkM n2 (by omega) hN HV (by omega)
     obtain⟨f2,g2,i2,_,_⟩:=qkM n2 (by omega) hN FH (by omega)
     obtain⟨f3,g3,i3,b3,b4⟩:=qkM n2 (by omega) hN HHV (by omega)
     obtain⟨f4,g4,i4,_,_⟩:=qkM n2 (by omega) hN VHH (by omega)
     obtain⟨f5,g5,i5,_,_⟩:=qkM n2 (by omega) hN WW (by omega)
     have e12:=(qnc (by omega) n2 h1 V.let_ i1).uniq i2
     rw[<-Yz]at i3
     rw[Yz]at i4
     have e34:=(qnx (by omega) n2 h1 V.let_ i3).uniq i4
     subst e12 e34
     exact⟨⟨f1,g1,g2,b1,b2⟩,⟨f3,g3,g4,b3,b4⟩,⟨f5,g5,.inr ⟨n2,i5⟩⟩⟩
    obtain⟨⟨f,f1,f2,f3,f4⟩,⟨g,g1,g2,g3,g4⟩,⟨q,q1,q2⟩⟩:=both
    rw[qle (by omega) HV FH f1 f2 f3 f4,qdH (by omega) HH HV (by omega),qdH (by omega) V HH (by omega)]
    simp only[ZB]
    rw[qdH (by omega) VH HH (by omega)]
    simp only[ZB]
    rw[qle (by omega) HHV VHH g1 g2 g3 g4,qnb (by omega) WW q1]
    simp only[ZB]
    have z9:w64 (w64 (w64 (w64 (w64 (w64 (w64 (w64 (w64 (0+0)+0)+0)+0)+0)+0)+0)+0)+0)=0:=by decide
    rw[z9,decide_eq_true rfl]
    simp only[Bool.not_true,ZF,if_false,ZB]
    have sL:(s.li k).length=k:=Uf k s
    have hL:((Ub k).li k).length=k:=Uf k _
    by_cases n1:(k:Int)=1
    ·have q3:q=⟨0,[]⟩:=by
      rcases q2 with⟨_,h⟩|⟨h,_⟩
      ·exact h
      omega
     subst q3
     rw[if_pos n1]
     rfl
    rw[if_neg n1]
    rcases q2 with⟨h,_⟩|⟨n2,q2⟩
    ·omega
    rw[qm2 (by omega) (by omega),ZB,qeS (by omega) (by omega)]
    simp only[ZB]
    rcases qpT n2 (by omega) w1 so sf q2 with⟨c1,rfl⟩|⟨c1,c2,rfl⟩|⟨c1,c2,rfl⟩
    ·rw[decide_eq_true c1];rfl
    ·rw[decide_eq_false c1]
     simp only[ZF,if_false]
     rw[qeS (by omega) (by omega),decide_eq_true c2]
     rfl
    rw[decide_eq_false c1]
    simp only[ZF,if_false]
    rw[qeS (by omega) (by omega),decide_eq_false c2]
    simp only[ZB,ZF,if_false,if_true]
    rw[show idx [s.li k] 0=some (s.li k)from rfl,ZB,qeS (by omega) (by omega),decide_eq_true rfl]
    rfl
   rw[decide_eq_false F];rfl
  rw[decide_eq_false e0];rfl
 rw[decide_eq_false a3];rfl
end Go.Av
end
