/-
  Words of crossings: what the program and the reference make of them, and the law of words.
-/
import Derived.Test.YtmffnhniejfgpaaGreatDoorQGenB
import Derived.Test.YtmffnhniejfgpaaGreatDoorAvPt
noncomputable section
set_option linter.unusedVariables false
set_option linter.unusedSimpArgs false
set_option maxRecDepth 100000
set_option linter.unusedSectionVars false
section
namespace Go.Av
def yl (n c:Int):Bool:=decide (c≠0)&&decide (-n<c)&&decide (c<n)
def qeA (n:Int) (w:List Int):Int:=if n<1\/12<n then 3 else if 200<w.length then 5 else if w.all (yl n)=true then 0 else 3
theorem letter_eq {n:Int} (h1:1<=n) (h2:n<=12) (c:Int):vX n c=some (yl n c):=by
 unfold vX yl
 have hw:w64 (0-n)= -n:=by rw[zV (by omega) (by omega)];omega
 rw[hw]
 by_cases a:c=0
 ·simp[a]
 by_cases b: -n<c
 ·simp[a,b]
 simp[a,b]
theorem qfj {n:Int} (h1:1<=n) (h2:n<=12) (c:Int):vK n c=some (!yl n c):=by
 unfold vK yl
 have hw:w64 (0-n)= -n:=by rw[zV (by omega) (by omega)];omega
 rw[hw]
 by_cases a:c=0
 ·simp[a]
 by_cases b: -n<c
 ·rw[if_neg a,if_neg (by omega)]
  by_cases d:c<n
  ·simp[a,b,d]
  simp[a,b,d];omega
 rw[if_neg a,if_pos (by omega)]
 simp[a,b]
theorem qeo {n:Int} {w:List Int} {i:Nat} (h:i<w.length):(w.drop i).all (yl n)=(yl n w[i]&&(w.drop (i+1)).all (yl n)):=by
 rw[YG h,List.all_cons]
theorem qhn {n:Int} (h1:1<=n) (h2:n<=12) {w:List Int} (hl:w.length<=300): ∀(K i:Nat),i<=w.length->w.length<K+i->ky n w K (i:Int)=some (if(w.drop i).all (yl n)=true then .inl ()else .inr 3)
 |0,i,h,hK=>by omega
 |K+1,i,h,hK=>by
  unfold ky
  by_cases hi:i<w.length
  ·rw[if_pos (by omega),qo,Ya hi,ZB,letter_eq h1 h2,ZB,qeo hi]
   cases c:yl n w[i]with
   |false=>rfl
   |true=>
    rw[if_neg (by decide),qY (by omega),qhn h1 h2 hl K (i+1) (by omega) (by omega),Bool.true_and]
  rw[if_neg (by omega),List.drop_eq_nil_of_le (by omega)]
  rfl
theorem qcq {N:Nat} (hN:2000<N) {n:Int} {w:List Int} (hl:w.length<=300):jf N n w=some (qeA n w):=by
 unfold jf qeA
 by_cases a:n<1
 ·rw[if_pos a,ZB,if_pos rfl,if_pos (.inl a)]
 by_cases b:12<n
 ·rw[if_neg a,decide_eq_true (by omega),ZB,if_pos rfl,if_pos (.inr b)]
 rw[if_neg a,decide_eq_false (by omega),ZB,if_neg (by decide),if_neg (show¬(n<1\/12<n)by omega)]
 by_cases c:200<w.length
 ·rw[if_pos (by omega),if_pos c]
 rw[if_neg (by omega),if_neg c,show(0:Int)=((0:Nat):Int)from rfl,qhn (by omega) (by omega) hl N 0 (by omega) (by omega),YR]
 cases w.all (yl n)<;>rfl
theorem qh2 {n:Int} (h1:1<=n) (h2:n<=12) {w:List Int} (hl:w.length<=300): ∀(K i:Nat),i<=w.length->w.length<K+i->((w.drop i).all (yl n)=true/\qh w n K (i:Int)=some (.inl ()))\/((w.drop i).all (yl n)=false/\ ∃j:Nat,qh w n K (i:Int)=some (.inr (j:Int)))
 |0,i,h,hK=>by omega
 |K+1,i,h,hK=>by
  unfold qh jc
  by_cases hi:i<w.length
  ·rw[if_pos (by omega),qo,Ya hi,ZB,qfj h1 h2,ZB,ZB,qeo hi]
   cases c:yl n w[i]with
   |false=>exact .inr ⟨rfl,i,rfl⟩
   |true=>
    rw[if_neg (by decide),qY (by omega),Bool.true_and]
    exact qh2 h1 h2 hl K (i+1) (by omega) (by omega)
  rw[if_neg (by omega),List.drop_eq_nil_of_le (by omega)]
  exact .inl ⟨rfl,rfl⟩
theorem qfD {N:Nat} (hN:10<N) (a b:Int):jg N [a,b]=some (if a=0 then b else a):=by
 obtain⟨K,rfl⟩: ∃K,N=K+1+1+1:=⟨N-3,by omega⟩
 have w1:w64 1=1:=rfl
 have w2:w64 2=2:=rfl
 have i0: ∀a b:Int,idx [a,b] 0=some a:=fun _ _=>rfl
 have i1: ∀a b:Int,idx [a,b] 1=some b:=fun _ _=>rfl
 unfold jg
 by_cases ha:a=0
 ·by_cases hb:b=0
  ·simp[kg,i0,i1,ha,hb,w1,w2]
  simp[kg,i0,i1,ha,hb,w1,w2]
 simp[kg,i0,ha]
theorem qcF (b:Bool) (e:Int):zR b e=some (if b=true then e else 0):=by
 unfold zR
 cases b<;>rfl
theorem qdw {N:Nat} (hN:2000<N) {n:Int} {w:List Int} (hl:w.length<=300):zT N n w=some (qeA n w):=by
 unfold zT jJ qeA
 by_cases a:n<1\/12<n
 ·have:(Option.bind (if n<1 then(zR true 3).bind fun r2=>some r2 else(zR (decide (n>12)) 3).bind fun r3=>some r3:Option Int) fun n4=>some n4)=some 3:=by
   by_cases b:n<1
   ·rw[if_pos b];rfl
   rw[if_neg b,decide_eq_true (by omega)];rfl
  rw[this,ZB,qcF,ZB,qfD (by omega),if_neg (by decide),ZB,if_pos (by decide),if_pos a]
 have:(Option.bind (if n<1 then(zR true 3).bind fun r2=>some r2 else(zR (decide (n>12)) 3).bind fun r3=>some r3:Option Int) fun n4=>some n4)=some 0:=by
  rw[if_neg (by omega),decide_eq_false (by omega)];rfl
 rw[this,ZB,qcF,ZB,qfD (by omega),if_pos rfl,ZB,if_neg a]
 by_cases c:200<w.length
 ·rw[decide_eq_true (show(w.length:Int)>200 by omega),if_pos rfl,if_pos (by decide),if_pos c]
 rw[decide_eq_false (show¬(w.length:Int)>200 by omega),if_neg Bool.false_ne_true,if_neg (show¬(!decide ((0:Int)=0))=true by decide),if_neg c]
 unfold kX zN
 rcases qh2 (n:=n) (by omega) (by omega) hl N 0 (by omega) (by omega)with⟨g1,g2⟩|⟨g1,j,g2⟩<;>rw[show((0:Nat):Int)=0 from rfl]at g2
 ·rw[g2,<-YR (l:=w),g1]
  rfl
 rw[g2,<-YR (l:=w),g1]
 simp only[ZB]
 rw[decide_eq_true (show(j:Int)>=0 by omega),qcF]
 rfl
structure qeW (n:Nat) (w:List Int):Prop where
 n1:1<=n
 n2:n<=12
 len:w.length<=200
 let_: ∀c∈w,c≠0/\ -(n:Int)<c/\c<n
theorem qfU {n:Int} {w:List Int} (h:qeA n w=0): ∃k:Nat,n=k/\qeW k w:=by
 unfold qeA at h
 split at h
 ·omega
 rename_i a
 split at h
 ·omega
 rename_i b
 split at h
 ·rename_i c
  refine⟨n.toNat,by omega,by omega,by omega,by omega,fun x hx=>?_⟩
  have:=Yp.1 c x hx
  simp only[yl,Bool.and_eq_true,decide_eq_true_eq]at this
  omega
 omega
end Go.Av
end
section
namespace Go.Av
def zD (n:Nat):List Int:=(List.range n).map fun k:Nat=>(k:Int)
theorem zq (n:Nat):(zD n).length=n:=by simp[zD]
theorem yu {n k:Nat} (h:k<n):(zD n)[k]? =some (k:Int):=by
 simp[zD,List.getElem?_map,List.getElem?_range h]
theorem qfe (n:Nat):zD (n+1)=zD n++[(n:Int)]:=by simp[zD,List.range_succ]
theorem qiu {c:Int} (h: -1000<c/\c<1000):xP c=some ((c.natAbs:Nat):Int):=by
 unfold xP
 rw[zV (by omega) (by omega)]
 by_cases a:0-c>c
 ·rw[if_pos a];congr 1;omega
 rw[if_neg a];congr 1;omega
theorem qhk {c:Int} (h: -1000<c/\c<1000):yY c=some ((c.natAbs:Nat):Int):=by
 unfold yY
 rw[zV (by omega) (by omega)]
 by_cases a:0-c>c
 ·rw[if_pos a];congr 1;omega
 rw[if_neg a];congr 1;omega
theorem qfx {n:Nat} (hn:n<=1000) {l2:List Int} (h2:l2.length=n): ∀(K i:Nat) (l:List Int),l.length=n->i<=n->n<K+i->(∀k,k<i->l[k]? =some (k:Int))->qQ l2 K l (i:Int)=some (zD n)
 |0,i,l,hl,h,hK,hk=>by omega
 |K+1,i,l,hl,h,hK,hk=>by
  unfold qQ
  by_cases hi:i<n
  ·rw[if_pos (by omega),qo,Ya (by omega),ZB,jI (by omega),ZB,qY (by omega)]
   refine qfx hn h2 K (i+1) _ (by simpa using hl) (by omega) (by omega) (fun k hki=>?_)
   by_cases e:k=i
   ·subst e;rw[List.getElem?_set_self (by omega)]
   rw[Yw (fun c=>e c.symm)];exact hk k (by omega)
  rw[if_neg (by omega)]
  congr 1
  apply List.ext_getElem?
  intro k
  by_cases hkn:k<n
  ·rw[hk k (by omega),yu hkn]
  rw[Yg (by omega),Yg (by rw[zq];omega)]
theorem qdF {n:Nat} (hn:n<=1000):mk 8 (n:Int) (0:Int)=some (List.replicate n 0):=by
 unfold mk
 rw[if_pos (by omega)]
 simp
theorem qef {N n:Nat} (hN:2000<N) (hn:n<=1000):zM N (n:Int)=some (zD n):=by
 unfold zM
 rw[qdF hn,ZB,show(0:Int)=((0:Nat):Int)from rfl,qfx hn (by simp) N 0 _ (by simp) (by omega) (by omega) (fun k hk=>by omega),ZB]
theorem qec {n:Nat} (hn:n<=1000): ∀(K i:Nat),i<=n->n<K+i->qR (n:Int) K (zD i) (i:Int)=some (zD n)
 |0,i,h,hK=>by omega
 |K+1,i,h,hK=>by
  unfold qR
  by_cases hi:i<n
  ·rw[if_pos (by omega),qbd (by rw[zq];simp only[Yr,List.length_nil];omega) (by rw[zq];simp only[Yr,List.length_nil];omega),ZB,qY (by omega),<-qfe]
   exact qec hn K (i+1) (by omega) (by omega)
  rw[if_neg (by omega),show i=n by omega]
theorem qbN {N n:Nat} (hN:2000<N) (hn:n<=1000):zL N (n:Int)=some (zD n):=by
 unfold zL
 have:=qec hn N 0 (by omega) (by omega)
 rw[show zD 0=([]:List Int)from rfl]at this
 rw[show(0:Int)=((0:Nat):Int)from rfl,this,ZB]
structure PInv (n:Nat) (row p:List Int):Prop where
 rl:row.length=n
 pl:p.length=n
 at_: ∀k,k<n-> ∃v:Nat,v<n/\row[k]? =some (v:Int)/\p[v]? =some (k:Int)
 all: ∀v,v<n-> ∃k,k<n/\row[k]? =some (v:Int)
theorem PInv.back {n:Nat} {row p:List Int} (h:PInv n row p) {k v:Nat} (hk:k<n) (e:row[k]? =some (v:Int)):v<n/\p[v]? =some (k:Int):=by
 obtain⟨u,hu,e1,e2⟩:=h.at_ k hk
 rw[e]at e1
 have:v=u:=by have:=Ye e1;omega
 subst this
 exact⟨hu,e2⟩
theorem PInv.inj {n:Nat} {row p:List Int} (h:PInv n row p) {k k' v:Nat} (hk:k<n) (hk':k'<n) (e:row[k]? =some (v:Int)) (e':row[k']? =some (v:Int)):k=k':=by
 have h1:=(h.back hk e).2
 have h2:=(h.back hk' e').2
 rw[h1]at h2
 have:=Ye h2
 omega
end Go.Av
end
section
namespace Go.Av
end Go.Av
end
section
namespace Go.Av
def qbY (l:List Int):Int:=(l.find? fun x=>!decide (x=0)).getD 0
theorem qem {l:List Int} (hl:l.length<=100): ∀(K i:Nat),i<=l.length->l.length<K+i->kg l K (i:Int)=some (match(l.drop i).find? (fun x=>!decide (x=0))with|some x=> .inr x|none=> .inl ())
 |0,i,h,hK=>by omega
 |K+1,i,h,hK=>by
  unfold kg
  by_cases hi:i<l.length
  ·rw[if_pos (by omega),qo,Ya hi,ZB,YG hi,List.find?_cons]
   by_cases c:l[i]=0
   ·rw[if_neg (by simp[c]),qY (by omega),qem hl K (i+1) (by omega) (by omega)]
    simp[c]
   rw[if_pos (by simp[c])]
   simp[c]
  rw[if_neg (by omega),List.drop_eq_nil_of_le (by omega)]
  rfl
theorem qgi {N:Nat} {l:List Int} (hl:l.length<=100) (hN:l.length<N):jg N l=some (qbY l):=by
 unfold jg qbY
 have:=qem hl N 0 (by omega) (by omega)
 rw[YR,show((0:Nat):Int)=0 from rfl]at this
 rw[this]
 cases l.find? (fun x=>!decide (x=0))<;>rfl
theorem qes {l:List Int} (hl:l.length<=100): ∀(K i:Nat),i<=l.length->l.length<K+i->zX l K (i:Int)=some (match(l.drop i).find? (fun x=>!decide (x=0))with|some x=> .inr x|none=> .inl ())
 |0,i,h,hK=>by omega
 |K+1,i,h,hK=>by
  unfold zX
  by_cases hi:i<l.length
  ·rw[if_pos (by omega),qo,Ya hi,ZB,YG hi,List.find?_cons]
   by_cases c:l[i]=0
   ·rw[if_neg (by simp[c]),qY (by omega),qes hl K (i+1) (by omega) (by omega)]
    simp[c]
   rw[if_pos (by simp[c])]
   simp[c]
  rw[if_neg (by omega),List.drop_eq_nil_of_le (by omega)]
  rfl
theorem qgw {N:Nat} {l:List Int} (hl:l.length<=100) (hN:l.length<N):vV N l=some (qbY l):=by
 unfold vV qbY
 have:=qes hl N 0 (by omega) (by omega)
 rw[YR,show((0:Nat):Int)=0 from rfl]at this
 rw[this]
 cases l.find? (fun x=>!decide (x=0))<;>rfl
theorem qi6 (l:List Int):qbY (0::l)=qbY l:=by simp[qbY]
theorem qhf {x:Int} (h:x≠0) (l:List Int):qbY (x::l)=x:=by simp[qbY,h]
theorem qjd (x:Int):qbY [x]=x:=by
 by_cases h:x=0
 ·subst h;rfl
 exact qhf h []
def MvOK (n:Int) (w:List Int) (r:List Int×Int):Prop:=(r.2≠0->r.1=[])/\(r.2=0->r.1.length<=w.length+2/\ ∀c∈r.1,yl n c=true)
theorem MvOK.bad {n:Int} {w:List Int} {e:Int} (h:e≠0):MvOK n w ([],e):=⟨fun _=>rfl,fun g=>absurd g h⟩
section
variable {N:Nat} (hN:2000<N) {n:Int} (h1:1<=n) (h2:n<=12) {w:List Int} (hw:w.length<=400) (hv: ∀c∈w,yl n c=true) {m:qiT}
include hN h1 h2 hw hv
end
end Go.Av
end
section
namespace Go.Av
def tr5 (i k:Nat):Nat:=if k=i then i+1 else if k=i+1 then i else k
theorem qcd (i k:Nat):tr5 i (tr5 i k)=k:=by
 unfold tr5
 by_cases a:k=i
 ·subst a;simp
 by_cases b:k=i+1
 ·subst b;simp
 simp[a,b]
theorem qav (i:Nat):tr5 i i=i+1:=by simp[tr5]
theorem qaG (i:Nat):tr5 i (i+1)=i:=by simp[tr5]
theorem vg {i k:Nat} (a:k≠i) (b:k≠i+1):tr5 i k=k:=by simp[tr5,a,b]
theorem jX (i k:Nat):(k=i/\tr5 i k=i+1)\/(k=i+1/\tr5 i k=i)\/(k≠i/\k≠i+1/\tr5 i k=k):=by
 by_cases a:k=i
 ·subst a;exact .inl ⟨rfl,qav k⟩
 by_cases b:k=i+1
 ·subst b;exact .inr (.inl ⟨rfl,qaG i⟩)
 exact .inr (.inr ⟨a,b,vg a b⟩)
theorem qej {i j:Nat} (h:i+1<j\/j+1<i) (k:Nat):tr5 i (tr5 j k)=tr5 j (tr5 i k):=by
 by_cases a:k=i
 ·subst a;rw[vg (i:=j) (k:=k) (by omega) (by omega),qav,vg (i:=j) (k:=k+1) (by omega) (by omega)]
 by_cases b:k=i+1
 ·subst b;rw[vg (i:=j) (k:=i+1) (by omega) (by omega),qaG,vg (i:=j) (k:=i) (by omega) (by omega)]
 rw[vg (i:=i) (k:=k) a b]
 rcases jX j k with⟨c,e⟩|⟨c,e⟩|⟨c,c',e⟩<;>rw[e]
 ·exact vg (by omega) (by omega)
 ·exact vg (by omega) (by omega)
 exact vg a b
theorem qdq (i k:Nat):tr5 i (tr5 (i+1) (tr5 i k))=tr5 (i+1) (tr5 i (tr5 (i+1) k)):=by
 have a1:=qav i
 have a2:=qaG i
 have a3:tr5 i (i+1+1)=i+1+1:=vg (by omega) (by omega)
 have b1:=qav (i+1)
 have b2:=qaG (i+1)
 have b3:tr5 (i+1) i=i:=vg (by omega) (by omega)
 by_cases a:k=i
 ·subst a;rw[a1,b1,a3,b3,a1,b1]
 by_cases b:k=i+1
 ·subst b;rw[a2,b3,a1,b1,a3,b2]
 by_cases c:k=i+1+1
 ·subst c;rw[a3,b2,a2,b3]
 rw[vg (i:=i) (k:=k) a b,vg (i:=i+1) (k:=k) b c,vg (i:=i) (k:=k) a b,vg (i:=i+1) (k:=k) b c]
structure SB where
 f:Nat->Nat
 g:Nat->Nat
 gf: ∀k,g (f k)=k
 fg: ∀k,f (g k)=k
theorem SB.ext {s t:SB} (h: ∀k,s.f k=t.f k):s=t:=by
 obtain⟨f,g,a,b⟩:=s
 obtain⟨f',g',a',b'⟩:=t
 have e:f=f':=funext h
 subst e
 have e:g=g':=funext fun k=>by
  have:=a (g' k)
  rwa [b']at this
 subst e
 rfl
theorem SB.finj (s:SB) {a b:Nat} (h:s.f a=s.f b):a=b:=by
 have:=congrArg s.g h
 rwa [s.gf,s.gf]at this
theorem SB.ginj (s:SB) {a b:Nat} (h:s.g a=s.g b):a=b:=by
 have:=congrArg s.f h
 rwa [s.fg,s.fg]at this
def SB.fr (s:SB) (i:Nat):SB:=⟨fun k=>s.f (tr5 i k),fun k=>tr5 i (s.g k),fun k=>by rw[s.gf,qcd],fun k=>by rw[qcd,s.fg]⟩
def SB.bk (s:SB) (i:Nat):SB:=⟨fun k=>tr5 i (s.f k),fun k=>s.g (tr5 i k),fun k=>by rw[qcd,s.gf],fun k=>by rw[s.fg,qcd]⟩
def SB.Begs (s:SB) (i:Nat):Prop:=s.f (i+1)<s.f i
def SB.Ends (s:SB) (i:Nat):Prop:=s.g (i+1)<s.g i
theorem SB.nEnds {s:SB} {i:Nat} (h: ¬s.Ends i):s.g i<s.g (i+1):=by
 unfold SB.Ends at h
 have:s.g i≠s.g (i+1):=fun e=>by have:=s.ginj e;omega
 omega
def psh (L:Nat->SB) (k i:Nat):Nat->SB:=fun q=>if q=k then(L k).bk i else if q=k+1 then(L (k+1)).fr i else L q
theorem vI (L:Nat->SB) (k i:Nat):psh L k i k=(L k).bk i:=by simp[psh]
theorem jd (L:Nat->SB) (k i:Nat):psh L k i (k+1)=(L (k+1)).fr i:=by simp[psh]
theorem zU (L:Nat->SB) {k i q:Nat} (a:q≠k) (b:q≠k+1):psh L k i q=L q:=by simp[psh,a,b]
structure jG (n m:Nat) (L:Nat->SB) (k i:Nat):Prop where
 k_:k+1<m
 i_:i+1<n
 b_:(L (k+1)).Begs i
 e_: ¬(L k).Ends i
inductive Psh (n m:Nat):(Nat->SB)->(Nat->SB)->Prop
 |mk {L:Nat->SB} {k i:Nat} (h:jG n m L k i):Psh n m L (psh L k i)
inductive Pst (n m:Nat):(Nat->SB)->(Nat->SB)->Prop
 |refl {L:Nat->SB}:Pst n m L L
 |head {L L1 A:Nat->SB} (h:Psh n m L L1) (t:Pst n m L1 A):Pst n m L A
theorem Pst.trans {n m:Nat} {L A B:Nat->SB} (h:Pst n m L A) (k:Pst n m A B):Pst n m L B:=by
 induction h with
 |refl=>exact k
 |head h _ ih=>exact .head h (ih k)
theorem Pst.one {n m:Nat} {L A:Nat->SB} (h:Psh n m L A):Pst n m L A:= .head h .refl
def Nf (n m:Nat) (L:Nat->SB):Prop:= ∀k i,¬jG n m L k i
def qbQ:List Nat->Nat
 |[]=>0
 |x::r=>r.countP (fun y=>decide (y<x))+qbQ r
theorem qdb {x y:Nat} (h:y<x) (b:List Nat): ∀a:List Nat,qbQ (a++y::x::b)+1=qbQ (a++x::y::b)
 |[]=>by
  simp only[List.nil_append,qbQ,List.countP_cons]
  rw[decide_eq_true h,decide_eq_false (show¬x<y by omega)]
  simp only[if_true,ZF,if_false]
  omega
 |z::a=>by
  simp only[List.cons_append,qbQ]
  have:=qdb h b a
  simp only[List.countP_append,List.countP_cons]
  omega
theorem qiW {i:Nat}: ∀r:List Nat,r.Nodup->i∉r->r.countP (fun y=>decide (tr5 i y<i+1))<=r.countP (fun y=>decide (y<i))+(if i+1∈r then 1 else 0)
 |[],_,_=>by simp
 |y::r,hn,hi=>by
  have hn2:=(List.nodup_cons.1 hn)
  have hi2:i∉r:=fun h=>hi (List.mem_cons_of_mem _ h)
  have hy:y≠i:=fun e=>hi (e▸List.mem_cons_self)
  have ih:=qiW r hn2.2 hi2
  rw[List.countP_cons,List.countP_cons]
  by_cases c:y=i+1
  ·subst c
   rw[qaG,decide_eq_true (by omega),decide_eq_false (by omega),if_pos rfl,if_neg (by decide),if_pos List.mem_cons_self]
   rw[if_neg hn2.1]at ih
   omega
  rw[vg hy c]
  have e1:decide (y<i+1)=decide (y<i):=by
   by_cases d:y<i
   ·rw[decide_eq_true d,decide_eq_true (by omega)]
   rw[decide_eq_false d,decide_eq_false (by omega)]
  rw[e1]
  have e2:(if i+1∈y::r then 1 else 0)=(if i+1∈r then 1 else 0:Nat):=by
   by_cases d:i+1∈r
   ·rw[if_pos d,if_pos (List.mem_cons_of_mem _ d)]
   rw[if_neg d,if_neg (fun h=>by rcases List.mem_cons.1 h with h|h;exact c h.symm;exact d h)]
  rw[e2]
  omega
theorem qd1 {i:Nat}: ∀p:List Nat,p.Nodup->qbQ (p.map (tr5 i))<=qbQ p+(if i∈p then 1 else 0)
 |[],_=>by simp[qbQ]
 |x::r,hn=>by
  have hn2:=(List.nodup_cons.1 hn)
  have ih:=qd1 (i:=i) r hn2.2
  simp only[List.map_cons,qbQ,List.countP_map]
  have e:(fun y=>decide (y<tr5 i x))∘tr5 i=fun y=>decide (tr5 i y<tr5 i x):=rfl
  rw[e]
  by_cases c:x=i
  ·subst c
   have hc:=qiW r hn2.2 hn2.1
   rw[qav,if_pos List.mem_cons_self]
   rw[if_neg hn2.1]at ih
   have:(if x+1∈r then 1 else 0:Nat)<=1:=by split<;>omega
   omega
  have h1:r.countP (fun y=>decide (tr5 i y<tr5 i x))<=r.countP (fun y=>decide (y<x)):=by
   refine List.countP_mono_left fun y hy h=>?_
   have hyx:y≠x:=fun e=>hn2.1 (e▸hy)
   simp only[decide_eq_true_eq]at h⊢
   rcases jX i x with⟨a,ea⟩|⟨a,ea⟩|⟨a,a',ea⟩<;>rcases jX i y with⟨b,eb⟩|⟨b,eb⟩|⟨b,b',eb⟩<;>rw[ea,eb]at h<;>omega
  have e2:(if i∈x::r then 1 else 0)=(if i∈r then 1 else 0:Nat):=by
   by_cases d:i∈r
   ·rw[if_pos d,if_pos (List.mem_cons_of_mem _ d)]
   rw[if_neg d,if_neg (fun h=>by rcases List.mem_cons.1 h with h|h;exact c h.symm;exact d h)]
  rw[e2]
  omega
def SB.row (n:Nat) (s:SB):List Nat:=(List.range n).map s.f
theorem Ur (n:Nat) (s:SB):(s.row n).length=n:=by simp[SB.row]
theorem SB.row_get {n k:Nat} (s:SB) (h:k<n):(s.row n)[k]? =some (s.f k):=by simp[SB.row,List.getElem?_range h]
theorem qcK {f:Nat->Nat} (hf: ∀a b,f a=f b->a=b): ∀l:List Nat,l.Nodup->(l.map f).Nodup
 |[],_=>List.nodup_nil
 |x::l,h=>by
  have h2:=List.nodup_cons.1 h
  rw[List.map_cons,List.nodup_cons]
  refine⟨fun hx=>?_,qcK hf l h2.2⟩
  obtain⟨y,hy,e⟩:=List.mem_map.1 hx
  exact h2.1 (hf _ _ e▸hy)
theorem SB.row_nodup (n:Nat) (s:SB):(s.row n).Nodup:=qcK (fun _ _ h=>s.finj h) _ List.nodup_range
def SB.inv (n:Nat) (s:SB):Nat:=qbQ (s.row n)
theorem qhR {l:List Nat} {i:Nat} (h:i+1<l.length):l=l.take i++l[i]::l[i+1]::l.drop (i+2):=by
 rw[<-YG h,<-YG (by omega),List.take_append_drop]
theorem SB.inv_fr {n i:Nat} {s:SB} (hi:i+1<n) (h:s.Begs i):(s.fr i).inv n+1=s.inv n:=by
 unfold SB.inv
 have e1:=qhR (l:=s.row n) (i:=i) (by rw[Ur];omega)
 have e2:=qhR (l:=(s.fr i).row n) (i:=i) (by rw[Ur];omega)
 have g: ∀(t:SB) (k:Nat) (hk:k<(t.row n).length),(t.row n)[k]=t.f k:=fun t k hk=>by simp[SB.row]
 have t1:((s.fr i).row n).take i=(s.row n).take i:=by
  apply List.ext_getElem?
  intro k
  by_cases hk:k<i
  ·rw[List.getElem?_take_of_lt hk,List.getElem?_take_of_lt hk,SB.row_get _ (by omega),SB.row_get _ (by omega)]
   show some (s.f (tr5 i k))=_
   rw[vg (by omega) (by omega)]
  rw[Yg (by simp;omega),Yg (by simp;omega)]
 have t2:((s.fr i).row n).drop (i+2)=(s.row n).drop (i+2):=by
  apply List.ext_getElem?
  intro k
  rw[YI,YI]
  by_cases hk:i+2+k<n
  ·rw[SB.row_get _ hk,SB.row_get _ hk]
   show some (s.f (tr5 i _))=_
   rw[vg (by omega) (by omega)]
  rw[Yg (by rw[Ur];omega),Yg (by rw[Ur];omega)]
 rw[e1,e2,t1,t2,g,g,g,g]
 show qbQ (_++s.f (tr5 i i)::s.f (tr5 i (i+1))::_)+1=_
 rw[qav,qaG]
 exact qdb h _ _
theorem SB.inv_bk (n i:Nat) (s:SB):(s.bk i).inv n<=s.inv n+1:=by
 unfold SB.inv
 have e:(s.bk i).row n=(s.row n).map (tr5 i):=by
  unfold SB.row
  rw[List.map_map]
  rfl
 rw[e]
 have:=qd1 (i:=i) (s.row n) (s.row_nodup n)
 have h2:(if i∈s.row n then 1 else 0:Nat)<=1:=by split<;>omega
 omega
def mu5 (n:Nat) (L:Nat->SB):Nat->Nat
 |0=>0
 |m+1=>mu5 n L m+m*(L m).inv n
theorem qhi {n k:Nat} {L L':Nat->SB} (h: ∀q,q<k->L' q=L q): ∀m,m<=k->mu5 n L' m=mu5 n L m
 |0,_=>rfl
 |m+1,hm=>by simp only[mu5];rw[qhi h m (by omega),h m (by omega)]
theorem qaP {n m k i:Nat} {L:Nat->SB} (h:jG n m L k i):mu5 n (psh L k i) m<mu5 n L m:=by
 have base:mu5 n (psh L k i) (k+2)+1<=mu5 n L (k+2):=by
  simp only[mu5]
  rw[qhi (L':=psh L k i) (L:=L) (k:=k) (fun q hq=>zU L (by omega) (by omega)) k (Nat.le_refl _),vI,jd]
  have a:=SB.inv_fr h.i_ h.b_
  have b:=Nat.mul_le_mul_left k (SB.inv_bk n i (L k))
  rw[<-a,Nat.mul_add,Nat.mul_one]
  rw[Nat.mul_add,Nat.mul_one]at b
  omega
 have up: ∀d,mu5 n (psh L k i) (k+2+d)+1<=mu5 n L (k+2+d):=by
  intro d
  induction d with
  |zero=>exact base
  |succ d ih=>
   show mu5 n (psh L k i) (k+2+d)+(k+2+d)*(psh L k i (k+2+d)).inv n+1<=mu5 n L (k+2+d)+(k+2+d)*(L (k+2+d)).inv n
   rw[zU L (q:=k+2+d) (by omega) (by omega)]
   omega
 have hk:=h.k_
 have:=up (m-(k+2))
 rw[show k+2+(m-(k+2))=m by omega]at this
 omega
theorem Psh.lt {n m:Nat} {L A:Nat->SB} (h:Psh n m L A):mu5 n A m<mu5 n L m:=by
 cases h with
 |mk h=>exact qaP h
theorem qiS {n m:Nat}: ∀(M:Nat) (L:Nat->SB),mu5 n L m<=M-> ∃A,Pst n m L A/\Nf n m A
 |M,L,hM=>by
  by_cases h: ∃k i,jG n m L k i
  ·obtain⟨k,i,h⟩:=h
   have:=qaP h
   cases M with
   |zero=>omega
   |succ M=>
    obtain⟨A,h1,h2⟩:=qiS (n:=n) (m:=m) M (psh L k i) (by omega)
    exact⟨A,.head (.mk h) h1,h2⟩
  exact⟨L,.refl,fun k i c=>h ⟨k,i,c⟩⟩
theorem qeC {s:SB} {i j:Nat} (h:i+1<j\/j+1<i):(s.fr i).Begs j↔s.Begs j:=by
 show s.f (tr5 i (j+1))<s.f (tr5 i j)↔_
 rw[vg (by omega) (by omega),vg (by omega) (by omega)]
 rfl
theorem qel {s:SB} {i j:Nat} (h:i+1<j\/j+1<i):(s.bk i).Ends j↔s.Ends j:=by
 show s.g (tr5 i (j+1))<s.g (tr5 i j)↔_
 rw[vg (by omega) (by omega),vg (by omega) (by omega)]
 rfl
theorem pst3 {n m k i j l:Nat} {L:Nat->SB} (h1:jG n m L k i) (h2:jG n m (psh L k i) k j) (h3:jG n m (psh (psh L k i) k j) k l):Pst n m (psh L k i) (psh (psh (psh L k i) k j) k l):=
 .head (.mk h2) (.one (.mk h3))
theorem qig {L:Nat->SB} {k i:Nat}:psh (psh (psh L k i) k (i+1)) k i=psh (psh (psh L k (i+1)) k i) k (i+1):=by
 funext q
 by_cases a:q=k
 ·subst a
  simp only[vI]
  exact SB.ext fun x=>qdq i _
 by_cases b:q=k+1
 ·subst b
  simp only[jd]
  exact SB.ext fun x=>congrArg (L (k+1)).f (qdq i x)
 simp only[zU _ a b]
theorem qdg {n m k i:Nat} {L:Nat->SB} (h:jG n m L k i) (h':jG n m L k (i+1)): ∃D,Pst n m (psh L k i) D/\Pst n m (psh L k (i+1)) D:=by
 have b1:(L (k+1)).f (i+1)<(L (k+1)).f i:=h.b_
 have b2:(L (k+1)).f (i+2)<(L (k+1)).f (i+1):=h'.b_
 have e1:=SB.nEnds h.e_
 have e2:(L k).g (i+1)<(L k).g (i+2):=SB.nEnds h'.e_
 have ki:=h.k_
 have ii:=h.i_
 have ii':=h'.i_
 have t1:tr5 i (i+2)=i+2:=vg (by omega) (by omega)
 have t2:tr5 (i+1) i=i:=vg (by omega) (by omega)
 have t3:tr5 (i+1) (i+2)=i+1:=qaG (i+1)
 have t4:tr5 (i+1) (i+1)=i+2:=qav (i+1)
 have p1:jG n m (psh L k i) k (i+1):=by
  refine⟨ki,ii',?_,?_⟩
  ·rw[jd]
   show(L (k+1)).f (tr5 i (i+2))<(L (k+1)).f (tr5 i (i+1))
   rw[t1,qaG];omega
  rw[vI]
  show¬(L k).g (tr5 i (i+2))<(L k).g (tr5 i (i+1))
  rw[t1,qaG];omega
 have p2:jG n m (psh (psh L k i) k (i+1)) k i:=by
  refine⟨ki,ii,?_,?_⟩
  ·rw[jd,jd]
   show(L (k+1)).f (tr5 i (tr5 (i+1) (i+1)))<(L (k+1)).f (tr5 i (tr5 (i+1) i))
   rw[qav,t1,t2,qav];omega
  rw[vI,vI]
  show¬(L k).g (tr5 i (tr5 (i+1) (i+1)))<(L k).g (tr5 i (tr5 (i+1) i))
  rw[qav,t1,t2,qav];omega
 have q1:jG n m (psh L k (i+1)) k i:=by
  refine⟨ki,ii,?_,?_⟩
  ·rw[jd]
   show(L (k+1)).f (tr5 (i+1) (i+1))<(L (k+1)).f (tr5 (i+1) i)
   rw[t4,t2];omega
  rw[vI]
  show¬(L k).g (tr5 (i+1) (i+1))<(L k).g (tr5 (i+1) i)
  rw[t4,t2];omega
 have q2:jG n m (psh (psh L k (i+1)) k i) k (i+1):=by
  refine⟨ki,ii',?_,?_⟩
  ·rw[jd,jd]
   show(L (k+1)).f (tr5 (i+1) (tr5 i (i+2)))<(L (k+1)).f (tr5 (i+1) (tr5 i (i+1)))
   rw[t1,t3,qaG,t2];omega
  rw[vI,vI]
  show¬(L k).g (tr5 (i+1) (tr5 i (i+2)))<(L k).g (tr5 (i+1) (tr5 i (i+1)))
  rw[t1,t3,qaG,t2];omega
 exact⟨_,pst3 h p1 p2,qig▸pst3 h' q1 q2⟩
theorem qht {n m k i j:Nat} {L:Nat->SB} (hd:i+1<j\/j+1<i) (h:jG n m L k i) (h':jG n m L k j): ∃D,Pst n m (psh L k i) D/\Pst n m (psh L k j) D:=by
 have p1:jG n m (psh L k i) k j:=⟨h.k_,h'.i_,by rw[jd,qeC hd];exact h'.b_,by rw[vI,qel hd];exact h'.e_⟩
 have p2:jG n m (psh L k j) k i:=⟨h.k_,h.i_,by rw[jd,qeC (i:=j) (j:=i) (by omega)];exact h.b_,by rw[vI,qel (i:=j) (j:=i) (by omega)];exact h.e_⟩
 have e:psh (psh L k i) k j=psh (psh L k j) k i:=by
  funext q
  by_cases a:q=k
  ·subst a
   simp only[vI]
   exact SB.ext fun x=>qej (i:=j) (j:=i) (by omega) _
  by_cases b:q=k+1
  ·subst b
   simp only[jd]
   exact SB.ext fun x=>congrArg (L (k+1)).f (qej (i:=i) (j:=j) (by omega) x)
  simp only[zU _ a b]
 exact⟨_,.one (.mk p1),e▸ .one (.mk p2)⟩
theorem qc9 {n m k i j:Nat} {L:Nat->SB} (h:jG n m L k i) (h':jG n m L (k+1) j): ∃D,Pst n m (psh L k i) D/\Pst n m (psh L (k+1) j) D:=by
 have b1:(L (k+1)).f (i+1)<(L (k+1)).f i:=h.b_
 have e2:(L (k+1)).g j<(L (k+1)).g (j+1):=SB.nEnds h'.e_
 have gf:=(L (k+1)).gf
 have fg:=(L (k+1)).fg
 have p1:jG n m (psh L k i) (k+1) j:=by
  refine⟨h'.k_,h'.i_,?_,?_⟩
  ·rw[zU L (q:=k+1+1) (by omega) (by omega)];exact h'.b_
  rw[jd]
  show¬tr5 i ((L (k+1)).g (j+1))<tr5 i ((L (k+1)).g j)
  rcases jX i ((L (k+1)).g (j+1))with⟨a,ea⟩|⟨a,ea⟩|⟨a,a',ea⟩<;>rcases jX i ((L (k+1)).g j)with⟨b,eb⟩|⟨b,eb⟩|⟨b,b',eb⟩<;>rw[ea,eb]<;>try omega
  have x1:=fg (j+1)
  have x2:=fg j
  rw[a]at x1
  rw[b]at x2
  omega
 have p2:jG n m (psh L (k+1) j) k i:=by
  refine⟨h.k_,h.i_,?_,?_⟩
  ·rw[vI]
   show tr5 j ((L (k+1)).f (i+1))<tr5 j ((L (k+1)).f i)
   rcases jX j ((L (k+1)).f (i+1))with⟨a,ea⟩|⟨a,ea⟩|⟨a,a',ea⟩<;>rcases jX j ((L (k+1)).f i)with⟨b,eb⟩|⟨b,eb⟩|⟨b,b',eb⟩<;>rw[ea,eb]<;>try omega
   have x1:=gf (i+1)
   have x2:=gf i
   rw[a]at x1
   rw[b]at x2
   omega
  rw[zU L (q:=k) (by omega) (by omega)];exact h.e_
 have e:psh (psh L k i) (k+1) j=psh (psh L (k+1) j) k i:=by
  funext q
  by_cases a:q=k
  ·subst a
   rw[zU _ (q:=q) (by omega) (by omega),vI,vI,zU _ (q:=q) (by omega) (by omega)]
  by_cases b:q=k+1
  ·subst b
   rw[vI,jd,jd,vI]
   rfl
  by_cases c:q=k+1+1
  ·subst c
   rw[jd,zU _ (q:=k+1+1) (by omega) (by omega),zU _ (q:=k+1+1) (by omega) (by omega),jd]
  rw[zU _ b c,zU _ a b,zU _ a b,zU _ b c]
 exact⟨_,.one (.mk p1),e▸ .one (.mk p2)⟩
theorem qcM {n m k k' i j:Nat} {L:Nat->SB} (hk:k+1<k') (h:jG n m L k i) (h':jG n m L k' j): ∃D,Pst n m (psh L k i) D/\Pst n m (psh L k' j) D:=by
 have p1:jG n m (psh L k i) k' j:=⟨h'.k_,h'.i_,by rw[zU L (q:=k'+1) (by omega) (by omega)];exact h'.b_,by rw[zU L (q:=k') (by omega) (by omega)];exact h'.e_⟩
 have p2:jG n m (psh L k' j) k i:=⟨h.k_,h.i_,by rw[zU L (q:=k+1) (by omega) (by omega)];exact h.b_,by rw[zU L (q:=k) (by omega) (by omega)];exact h.e_⟩
 have e:psh (psh L k i) k' j=psh (psh L k' j) k i:=by
  funext q
  by_cases a:q=k
  ·subst a
   rw[zU _ (q:=q) (by omega) (by omega),vI,vI,zU _ (q:=q) (by omega) (by omega)]
  by_cases b:q=k+1
  ·subst b
   rw[zU _ (q:=k+1) (by omega) (by omega),jd,jd,zU _ (q:=k+1) (by omega) (by omega)]
  by_cases c:q=k'
  ·subst c
   rw[vI,zU _ a b,zU _ a b,vI]
  by_cases d:q=k'+1
  ·subst d
   rw[jd,zU _ a b,zU _ a b,jd]
  rw[zU _ c d,zU _ a b,zU _ a b,zU _ c d]
 exact⟨_,.one (.mk p1),e▸ .one (.mk p2)⟩
theorem meet5 {n m k k' i j:Nat} {L:Nat->SB} (h:jG n m L k i) (h':jG n m L k' j): ∃D,Pst n m (psh L k i) D/\Pst n m (psh L k' j) D:=by
 have sw: ∀{A B:Nat->SB},(∃D,Pst n m A D/\Pst n m B D)-> ∃D,Pst n m B D/\Pst n m A D:=fun⟨D,a,b⟩=>⟨D,b,a⟩
 by_cases e:k=k'
 ·subst e
  by_cases c:i=j
  ·subst c;exact⟨_,.refl,.refl⟩
  by_cases c1:j=i+1
  ·subst c1;exact qdg h h'
  by_cases c2:i=j+1
  ·subst c2;exact sw (qdg h' h)
  exact qht (by omega) h h'
 by_cases e1:k'=k+1
 ·subst e1;exact qc9 h h'
 by_cases e2:k=k'+1
 ·subst e2;exact sw (qc9 h' h)
 by_cases e3:k<k'
 ·exact qcM (by omega) h h'
 exact sw (qcM (by omega) h' h)
theorem qdZ {n m:Nat}: ∀(M:Nat) {L A B:Nat->SB},mu5 n L m<=M->Pst n m L A->Pst n m L B->Nf n m A->Nf n m B->A=B
 |M,L,A,B,hM,hA,hB,nA,nB=>by
  cases hA with
  |refl=>
   cases hB with
   |refl=>rfl
   |head h _=>cases h with|mk h=>exact absurd h (nA _ _)
  |head h tA=>
   cases hB with
   |refl=>cases h with|mk h=>exact absurd h (nB _ _)
   |head h' tB=>
    cases h with
    |mk h=>
     cases h' with
     |mk h'=>
      obtain⟨D,d1,d2⟩:=meet5 h h'
      obtain⟨E,e1,e2⟩:=qiS _ D (Nat.le_refl _)
      have l1:=qaP h
      have l2:=qaP h'
      cases M with
      |zero=>omega
      |succ M=>rw[qdZ M (by omega) tA (d1.trans e1) nA e2,qdZ M (by omega) tB (d2.trans e1) nB e2]
end Go.Av
end
section
namespace Go.Av
structure IsP (p:List Int):Prop where
 few:p.length<=256
 at_: ∀k,k<p.length-> ∃v:Nat,v<p.length/\p[k]? =some (v:Int)
 inj: ∀(k k':Nat) (v:Int),p[k]? =some v->p[k']? =some v->k=k'
structure SB.Ok (n:Nat) (s:SB):Prop where
 f_: ∀k,k<n->s.f k<n
 g_: ∀k,k<n->s.g k<n
def SB.li (n:Nat) (s:SB):List Int:=(List.range n).map fun k=>(s.f k:Int)
theorem Ue (n:Nat) (s:SB):(s.li n).length=n:=by simp[SB.li]
theorem Un {n k:Nat} (s:SB) (h:k<n):(s.li n)[k]? =some (s.f k:Int):=by simp[SB.li,List.getElem?_range h]
theorem Uj {n:Nat} {s:SB} {p:List Int} (hl:p.length=n) (h: ∀k,k<n->p[k]? =some (s.f k:Int)):p=s.li n:=by
 apply List.ext_getElem?
 intro k
 by_cases hk:k<n
 ·rw[h k hk,Un s hk]
 rw[Yg (by omega),Yg (by rw[Ue];omega)]
theorem SB.li_inj {n:Nat} {s t:SB} (h:s.li n=t.li n) {k:Nat} (hk:k<n):s.f k=t.f k:=by
 have h1:=Un s hk
 have h2:=Un t hk
 rw[h,h2]at h1
 have:=Ye h1
 omega
theorem qdG {n i k:Nat} (hi:i+1<n) (h:k<n):tr5 i k<n:=by
 rcases jX i k with⟨a,e⟩|⟨a,e⟩|⟨a,a',e⟩<;>omega
theorem SB.Ok.fr {n i:Nat} {s:SB} (h:s.Ok n) (hi:i+1<n):(s.fr i).Ok n:=⟨fun k hk=>h.f_ _ (qdG hi hk),fun k hk=>qdG hi (h.g_ k hk)⟩
theorem SB.Ok.bk {n i:Nat} {s:SB} (h:s.Ok n) (hi:i+1<n):(s.bk i).Ok n:=⟨fun k hk=>qdG hi (h.f_ k hk),fun k hk=>h.g_ _ (qdG hi hk)⟩
def SB.rev (s:SB):SB:=⟨s.g,s.f,s.fg,s.gf⟩
theorem SB.Ok.rev {n:Nat} {s:SB} (h:s.Ok n):s.rev.Ok n:=⟨h.g_,h.f_⟩
def Up:SB:=⟨fun k=>k,fun k=>k,fun _=>rfl,fun _=>rfl⟩
theorem SB.id_ok (n:Nat):Up.Ok n:=⟨fun _ h=>h,fun _ h=>h⟩
theorem SB.id_li (n:Nat):Up.li n=zD n:=rfl
def rv5 (n k:Nat):Nat:=if k<n then n-1-k else k
theorem qaU (n k:Nat):rv5 n (rv5 n k)=k:=by
 unfold rv5
 by_cases h:k<n
 ·rw[if_pos h,if_pos (by omega)];omega
 rw[if_neg h,if_neg h]
theorem qbD {n k:Nat} (h:k<n):rv5 n k<n:=by unfold rv5;rw[if_pos h];omega
def Ud (n:Nat):SB:=⟨rv5 n,rv5 n,qaU n,qaU n⟩
theorem Um (n:Nat):(Ud n).Ok n:=⟨fun _ h=>qbD h,fun _ h=>qbD h⟩
def SB.flip (n:Nat) (s:SB):SB:=⟨fun k=>rv5 n (s.f (rv5 n k)),fun k=>rv5 n (s.g (rv5 n k)),fun k=>by rw[qaU,s.gf,qaU],fun k=>by rw[qaU,s.fg,qaU]⟩
theorem SB.Ok.flip {n:Nat} {s:SB} (h:s.Ok n):(s.flip n).Ok n:=⟨fun k hk=>qbD (h.f_ _ (qbD hk)),fun k hk=>qbD (h.g_ _ (qbD hk))⟩
end Go.Av
end
section
namespace Go.Av
theorem Uf {n k:Nat} {s:SB} (h:k<n):idx (s.li n) (k:Int)=some (s.f k:Int):=by rw[qo,Un s h]
section
variable {n:Nat} (hn:n<=300)
include hn
theorem qfz {s:SB} (hs:s.Ok n): ∀(K i:Nat) (l:List Int),l.length=n->i<=n->n<K+i->(∀k,k<i->l[s.f k]? =some (k:Int))->qK (s.li n) K l (i:Int)=some (s.rev.li n)
 |0,i,l,hl,h,hK,hk=>by omega
 |K+1,i,l,hl,h,hK,hk=>by
  unfold qK
  rw[Ue]
  by_cases hi:i<n
  ·have hf:=hs.f_ i hi
   rw[if_pos (by omega),Uf hi,ZB,qo,Ya (by omega),ZB,jI (by omega),ZB,qY (by omega)]
   refine qfz hs K (i+1) _ (by simpa using hl) (by omega) (by omega) (fun k hki=>?_)
   by_cases e:k=i
   ·subst e;rw[List.getElem?_set_self (by omega)]
   rw[Yw (fun c=>e (s.finj c.symm))];exact hk k (by omega)
  rw[if_neg (by omega)]
  congr 1
  refine Uj hl fun v hv=>?_
  have:=hk (s.g v) (by have:=hs.g_ v hv;omega)
  rw[s.fg]at this;exact this
theorem qcD {N:Nat} (hN:2000<N) {s:SB} (hs:s.Ok n):kz N (s.li n)=some (s.rev.li n):=by
 unfold kz
 have:=qfz hn hs N 0 (List.replicate n 0) (by simp) (by omega) (by omega) (fun k hk=>by omega)
 rw[show((0:Nat):Int)=0 from rfl]at this
 rw[Ue,qdF (by omega),ZB,this,ZB]
theorem qfN {s:SB} (hs:s.Ok n): ∀(K i:Nat) (l:List Int),l.length=n->i<=n->n<K+i->(∀k,k<i->l[s.f k]? =some (k:Int))->zt (s.li n) K l (i:Int)=some (s.rev.li n)
 |0,i,l,hl,h,hK,hk=>by omega
 |K+1,i,l,hl,h,hK,hk=>by
  unfold zt
  rw[Ue]
  by_cases hi:i<n
  ·have hf:=hs.f_ i hi
   rw[if_pos (by omega),Uf hi,ZB,qo,Ya (by omega),ZB,jI (by omega),ZB,qY (by omega)]
   refine qfN hs K (i+1) _ (by simpa using hl) (by omega) (by omega) (fun k hki=>?_)
   by_cases e:k=i
   ·subst e;rw[List.getElem?_set_self (by omega)]
   rw[Yw (fun c=>e (s.finj c.symm))];exact hk k (by omega)
  rw[if_neg (by omega)]
  congr 1
  refine Uj hl fun v hv=>?_
  have:=hk (s.g v) (by have:=hs.g_ v hv;omega)
  rw[s.fg]at this;exact this
theorem qgQ {N:Nat} (hN:2000<N) {s:SB} (hs:s.Ok n):vN N (s.li n)=some (s.rev.li n):=by
 unfold vN
 have:=qfN hn hs N 0 (List.replicate n 0) (by simp) (by omega) (by omega) (fun k hk=>by omega)
 rw[show((0:Nat):Int)=0 from rfl]at this
 rw[Ue,qdF (by omega),ZB,this,ZB]
theorem qbi (s:SB) {i:Nat} (hi:i+1<n):qU (s.li n) (i:Int)=some ((s.fr i).li n):=by
 unfold qU
 have hl:=Ue n s
 have hc:qcg (s.li n)=some ():=by
  unfold qcg
  rw[if_pos (by omega)]
 rw[hc,ZB,qY (by omega),Uf hi,ZB,Uf (by omega),ZB,jI (by omega),ZB,qo,Yw (by omega),Un _ hi,ZB,jI (by simp;omega),ZB]
 congr 1
 refine Uj (by simp[hl]) fun k hk=>?_
 show _=some ((s.f (tr5 i k):Nat):Int)
 rcases jX i k with⟨rfl,e⟩|⟨rfl,e⟩|⟨a,b,e⟩<;>rw[e]
 ·rw[Yw (by omega),List.getElem?_set_self (by omega)]
 ·rw[List.getElem?_set_self (by simp;omega)]
 rw[Yw (by omega),Yw (by omega),Un s hk]
theorem qdp {N:Nat} (hN:2000<N) {s:SB} (hs:s.Ok n) {i:Nat} (hi:i+1<n):ze N (s.li n) (i:Int)=some ((s.bk i).li n):=by
 unfold ze
 rw[qcD hn hN hs,ZB,qbi hn s.rev hi,ZB,qcD hn hN (hs.rev.fr hi),ZB]
 rfl
theorem qdi (s:SB) {i:Nat} (hi:i+1<n):zb (s.li n) (i:Int)=some (decide (s.f (i+1)<s.f i)):=by
 unfold zb
 rw[Uf (by omega),ZB,qY (by omega),Uf hi,ZB]
 congr 1
 exact decide_eq_decide.2 (by omega)
theorem qcj (s:SB) {i:Nat} (hi:i+1<n):vF (s.li n) ((i+1:Nat):Int)=some (decide (s.f (i+1)<s.f i)):=by
 unfold vF
 rw[show w64 (((i+1:Nat):Int)-1)=(i:Int)by rw[zV (by omega) (by omega)];omega,Uf (by omega),ZB,Uf hi,ZB]
 congr 1
 exact decide_eq_decide.2 (by omega)
theorem qis {N:Nat} (hN:2000<N) {s:SB} (hs:s.Ok n) {i:Nat} (hi:i+1<n):jk N (s.li n) (i:Int)=some (decide (s.g (i+1)<s.g i)):=by
 unfold jk
 rw[qcD hn hN hs,ZB,qdi hn s.rev hi,ZB]
 rfl
theorem qg9 {N:Nat} (hN:2000<N) {s:SB} (hs:s.Ok n) {i:Nat} (hi:i+1<n):y9 N (s.li n) ((i+1:Nat):Int)=some (decide (s.g (i+1)<s.g i)):=by
 unfold y9
 rw[qgQ hn hN hs,ZB,qcj hn s.rev hi,ZB]
 rfl
theorem qbK {N:Nat} (hN:2000<N) {s t:SB} (hs:s.Ok n): ∀(K i:Nat),i+1<=n->n<K+i->
 (∃j,i<=j/\j+1<n/\t.Begs j/\ ¬s.Ends j/\kI N (s.li n) (t.li n) K (i:Int) ((n:Int)-1)=some (.inr ((j:Int),true)))\/
 ((∀j,i<=j->j+1<n->t.Begs j->s.Ends j)/\kI N (s.li n) (t.li n) K (i:Int) ((n:Int)-1)=some (.inl ()))
 |0,i,h,hK=>by omega
 |K+1,i,h,hK=>by
  unfold kI
  by_cases hi:i+1<n
  ·rw[if_pos (by omega),qdi hn t hi,ZB]
   by_cases a:t.f (i+1)<t.f i
   ·rw[decide_eq_true a,if_pos rfl,qis hn hN hs hi,ZB,ZB]
    by_cases b:s.g (i+1)<s.g i
    ·rw[decide_eq_true b,if_neg (by decide),qY (by omega)]
     rcases qbK hN hs K (i+1) (by omega) (by omega)with⟨j,h1,h2⟩|⟨h1,h2⟩
     ·exact .inl ⟨j,by omega,h2⟩
     refine .inr ⟨fun j hj hj2 hb=>?_,h2⟩
     by_cases e:j=i
     ·subst e;exact b
     exact h1 j (by omega) hj2 hb
    rw[decide_eq_false b,if_pos (by decide)]
    exact .inl ⟨i,Nat.le_refl _,hi,a,b,rfl⟩
   rw[decide_eq_false a,if_neg (by decide),ZB,if_neg (by decide),qY (by omega)]
   rcases qbK hN hs K (i+1) (by omega) (by omega)with⟨j,h1,h2⟩|⟨h1,h2⟩
   ·exact .inl ⟨j,by omega,h2⟩
   refine .inr ⟨fun j hj hj2 hb=>?_,h2⟩
   by_cases e:j=i
   ·subst e;exact absurd hb a
   exact h1 j (by omega) hj2 hb
  rw[if_neg (by omega)]
  exact .inr ⟨fun j hj hj2=>by omega,rfl⟩
theorem qff {N:Nat} (hN:2000<N) (n1:1<=n) {s t:SB} (hs:s.Ok n):
 (∃j:Nat,j+1<n/\t.Begs j/\ ¬s.Ends j/\jV N (s.li n) (t.li n)=some ((j:Int),true))\/((∀j,j+1<n->t.Begs j->s.Ends j)/\jV N (s.li n) (t.li n)=some (0,false)):=by
 unfold jV
 rw[Ue,show w64 ((n:Int)-1)=(n:Int)-1 from zV (by omega) (by omega)]
 have:=qbK hn hN (t:=t) hs N 0 (by omega) (by omega)
 rw[show((0:Nat):Int)=0 from rfl]at this
 rcases this with⟨j,_,h2,h3,h4,h5⟩|⟨h1,h2⟩
 ·exact .inl ⟨j,h2,h3,h4,by rw[h5];rfl⟩
 exact .inr ⟨fun j=>h1 j (Nat.zero_le _),by rw[h2];rfl⟩
end
theorem qg7 {l0:List Int} {n:Nat} (hn:l0.length=n) (hb:n<=100000): ∀(K i:Nat) (l:List Int),l.length=n->2*i<=n+1->n+1<K+2*i->(∀k:Nat,k<n->l[k]? =if k<i\/n<=k+i then l0[n-1-k]? else l0[k]?)->qy K l (i:Int) ((n:Int)-1-i)=some l0.reverse
 |0,i,l,hl,h2,hK,hk=>by omega
 |K+1,i,l,hl,h2,hK,hk=>by
  unfold qy
  by_cases hi:(i:Int)<(n:Int)-1-i
  ·have e1:(n:Int)-1-i=((n-1-i:Nat):Int):=by omega
   have e2:w64 (((n-1-i:Nat):Int)-1)=(n:Int)-1-((i+1:Nat):Int):=by rw[zV (by omega) (by omega)];omega
   have q1:=hk (n-1-i) (by omega)
   have q2:=hk i (by omega)
   rw[if_neg (by omega)]at q1 q2
   have g1:l0[n-1-i]? =some l0[n-1-i]:=Ya (by omega)
   have g2:l0[i]? =some l0[i]:=Ya (by omega)
   rw[g1]at q1
   rw[g2]at q2
   rw[if_pos hi,e1,qo,q1,ZB,qo,q2,ZB,jI (by omega),ZB,qo,Yw (by omega),q1,ZB,jI (by simp;omega),ZB,qY (by omega),e2]
   refine qg7 hn hb K (i+1) _ (by simp;omega) (by omega) (by omega) (fun k hkn=>?_)
   by_cases c1:k=n-1-i
   ·subst c1
    rw[List.getElem?_set_self (by simp;omega),if_pos (by omega),show n-1-(n-1-i)=i by omega,g2]
   rw[Yw (fun e=>c1 e.symm)]
   by_cases c2:k=i
   ·subst c2
    rw[List.getElem?_set_self (by omega),if_pos (by omega),g1]
   rw[Yw (fun e=>c2 e.symm),hk k hkn]
   by_cases c3:k<i\/n<=k+i
   ·rw[if_pos c3,if_pos (by omega)]
   rw[if_neg c3,if_neg (by omega)]
  rw[if_neg hi]
  congr 1
  apply List.ext_getElem?
  intro k
  by_cases hkn:k<n
  ·rw[hk k hkn,List.getElem?_reverse (by omega),hn]
   by_cases c3:k<i\/n<=k+i
   ·rw[if_pos c3]
   rw[if_neg c3,show n-1-k=k by omega]
  rw[Yg (by omega),Yg (by simp;omega)]
theorem qea {N:Nat} {l:List Int} (hN:l.length+1<N) (hb:l.length<=100000):zk N l=some l.reverse:=by
 unfold zk
 have:=qg7 (l0:=l) rfl hb N 0 l rfl (by omega) (by omega) (fun k hk=>by rw[if_neg (by omega)])
 rw[zV (by omega) (by omega),show((l.length:Int)-1)=(l.length:Int)-1-((0:Nat):Int)by omega,show(0:Int)=((0:Nat):Int)from rfl]
 rw[this]
 rfl
theorem qiq (n:Nat):(zD n).reverse=(Ud n).li n:=by
 refine Uj (by simp[zq]) fun k hk=>?_
 rw[List.getElem?_reverse (by rw[zq];exact hk),zq,yu (by omega)]
 show _=some ((rv5 n k:Nat):Int)
 unfold rv5
 rw[if_pos hk]
theorem qfT {N n:Nat} (hN:2000<N) (hn:n<=300):ym N (n:Int)=some ((Ud n).li n):=by
 unfold ym
 rw[qef hN (by omega),ZB,qea (by rw[zq];omega) (by rw[zq];omega),ZB,if_pos (by simp),ZB,qiq]
theorem qg4 {n:Nat} (hn:n<=300): ∀(K i:Nat) (l:List Int),l.length=i->i<=n->n<K+i->(∀k,k<i->l[k]? =some ((rv5 n k:Nat):Int))->kP (n:Int) K l (i:Int)=some ((Ud n).li n)
 |0,i,l,hl,h,hK,hk=>by omega
 |K+1,i,l,hl,h,hK,hk=>by
  unfold kP
  by_cases hi:i<n
  ·have e:w64 (w64 ((n:Int)-1)-(i:Int))=((rv5 n i:Nat):Int):=by
    unfold rv5
    rw[if_pos hi,zV (n:=(n:Int)-1) (by omega) (by omega),zV (by omega) (by omega)]
    omega
   rw[if_pos (by omega),e,qbd (by simp only[Yr,List.length_nil];omega) (by simp only[Yr,List.length_nil];omega),ZB,qY (by omega)]
   refine qg4 hn K (i+1) _ (by simp[hl]) (by omega) (by omega) (fun k hki=>?_)
   by_cases c:k<i
   ·rw[Yf (by omega)];exact hk k c
   rw[Yo (by omega),show k-l.length=0 by omega,show k=i by omega]
   rfl
  rw[if_neg (by omega)]
  congr 1
  exact Uj (by omega) fun k hkn=>hk k (by omega)
theorem qfH {N n:Nat} (hN:2000<N) (hn:n<=300):vE N (n:Int)=some ((Ud n).li n):=by
 unfold vE
 have:=qg4 hn N 0 [] rfl (by omega) (by omega) (fun k hk=>by omega)
 rw[show((0:Nat):Int)=0 from rfl]at this
 rw[this,ZB]
end Go.Av
end
section
namespace Go.Av
def SB.comp (s t:SB):SB:=⟨fun k=>t.f (s.f k),fun k=>s.g (t.g k),fun k=>by rw[t.gf,s.gf],fun k=>by rw[s.fg,t.fg]⟩
theorem SB.Ok.comp {n:Nat} {s t:SB} (hs:s.Ok n) (ht:t.Ok n):(s.comp t).Ok n:=⟨fun k hk=>ht.f_ _ (hs.f_ k hk),fun k hk=>hs.g_ _ (ht.g_ k hk)⟩
theorem qfK (s:SB) (i:Nat):s.comp (Up.fr i)=s.bk i:=SB.ext fun _=>rfl
theorem qit (s:SB) (i:Nat):(Up.fr i).comp s=s.fr i:=SB.ext fun _=>rfl
theorem qgb (n:Nat) (s:SB):((Ud n).comp s).comp (Ud n)=s.flip n:=SB.ext fun _=>rfl
section
variable {n:Nat} (hn:n<=300)
include hn
theorem qgP {s t:SB} (hs:s.Ok n) (ht:t.Ok n): ∀(K i:Nat) (l:List Int),l.length=i->i<=n->n<K+i->(∀k,k<i->l[k]? =some ((t.f (s.f k):Nat):Int))->zn (s.li n) (t.li n) K l (i:Int)=some ((s.comp t).li n)
 |0,i,l,hl,h,hK,hk=>by omega
 |K+1,i,l,hl,h,hK,hk=>by
  unfold zn
  rw[Ue]
  by_cases hi:i<n
  ·have hf:=hs.f_ i hi
   rw[if_pos (by omega),Uf hi,ZB,Uf hf,ZB,qbd (by simp only[Yr,List.length_nil];omega) (by simp only[Yr,List.length_nil];omega),ZB,qY (by omega)]
   refine qgP hs ht K (i+1) _ (by simp[hl]) (by omega) (by omega) (fun k hki=>?_)
   by_cases c:k<i
   ·rw[Yf (by omega)];exact hk k c
   rw[Yo (by omega),show k-l.length=0 by omega,show k=i by omega]
   rfl
  rw[if_neg (by omega)]
  congr 1
  exact Uj (by omega) fun k hkn=>hk k (by omega)
theorem qby {N:Nat} (hN:2000<N) {s t:SB} (hs:s.Ok n) (ht:t.Ok n):zz N (s.li n) (t.li n)=some ((s.comp t).li n):=by
 unfold zz
 have:=qgP hn hs ht N 0 [] rfl (by omega) (by omega) (fun k hk=>by omega)
 rw[show((0:Nat):Int)=0 from rfl]at this
 rw[this,ZB]
theorem qfw {N:Nat} (hN:2000<N) {i:Nat} (hi:i+1<n):jv N (n:Int) ((i+1:Nat):Int)=some ((Up.fr i).li n):=by
 unfold jv
 have e:w64 (((i+1:Nat):Int)-1)=(i:Int):=by rw[zV (by omega) (by omega)];omega
 rw[qbN hN (by omega),ZB,qo,yu hi,ZB,e,qo,yu (by omega),ZB,jI (by rw[zq];omega),ZB,qo,Yw (by omega),yu hi,ZB,jI (by simp[zq];omega),ZB]
 congr 1
 refine Uj (by simp[zq]) fun k hk=>?_
 show _=some ((tr5 i k:Nat):Int)
 rcases jX i k with⟨rfl,e⟩|⟨rfl,e⟩|⟨a,b,e⟩<;>rw[e]
 ·rw[Yw (by omega),List.getElem?_set_self (by rw[zq];omega)]
 ·rw[List.getElem?_set_self (by simp[zq];omega)]
 rw[Yw (by omega),Yw (by omega),yu hk]
theorem qfW {s:SB} (hs:s.Ok n): ∀(K i:Nat) (l:List Int),l.length=n->i<=n->n<K+i->(∀k,k<i->l[n-1-k]? =some ((n-1-s.f k:Nat):Int))->qA (s.li n) K l (i:Int)=some ((s.flip n).li n)
 |0,i,l,hl,h,hK,hk=>by omega
 |K+1,i,l,hl,h,hK,hk=>by
  unfold qA
  rw[Ue]
  by_cases hi:i<n
  ·have hf:=hs.f_ i hi
   have e0:w64 ((n:Int)-1)=(n:Int)-1:=zV (by omega) (by omega)
   have e1:w64 ((n:Int)-1-(i:Int))=((n-1-i:Nat):Int):=by rw[zV (by omega) (by omega)];omega
   have e2:w64 ((n:Int)-1-(s.f i:Int))=((n-1-s.f i:Nat):Int):=by rw[zV (by omega) (by omega)];omega
   rw[if_pos (by omega),Uf hi,ZB,e0,e1,e2,qo,Ya (by omega),ZB,jI (by omega),ZB,qY (by omega)]
   refine qfW hs K (i+1) _ (by simpa using hl) (by omega) (by omega) (fun k hki=>?_)
   by_cases e:k=i
   ·subst e;rw[List.getElem?_set_self (by omega)]
   rw[Yw (by omega)];exact hk k (by omega)
  rw[if_neg (by omega)]
  congr 1
  refine Uj hl fun v hv=>?_
  have:=hk (n-1-v) (by omega)
  rw[show n-1-(n-1-v)=v by omega]at this
  rw[this]
  show _=some ((rv5 n (s.f (rv5 n v)):Nat):Int)
  have h2:rv5 n v=n-1-v:=by unfold rv5;rw[if_pos hv]
  have h3:=hs.f_ (n-1-v) (by omega)
  rw[h2]
  unfold rv5
  rw[if_pos h3]
theorem qeI {N:Nat} (hN:2000<N) {s:SB} (hs:s.Ok n):zH N (s.li n)=some ((s.flip n).li n):=by
 unfold zH
 have:=qfW hn hs N 0 (List.replicate n 0) (by simp) (by omega) (by omega) (fun k hk=>by omega)
 rw[show((0:Nat):Int)=0 from rfl]at this
 rw[Ue,qdF (by omega),ZB,this,ZB]
end
def jr (n:Nat) (l:List SB):List (List Int):=l.map (SB.li n)
theorem jU (n:Nat) (l:List SB):(jr n l).length=l.length:=by simp[jr]
theorem qaR {n k:Nat} {l:List SB} (h:k<l.length):(jr n l)[k]? =some (l[k].li n):=by
 unfold jr
 rw[YA,Ya h]
 rfl
section
variable {n:Nat} (hn:n<=12) {N:Nat} (hN:2000<N)
include hn hN
theorem qd4 {l:List SB} (hl:l.length<=300) (ho: ∀s∈l,s.Ok n): ∀(K i:Nat),i<=l.length->l.length<K+i->qx N (jr n l) K (jr n ((l.take i).map (SB.flip n))) (i:Int)=some (jr n (l.map (SB.flip n)))
 |0,i,h,hK=>by omega
 |K+1,i,h,hK=>by
  unfold qx
  rw[jU]
  by_cases hi:i<l.length
  ·rw[if_pos (by omega),qo,qaR hi,ZB,qeI (by omega) hN (ho _ (List.getElem_mem hi)),ZB,qbd (by rw[jU];simp;omega) (by rw[jU];simp;omega),ZB,qY (by omega)]
   have e:jr n ((l.take i).map (SB.flip n))++[(l[i].flip n).li n]=jr n ((l.take (i+1)).map (SB.flip n)):=by
    rw[List.take_succ_eq_append_getElem hi,List.map_append]
    unfold jr
    rw[List.map_append]
    rfl
   rw[e]
   exact qd4 hl ho K (i+1) (by omega) (by omega)
  rw[if_neg (by omega),List.take_of_length_le (by omega)]
theorem qeB {l:List SB} (hl:l.length<=300) (ho: ∀s∈l,s.Ok n):za N (jr n l)=some (jr n (l.map (SB.flip n))):=by
 unfold za
 have:=qd4 hn hN hl ho N 0 (by omega) (by omega)
 rw[show((0:Nat):Int)=0 from rfl,List.take_zero]at this
 rw[show([]:List (List Int))=jr n (([]:List SB).map (SB.flip n))from rfl,this,ZB]
theorem qfy {l:List SB} (hl:l.length<=300) (ho: ∀s∈l,s.Ok n) (h:Int): ∀(K i:Nat) (R:List (List Int)),R.length=l.length->i<=l.length->l.length<K+i->(∀k (hk:k<l.length),R[k]? =some ((if k<i then l[k].flip n else l[k]).li n))->zP N ((Ud n).li n) h K R (i:Int)=some (w64 (h-1),jr n (l.map (SB.flip n)))
 |0,i,R,hR,h1,hK,hk=>by omega
 |K+1,i,R,hR,h1,hK,hk=>by
  unfold zP
  by_cases hi:i<l.length
  ·have ok:=ho _ (List.getElem_mem hi)
   have hx:=hk i hi
   rw[if_neg (by omega)]at hx
   rw[if_pos (by omega),qo,hx,ZB,qby (by omega) hN (Um n) ok,ZB,qby (by omega) hN ((Um n).comp ok) (Um n),ZB,jI (by omega),ZB,qY (by omega),qgb]
   refine qfy hl ho h K (i+1) _ (by simpa using hR) (by omega) (by omega) (fun k hkl=>?_)
   by_cases e:k=i
   ·subst e;rw[List.getElem?_set_self (by omega),if_pos (by omega)]
   rw[Yw (fun c=>e c.symm),hk k hkl]
   by_cases c:k<i
   ·rw[if_pos c,if_pos (by omega)]
   rw[if_neg c,if_neg (by omega)]
  rw[if_neg (by omega)]
  congr 2
  apply List.ext_getElem?
  intro k
  by_cases hkl:k<l.length
  ·rw[hk k hkl,if_pos (by omega),qaR (by simpa using hkl)]
   simp
  rw[Yg (by omega),Yg (by rw[jU];simp;omega)]
theorem qdD {w:List Int} (W:qeW n w) (n2:2<=n): ∀(K i:Nat) (h:Int) (l:List SB),l.length=i->(∀s∈l,s.Ok n)-> -(i:Int)<=h->h<=i->i<=w.length->w.length<K+i->
 ∃(h':Int) (l':List SB),zS N (n:Int) w K h (jr n l) (i:Int)=some (h',jr n l')/\zi N (n:Int) w ((Ud n).li n) K h (jr n l) (i:Int)=some (h',jr n l')/\l'.length=w.length/\(∀s∈l',s.Ok n)/\ -300<=h'/\h'<=300
 |0,i,h,l,hl,ho,h1,h2,hi,hK=>by omega
 |K+1,i,h,l,hl,ho,h1,h2,hiw,hK=>by
  have wl:=W.len
  unfold zS zi
  by_cases hi:i<w.length
  ·have hx:w[i]? =some w[i]:=Ya hi
   have hc:=W.let_ _ (List.getElem_mem hi)
   generalize w[i]=c at*
   obtain⟨m,hm⟩: ∃m:Nat,c.natAbs=m+1:=⟨c.natAbs-1,by omega⟩
   have hm2:m+1<n:=by omega
   have q1:w64 (((m+1:Nat):Int)-1)=(m:Int):=by rw[zV (by omega) (by omega)];omega
   rw[if_pos (by omega),if_pos (by omega),qo,hx]
   simp only[ZB,qiu (show-1000<c/\c<1000 by omega),qhk (show-1000<c/\c<1000 by omega),hm,q1]
   rw[qfw (by omega) hN hm2,ZB]
   by_cases pos:c>0
   ·rw[if_pos pos,if_neg (show¬c<0 by omega),qef hN (by omega),ZB,<-SB.id_li,qbi (by omega) Up hm2]
    simp only[ZB]
    rw[qbd (by rw[jU];simp;omega) (by rw[jU];simp;omega)]
    simp only[ZB]
    rw[qY (by omega),show jr n l++[(Up.fr m).li n]=jr n (l++[Up.fr m])by simp[jr]]
    exact qdD W n2 K (i+1) h _ (by simp[hl]) (fun s hs=>by
     rcases List.mem_append.1 hs with hs|hs
     ·exact ho s hs
     rw[List.mem_singleton.1 hs];exact(SB.id_ok n).fr hm2) (by omega) (by omega) (by omega) (by omega)
   have r1:=qfy hn hN (by omega) ho h N 0 (jr n l) (jU n l) (by omega) (by omega) (fun k hk=>by rw[if_neg (by omega),qaR hk])
   rw[show((0:Nat):Int)=0 from rfl]at r1
   rw[if_neg pos,if_pos (show c<0 by omega),qeB hn hN (by omega) ho,ZB,qfT hN (by omega),ZB,qdp (by omega) hN (Um n) hm2,r1]
   simp only[ZB]
   rw[qby (by omega) hN (Um n) ((SB.id_ok n).fr hm2),qfK]
   simp only[ZB]
   rw[qbd (by rw[jU];simp;omega) (by rw[jU];simp;omega)]
   simp only[ZB]
   rw[qY (by omega),zV (n:=h-1) (by omega) (by omega),show jr n (l.map (SB.flip n))++[((Ud n).bk m).li n]=jr n (l.map (SB.flip n)++[(Ud n).bk m])by simp[jr]]
   exact qdD W n2 K (i+1) (h-1) _ (by simp[hl]) (fun s hs=>by
    rcases List.mem_append.1 hs with hs|hs
    ·obtain⟨t,ht,rfl⟩:=List.mem_map.1 hs
     exact(ho t ht).flip
    rw[List.mem_singleton.1 hs];exact(Um n).bk hm2) (by omega) (by omega) (by omega) (by omega)
  rw[if_neg (by omega),if_neg (by omega)]
  exact⟨h,l,rfl,rfl,by omega,ho,by omega,by omega⟩
end
end Go.Av
end
section
namespace Go.Av
structure MdOK (n:Int) (k:Nat) (r:List Int×Int):Prop where
 bad:r.2≠0->r.1=[]
 len:r.2=0->r.1.length<=k
 let_:r.2=0-> ∀c∈r.1,yl n c=true
theorem qfP {a b:List Int} (hl:a.length<=100000) (hab:a.length=b.length): ∀(K i:Nat),i<=a.length->a.length<K+i->kW a b K (i:Int)=some (if a.drop i=b.drop i then .inl ()else .inr false)
 |0,i,h,hK=>by omega
 |K+1,i,h,hK=>by
  unfold kW
  by_cases hi:i<a.length
  ·have hb:i<b.length:=by omega
   rw[if_pos (by omega),qo,Ya hi,qo,Ya hb,ZB,ZB,YG hi,YG hb]
   by_cases c:a[i]=b[i]
   ·rw[decide_eq_true c,if_neg (by decide),qY (by omega),qfP hl hab K (i+1) (by omega) (by omega),c]
    simp only[List.cons.injEq,true_and]
   rw[decide_eq_false c,if_pos (by decide),if_neg (fun h=>c (List.cons.inj h).1)]
  rw[if_neg (by omega),List.drop_eq_nil_of_le (by omega),List.drop_eq_nil_of_le (by omega),if_pos rfl]
theorem qaJ {N:Nat} {a b:List Int} (hl:a.length<=100000) (hN:a.length<N):zY N a b=some (decide (a=b)):=by
 unfold zY
 by_cases c:(a.length:Int)=(b.length:Int)
 ·have:=qfP hl (b:=b) (by omega) N 0 (by omega) (by omega)
  rw[show((0:Nat):Int)=0 from rfl,YR,YR]at this
  rw[decide_eq_true c,if_neg (by decide),this]
  by_cases e:a=b
  ·rw[if_pos e,decide_eq_true e];rfl
  rw[if_neg e,decide_eq_false e];rfl
 rw[decide_eq_false c,if_pos (by decide),decide_eq_false (fun e=>c (by rw[e]))]
theorem qd2 {a b:List Int} (hl:a.length<=100000) (hab:a.length=b.length): ∀(K i:Nat),i<=a.length->a.length<K+i->qJ a b K (i:Int)=some (if a.drop i=b.drop i then .inl ()else .inr false)
 |0,i,h,hK=>by omega
 |K+1,i,h,hK=>by
  unfold qJ
  by_cases hi:i<a.length
  ·have hb:i<b.length:=by omega
   rw[if_pos (by omega),qo,Ya hi,qo,Ya hb,ZB,ZB,YG hi,YG hb]
   by_cases c:a[i]=b[i]
   ·rw[decide_eq_true c,if_neg (by decide),qY (by omega),qd2 hl hab K (i+1) (by omega) (by omega),c]
    simp only[List.cons.injEq,true_and]
   rw[decide_eq_false c,if_pos (by decide),if_neg (fun h=>c (List.cons.inj h).1)]
  rw[if_neg (by omega),List.drop_eq_nil_of_le (by omega),List.drop_eq_nil_of_le (by omega),if_pos rfl]
theorem qgq {N:Nat} {a b:List Int} (hl:a.length<=100000) (hN:a.length<N):z8 N a b=some (decide (a=b)):=by
 unfold z8
 by_cases c:(a.length:Int)=(b.length:Int)
 ·have:=qd2 hl (b:=b) (by omega) N 0 (by omega) (by omega)
  rw[show((0:Nat):Int)=0 from rfl,YR,YR]at this
  rw[decide_eq_true c,if_neg (by decide),this]
  by_cases e:a=b
  ·rw[if_pos e,decide_eq_true e];rfl
  rw[if_neg e,decide_eq_false e];rfl
 rw[decide_eq_false c,if_pos (by decide),decide_eq_false (fun e=>c (by rw[e]))]
end Go.Av
end
section
namespace Go.Av
theorem qhg {a b:List Int} (hl:a.length<=100000) (hab:a.length=b.length): ∀(K i:Nat),i<=a.length->a.length<K+i->qX a b K (i:Int)=some (if a.drop i=b.drop i then .inl ()else .inr false)
 |0,i,h,hK=>by omega
 |K+1,i,h,hK=>by
  unfold qX
  by_cases hi:i<a.length
  ·have hb:i<b.length:=by omega
   rw[if_pos (by omega),qo,Ya hi,qo,Ya hb,ZB,ZB,YG hi,YG hb]
   by_cases c:a[i]=b[i]
   ·rw[decide_eq_true c,if_neg (by decide),qY (by omega),qhg hl hab K (i+1) (by omega) (by omega),c]
    simp only[List.cons.injEq,true_and]
   rw[decide_eq_false c,if_pos (by decide),if_neg (fun h=>c (List.cons.inj h).1)]
  rw[if_neg (by omega),List.drop_eq_nil_of_le (by omega),List.drop_eq_nil_of_le (by omega),if_pos rfl]
theorem qio {N:Nat} {a b:List Int} (hl:a.length<=100000) (hN:a.length<N):slices_Equal_int N a b=some (decide (a=b)):=by
 unfold slices_Equal_int
 by_cases c:(a.length:Int)=(b.length:Int)
 ·have:=qhg hl (b:=b) (by omega) N 0 (by omega) (by omega)
  rw[show((0:Nat):Int)=0 from rfl,YR,YR]at this
  rw[decide_eq_true c,if_neg (by decide),this]
  by_cases e:a=b
  ·rw[if_pos e,decide_eq_true e];rfl
  rw[if_neg e,decide_eq_false e];rfl
 rw[decide_eq_false c,if_pos (by decide),decide_eq_false (fun e=>c (by rw[e]))]
inductive WdB (n:Nat):SB->List Int->Prop
 |nil {s:SB} (h: ∀q,q+1<n-> ¬s.Begs q):WdB n s []
 |cons {s:SB} {i:Nat} {W:List Int} (hi:i+1<n) (hb:s.Begs i) (hm: ∀q,q<i-> ¬s.Begs q) (h:WdB n (s.fr i) W):WdB n s (((i+1:Nat):Int)::W)
theorem qf1: ∀l:List Nat,qbQ l<=l.length*l.length
 |[]=>Nat.le_refl _
 |x::r=>by
  have h1:r.countP (fun y=>decide (y<x))<=r.length:=List.countP_le_length
  have h2:=qf1 r
  simp only[qbQ,Yr,Nat.add_mul,Nat.mul_add,Nat.one_mul,Nat.mul_one]
  omega
theorem SB.inv_le (n:Nat) (s:SB):s.inv n<=n*n:=by
 have:=qf1 (s.row n)
 rwa [Ur]at this
theorem qiH (x y:Int):cmp_Less_int x y=some (decide (x<y)):=by
 unfold cmp_Less_int cmp_isNaN_int
 simp
section
variable {n:Nat} (hn:n<=12) (n1:1<=n)
include hn n1
theorem qeK (s:SB): ∀(K i:Nat),i<n->i<K->(∀q,i<=q->q+1<n-> ¬s.Begs q)-> ∃r,qE (s.li n) K (i:Int)=some r/\((r= .inl ()/\ ∀q,q+1<n-> ¬s.Begs q)\/(r= .inr false/\ ∃q,q+1<n/\s.Begs q))
 |0,i,h,hK,hd=>by omega
 |K+1,i,h,hK,hd=>by
  unfold qE
  cases i with
  |zero=>
   rw[if_neg (by omega)]
   exact⟨_,rfl,.inl ⟨rfl,fun q hq=>hd q (Nat.zero_le _) hq⟩⟩
  |succ i=>
   have e:w64 (((i+1:Nat):Int)-1)=(i:Int):=by rw[zV (by omega) (by omega)];omega
   rw[if_pos (by omega),e,Uf h,Uf (by omega)]
   simp only[ZB,qiH]
   by_cases a:s.f (i+1)<s.f i
   ·rw[decide_eq_true (show((s.f (i+1):Nat):Int)<(s.f i:Int)by omega),if_pos rfl]
    exact⟨_,rfl,.inr ⟨rfl,i,h,a⟩⟩
   rw[decide_eq_false (show¬((s.f (i+1):Nat):Int)<(s.f i:Int)by omega),if_neg (by decide)]
   refine qeK s K i (by omega) (by omega) fun q h1 h2=>?_
   by_cases c:q=i
   ·subst c;exact a
   exact hd q (by omega) h2
theorem qhz {N:Nat} (hN:2000<N) (s:SB): ∃b,zZ N (s.li n)=some b/\(b=true↔ ∀q,q+1<n-> ¬s.Begs q):=by
 unfold zZ slices_IsSorted_int
 have e:w64 ((((s.li n).length:Nat):Int)-1)=((n-1:Nat):Int):=by rw[Ue,zV (by omega) (by omega)];omega
 obtain⟨r,r1,r2⟩:=qeK hn n1 s N (n-1) (by omega) (by omega) (fun q h1 h2=>by omega)
 rw[e,r1]
 rcases r2 with⟨rfl,r3⟩|⟨rfl,q,q1,q2⟩
 ·exact⟨true,rfl,fun _=>r3,fun _=>rfl⟩
 exact⟨false,rfl,fun h=>(by cases h),fun h=>absurd q2 (h q q1)⟩
theorem qg2 {s:SB} (hs:s.Ok n):(∀q,q+1<n-> ¬s.Begs q)↔s.li n=zD n:=by
 constructor
 ·intro h
  have lo: ∀k,k<n->k<=s.f k:=by
   intro k
   induction k with
   |zero=>exact fun _=>Nat.zero_le _
   |succ k ih=>
    intro hk
    have h1:=ih (by omega)
    have h2:=h k hk
    have h3:s.f k≠s.f (k+1):=fun c=>by have:=s.finj c;omega
    have h4: ¬s.f (k+1)<s.f k:=h2
    omega
  have hi: ∀d,d<n->s.f (n-1-d)<=n-1-d:=by
   intro d
   induction d with
   |zero=>
    intro hd
    have:=hs.f_ (n-1-0) (by omega)
    omega
   |succ d ih=>
    intro hd
    have h1:=ih (by omega)
    have h2: ¬s.f (n-1-(d+1)+1)<s.f (n-1-(d+1)):=h (n-1-(d+1)) (by omega)
    have h3:s.f (n-1-(d+1))≠s.f (n-1-(d+1)+1):=fun c=>by have:=s.finj c;omega
    have e:n-1-(d+1)+1=n-1-d:=by omega
    rw[e]at h2 h3
    omega
  refine(Uj (zq n) fun k hk=>?_).symm
  rw[yu hk]
  have h1:=lo k hk
  have h2:=hi (n-1-k) (by omega)
  rw[show n-1-(n-1-k)=k by omega]at h2
  congr 1
  omega
 intro h q hq hb
 have e: ∀k,k<n->s.f k=k:=fun k hk=>SB.li_inj (t:=Up) h hk
 have hb:s.f (q+1)<s.f q:=hb
 rw[e _ hq,e _ (by omega)]at hb
 omega
end
end Go.Av
end
section
namespace Go.Av
def kT (n m:Nat) (L:Nat->SB):List (List Int):=(List.range m).map fun q=>(L q).li n
theorem qO (n m:Nat) (L:Nat->SB):(kT n m L).length=m:=by simp[kT]
theorem je {n m q:Nat} {L:Nat->SB} (h:q<m):(kT n m L)[q]? =some ((L q).li n):=by simp[kT,List.getElem?_range h]
theorem qeQ {n m:Nat} {L:Nat->SB} {R:List (List Int)} (hl:R.length=m) (h: ∀q,q<m->R[q]? =some ((L q).li n)):R=kT n m L:=by
 apply List.ext_getElem?
 intro q
 by_cases hq:q<m
 ·rw[h q hq,je hq]
 rw[Yg (by omega),Yg (by rw[qO];omega)]
theorem qdn {n m k i:Nat} {L:Nat->SB} (hk:k+1<m):((kT n m L).set k (((L k).bk i).li n)).set (k+1) (((L (k+1)).fr i).li n)=kT n m (psh L k i):=by
 refine qeQ (by simp[qO]) fun q hq=>?_
 by_cases a:q=k+1
 ·subst a
  rw[List.getElem?_set_self (by simp[qO];omega),jd]
 by_cases b:q=k
 ·subst b
  rw[Yw (by omega),List.getElem?_set_self (by rw[qO];omega),vI]
 rw[Yw (by omega),Yw (by omega),je hq,zU L b a]
def OkM (n m:Nat) (L:Nat->SB):Prop:= ∀q,q<m->(L q).Ok n
theorem OkM.psh {n m k i:Nat} {L:Nat->SB} (h:OkM n m L) (hk:k+1<m) (hi:i+1<n):OkM n m (psh L k i):=fun q hq=>by
 by_cases a:q=k
 ·subst a;rw[vI];exact(h q hq).bk hi
 by_cases b:q=k+1
 ·subst b;rw[jd];exact(h (k+1) hq).fr hi
 rw[zU L a b];exact h q hq
theorem qhN {n:Nat} {L:Nat->SB}: ∀m,mu5 n L m<=m*(m*(n*n))
 |0=>Nat.zero_le _
 |m+1=>by
  have h1:=qhN (n:=n) (L:=L) m
  have h2:=Nat.mul_le_mul_left m ((L m).inv_le n)
  simp only[mu5,Nat.add_mul,Nat.mul_add,Nat.one_mul]at*
  omega
section
variable {n m:Nat} (hn:n<=12) (n1:1<=n) (hm:m<=300) {N:Nat} (hN:2000<N)
include hn n1 hm hN
theorem qiy {L:Nat->SB} (hL:OkM n m L) {k:Nat} (hk:k+1<m):
 (∃i,jG n m L k i/\zW N (k:Int) (kT n m L)=some (kT n m (psh L k i),true))\/((∀i,¬jG n m L k i)/\zW N (k:Int) (kT n m L)=some (kT n m L,false)):=by
 unfold zW
 rw[qo,je (by omega),ZB,qY (by omega),qo,je hk,ZB]
 rcases qff (n:=n) (by omega) hN n1 (t:=L (k+1)) (hL k (by omega))with⟨j,j1,j2,j3,j4⟩|⟨j1,j2⟩
 ·left
  refine⟨j,⟨hk,j1,j2,j3⟩,?_⟩
  rw[j4,ZB]
  simp only[if_true]
  rw[qdp (by omega) hN (hL k (by omega)) j1,ZB,qbi (by omega) _ j1,ZB,jI (by rw[qO];omega),ZB,qo,Yw (by omega),je hk,ZB,jI (by simp[qO];omega),ZB,ZB,qdn hk]
 right
 refine⟨fun i c=>c.e_ (j1 i c.i_ c.b_),?_⟩
 rw[j2,ZB]
 rfl
theorem qf2 {k:Nat} (hk:k+1<m): ∀(K:Nat) (L:Nat->SB) (b:Bool),OkM n m L->mu5 n L m<K->
 ∃(L':Nat->SB) (b':Bool),zm N (k:Int) K (kT n m L) b=some (kT n m L',b')/\Pst n m L L'/\OkM n m L'/\(∀i,¬jG n m L' k i)/\(∀q,q≠k->q≠k+1->L' q=L q)/\((b'=b/\L'=L)\/(b'=true/\mu5 n L' m<mu5 n L m))
 |0,L,b,hL,h=>by omega
 |K+1,L,b,hL,h=>by
  unfold zm
  rcases qiy hn n1 hm hN hL hk with⟨i,c,e⟩|⟨c,e⟩
  ·have hmu:=qaP c
   obtain⟨L',b',h1,h2,h3,h4,h5,h6⟩:=qf2 hk K (psh L k i) true (hL.psh hk c.i_) (by omega)
   rw[e,ZB]
   simp only[qO,if_true,ZB]
   refine⟨L',b',h1,.head (.mk c) h2,h3,h4,fun q q1 q2=>by rw[h5 q q1 q2,zU L q1 q2],?_⟩
   rcases h6 with⟨g1,g2⟩|⟨g1,g2⟩
   ·subst g1 g2;exact .inr ⟨rfl,hmu⟩
   exact .inr ⟨g1,by omega⟩
  rw[e,ZB]
  simp only[qO,if_true,ZB,ZF,if_false]
  exact⟨L,b,rfl,.refl,hL,c,fun q _ _=>rfl,.inl ⟨rfl,rfl⟩⟩
theorem qdT (hmu: ∀L:Nat->SB,mu5 n L m<N): ∀(K k:Nat) (L:Nat->SB),OkM n m L->k<=m->2*mu5 n L m+(m-k)<K->(∀j,j<k-> ∀i,¬jG n m L j i)->
 ∃A,zo N K (kT n m L) (k:Int)=some (kT n m A)/\Pst n m L A/\Nf n m A/\OkM n m A
 |0,k,L,hL,hk,h,ht=>by omega
 |K+1,k,L,hL,hk,h,ht=>by
  unfold zo
  rw[qO,qY (by omega)]
  by_cases c:k+1<m
  ·obtain⟨L',b',h1,h2,h3,h4,h5,h6⟩:=qf2 hn n1 hm hN c N L false hL (hmu L)
   rw[if_pos (by omega),h1]
   simp only[ZB]
   have tight: ∀j,j+1<k-> ∀i,¬jG n m L' j i:=fun j hj i d=>ht j (by omega) i ⟨d.k_,d.i_,by have:=d.b_;rwa [h5 (j+1) (by omega) (by omega)]at this,by have:=d.e_;rwa [h5 j (by omega) (by omega)]at this⟩
   by_cases d:b'=true/\0<k
   ·obtain⟨d1,d2⟩:=d
    subst d1
    rcases h6 with⟨g1,_⟩|⟨_,g2⟩
    ·cases g1
    rw[if_pos rfl,decide_eq_true (show(k:Int)>0 by omega)]
    simp only[ZB,if_true]
    rw[show w64 ((k:Int)-1)=((k-1:Nat):Int)from qhw (by omega) d2]
    obtain⟨A,a1,a2,a3,a4⟩:=qdT hmu K (k-1) L' h3 (by omega) (by omega) (fun j hj=>tight j (by omega))
    exact⟨A,a1,h2.trans a2,a3,a4⟩
   have e:(if b'=true then some (decide ((k:Int)>0))else some false:Option Bool)=some false:=by
    cases b' with
    |false=>rfl
    |true=>rw[if_pos rfl,decide_eq_false (by have: ¬0<k:=fun g=>d ⟨rfl,g⟩;omega)]
   rw[e]
   simp only[ZB,ZF,if_false]
   have hmu2:mu5 n L' m<=mu5 n L m:=by
    rcases h6 with⟨_,g2⟩|⟨_,g2⟩
    ·rw[g2];exact Nat.le_refl _
    omega
   obtain⟨A,a1,a2,a3,a4⟩:=qdT hmu K (k+1) L' h3 (by omega) (by omega) (fun j hj i g=>by
    by_cases f:j=k
    ·subst f;exact h4 i g
    rcases h6 with⟨_,g2⟩|⟨g1,_⟩
    ·rw[g2]at g;exact ht j (by omega) i g
    exact d ⟨g1,by omega⟩)
   exact⟨A,a1,h2.trans a2,a3,a4⟩
  rw[if_neg (by omega)]
  exact⟨L,rfl,.refl,fun j i g=>by have:=g.k_;exact ht j (by omega) i g,hL⟩
theorem qfC {L:Nat->SB} (hL:OkM n m L) {k:Nat} (hk:k+1<m): ∀(K i:Nat),i+1<=n->n<K+i->(∀j,j<i-> ¬jG n m L k j)->
 (∃j,jG n m L k j/\kE N (kT n m L) ((k+1:Nat):Int) K ((i+1:Nat):Int)=some (.inr (kT n m (psh L k j),true)))\/((∀j,¬jG n m L k j)/\kE N (kT n m L) ((k+1:Nat):Int) K ((i+1:Nat):Int)=some (.inl ()))
 |0,i,h,hK,hd=>by omega
 |K+1,i,h,hK,hd=>by
  unfold kE
  have e1:w64 (((k+1:Nat):Int)-1)=(k:Int):=by rw[zV (by omega) (by omega)];omega
  rw[qo,je hk]
  simp only[ZB]
  rw[Ue]
  by_cases hi:i+1<n
  ·have next:=qfC hL hk K (i+1) (by omega) (by omega)
   rw[if_pos (by omega),qcj (by omega) _ hi]
   simp only[ZB]
   by_cases a:(L (k+1)).f (i+1)<(L (k+1)).f i
   ·rw[decide_eq_true a,if_pos rfl,e1,qo,je (by omega)]
    simp only[ZB]
    rw[qg9 (by omega) hN (hL k (by omega)) hi]
    simp only[ZB]
    by_cases b:(L k).g (i+1)<(L k).g i
    ·rw[decide_eq_true b,if_neg (by decide),qY (by omega)]
     exact next (fun j hj=>by
      by_cases c:j=i
      ·subst c;exact fun d=>d.e_ b
      exact hd j (by omega))
    have c:jG n m L k i:=⟨hk,hi,a,b⟩
    rw[decide_eq_false b,if_pos (by decide),qfw (by omega) hN hi]
    simp only[ZB]
    rw[qby (by omega) hN (hL k (by omega)) ((SB.id_ok n).fr hi),qfK]
    simp only[ZB]
    rw[jI (by rw[qO];omega)]
    simp only[ZB]
    rw[qo,Yw (by omega),je hk]
    simp only[ZB]
    rw[qby (by omega) hN ((SB.id_ok n).fr hi) (hL (k+1) hk),qit]
    simp only[ZB]
    rw[jI (by simp[qO];omega)]
    simp only[ZB]
    rw[qdn hk]
    exact .inl ⟨i,c,rfl⟩
   rw[decide_eq_false a,if_neg (by decide)]
   simp only[ZB]
   rw[if_neg (by decide),qY (by omega)]
   exact next (fun j hj=>by
    by_cases c:j=i
    ·subst c;exact fun d=>a d.b_
    exact hd j (by omega))
  rw[if_neg (by omega)]
  exact .inr ⟨fun j d=>hd j (by have:=d.i_;omega) d,rfl⟩
theorem qfE {L:Nat->SB} (hL:OkM n m L): ∀(K k:Nat),k<=m->m<K+k->(∀j,j<k-> ∀i,¬jG n m L j i)->
 (∃j i,jG n m L j i/\kF N (kT n m L) K ((k+1:Nat):Int)=some (.inr (kT n m (psh L j i),true)))\/(Nf n m L/\kF N (kT n m L) K ((k+1:Nat):Int)=some (.inl ()))
 |0,k,h,hK,hd=>by omega
 |K+1,k,h,hK,hd=>by
  unfold kF
  rw[qO]
  by_cases c:k+1<m
  ·rw[if_pos (by omega)]
   have s:=qfC hn n1 hm hN hL c N 0 (by omega) (by omega) (fun j hj=>by omega)
   rw[show((0+1:Nat):Int)=1 from rfl]at s
   rcases s with⟨j,s1,s2⟩|⟨s1,s2⟩
   ·rw[s2]
    exact .inl ⟨k,j,s1,rfl⟩
   rw[s2]
   simp only[ZB]
   rw[qY (by omega)]
   exact qfE hL K (k+1) (by omega) (by omega) (fun j hj=>by
    by_cases e:j=k
    ·subst e;exact s1
    exact hd j (by omega))
  rw[if_neg (by omega)]
  exact .inr ⟨fun j i g=>hd j (by have:=g.k_;omega) i g,rfl⟩
theorem qhe {L:Nat->SB} (hL:OkM n m L):(∃j i,jG n m L j i/\jo N (kT n m L)=some (kT n m (psh L j i),true))\/(Nf n m L/\jo N (kT n m L)=some (kT n m L,false)):=by
 unfold jo
 have s:=qfE hn n1 hm hN hL N 0 (by omega) (by omega) (fun j hj=>by omega)
 rw[show((0+1:Nat):Int)=1 from rfl]at s
 rcases s with⟨j,i,s1,s2⟩|⟨s1,s2⟩
 ·rw[s2];exact .inl ⟨j,i,s1,rfl⟩
 rw[s2];exact .inr ⟨s1,rfl⟩
theorem qfI: ∀(K:Nat) (L:Nat->SB),OkM n m L->mu5 n L m<K-> ∃A,qV N K (kT n m L)=some (kT n m A)/\Pst n m L A/\Nf n m A/\OkM n m A
 |0,L,hL,h=>by omega
 |K+1,L,hL,h=>by
  unfold qV
  rcases qhe hn n1 hm hN hL with⟨j,i,c,e⟩|⟨c,e⟩
  ·have hmu:=qaP c
   rw[e,ZB]
   simp only[qO,if_true,ZB]
   obtain⟨A,a1,a2,a3,a4⟩:=qfI K (psh L j i) (hL.psh c.k_ c.i_) (by omega)
   exact⟨A,a1,.head (.mk c) a2,a3,a4⟩
  rw[e,ZB]
  simp only[qO,if_true,ZB,ZF,if_false]
  exact⟨L,rfl,.refl,c,hL⟩
theorem qgc (hmu:2*(m*(m*(n*n)))+m+1<N) {L:Nat->SB} (hL:OkM n m L): ∃A,vL N (kT n m L)=some (kT n m A)/\qV N N (kT n m L)=some (kT n m A)/\Nf n m A/\OkM n m A:=by
 have hb:=fun L:Nat->SB=>qhN (n:=n) (L:=L) m
 obtain⟨A,a1,a2,a3,a4⟩:=qdT hn n1 hm hN (fun L=>by have:=hb L;omega) N 0 L hL (Nat.zero_le _) (by have:=hb L;omega) (fun j hj=>by omega)
 obtain⟨B,b1,b2,b3,b4⟩:=qfI hn n1 hm hN N L hL (by have:=hb L;omega)
 obtain rfl:=qdZ _ (Nat.le_refl _) a2 b2 a3 b3
 refine⟨A,?_,b1,a3,a4⟩
 unfold vL
 rw[show((0:Nat):Int)=0 from rfl]at a1
 rw[a1,ZB]
end
end Go.Av
end
section
namespace Go.Av
def xE (H I:List Int):List (List Int)->Prop
 |x::y::r=>(y=H->x=H)/\(x=I->y=I)/\xE H I (y::r)
 |_=>True
theorem qh7 {H I:List Int}: ∀R:List (List Int),(∀q x y,R[q]? =some x->R[q+1]? =some y->(y=H->x=H)/\(x=I->y=I))->xE H I R
 |[],_=>trivial
 |[_],_=>trivial
 |x::y::r,h=>by
  have h0:=h 0 x y rfl rfl
  exact⟨h0.1,h0.2,qh7 (y::r) fun q a b ha hb=>h (q+1) a b ha hb⟩
theorem xE.tail {H I x:List Int} {r:List (List Int)} (h:xE H I (x::r)):xE H I r:=by
 cases r with
 |nil=>trivial
 |cons y r=>exact h.2.2
theorem xE.noH {H I:List Int}: ∀{r:List (List Int)} {x:List Int},xE H I (x::r)->x≠H-> ∀y∈x::r,y≠H
 |[],x,h,hx,y,hy=>by
  rw[List.mem_singleton.1 hy];exact hx
 |z::r,x,h,hx,y,hy=>by
  have hz:z≠H:=fun e=>hx (h.1 e)
  rcases List.mem_cons.1 hy with rfl|hy
  ·exact hx
  exact xE.noH h.tail hz y hy
theorem xE.allI {H I:List Int}: ∀{r:List (List Int)},xE H I (I::r)-> ∀y∈r,y=I
 |[],h,y,hy=>by cases hy
 |z::r,h,y,hy=>by
  have hz:z=I:=h.2.1 rfl
  subst hz
  rcases List.mem_cons.1 hy with rfl|hy
  ·rfl
  exact xE.allI h.tail y hy
theorem qf4 {I:List Int}: ∀{r:List (List Int)},(∀y∈r,y=I)->r=List.replicate r.length I
 |[],_=>rfl
 |z::r,h=>by
  rw[Yr,List.replicate_succ,h z List.mem_cons_self,<-qf4 (r:=r) fun y hy=>h y (List.mem_cons_of_mem _ hy)]
theorem xE.split {H I:List Int}: ∀{r:List (List Int)},xE H I r-> ∃(M:List (List Int)) (d:Nat),r=M++List.replicate d I/\I∉M
 |[],_=>⟨[],0,rfl,by simp⟩
 |x::r,h=>by
  by_cases c:x=I
  ·subst c
   refine⟨[],(x::r).length,?_,by simp⟩
   rw[List.nil_append]
   exact qf4 fun y hy=>by
    rcases List.mem_cons.1 hy with rfl|hy
    ·rfl
    exact xE.allI h y hy
  obtain⟨M,d,h1,h2⟩:=xE.split h.tail
  exact⟨x::M,d,by rw[h1];rfl,fun g=>by
   rcases List.mem_cons.1 g with g|g
   ·exact c g.symm
   exact h2 g⟩
theorem xE.heads {H I:List Int}: ∀{r:List (List Int)},xE H I r-> ∃(c:Nat) (R:List (List Int)),r=List.replicate c H++R/\(∀y∈R,y≠H)/\xE H I R
 |[],_=>⟨0,[],rfl,fun y hy=>(by cases hy),trivial⟩
 |x::r,h=>by
  by_cases c:x=H
  ·subst c
   obtain⟨d,R,h1,h2,h3⟩:=xE.heads h.tail
   exact⟨d+1,R,by rw[h1];rfl,h2,h3⟩
  exact⟨0,x::r,rfl,xE.noH h c,h⟩
section
variable {n m:Nat} (hn:n<=12) (n2:2<=n)
include hn n2
theorem qfS:(Ud n).li n≠zD n:=fun h=>by
 have:=SB.li_inj (t:=Up) h (k:=0) (by omega)
 have e:rv5 n 0=0:=this
 unfold rv5 at e
 rw[if_pos (by omega)]at e
 omega
theorem qjh {A:Nat->SB} (hA:OkM n m A) (hf:Nf n m A):xE ((Ud n).li n) (zD n) (kT n m A):=by
 refine qh7 _ fun q x y hx hy=>?_
 have hq:q+1<m:=by
  have:=(Yb.1 hy).1
  rwa [qO]at this
 rw[je (by omega)]at hx
 rw[je hq]at hy
 obtain rfl:=Ye hx
 obtain rfl:=Ye hy
 have s1:=hA q (by omega)
 have s2:=hA (q+1) hq
 constructor
 ·intro h
  have hy: ∀k,k<n->(A (q+1)).f k=n-1-k:=fun k hk=>by
   have:=SB.li_inj h hk
   rw[this]
   show rv5 n k=_
   unfold rv5
   rw[if_pos hk]
  have he: ∀i,i+1<n->(A q).g (i+1)<(A q).g i:=fun i hi=>by
   have hb:(A (q+1)).Begs i:=by
    show(A (q+1)).f (i+1)<(A (q+1)).f i
    rw[hy _ hi,hy _ (by omega)]
    omega
   by_cases c:(A q).Ends i
   ·exact c
   exact absurd ⟨hq,hi,hb,c⟩ (hf q i)
  have up: ∀k,k<n->(A q).g k+k<=n-1:=by
   intro k
   induction k with
   |zero=>intro _;have:=s1.g_ 0 (by omega);omega
   |succ k ih=>intro hk;have:=ih (by omega);have:=he k hk;omega
  have lo: ∀d,d<n->d<=(A q).g (n-1-d):=by
   intro d
   induction d with
   |zero=>exact fun _=>Nat.zero_le _
   |succ d ih=>
    intro hd
    have h1:=ih (by omega)
    have h2:=he (n-1-(d+1)) (by omega)
    rw[show n-1-(d+1)+1=n-1-d by omega]at h2
    omega
  refine(Uj (Ue n _) fun k hk=>?_).symm
  rw[Un _ hk]
  have h3:(A q).g (n-1-k)=k:=by
   have a:=up (n-1-k) (by omega)
   have b:=lo k hk
   omega
  have h4:=(A q).fg (n-1-k)
  rw[h3]at h4
  show some ((rv5 n k:Nat):Int)=_
  unfold rv5
  rw[if_pos hk,h4]
 intro h
 have hx: ∀k,k<n->(A q).f k=k:=fun k hk=>SB.li_inj (t:=Up) h hk
 refine(qg2 hn (by omega) s2).1 fun i hi hb=>hf q i ⟨hq,hi,hb,fun c=>?_⟩
 have c:(A q).g (i+1)<(A q).g i:=c
 have e1:=(A q).gf (i+1)
 have e2:=(A q).gf i
 rw[hx _ hi]at e1
 rw[hx _ (by omega)]at e2
 omega
variable {N:Nat} (hN:2000<N)
include hN
theorem qb5 {A:Nat->SB} (hm:m<=300) (hA:OkM n m A): ∀(K i:Nat) (h:Int) (out:List (List Int)),i<=m->m<K+i-> -1000<=h->h<=300+i->out.length<=i->
 zO N (n:Int) (kT n m A) K h out (i:Int)=some (h+((((kT n m A).drop i).countP fun x=>decide (x=(Ud n).li n):Nat):Int),out++((kT n m A).drop i).filter fun x=>!decide (x=zD n)&&!decide (x=(Ud n).li n))
 |0,i,h,out,hi,hK,h1,h2,ho=>by omega
 |K+1,i,h,out,hi,hK,h1,h2,ho=>by
  unfold zO
  rw[qO]
  by_cases c:i<m
  ·have hl:i<(kT n m A).length:=by rw[qO];exact c
   have hg:(kT n m A)[i]=(A i).li n:=by
    have:=je (n:=n) (L:=A) c
    rw[Ya hl]at this
    exact Ye this
   obtain⟨b,b1,b2⟩:=qhz hn (by omega) (N:=N) hN (A i)
   rw[qg2 hn (by omega) (hA i c)]at b2
   have e24: ∀o:List (List Int),o.length<=i->app 24 o [(A i).li n]=some (o++[(A i).li n]):=fun o ho=>qbd (by simp;omega) (by simp;omega)
   rw[if_pos (by omega),qo,je c,YG hl,hg,List.countP_cons,List.filter_cons]
   simp only[ZB,b1]
   by_cases p:(A i).li n=zD n
   ·have q:(A i).li n≠(Ud n).li n:=fun e=>qfS hn n2 (e▸p)
    rw[b2.2 p]
    simp only[if_true,ZB]
    rw[qY (by omega),qb5 hm hA K (i+1) h out (by omega) (by omega) (by omega) (by omega) (by omega),decide_eq_true p,decide_eq_false q]
    simp
   have bf:b=false:=by
    cases b with
    |false=>rfl
    |true=>exact absurd (b2.1 rfl) p
   subst bf
   simp only[ZF,if_false]
   rw[qfT hN (by omega)]
   simp only[ZB]
   have hln:=Ue n (A i)
   rw[qio (by omega) (by omega)]
   simp only[ZB]
   by_cases q:(A i).li n=(Ud n).li n
   ·rw[decide_eq_true q,decide_eq_false p]
    simp only[if_true,ZB]
    rw[qY (by omega),zV (n:=h+1) (by omega) (by omega),qb5 hm hA K (i+1) (h+1) out (by omega) (by omega) (by omega) (by omega) (by omega)]
    simp
    omega
   rw[decide_eq_false q,decide_eq_false p,e24 out ho]
   simp only[ZF,if_false,ZB]
   rw[qY (by omega),qb5 hm hA K (i+1) h _ (by omega) (by omega) (by omega) (by omega) (by simp;omega)]
   simp
  rw[if_neg (by omega),List.drop_eq_nil_of_le (by rw[qO];omega)]
  simp
theorem qeN: ∀(K c:Nat) (R:List (List Int)) (h:Int),(∀x∈R,x.length=n)->(∀y∈R,y≠(Ud n).li n)->c+R.length<=300->c<K-> -1000<=h->h+c<=1000->
 zg N ((Ud n).li n) K h (List.replicate c ((Ud n).li n)++R)=some (h+c,R)
 |0,c,R,h,hx,hy,hl,hK,h1,h2=>by omega
 |K+1,c,R,h,hx,hy,hl,hK,h1,h2=>by
  unfold zg
  have hln:=Ue n (Ud n)
  cases c with
  |zero=>
   rw[List.replicate_zero,List.nil_append]
   cases R with
   |nil=>simp
   |cons x R=>
    have e:=hx x List.mem_cons_self
    rw[if_pos (by simp only[Yr];omega),qiN,Yj,ZB,qaJ (by omega) (by omega),ZB,decide_eq_false (hy x List.mem_cons_self),ZB,if_neg (by decide)]
    simp
  |succ c=>
   rw[List.replicate_succ,List.cons_append,if_pos (by simp only[Yr];omega),qiN,Yj,ZB,qaJ (by omega) (by omega),ZB,decide_eq_true rfl,ZB,if_pos rfl]
   have hc:cut ((Ud n).li n::(List.replicate c ((Ud n).li n)++R)) 1 ((((Ud n).li n::(List.replicate c ((Ud n).li n)++R)).length:Nat):Int)=some (List.replicate c ((Ud n).li n)++R):=by
    have:=qhZ (l:=(Ud n).li n::(List.replicate c ((Ud n).li n)++R)) (k:=1) (by simp)
    rw[show((1:Nat):Int)=1 from rfl]at this
    rw[this]
    rfl
   rw[hc,ZB,zV (n:=h+1) (by omega) (by omega),qeN K c R (h+1) hx hy (by omega) (by omega) (by omega) (by omega)]
   congr 2
   omega
theorem qet: ∀(K d:Nat) (M:List (List Int)),(∀x∈M,x.length=n)->zD n∉M->d+M.length<=300->d<K->
 zf N (n:Int) K (M++List.replicate d (zD n))=some M
 |0,d,M,hx,hy,hl,hK=>by omega
 |K+1,d,M,hx,hy,hl,hK=>by
  unfold zf
  have hln:=zq n
  cases d with
  |zero=>
   rw[List.replicate_zero,List.append_nil]
   by_cases c:M.length=0
   ·rw[if_neg (by omega),ZB,if_neg (by decide)]
   have hlt:M.length-1<M.length:=by omega
   have hm:=List.getElem_mem hlt
   have e:=hx _ hm
   rw[if_pos (by omega),show w64 ((M.length:Int)-1)=((M.length-1:Nat):Int)from qhw (by omega) (by omega),qo,Ya hlt,ZB,qbN hN (by omega),ZB,qaJ (by omega) (by omega),ZB,decide_eq_false (fun g:M[M.length-1]=zD n=>hy (g▸hm)),ZB,if_neg (by decide)]
  |succ d=>
   have hL:(M++List.replicate (d+1) (zD n)).length=M.length+d+1:=by simp;omega
   have e1:w64 ((((M++List.replicate (d+1) (zD n)).length:Nat):Int)-1)=((M.length+d:Nat):Int):=by rw[hL,zV (by omega) (by omega)];omega
   have e2:(M++List.replicate (d+1) (zD n))[M.length+d]? =some (zD n):=by
    rw[Yo (by omega),List.getElem?_replicate,if_pos (by omega)]
   have e3:cut (M++List.replicate (d+1) (zD n)) 0 ((M.length+d:Nat):Int)=some (M++List.replicate d (zD n)):=by
    rw[qhC (by omega),List.take_append,List.take_of_length_le (show M.length<=M.length+d by omega)]
    simp
   rw[e1,hL,if_pos (by omega),qo,e2,ZB,qbN hN (by omega),ZB,qaJ (by omega) (by omega),ZB,decide_eq_true rfl,ZB,if_pos rfl,e3,ZB]
   exact qet K d M hx hy (by omega) (by omega)
end
theorem qbU {N n:Nat} (hN:100000<N) (h6:n<=6) {w:List Int} (W:qeW n w) (hw:w.length<=14): ∃f:zx,jM N (n:Int) w=some f/\ji N (n:Int) w=some f/\f.Factors.length<=300/\ ∀x∈f.Factors,x.length<=300:=by
 have k1:=W.n1
 unfold jM ji
 by_cases n1:n=1
 ·subst n1
  have hnil:w=[]:=by
   cases w with
   |nil=>rfl
   |cons c w=>
    have:=W.let_ c List.mem_cons_self
    omega
  subst hnil
  refine⟨⟨0,[]⟩,by rw[if_pos (show((1:Nat):Int)=1 from rfl)],?_,by simp,fun x hx=>by cases hx⟩
  obtain⟨K,rfl⟩: ∃K,N=K+1:=⟨N-1,by omega⟩
  have s0:jo (K+1) []=some ([],false):=rfl
  rw[qfH (by omega) (by omega),ZB]
  have l0:zi (K+1) ((1:Nat):Int) [] ((Ud 1).li 1) (K+1) 0 [] 0=some (0,[]):=rfl
  have l2:qV (K+1) (K+1) []=some []:=by
   unfold qV
   rw[s0]
   rfl
  have l3:zg (K+1) ((Ud 1).li 1) (K+1) 0 []=some (0,[]):=rfl
  have l4:zf (K+1) ((1:Nat):Int) (K+1) []=some []:=rfl
  rw[l0,ZB]
  simp only[]
  rw[l2,ZB,l3,ZB]
  simp only[]
  rw[l4,ZB]
 have n2:2<=n:=by omega
 rw[if_neg (by omega),qfH (by omega) (by omega),ZB]
 obtain⟨h,l,b1,b2,b3,b4,b5,b6⟩:=qdD (n:=n) (by omega) (N:=N) (by omega) W n2 N 0 0 [] rfl (fun s hs=>by cases hs) (by omega) (by omega) (Nat.zero_le _) (by omega)
 rw[show((0:Nat):Int)=0 from rfl,show jr n []=[]from rfl]at b1 b2
 rw[b1,b2]
 simp only[ZB]
 have e:jr n l=kT n l.length (fun q=>l.getD q Up):=by
  refine qeQ (jU n l) fun q hq=>?_
  rw[qaR hq]
  simp[List.getD,hq]
 have hL:OkM n l.length (fun q=>l.getD q Up):=fun q hq=>by
  have:l.getD q Up=l[q]:=by simp[List.getD,hq]
  show(l.getD q Up).Ok n
  rw[this]
  exact b4 _ (List.getElem_mem hq)
 have hmm:l.length*(l.length*(n*n))<=14*(14*(6*6)):=Nat.mul_le_mul (by omega) (Nat.mul_le_mul (by omega) (Nat.mul_le_mul h6 h6))
 obtain⟨A,a1,a2,a3,a4⟩:=qgc (n:=n) (m:=l.length) (by omega) (by omega) (by omega) (N:=N) (by omega) (by omega) hL
 rw[e,a1,a2]
 simp only[ZB,qO,if_true]
 have hadj:=qjh (by omega) n2 a4 a3
 obtain⟨c,R,r1,r2,r3⟩:=hadj.heads
 obtain⟨M,d,m1,m2⟩:=r3.split
 have hlenR:c+R.length<=300:=by
  have:=congrArg List.length r1
  rw[qO]at this
  simp at this
  omega
 have hlenM:d+M.length<=300:=by
  have:=congrArg List.length m1
  simp at this
  omega
 have hxr: ∀x∈kT n l.length A,x.length=n:=fun x hx=>by
  obtain⟨q,_,rfl⟩:=List.mem_map.1 hx
  exact Ue n _
 have hxR: ∀x∈R,x.length=n:=fun x hx=>hxr x (r1▸List.mem_append_right _ hx)
 have hxM: ∀x∈M,x.length=n:=fun x hx=>hxR x (m1▸List.mem_append_left _ hx)
 have fin:=qb5 (m:=l.length) (by omega) n2 (N:=N) (by omega) (by omega) a4 N 0 h [] (Nat.zero_le _) (by omega) (by omega) (by omega) (Nat.le_refl _)
 rw[show((0:Nat):Int)=0 from rfl,YR,List.nil_append]at fin
 have s3:=qeN (n:=n) (by omega) n2 (N:=N) (by omega) N c R h hxR r2 hlenR (by omega) (by omega) (by omega)
 have s4:=qet (n:=n) (by omega) n2 (N:=N) (by omega) N d M hxM m2 hlenM (by omega)
 rw[fin,r1,s3]
 simp only[ZB]
 rw[m1,s4]
 simp only[ZB]
 have hHI:=qfS (n:=n) (by omega) n2
 have cR:R.countP (fun x=>decide (x=(Ud n).li n))=0:=List.countP_eq_zero.2 fun x hx=>by simpa using r2 x hx
 have cM:(M++List.replicate d (zD n)).countP (fun x=>decide (x=(Ud n).li n))=0:=m1▸cR
 have f1:(List.replicate c ((Ud n).li n)).filter (fun x=>!decide (x=zD n)&&!decide (x=(Ud n).li n))=[]:=by
  rw[List.filter_replicate]
  simp
 have f2:(List.replicate d (zD n)).filter (fun x=>!decide (x=zD n)&&!decide (x=(Ud n).li n))=[]:=by
  rw[List.filter_replicate]
  simp
 have f3:M.filter (fun x=>!decide (x=zD n)&&!decide (x=(Ud n).li n))=M:=by
  rw[List.filter_eq_self]
  intro x hx
  have g1:x≠zD n:=fun e=>m2 (e▸hx)
  have g2:x≠(Ud n).li n:=r2 x (m1▸List.mem_append_left _ hx)
  simp[g1,g2]
 have c1:(List.replicate c ((Ud n).li n)).countP (fun x=>decide (x=(Ud n).li n))=c:=by
  rw[List.countP_replicate]
  simp
 refine⟨⟨h+c,M⟩,?_,rfl,by show M.length<=300;omega,fun x hx=>by rw[hxM x hx];omega⟩
 rw[List.countP_append,c1,cM,List.filter_append,f1,List.filter_append,f2,f3]
 simp
end Go.Av
end
section
namespace Go.Av
theorem qfY {N:Nat} (hN:1000<N) {a b:List (List Int)} (ha: ∀x∈a,x.length<=300) (hl:a.length<=300) (hab:a.length=b.length): ∀(K i:Nat),i<=a.length->a.length<K+i->kC N a b K (i:Int)=some (if a.drop i=b.drop i then .inl ()else .inr false)
 |0,i,h,hK=>by omega
 |K+1,i,h,hK=>by
  unfold kC
  by_cases hi:i<a.length
  ·have hb:i<b.length:=by omega
   have hx:=ha _ (List.getElem_mem hi)
   rw[if_pos (by omega),qo,Ya hi,qo,Ya hb,ZB,ZB,qaJ (by omega) (by omega),ZB,YG hi,YG hb]
   by_cases c:a[i]=b[i]
   ·rw[decide_eq_true c,if_neg (by decide),qY (by omega),qfY hN ha hl hab K (i+1) (by omega) (by omega),c]
    simp only[List.cons.injEq,true_and]
   rw[decide_eq_false c,if_pos (by decide),if_neg (fun h=>c (List.cons.inj h).1)]
  rw[if_neg (by omega),List.drop_eq_nil_of_le (by omega),List.drop_eq_nil_of_le (by omega),if_pos rfl]
theorem qhG {N:Nat} (hN:1000<N) {a b:List (List Int)} (ha: ∀x∈a,x.length<=300) (hl:a.length<=300):jS N a b=some (decide (a=b)):=by
 unfold jS
 by_cases c:(a.length:Int)=(b.length:Int)
 ·have:=qfY hN ha hl (b:=b) (by omega) N 0 (by omega) (by omega)
  rw[show((0:Nat):Int)=0 from rfl,YR,YR]at this
  rw[decide_eq_true c,if_neg (by decide),this]
  by_cases e:a=b
  ·rw[if_pos e,decide_eq_true e];rfl
  rw[if_neg e,decide_eq_false e];rfl
 rw[decide_eq_false c,if_pos (by decide),decide_eq_false (fun e=>c (by rw[e]))]
theorem qiO {N:Nat} (hN:1000<N) {a b:List (List Int)} (ha: ∀x∈a,x.length<=300) (hl:a.length<=300) (hab:a.length=b.length): ∀(K i:Nat),i<=a.length->a.length<K+i->qp N a b K (i:Int)=some (if a.drop i=b.drop i then .inl ()else .inr false)
 |0,i,h,hK=>by omega
 |K+1,i,h,hK=>by
  unfold qp
  by_cases hi:i<a.length
  ·have hb:i<b.length:=by omega
   have hx:=ha _ (List.getElem_mem hi)
   rw[if_pos (by omega),qo,Ya hi,qo,Ya hb,ZB,ZB,qgq (by omega) (by omega),ZB,YG hi,YG hb]
   by_cases c:a[i]=b[i]
   ·rw[decide_eq_true c,if_neg (by decide),qY (by omega),qiO hN ha hl hab K (i+1) (by omega) (by omega),c]
    simp only[List.cons.injEq,true_and]
   rw[decide_eq_false c,if_pos (by decide),if_neg (fun h=>c (List.cons.inj h).1)]
  rw[if_neg (by omega),List.drop_eq_nil_of_le (by omega),List.drop_eq_nil_of_le (by omega),if_pos rfl]
theorem qju {N:Nat} (hN:1000<N) {a b:List (List Int)} (ha: ∀x∈a,x.length<=300) (hl:a.length<=300):kD N a b=some (decide (a=b)):=by
 unfold kD
 by_cases c:(a.length:Int)=(b.length:Int)
 ·have:=qiO hN ha hl (b:=b) (by omega) N 0 (by omega) (by omega)
  rw[show((0:Nat):Int)=0 from rfl,YR,YR]at this
  rw[decide_eq_true c,if_neg (by decide),this]
  by_cases e:a=b
  ·rw[if_pos e,decide_eq_true e];rfl
  rw[if_neg e,decide_eq_false e];rfl
 rw[decide_eq_false c,if_pos (by decide),decide_eq_false (fun e=>c (by rw[e]))]
theorem qdm {N:Nat} (hN:1000<N) {f:zx} (h1:f.Factors.length<=300) (h2: ∀x∈f.Factors,x.length<=300) (g:zx): ∃b,jT N f g=some b/\jE N f g=some b/\(f=g->b=true):=by
 unfold jT jE
 by_cases c:f.Half=g.Half
 ·refine⟨decide (f.Factors=g.Factors),?_,?_,fun e=>decide_eq_true (by rw[e])⟩
  ·rw[if_pos c,qju hN h2 h1];rfl
  rw[if_pos c,qhG hN h2 h1];rfl
 refine⟨false,by rw[if_neg c];rfl,by rw[if_neg c];rfl,fun e=>absurd (by rw[e]) c⟩
theorem qeu {N:Nat} (hN:1000<N) {f:zx} (h1:f.Factors.length<=300) (h2: ∀x∈f.Factors,x.length<=300):jO N f 0 0 f=some true:=by
 obtain⟨b,_,b2,b3⟩:=qdm hN h1 h2 f
 unfold jO qaO
 rw[if_neg (by decide),if_pos rfl,ZB,b2,b3 rfl]
 rfl
theorem qhJ {N:Nat} {e:Int} (h:e≠0) (g:zx):jO N ⟨0,[]⟩ e e g=some true:=by
 unfold jO
 rw[if_pos (by simp[h]),if_pos rfl,if_pos (show((([]:List (List Int)).length:Nat):Int)=0 from rfl),decide_eq_true rfl]
 rfl
theorem qbG {N:Nat} (hN:100000<N) (n:Int) (a b:List Int):vH N n a b=some true:=by
 unfold vH awk
 simp only[ZB,Bool.not_true,ZF,if_false]
 by_cases hA:(a.length:Int)>220
 ·rw[if_pos hA];rfl
 by_cases hB:(b.length:Int)>220
 ·rw[if_neg hA,decide_eq_true hB];rfl
 rw[if_neg hA,decide_eq_false hB]
 simp only[ZB,ZF,if_false]
 have lf: ∀x y:Int,vV N [x,y]=some (qbY [x,y]):=fun x y=>qgw (by simp) (by simp;omega)
 have bf: ∀x y:Int,jg N [x,y]=some (qbY [x,y]):=fun x y=>qgi (by simp) (by simp;omega)
 have rA:=qcq (N:=N) (by omega) (n:=n) (w:=a) (by omega)
 have rB:=qcq (N:=N) (by omega) (n:=n) (w:=b) (by omega)
 have cA:=qdw (N:=N) (by omega) (n:=n) (w:=a) (by omega)
 have cB:=qdw (N:=N) (by omega) (n:=n) (w:=b) (by omega)
 unfold yN xy vR xm xw
 simp only[rA,rB,cA,cB,ZB,lf,bf]
 have nob: ∀e:Int,e≠0->(!decide (e=0))=true:=fun e h=>by simp[h]
 by_cases zA:qeA n a=0
 ·obtain⟨k,rfl,W⟩:=qfU zA
  simp only[zA,qi6,qjd,decide_true,Bool.not_true,ZF,if_false,if_true]
  by_cases s1:(k:Int)>6
  ·rw[if_pos s1];rfl
  by_cases s2:(a.length:Int)>14
  ·rw[if_neg s1,if_pos s2];rfl
  rw[if_neg s1,if_neg s2]
  obtain⟨f,f1,f2,f3,f4⟩:=qbU hN (n:=k) (by omega) W (by omega)
  by_cases zB:qeA (k:Int) b=0
  ·simp only[zB,if_true,ZB,decide_true,Bool.not_true,ZF,if_false]
   by_cases s3:(b.length:Int)>14
   ·rw[decide_eq_true s3];rfl
   obtain⟨k',e,W2⟩:=qfU zB
   obtain rfl:k=k':=by omega
   obtain⟨g,g1,g2,g3,g4⟩:=qbU hN (n:=k) (by omega) W2 (by omega)
   obtain⟨c,c1,c2,_⟩:=qdm (N:=N) (by omega) f3 f4 g
   rw[decide_eq_false s3,f1,g1,f2,g2]
   simp only[ZB,ZF,if_false,c1,c2,qeu (N:=N) (by omega) f3 f4,Bool.not_true]
   unfold vD
   simp
  simp only[if_neg zB,ZB,ZF,if_false,nob _ zB,if_true,f1,f2,qeu (N:=N) (by omega) f3 f4,Bool.not_true]
  unfold vD
  simp[zB]
 simp only[if_neg zA,qhf zA,ZB,ZF,if_false,nob _ zA,if_true,qhJ zA,Bool.not_true]
 unfold vD
 simp[zA]
end Go.Av
end
