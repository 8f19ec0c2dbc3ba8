/-
  Words of crossings: what the program and the reference make of them, and the law of words.
-/
import Derived.Test.YtmffnhniejfgpaaGreatDoorQGenB
import Derived.Test.YtmffnhniejfgpaaGreatDoorAvPt
noncomputable section
set_option linter.unusedVariables false
set_option linter.unusedSimpArgs false
set_option maxRecDepth 100000
set_option linter.unusedSectionVars false
section
namespace Go.Av
def zF (n c:Int):Bool:=decide (c≠0)&&decide (-n<c)&&decide (c<n)
def qa1 (n:Int) (w:List Int):Int:=if n<1\/12<n then 3 else if 200<w.length then 5 else if w.all (zF n)=true then 0 else 3
theorem letter_eq {n:Int} (h1:1<=n) (h2:n<=12) (c:Int):jo n c=some (zF n c):=by
 unfold jo zF
 have hw:w64 (0-n)= -n:=by rw[jy (by omega) (by omega)];omega
 rw[hw]
 by_cases a:c=0
 ·simp[a]
 by_cases b: -n<c
 ·simp[a,b]
 simp[a,b]
theorem qbS {n:Int} (h1:1<=n) (h2:n<=12) (c:Int):qF n c=some (!zF n c):=by
 unfold qF zF
 have hw:w64 (0-n)= -n:=by rw[jy (by omega) (by omega)];omega
 rw[hw]
 by_cases a:c=0
 ·simp[a]
 by_cases b: -n<c
 ·rw[if_neg a,if_neg (by omega)]
  by_cases d:c<n
  ·simp[a,b,d]
  simp[a,b,d];omega
 rw[if_neg a,if_pos (by omega)]
 simp[a,b]
theorem qcR {n:Int} {w:List Int} {i:Nat} (h:i<w.length):(w.drop i).all (zF n)=(zF n w[i]&&(w.drop (i+1)).all (zF n)):=by
 rw[YG h,List.all_cons]
theorem qfN {n:Int} (h1:1<=n) (h2:n<=12) {w:List Int} (hl:w.length<=300): ∀(K i:Nat),i<=w.length->w.length<K+i->kw n w K (i:Int)=some (if(w.drop i).all (zF n)=true then .inl ()else .inr 3)
 |0,i,h,hK=>by omega
 |K+1,i,h,hK=>by
  unfold kw
  by_cases hi:i<w.length
  ·rw[if_pos (by omega),zn,Ya hi,ZB,letter_eq h1 h2,ZB,qcR hi]
   cases c:zF n w[i]with
   |false=>rfl
   |true=>
    rw[if_neg (by decide),jZ (by omega),qfN h1 h2 hl K (i+1) (by omega) (by omega),Bool.true_and]
  rw[if_neg (by omega),List.drop_eq_nil_of_le (by omega)]
  rfl
theorem qbw {N:Nat} (hN:2000<N) {n:Int} {w:List Int} (hl:w.length<=300):zz N n w=some (qa1 n w):=by
 unfold zz qa1
 by_cases a:n<1
 ·rw[if_pos a,ZB,if_pos rfl,if_pos (.inl a)]
 by_cases b:12<n
 ·rw[if_neg a,decide_eq_true (by omega),ZB,if_pos rfl,if_pos (.inr b)]
 rw[if_neg a,decide_eq_false (by omega),ZB,if_neg (by decide),if_neg (show¬(n<1\/12<n)by omega)]
 by_cases c:200<w.length
 ·rw[if_pos (by omega),if_pos c]
 rw[if_neg (by omega),if_neg c,show(0:Int)=((0:Nat):Int)from rfl,qfN (by omega) (by omega) hl N 0 (by omega) (by omega),YR]
 cases w.all (zF n)<;>rfl
theorem qgg {n:Int} (h1:1<=n) (h2:n<=12) {w:List Int} (hl:w.length<=300): ∀(K i:Nat),i<=w.length->w.length<K+i->((w.drop i).all (zF n)=true/\qx w n K (i:Int)=some (.inl ()))\/((w.drop i).all (zF n)=false/\ ∃j:Nat,qx w n K (i:Int)=some (.inr (j:Int)))
 |0,i,h,hK=>by omega
 |K+1,i,h,hK=>by
  unfold qx zy
  by_cases hi:i<w.length
  ·rw[if_pos (by omega),zn,Ya hi,ZB,qbS h1 h2,ZB,ZB,qcR hi]
   cases c:zF n w[i]with
   |false=>exact .inr ⟨rfl,i,rfl⟩
   |true=>
    rw[if_neg (by decide),jZ (by omega),Bool.true_and]
    exact qgg h1 h2 hl K (i+1) (by omega) (by omega)
  rw[if_neg (by omega),List.drop_eq_nil_of_le (by omega)]
  exact .inl ⟨rfl,rfl⟩
theorem qei {N:Nat} (hN:10<N) (a b:Int):qd N [a,b]=some (if a=0 then b else a):=by
 obtain⟨K,rfl⟩: ∃K,N=K+1+1+1:=⟨N-3,by omega⟩
 have w1:w64 1=1:=rfl
 have w2:w64 2=2:=rfl
 have i0: ∀a b:Int,idx [a,b] 0=some a:=fun _ _=>rfl
 have i1: ∀a b:Int,idx [a,b] 1=some b:=fun _ _=>rfl
 unfold qd
 by_cases ha:a=0
 ·by_cases hb:b=0
  ·simp[qY,i0,i1,ha,hb,w1,w2]
  simp[qY,i0,i1,ha,hb,w1,w2]
 simp[qY,i0,ha]
theorem jh (b:Bool) (e:Int):qb b e=some (if b=true then e else 0):=by
 unfold qb
 cases b<;>rfl
theorem qb2 {N:Nat} (hN:2000<N) {n:Int} {w:List Int} (hl:w.length<=300):zl N n w=some (qa1 n w):=by
 unfold zl zJ qa1
 by_cases a:n<1\/12<n
 ·have:(Option.bind (if n<1 then(qb true 3).bind fun r2=>some r2 else(qb (decide (n>12)) 3).bind fun r3=>some r3:Option Int) fun n4=>some n4)=some 3:=by
   by_cases b:n<1
   ·rw[if_pos b];rfl
   rw[if_neg b,decide_eq_true (by omega)];rfl
  rw[this,ZB,jh,ZB,qei (by omega),if_neg (by decide),ZB,if_pos (by decide),if_pos a]
 have:(Option.bind (if n<1 then(qb true 3).bind fun r2=>some r2 else(qb (decide (n>12)) 3).bind fun r3=>some r3:Option Int) fun n4=>some n4)=some 0:=by
  rw[if_neg (by omega),decide_eq_false (by omega)];rfl
 rw[this,ZB,jh,ZB,qei (by omega),if_pos rfl,ZB,if_neg a]
 by_cases c:200<w.length
 ·rw[decide_eq_true (show(w.length:Int)>200 by omega),if_pos rfl,if_pos (by decide),if_pos c]
 rw[decide_eq_false (show¬(w.length:Int)>200 by omega),if_neg Bool.false_ne_true,if_neg (show¬(!decide ((0:Int)=0))=true by decide),if_neg c]
 unfold kK zg
 rcases qgg (n:=n) (by omega) (by omega) hl N 0 (by omega) (by omega)with⟨g1,g2⟩|⟨g1,j,g2⟩<;>rw[show((0:Nat):Int)=0 from rfl]at g2
 ·rw[g2,<-YR (l:=w),g1]
  rfl
 rw[g2,<-YR (l:=w),g1]
 simp only[ZB]
 rw[decide_eq_true (show(j:Int)>=0 by omega),jh]
 rfl
structure qhk (n:Nat) (w:List Int):Prop where
 n1:1<=n
 n2:n<=12
 len:w.length<=200
 let_: ∀c∈w,c≠0/\ -(n:Int)<c/\c<n
theorem qgG {n:Int} {w:List Int} (h:qa1 n w=0): ∃k:Nat,n=k/\qhk k w:=by
 unfold qa1 at h
 split at h
 ·omega
 rename_i a
 split at h
 ·omega
 rename_i b
 split at h
 ·rename_i c
  refine⟨n.toNat,by omega,by omega,by omega,by omega,fun x hx=>?_⟩
  have:=Yp.1 c x hx
  simp only[zF,Bool.and_eq_true,decide_eq_true_eq]at this
  omega
 omega
theorem qge {a:List Int} (hl:a.length<=100000): ∀(K i:Nat),i<=a.length->a.length<K+i->qQ a a K (i:Int)=some (.inl ())
 |0,i,h,hK=>by omega
 |K+1,i,h,hK=>by
  unfold qQ
  by_cases hi:i<a.length
  ·rw[if_pos (by omega),zn,Ya hi,ZB,ZB,if_neg (by simp),jZ (by omega)]
   exact qge hl K (i+1) (by omega) (by omega)
  rw[if_neg (by omega)]
theorem qcd {N:Nat} {a:List Int} (hN:a.length<N) (hl:a.length<=100000):jI N a 0 0 a=some true:=by
 unfold jI zx
 rw[if_neg (by decide),if_pos rfl,if_neg (by simp),show(0:Int)=((0:Nat):Int)from rfl,qge hl N 0 (by omega) (by omega)]
 rfl
theorem qaB {N:Nat} {e:Int} (h:e≠0) (l:List Int):jI N [] e e l=some true:=by
 unfold jI
 rw[if_pos (by simp[h]),if_pos (show((([]:List Int).length:Nat):Int)=0 from rfl),decide_eq_true rfl]
 rfl
theorem qaK {x:Int} (h:x≠0):zh x=zi x:=by
 unfold zh zi
 by_cases a:x<0
 ·rw[if_pos a,if_pos (show x<1 by omega),if_neg (by omega)]
 rw[if_neg a,if_neg (show¬x<1 by omega),if_pos (by decide)]
theorem qbq (x:Int):zi x=some (if x<0 then-1 else 1):=by
 unfold zi
 split<;>rfl
end Go.Av
end
section
namespace Go.Av
theorem yP {c:Int} (h: -1000<c/\c<1000):zf c=some ((c.natAbs:Nat):Int):=by
 unfold zf
 rw[jy (by omega) (by omega)]
 by_cases a:0-c>c
 ·rw[if_pos a];congr 1;omega
 rw[if_neg a];congr 1;omega
theorem yc {c:Int} (h: -1000<c/\c<1000):kL c=some ((c.natAbs:Nat):Int):=by
 unfold kL
 rw[jy (by omega) (by omega)]
 by_cases a:0-c>c
 ·rw[if_pos a];congr 1;omega
 rw[if_neg a];congr 1;omega
structure PInv (n:Nat) (row p:List Int):Prop where
 rl:row.length=n
 pl:p.length=n
 at_: ∀k,k<n-> ∃v:Nat,v<n/\row[k]? =some (v:Int)/\p[v]? =some (k:Int)
 all: ∀v,v<n-> ∃k,k<n/\row[k]? =some (v:Int)
theorem PInv.back {n:Nat} {row p:List Int} (h:PInv n row p) {k v:Nat} (hk:k<n) (e:row[k]? =some (v:Int)):v<n/\p[v]? =some (k:Int):=by
 obtain⟨u,hu,e1,e2⟩:=h.at_ k hk
 rw[e]at e1
 have:v=u:=by have:=Ye e1;omega
 subst this
 exact⟨hu,e2⟩
theorem PInv.inj {n:Nat} {row p:List Int} (h:PInv n row p) {k k' v:Nat} (hk:k<n) (hk':k'<n) (e:row[k]? =some (v:Int)) (e':row[k']? =some (v:Int)):k=k':=by
 have h1:=(h.back hk e).2
 have h2:=(h.back hk' e').2
 rw[h1]at h2
 have:=Ye h2
 omega
end Go.Av
end
section
namespace Go.Av
theorem qdJ (w:List Int):jB w=some (if 200<w.length then([],5)else(w,0)):=by
 unfold jB
 by_cases c:200<w.length
 ·rw[if_pos (by omega),if_pos c]
 rw[if_neg (by omega),if_neg c]
end Go.Av
end
section
namespace Go.Av
def xe (l:List Int):Int:=(l.find? fun x=>!decide (x=0)).getD 0
theorem qcW {l:List Int} (hl:l.length<=100): ∀(K i:Nat),i<=l.length->l.length<K+i->qY l K (i:Int)=some (match(l.drop i).find? (fun x=>!decide (x=0))with|some x=> .inr x|none=> .inl ())
 |0,i,h,hK=>by omega
 |K+1,i,h,hK=>by
  unfold qY
  by_cases hi:i<l.length
  ·rw[if_pos (by omega),zn,Ya hi,ZB,YG hi,List.find?_cons]
   by_cases c:l[i]=0
   ·rw[if_neg (by simp[c]),jZ (by omega),qcW hl K (i+1) (by omega) (by omega)]
    simp[c]
   rw[if_pos (by simp[c])]
   simp[c]
  rw[if_neg (by omega),List.drop_eq_nil_of_le (by omega)]
  rfl
theorem vP {N:Nat} {l:List Int} (hl:l.length<=100) (hN:l.length<N):qd N l=some (xe l):=by
 unfold qd xe
 have:=qcW hl N 0 (by omega) (by omega)
 rw[YR,show((0:Nat):Int)=0 from rfl]at this
 rw[this]
 cases l.find? (fun x=>!decide (x=0))<;>rfl
theorem qdk {l:List Int} (hl:l.length<=100): ∀(K i:Nat),i<=l.length->l.length<K+i->zw l K (i:Int)=some (match(l.drop i).find? (fun x=>!decide (x=0))with|some x=> .inr x|none=> .inl ())
 |0,i,h,hK=>by omega
 |K+1,i,h,hK=>by
  unfold zw
  by_cases hi:i<l.length
  ·rw[if_pos (by omega),zn,Ya hi,ZB,YG hi,List.find?_cons]
   by_cases c:l[i]=0
   ·rw[if_neg (by simp[c]),jZ (by omega),qdk hl K (i+1) (by omega) (by omega)]
    simp[c]
   rw[if_pos (by simp[c])]
   simp[c]
  rw[if_neg (by omega),List.drop_eq_nil_of_le (by omega)]
  rfl
theorem qeR {N:Nat} {l:List Int} (hl:l.length<=100) (hN:l.length<N):jd N l=some (xe l):=by
 unfold jd xe
 have:=qdk hl N 0 (by omega) (by omega)
 rw[YR,show((0:Nat):Int)=0 from rfl]at this
 rw[this]
 cases l.find? (fun x=>!decide (x=0))<;>rfl
theorem vU (l:List Int):xe (0::l)=xe l:=by simp[xe]
theorem yG {x:Int} (h:x≠0) (l:List Int):xe (x::l)=x:=by simp[xe,h]
theorem qan (x:Int):xe [x]=x:=by
 by_cases h:x=0
 ·subst h;rfl
 exact yG h []
theorem qda (b:Bool) (e:Int):j4 b e=some (if b=true then e else 0):=by
 unfold j4
 cases b<;>rfl
theorem qa8 {w xs:List Int} {i j:Nat} (h1:i<=j) (h2:j<=w.length) (hl:w.length<=100000):qcv w xs (i:Int) (j:Int)=some (w.take i++xs++w.drop j):=by
 unfold qcv
 rw[if_pos ⟨by omega,by omega,by omega,hl⟩]
 simp
theorem xk {a b:List Int} (h:a.length+b.length<=100000):jv a b=some (a++b):=by
 unfold jv
 rw[qd7 (by simp only[List.length_nil];omega) (by simp only[List.length_nil];omega),ZB,List.nil_append,qd7 (by omega) (by omega),ZB]
theorem zV {n c:Int}:zF n c=true↔c≠0/\ -n<c/\c<n:=by
 unfold zF
 simp only[Bool.and_eq_true,decide_eq_true_eq]
 constructor
 ·rintro⟨⟨a,b⟩,c⟩
  exact⟨a,b,c⟩
 rintro⟨a,b,c⟩
 exact⟨⟨a,b⟩,c⟩
def qcz (n:Int) (w:List Int) (r:List Int×Int):Prop:=(r.2≠0->r.1=[])/\(r.2=0->r.1.length<=w.length+2/\ ∀c∈r.1,zF n c=true)
theorem qcz.bad {n:Int} {w:List Int} {e:Int} (h:e≠0):qcz n w ([],e):=⟨fun _=>rfl,fun g=>absurd g h⟩
theorem qcz.good {n:Int} {w xs:List Int} {i j:Nat} (hw: ∀c∈w,zF n c=true) (hx: ∀c∈xs,zF n c=true) (h1:i<=j) (h2:j<=w.length) (hl:xs.length<=j-i+2):qcz n w (w.take i++xs++w.drop j,0):=by
 refine⟨fun h=>absurd rfl h,fun _=>⟨?_,fun c hc=>?_⟩⟩
 ·simp only[Yq,List.length_take,YJ]
  omega
 rcases List.mem_append.1 hc with hc|hc
 ·rcases List.mem_append.1 hc with hc|hc
  ·exact hw c (List.mem_of_mem_take hc)
  exact hx c hc
 exact hw c (List.mem_of_mem_drop hc)
theorem vX {w:List Int} (h:w.length<=100000):yS w=some ():=by
 unfold yS
 rw[if_pos (by omega)]
theorem qdG {w:List Int} {i j:Nat} (h1:i<=j) (h2:j<=w.length):cut w (i:Int) (j:Int)=some ((w.drop i).take (j-i)):=by
 unfold cut
 rw[if_pos ⟨by omega,by omega,by omega⟩]
 simp
theorem qay (at_:Int) (L k:Nat) (hL:L<=1000) (hk:k<=10):(at_<0/\True)\/(¬at_<0/\at_>w64 ((L:Int)-k))\/(¬at_<0/\ ¬at_>w64 ((L:Int)-k)/\ ∃i:Nat,at_=i/\i+k<=L):=by
 rw[jy (by omega) (by omega)]
 by_cases a:at_<0
 ·exact .inl ⟨a,trivial⟩
 by_cases b:at_>(L:Int)-k
 ·exact .inr (.inl ⟨a,b⟩)
 exact .inr (.inr ⟨a,b,at_.toNat,by omega,by omega⟩)
theorem qem {w:List Int} {i:Nat} {x y:Int} (hx:w[i]? =some x) (hy:w[i+1]? =some y):cut w (i:Int) ((i+2:Nat):Int)=some [x,y]:=by
 obtain⟨h1,e1⟩:=Yb.1 hx
 obtain⟨h2,e2⟩:=Yb.1 hy
 rw[qdG (by omega) (by omega),show i+2-i=2 by omega,YG h1,YG h2,e1,e2]
 rfl
theorem qgL {w:List Int} {i:Nat} {x y z:Int} (hx:w[i]? =some x) (hy:w[i+1]? =some y) (hz:w[i+2]? =some z):cut w (i:Int) ((i+3:Nat):Int)=some [x,y,z]:=by
 obtain⟨h1,e1⟩:=Yb.1 hx
 obtain⟨h2,e2⟩:=Yb.1 hy
 obtain⟨h3,e3⟩:=Yb.1 hz
 rw[qdG (by omega) (by omega),show i+3-i=3 by omega,YG h1,YG h2,YG h3,e1,e2,e3]
 rfl
theorem qeS {n x y z:Int} (bx:x≠0/\ -n<x/\x<n) (by_:y≠0/\ -n<y/\y<n) (bz:z≠0/\ -n<z/\z<n) (h2:n<=12) (A:Int):
 ∃r:List Int×Bool,vz [x,y,z]=some r.2/\vT x y z=some r/\True/\(r.2=true->zQ [x,y,z] [116,117,114,110] A 0=some r.1/\r.1.length=3/\ ∀c∈r.1,c≠0/\ -n<c/\c<n):=by
 have k0:idx [x,y,z] 0=some x:=rfl
 have k1:idx [x,y,z] 1=some y:=rfl
 have k2:idx [x,y,z] 2=some z:=rfl
 have ax:=yP (show-1000<x/\x<1000 by omega)
 have ay:=yP (show-1000<y/\y<1000 by omega)
 have az:=yP (show-1000<z/\z<1000 by omega)
 have sx:=yc (show-1000<x/\x<1000 by omega)
 have sy:=yc (show-1000<y/\y<1000 by omega)
 have sz:=yc (show-1000<z/\z<1000 by omega)
 have e0:w64 (((x.natAbs:Nat):Int)-((y.natAbs:Nat):Int))=(x.natAbs:Int)-(y.natAbs:Int):=jy (by omega) (by omega)
 have ad:=yP (show-1000<(x.natAbs:Int)-(y.natAbs:Int)/\(x.natAbs:Int)-(y.natAbs:Int)<1000 by omega)
 have sd:=yc (show-1000<(x.natAbs:Int)-(y.natAbs:Int)/\(x.natAbs:Int)-(y.natAbs:Int)<1000 by omega)
 have gx:=qbq x
 have gy:=qbq y
 have gz:=qbq z
 have hx:=qaK bx.1
 have hy:=qaK by_.1
 have hz:=qaK bz.1
 rw[gx]at hx
 rw[gy]at hy
 rw[gz]at hz
 unfold vz vT zQ
 simp only[k0,k1,k2,ZB,ax,ay,az,sx,sy,sz,e0,ad,sd,gx,gy,gz,hx,hy,hz]
 by_cases c1:((x.natAbs:Nat):Int)=((z.natAbs:Nat):Int)
 ·by_cases c2:((((x.natAbs:Int)-(y.natAbs:Int)).natAbs:Nat):Int)=1
  ·simp only[if_pos c1,if_pos c2,decide_eq_true c1,decide_eq_true c2,Bool.not_true,ZF,if_false,ZB]
   generalize hX:(if x<0 then(-1:Int)else 1)=X at*
   generalize hY:(if y<0 then(-1:Int)else 1)=Y at*
   generalize hZ:(if z<0 then(-1:Int)else 1)=Z at*
   have rX:X= -1\/X=1:=by rw[<-hX];split<;>omega
   have rZ:Z= -1\/Z=1:=by rw[<-hZ];split<;>omega
   have wZ:w64 (Z*(y.natAbs:Int))=Z*(y.natAbs:Int):=by rcases rZ with rfl|rfl<;>exact jy (by omega) (by omega)
   have wX:w64 (X*(y.natAbs:Int))=X*(y.natAbs:Int):=by rcases rX with rfl|rfl<;>exact jy (by omega) (by omega)
   by_cases d1:X=Y
   ·simp only[if_pos d1,ZB]
    refine⟨([w64 (Z*(y.natAbs:Int)),x,y],true),rfl,rfl,trivial,fun _=>⟨rfl,rfl,fun c hc=>?_⟩⟩
    simp only[wZ]at hc
    simp only[List.mem_cons,List.not_mem_nil,or_false]at hc
    rcases hc with rfl|rfl|rfl
    ·rcases rZ with rfl|rfl<;>omega
    ·exact bx
    exact by_
   by_cases d2:Y=Z
   ·simp only[if_neg d1,if_pos d2,decide_eq_true d2,ZB]
    refine⟨([y,z,w64 (X*(y.natAbs:Int))],true),rfl,rfl,trivial,fun _=>⟨rfl,rfl,fun c hc=>?_⟩⟩
    simp only[wX]at hc
    simp only[List.mem_cons,List.not_mem_nil,or_false]at hc
    rcases hc with rfl|rfl|rfl
    ·exact by_
    ·exact bz
    rcases rX with rfl|rfl<;>omega
   simp only[if_neg d1,if_neg d2,decide_eq_false d2,ZB]
   exact⟨([],false),rfl,rfl,trivial,fun h=>by cases h⟩
  simp only[if_pos c1,decide_eq_true c1,if_neg c2,decide_eq_false c2,Bool.not_true,Bool.not_false,ZF,if_false,if_true,ZB]
  exact⟨([],false),rfl,rfl,trivial,fun h=>by cases h⟩
 simp only[if_neg c1,decide_eq_false c1,Bool.not_false,if_true,ZB]
 exact⟨([],false),rfl,rfl,trivial,fun h=>by cases h⟩
section
variable {N:Nat} (hN:2000<N) {n:Int} (h1:1<=n) (h2:n<=12) {w:List Int} (hw:w.length<=400) (hv: ∀c∈w,zF n c=true) {m:qW}
include hN h1 h2 hw hv
theorem qgT (hk:m.Kind=[105,110,115,101,114,116]): ∃r,ky N n w m=some r/\zC n w m=some r/\qcz n w r:=by
 obtain⟨K,A,L⟩:=m
 obtain rfl:=hk
 unfold ky zC zI je
 simp only[beq_self_eq_true,if_true,ZB,Bool.not_true,ZF,if_false,jh,qbS h1 h2,letter_eq h1 h2,Bool.not_not,show¬((0:Int)<0)by omega,show¬((0:Int)>0)by omega]
 have bf: ∀a b c d:Int,qd N [a,b,c,d]=some (xe [a,b,c,d]):=fun a b c d=>vP (by simp) (by simp;omega)
 simp only[bf,ZB]
 cases hL:zF n L with
 |false=>
  simp only[Bool.not_false,if_true,vU,yG (show(3:Int)≠0 by decide),ZB]
  have e: ∀x:Int,(Option.bind (if A<0 then some ((0:Int),(0:Int),(3:Int),(3:Int),(3:Int))else some (0,0,3,x,3)) fun y:Int×Int×Int×Int×Int=>(some y.2.2.2.2))=some 3:=fun x=>by split<;>rfl
  by_cases a:A<0
  ·simp only[if_pos a,ZB]
   exact⟨([],3),rfl,rfl,.bad (by decide)⟩
  simp only[if_neg a,ZB]
  exact⟨([],3),rfl,rfl,.bad (by decide)⟩
 |true=>
  simp only[Bool.not_true,ZF,if_false,vU,qan,ZB]
  rcases qay A w.length 0 (by omega) (by omega)with⟨a,_⟩|⟨a,b⟩|⟨a,b,i,rfl,hi⟩
  ·simp only[if_pos a,ZB,if_true]
   exact⟨([],3),rfl,rfl,.bad (by decide)⟩
  ·have b:decide (A>w64 ((w.length:Int)-0))=true:=decide_eq_true b
   simp only[if_neg a,ZB,b,if_true]
   exact⟨([],3),rfl,rfl,.bad (by decide)⟩
  have b:decide ((i:Int)>w64 ((w.length:Int)-0))=false:=decide_eq_false b
  have z:w64 ((i:Int)+0)=(i:Int):=by rw[jy (by omega) (by omega)];omega
  have wL:w64 (0-L)= -L:=by have:=zV.1 hL;rw[jy (by omega) (by omega)];omega
  simp only[if_neg a,ZB,b,ZF,if_false,decide_true,Bool.not_true,z]
  have c1:=qdG (w:=w) (i:=i) (j:=i) (Nat.le_refl _) (by omega)
  have c2:=qaw (l:=w) (k:=i) (by omega)
  have c3:=qaI (l:=w) (k:=i) (by omega)
  have r2:qaV w (i:Int) (i:Int) L (-L)=some (w.take i++[L,-L]++w.drop i):=by
   unfold qaV
   rw[if_pos (.inl rfl),qa8 (Nat.le_refl _) (by omega) (by omega)]
  rw[c1,c2,c3]
  simp only[ZB,jQ,vX (show w.length<=100000 by omega),z8,wL,Bool.not_true,ZF,if_false]
  rw[r2,xk (by simp;omega),ZB,ZB,xk (by simp;omega),ZB]
  exact⟨_,rfl,rfl,.good hv (fun c hc=>by
   have:=zV.1 hL
   simp only[List.mem_cons,List.not_mem_nil,or_false]at hc
   rcases hc with rfl|rfl
   ·exact hL
   exact zV.2 (by omega)) (Nat.le_refl _) (by omega) (by simp)⟩
theorem qg9 (hk:m.Kind=[99,97,110,99,101,108]): ∃r,ky N n w m=some r/\zC n w m=some r/\qcz n w r:=by
 obtain⟨K,A,L⟩:=m
 obtain rfl:=hk
 have f1:([99,97,110,99,101,108]==([105,110,115,101,114,116]:Str))=false:=by decide
 have f2:([115,119,97,112]==([105,110,115,101,114,116]:Str))=false:=by decide
 have f3:([115,119,97,112]==([99,97,110,99,101,108]:Str))=false:=by decide
 have f4:([116,117,114,110]==([105,110,115,101,114,116]:Str))=false:=by decide
 have f5:([116,117,114,110]==([99,97,110,99,101,108]:Str))=false:=by decide
 have f6:([116,117,114,110]==([115,119,97,112]:Str))=false:=by decide
 unfold ky zC zI je
 simp only[f1,f2,f3,f4,f5,f6,beq_self_eq_true,if_true,ZB,Bool.not_true,Bool.not_false,ZF,if_false,jh,show¬((2:Int)<0)by omega,show((2:Int)>0)by omega,show¬((2:Int)=0)by omega]
 have bf: ∀a b c d:Int,qd N [a,b,c,d]=some (xe [a,b,c,d]):=fun a b c d=>vP (by simp) (by simp;omega)
 simp only[bf,ZB]
 by_cases hL:L=0
 ·subst hL
  simp only[decide_true,Bool.not_true,ZF,if_false,vU,qan,ZB]
  rcases qay A w.length 2 (by omega) (by omega)with⟨a,_⟩|⟨a,b⟩|⟨a,b,i,rfl,hi⟩
  ·simp only[if_pos a,ZB,if_true]
   exact⟨([],3),rfl,rfl,.bad (by decide)⟩
  ·have b:decide (A>w64 ((w.length:Int)-2))=true:=decide_eq_true b
   simp only[if_neg a,ZB,b,if_true]
   exact⟨([],3),rfl,rfl,.bad (by decide)⟩
  have b:decide ((i:Int)>w64 ((w.length:Int)-2))=false:=decide_eq_false b
  have z:w64 ((i:Int)+2)=((i+2:Nat):Int):=by rw[jy (by omega) (by omega)];rfl
  have z1:w64 ((i:Int)+1)=((i+1:Nat):Int):=jZ (by omega)
  simp only[if_neg a,ZB,b,ZF,if_false,decide_true,Bool.not_true,z,z1]
  obtain⟨x,hx⟩: ∃x,w[i]? =some x:=⟨_,Ya (by omega)⟩
  obtain⟨y,hy⟩: ∃x,w[i+1]? =some x:=⟨_,Ya (by omega)⟩
  rw[qem hx hy,qaw (by omega),qaI (by omega),zn,hx,zn,hy]
  simp only[ZB]
  have k3:jR [x,y]=some (decide (x=w64 (0-y))):=rfl
  rw[k3]
  simp only[ZB]
  by_cases e:x=w64 (0-y)
  ·rw[decide_eq_true e]
   simp only[Bool.not_true,ZF,if_false,vX (show w.length<=100000 by omega),ZB,zZ]
   have r0:qdl w (i:Int) ((i+2:Nat):Int)=some (w.take i++[]++w.drop (i+2)):=by
    unfold qdl
    rw[if_pos (by omega),qa8 (by omega) (by omega) (by omega)]
   rw[r0,xk (by simp;omega),ZB,ZB,xk (by simp;omega),ZB]
   exact⟨_,rfl,rfl,.good hv (fun c hc=>by cases hc) (by omega) (by omega) (by simp)⟩
  rw[decide_eq_false e]
  simp only[Bool.not_false,if_true]
  exact⟨([],18),rfl,rfl,.bad (by decide)⟩
 have d:decide (L=0)=false:=decide_eq_false hL
 simp only[d,Bool.not_false,if_true,vU,yG (show(1:Int)≠0 by decide),ZB]
 by_cases a:A<0
 ·simp only[if_pos a,ZB]
  exact⟨([],1),rfl,rfl,.bad (by decide)⟩
 simp only[if_neg a,ZB]
 exact⟨([],1),rfl,rfl,.bad (by decide)⟩
theorem qgX (hk:m.Kind=[115,119,97,112]): ∃r,ky N n w m=some r/\zC n w m=some r/\qcz n w r:=by
 obtain⟨K,A,L⟩:=m
 obtain rfl:=hk
 have f1:([99,97,110,99,101,108]==([105,110,115,101,114,116]:Str))=false:=by decide
 have f2:([115,119,97,112]==([105,110,115,101,114,116]:Str))=false:=by decide
 have f3:([115,119,97,112]==([99,97,110,99,101,108]:Str))=false:=by decide
 have f4:([116,117,114,110]==([105,110,115,101,114,116]:Str))=false:=by decide
 have f5:([116,117,114,110]==([99,97,110,99,101,108]:Str))=false:=by decide
 have f6:([116,117,114,110]==([115,119,97,112]:Str))=false:=by decide
 unfold ky zC zI je
 simp only[f1,f2,f3,f4,f5,f6,beq_self_eq_true,if_true,ZB,Bool.not_true,Bool.not_false,ZF,if_false,jh,show¬((2:Int)<0)by omega,show((2:Int)>0)by omega,show¬((2:Int)=0)by omega]
 have bf: ∀a b c d:Int,qd N [a,b,c,d]=some (xe [a,b,c,d]):=fun a b c d=>vP (by simp) (by simp;omega)
 simp only[bf,ZB]
 by_cases hL:L=0
 ·subst hL
  simp only[decide_true,Bool.not_true,ZF,if_false,vU,qan,ZB]
  rcases qay A w.length 2 (by omega) (by omega)with⟨a,_⟩|⟨a,b⟩|⟨a,b,i,rfl,hi⟩
  ·simp only[if_pos a,ZB,if_true]
   exact⟨([],3),rfl,rfl,.bad (by decide)⟩
  ·have b:decide (A>w64 ((w.length:Int)-2))=true:=decide_eq_true b
   simp only[if_neg a,ZB,b,if_true]
   exact⟨([],3),rfl,rfl,.bad (by decide)⟩
  have b:decide ((i:Int)>w64 ((w.length:Int)-2))=false:=decide_eq_false b
  have z:w64 ((i:Int)+2)=((i+2:Nat):Int):=by rw[jy (by omega) (by omega)];rfl
  have z1:w64 ((i:Int)+1)=((i+1:Nat):Int):=jZ (by omega)
  simp only[if_neg a,ZB,b,ZF,if_false,decide_true,Bool.not_true,z,z1]
  obtain⟨x,hx⟩: ∃x,w[i]? =some x:=⟨_,Ya (by omega)⟩
  obtain⟨y,hy⟩: ∃x,w[i+1]? =some x:=⟨_,Ya (by omega)⟩
  have lx:=hv x (Yn hx)
  have ly:=hv y (Yn hy)
  have bx:=zV.1 lx
  have by_:=zV.1 ly
  rw[qem hx hy,qaw (by omega),qaI (by omega),zn,hx,zn,hy]
  simp only[ZB]
  have k0:idx [x,y] 0=some x:=rfl
  have k1:idx [x,y] 1=some y:=rfl
  have e0:w64 (((x.natAbs:Nat):Int)-((y.natAbs:Nat):Int))=(x.natAbs:Int)-(y.natAbs:Int):=jy (by omega) (by omega)
  have k5:ji [x,y]=some (decide (((((x.natAbs:Int)-(y.natAbs:Int)).natAbs:Nat):Int)>=2)):=by
   unfold ji
   simp only[k0,k1,ZB,yP (show-1000<x/\x<1000 by omega),yP (show-1000<y/\y<1000 by omega),e0,yP (show-1000<(x.natAbs:Int)-(y.natAbs:Int)/\(x.natAbs:Int)-(y.natAbs:Int)<1000 by omega)]
  rw[k5]
  simp only[ZB,yc (show-1000<x/\x<1000 by omega),yc (show-1000<y/\y<1000 by omega),e0,yc (show-1000<(x.natAbs:Int)-(y.natAbs:Int)/\(x.natAbs:Int)-(y.natAbs:Int)<1000 by omega)]
  by_cases e:((((x.natAbs:Int)-(y.natAbs:Int)).natAbs:Nat):Int)>=2
  ·rw[decide_eq_true e,if_neg (show¬((((x.natAbs:Int)-(y.natAbs:Int)).natAbs:Nat):Int)<2 by omega)]
   have k6:zY [x,y] [115,119,97,112] (i:Int) 0=some (y,x):=rfl
   simp only[Bool.not_true,ZF,if_false,vX (show w.length<=100000 by omega),ZB,k6]
   have r2:qaV w (i:Int) ((i+2:Nat):Int) y x=some (w.take i++[y,x]++w.drop (i+2)):=by
    unfold qaV
    rw[if_pos (.inr (by omega)),qa8 (by omega) (by omega) (by omega)]
   rw[r2,xk (by simp;omega),ZB,ZB,xk (by simp;omega),ZB]
   exact⟨_,rfl,rfl,.good hv (fun c hc=>by
    simp only[List.mem_cons,List.not_mem_nil,or_false]at hc
    rcases hc with rfl|rfl
    ·exact ly
    exact lx) (by omega) (by omega) (by simp)⟩
  rw[decide_eq_false e,if_pos (show((((x.natAbs:Int)-(y.natAbs:Int)).natAbs:Nat):Int)<2 by omega)]
  simp only[Bool.not_false,if_true]
  exact⟨([],18),rfl,rfl,.bad (by decide)⟩
 have d:decide (L=0)=false:=decide_eq_false hL
 simp only[d,Bool.not_false,if_true,vU,yG (show(1:Int)≠0 by decide),ZB]
 by_cases a:A<0
 ·simp only[if_pos a,ZB]
  exact⟨([],1),rfl,rfl,.bad (by decide)⟩
 simp only[if_neg a,ZB]
 exact⟨([],1),rfl,rfl,.bad (by decide)⟩
theorem qgW (hk:m.Kind=[116,117,114,110]): ∃r,ky N n w m=some r/\zC n w m=some r/\qcz n w r:=by
 obtain⟨K,A,L⟩:=m
 obtain rfl:=hk
 have f1:([99,97,110,99,101,108]==([105,110,115,101,114,116]:Str))=false:=by decide
 have f2:([115,119,97,112]==([105,110,115,101,114,116]:Str))=false:=by decide
 have f3:([115,119,97,112]==([99,97,110,99,101,108]:Str))=false:=by decide
 have f4:([116,117,114,110]==([105,110,115,101,114,116]:Str))=false:=by decide
 have f5:([116,117,114,110]==([99,97,110,99,101,108]:Str))=false:=by decide
 have f6:([116,117,114,110]==([115,119,97,112]:Str))=false:=by decide
 unfold ky zC zI je
 simp only[f1,f2,f3,f4,f5,f6,beq_self_eq_true,if_true,ZB,Bool.not_true,Bool.not_false,ZF,if_false,jh,show¬((3:Int)<0)by omega,show((3:Int)>0)by omega,show¬((3:Int)=0)by omega]
 have bf: ∀a b c d:Int,qd N [a,b,c,d]=some (xe [a,b,c,d]):=fun a b c d=>vP (by simp) (by simp;omega)
 simp only[bf,ZB]
 by_cases hL:L=0
 ·subst hL
  simp only[decide_true,Bool.not_true,ZF,if_false,vU,qan,ZB]
  rcases qay A w.length 3 (by omega) (by omega)with⟨a,_⟩|⟨a,b⟩|⟨a,b,i,rfl,hi⟩
  ·simp only[if_pos a,ZB,if_true]
   exact⟨([],3),rfl,rfl,.bad (by decide)⟩
  ·have b:decide (A>w64 ((w.length:Int)-3))=true:=decide_eq_true b
   simp only[if_neg a,ZB,b,if_true]
   exact⟨([],3),rfl,rfl,.bad (by decide)⟩
  have b:decide ((i:Int)>w64 ((w.length:Int)-3))=false:=decide_eq_false b
  have z:w64 ((i:Int)+3)=((i+3:Nat):Int):=by rw[jy (by omega) (by omega)];rfl
  have z1:w64 ((i:Int)+1)=((i+1:Nat):Int):=jZ (by omega)
  simp only[if_neg a,ZB,b,ZF,if_false,decide_true,Bool.not_true,z,z1]
  obtain⟨x,hx⟩: ∃x,w[i]? =some x:=⟨_,Ya (by omega)⟩
  obtain⟨y,hy⟩: ∃x,w[i+1]? =some x:=⟨_,Ya (by omega)⟩
  obtain⟨v,hz⟩: ∃x,w[i+2]? =some x:=⟨_,Ya (by omega)⟩
  have lx:=hv x (Yn hx)
  have ly:=hv y (Yn hy)
  have lz:=hv v (Yn hz)
  have bx:=zV.1 lx
  have by_:=zV.1 ly
  have bz:=zV.1 lz
  rw[show w64 ((i:Int)+2)=((i+2:Nat):Int)by rw[jy (by omega) (by omega)];rfl,qgL hx hy hz,qaw (by omega),qaI (by omega),zn,hx,zn,hy,zn,hz]
  simp only[ZB]
  obtain⟨r,t1,t2,t3,t4⟩:=qeS bx by_ bz h2 (i:Int)
  rw[t1,t2]
  simp only[ZB]
  cases hr:r.2 with
  |false=>
   simp only[Bool.not_false,if_true]
   exact⟨([],18),rfl,rfl,.bad (by decide)⟩
  |true=>
   obtain⟨t5,t6,t7⟩:=t4 hr
   simp only[Bool.not_true,ZF,if_false,vX (show w.length<=100000 by omega),ZB,t5]
   have r2:qc9 w (i:Int) ((i+3:Nat):Int) r.1=some (w.take i++r.1++w.drop (i+3)):=by
    unfold qc9
    rw[if_pos ⟨by omega,by rw[t6];omega⟩,qa8 (by omega) (by omega) (by omega)]
   rw[r2,xk (by simp[t6];omega),ZB,ZB,xk (by simp[t6];omega),ZB]
   exact⟨_,rfl,rfl,.good hv (fun c hc=>zV.2 (t7 c hc)) (by omega) (by omega) (by rw[t6];omega)⟩
 have d:decide (L=0)=false:=decide_eq_false hL
 simp only[d,Bool.not_false,if_true,vU,yG (show(1:Int)≠0 by decide),ZB]
 by_cases a:A<0
 ·simp only[if_pos a,ZB]
  exact⟨([],1),rfl,rfl,.bad (by decide)⟩
 simp only[if_neg a,ZB]
 exact⟨([],1),rfl,rfl,.bad (by decide)⟩
end
end Go.Av
end
section
namespace Go.Av
theorem qgD {N:Nat} (hN:2000<N) {n:Int} (h1:1<=n) (h2:n<=12) {w:List Int} (hw:w.length<=400) (hv: ∀c∈w,zF n c=true) (m:qW): ∃r,ky N n w m=some r/\zC n w m=some r/\qcz n w r:=by
 by_cases k1:m.Kind=[105,110,115,101,114,116]
 ·exact qgT hN h1 h2 hw hv k1
 by_cases k2:m.Kind=[99,97,110,99,101,108]
 ·exact qg9 hN h1 h2 hw hv k2
 by_cases k3:m.Kind=[115,119,97,112]
 ·exact qgX hN h1 h2 hw hv k3
 by_cases k4:m.Kind=[116,117,114,110]
 ·exact qgW hN h1 h2 hw hv k4
 have f1:(m.Kind==[105,110,115,101,114,116])=false:=by simpa using k1
 have f2:(m.Kind==[99,97,110,99,101,108])=false:=by simpa using k2
 have f3:(m.Kind==[115,119,97,112])=false:=by simpa using k3
 have f4:(m.Kind==[116,117,114,110])=false:=by simpa using k4
 have bf: ∀a b c d:Int,qd N [a,b,c,d]=some (xe [a,b,c,d]):=fun a b c d=>vP (by simp) (by simp;omega)
 unfold ky zC zI je
 simp only[f1,f2,f3,f4,if_true,ZB,Bool.not_true,Bool.not_false,ZF,if_false,jh,bf,yG (show(13:Int)≠0 by decide),show((-1:Int)<0)by omega]
 refine⟨([],13),?_,rfl,.bad (by decide)⟩
 by_cases a:m.At<0
 ·simp only[if_pos a,ZB]
  rfl
 simp only[if_neg a,ZB]
 rfl
structure MdOK (n:Int) (k:Nat) (r:List Int×Int):Prop where
 bad:r.2≠0->r.1=[]
 len:r.2=0->r.1.length<=k
 let_:r.2=0-> ∀c∈r.1,zF n c=true
theorem qex {N:Nat} (hN:2000<N) {n:Int} (h1:1<=n) (h2:n<=12) {l:List qW} (hl:l.length<=30): ∀(K i:Nat) (w:List Int),w.length<=220+2*i->(∀c∈w,zF n c=true)->i<=l.length->l.length+1<K+i->
 ∃r,zt N n l K w (i:Int)=some (if r.2=0 then .inl r.1 else .inr ([],r.2))/\kI n l K w 0 (i:Int)=some r/\MdOK n 300 r
 |0,i,w,hw,hv,hi,hK=>by omega
 |K+1,i,w,hw,hv,hi,hK=>by
  unfold zt kI
  by_cases c:i<l.length
  ·rw[if_pos (by omega),if_pos (by omega),zn,Ya c]
   simp only[ZB,decide_true,if_true]
   obtain⟨r,r1,r2,r3⟩:=qgD hN h1 h2 (w:=w) (by omega) hv l[i]
   rw[r1,r2]
   simp only[ZB]
   rw[jZ (by omega)]
   by_cases e:r.2=0
   ·have g:=r3.2 e
    rw[e,if_neg (by decide)]
    exact qex hN h1 h2 hl K (i+1) r.1 (by omega) g.2 (by omega) (by omega)
   rw[if_pos (by simp[e])]
   obtain⟨K,rfl⟩: ∃k,K=k+1:=⟨K-1,by omega⟩
   unfold kI
   have hr:r.1=[]:=r3.1 e
   have hb:(Option.bind (if((i+1:Nat):Int)<(l.length:Int)then some (decide (r.2=0))else some false:Option Bool) fun b9=>if b9=true then(idx l ((i+1:Nat):Int)).bind fun x12=>(zC n r.1 x12).bind fun r13=>kI n l K r13.1 r13.2 (w64 (((i+1:Nat):Int)+1))else some (r.1,r.2))=some (r.1,r.2):=by
    rw[decide_eq_false e]
    split<;>rfl
   rw[hb]
   refine⟨r,by rw[if_neg e],rfl,⟨fun _=>hr,fun h=>absurd h e,fun h=>absurd h e⟩⟩
  rw[if_neg (by omega),if_neg (by omega)]
  exact⟨(w,0),rfl,rfl,⟨fun h=>absurd rfl h,fun _=>by show w.length<=300;omega,fun _=>hv⟩⟩
theorem qdM {N:Nat} (hN:200000<N) {n:Int} (h1:1<=n) (h2:n<=12) {l:List qW} (hl:l.length<=30\/100000<l.length) {w:List Int} (hw:w.length<=220) (hv: ∀c∈w,zF n c=true):
 ∃r,jO N n w l=some r/\vB N n w l=some r/\MdOK n 300 r:=by
 unfold jO vB
 by_cases c:100000<l.length
 ·rw[if_pos (by omega),if_pos (by omega)]
  exact⟨([],5),rfl,rfl,⟨fun _=>rfl,fun h=>absurd h (by decide),fun h=>absurd h (by decide)⟩⟩
 rw[if_neg (by omega),if_neg (by omega),vX (by omega),ZB]
 obtain⟨r,r1,r2,r3⟩:=qex (N:=N) (by omega) h1 h2 (l:=l) (by omega) N 0 w (by omega) hv (by omega) (by omega)
 rw[show((0:Nat):Int)=0 from rfl]at r1 r2
 rw[r1,r2]
 refine⟨r,?_,rfl,r3⟩
 by_cases e:r.2=0
 ·rw[if_pos e,ZB]
  obtain⟨a,b⟩:=r
  obtain rfl:=e
  rfl
 rw[if_neg e,ZB]
 obtain⟨a,b⟩:=r
 obtain rfl:=r3.bad e
 rfl
theorem qdj {l:List qW} (hl:l.length*32<=140737488355328): ∀(K i:Nat),i<=l.length->l.length<K+i->zq l K (l.take i) (i:Int)=some l
 |0,i,h,hK=>by omega
 |K+1,i,h,hK=>by
  unfold zq
  by_cases hi:i<l.length
  ·rw[if_pos (by omega),zn,Ya hi,ZB,qd7 (by simp only[List.length_take,Yr,List.length_nil];omega) (by simp only[List.length_take,Yr,List.length_nil];omega),ZB,jZ (by omega),<-List.take_succ_eq_append_getElem hi]
   exact qdj hl K (i+1) (by omega) (by omega)
  rw[if_neg (by omega),List.take_of_length_le (by omega)]
theorem qe2 {N:Nat} {l:List qW} (hN:l.length<N) (hl:l.length*32<=140737488355328):jN N l=some l:=by
 unfold jN
 have:=qdj hl N 0 (by omega) (by omega)
 rw[show((0:Nat):Int)=0 from rfl,List.take_zero]at this
 rw[this,ZB]
theorem qeo {l:List qW} (hl:l.length<=200000): ∀(K i:Nat),i<=l.length->l.length<K+i-> ∃r,qX l K (i:Int)=some r/\(r= .inl ()\/r= .inr false)
 |0,i,h,hK=>by omega
 |K+1,i,h,hK=>by
  unfold qX
  by_cases hi:i<l.length
  ·rw[if_pos (by omega),zn,Ya hi,ZB,jZ (by omega)]
   split
   ·exact⟨_,rfl,.inr rfl⟩
   exact qeo hl K (i+1) (by omega) (by omega)
  rw[if_neg (by omega)]
  exact⟨_,rfl,.inl rfl⟩
theorem qfi {N:Nat} {l:List qW} (hN:200000<N): ∃b,zG N l 30=some b/\(b=true->l.length<=30\/(100000<l.length/\l.length<=100002)):=by
 unfold zG
 by_cases a:100002<l.length
 ·refine⟨false,?_,fun h=>by cases h⟩
  by_cases b:(l.length:Int)>30
  ·rw[if_pos b,if_neg (by omega),decide_eq_true (by omega)];rfl
  rw[if_neg b,decide_eq_true (by omega)];rfl
 by_cases c:30<l.length/\l.length<=100000
 ·refine⟨false,?_,fun h=>by cases h⟩
  rw[if_pos (by omega),if_pos (by omega)];rfl
 have e:(if(l.length:Int)>30 then if(l.length:Int)<=100000 then some true else some (decide ((l.length:Int)>100002))else some (decide ((l.length:Int)>100002)):Option Bool)=some false:=by
  by_cases b:(l.length:Int)>30
  ·rw[if_pos b,if_neg (by omega),decide_eq_false (by omega)]
  rw[if_neg b,decide_eq_false (by omega)]
 rw[e,ZB,if_neg (by decide)]
 obtain⟨r,r1,r2⟩:=qeo (l:=l) (by omega) N 0 (by omega) (by omega)
 rw[show((0:Nat):Int)=0 from rfl]at r1
 rw[r1]
 rcases r2 with rfl|rfl
 ·exact⟨true,rfl,fun _=>by omega⟩
 exact⟨false,rfl,fun h=>by cases h⟩
theorem qep {a b:List Int} (hl:a.length<=100000) (hab:a.length=b.length): ∀(K i:Nat),i<=a.length->a.length<K+i->qQ a b K (i:Int)=some (if a.drop i=b.drop i then .inl ()else .inr false)
 |0,i,h,hK=>by omega
 |K+1,i,h,hK=>by
  unfold qQ
  by_cases hi:i<a.length
  ·have hb:i<b.length:=by omega
   rw[if_pos (by omega),zn,Ya hi,zn,Ya hb,ZB,ZB,YG hi,YG hb]
   by_cases c:a[i]=b[i]
   ·rw[decide_eq_true c,if_neg (by decide),jZ (by omega),qep hl hab K (i+1) (by omega) (by omega),c]
    simp only[List.cons.injEq,true_and]
   rw[decide_eq_false c,if_pos (by decide),if_neg (fun h=>c (List.cons.inj h).1)]
  rw[if_neg (by omega),List.drop_eq_nil_of_le (by omega),List.drop_eq_nil_of_le (by omega),if_pos rfl]
theorem qgh {N:Nat} {a b:List Int} (hl:a.length<=100000) (hN:a.length<N):zx N a b=some (decide (a=b)):=by
 unfold zx
 by_cases c:(a.length:Int)=(b.length:Int)
 ·have:=qep hl (b:=b) (by omega) N 0 (by omega) (by omega)
  rw[show((0:Nat):Int)=0 from rfl,YR,YR]at this
  rw[decide_eq_true c,if_neg (by decide),this]
  by_cases e:a=b
  ·rw[if_pos e,decide_eq_true e];rfl
  rw[if_neg e,decide_eq_false e];rfl
 rw[decide_eq_false c,if_pos (by decide),decide_eq_false (fun e=>c (by rw[e]))]
theorem qdd {a b:List Int} (hl:a.length<=100000) (hab:a.length=b.length): ∀(K i:Nat),i<=a.length->a.length<K+i->qO a b K (i:Int)=some (if a.drop i=b.drop i then .inl ()else .inr false)
 |0,i,h,hK=>by omega
 |K+1,i,h,hK=>by
  unfold qO
  by_cases hi:i<a.length
  ·have hb:i<b.length:=by omega
   rw[if_pos (by omega),zn,Ya hi,zn,Ya hb,ZB,ZB,YG hi,YG hb]
   by_cases c:a[i]=b[i]
   ·rw[decide_eq_true c,if_neg (by decide),jZ (by omega),qdd hl hab K (i+1) (by omega) (by omega),c]
    simp only[List.cons.injEq,true_and]
   rw[decide_eq_false c,if_pos (by decide),if_neg (fun h=>c (List.cons.inj h).1)]
  rw[if_neg (by omega),List.drop_eq_nil_of_le (by omega),List.drop_eq_nil_of_le (by omega),if_pos rfl]
theorem qb5 {N:Nat} {a b:List Int} (hl:a.length<=100000) (hN:a.length<N):zo N a b=some (decide (a=b)):=by
 unfold zo
 by_cases c:(a.length:Int)=(b.length:Int)
 ·have:=qdd hl (b:=b) (by omega) N 0 (by omega) (by omega)
  rw[show((0:Nat):Int)=0 from rfl,YR,YR]at this
  rw[decide_eq_true c,if_neg (by decide),this]
  by_cases e:a=b
  ·rw[if_pos e,decide_eq_true e];rfl
  rw[if_neg e,decide_eq_false e];rfl
 rw[decide_eq_false c,if_pos (by decide),decide_eq_false (fun e=>c (by rw[e]))]
theorem qaL {N:Nat} (n:Int) (x_:qcJ) (l:List qW) (hN:200000+l.length<N) (hl:l.length*32<=140737488355328):jm N n x_ l=some true:=by
 obtain⟨A,B,K⟩:=x_
 unfold jm awk
 simp only[ZB,Bool.not_true,ZF,if_false]
 by_cases hA:(A.length:Int)>220
 ·rw[if_pos hA];rfl
 by_cases hB:(B.length:Int)>220
 ·rw[if_neg hA,if_pos hB];rfl
 have hA:A.length<=300:=by omega
 have hB:B.length<=300:=by omega
 obtain⟨b,s1,s2⟩:=qfi (N:=N) (l:=l) (by omega)
 rw[if_neg (by omega),if_neg (by omega),qe2 (by omega) hl,ZB,s1]
 simp only[ZB]
 cases b with
 |false=>rfl
 |true=>
  have hs:=s2 rfl
  simp only[Bool.not_true,ZF,if_false]
  have cA:=qb2 (N:=N) (by omega) (n:=n) (w:=A) hA
  have cB:=qb2 (N:=N) (by omega) (n:=n) (w:=B) hB
  have rA:=qbw (N:=N) (by omega) (n:=n) (w:=A) hA
  have rB:=qbw (N:=N) (by omega) (n:=n) (w:=B) hB
  have bf: ∀a b:Int,qd N [a,b]=some (xe [a,b]):=fun a b=>vP (by simp) (by simp;omega)
  have lf: ∀a b:Int,jd N [a,b]=some (xe [a,b]):=fun a b=>qeR (by simp) (by simp;omega)
  unfold yg jr jD
  simp only[cA,cB,rA,rB,ZB,bf,lf,jh,qda]
  by_cases zA:qa1 n A=0
  ·obtain⟨k,rfl,W⟩:=qgG zA
   have hv: ∀c∈A,zF (k:Int) c=true:=fun c hc=>zV.2 (W.let_ c hc)
   have k1:=W.n1
   have k2:=W.n2
   obtain⟨r,m1,m2,m3⟩:=qdM (N:=N) (by omega) (n:=k) (by omega) (by omega) (l:=l) (by omega) (w:=A) (by omega) hv
   simp only[zA,m1,m2,vU,qan,decide_true,Bool.not_true,ZF,if_false,if_true,ZB]
   by_cases e:r.2=0
   ·have ln:=m3.len e
    have z:decide (r.2=0)=true:=decide_eq_true e
    simp only[e,decide_true,Bool.not_true,ZF,if_false,ZB,qdJ,vU,qan]
    by_cases c:qa1 (k:Int) B=0
    ·simp only[c,decide_true,Bool.not_true,ZF,if_false,if_true,qb5 (N:=N) (a:=r.1) (b:=B) (by omega) (by omega),qgh (N:=N) (a:=r.1) (b:=B) (by omega) (by omega),ZB,jh,qda,bf,vU,qan]
     by_cases g:200<r.1.length
     ·rw[decide_eq_true (show(r.1.length:Int)>200 by omega),if_pos g]
      simp only[if_true]
      rw[qaB (by decide)]
      simp
     rw[decide_eq_false (show¬(r.1.length:Int)>200 by omega),if_neg g]
     simp only[ZF,if_false]
     rw[qcd (by omega) (by omega)]
     simp
    have z2:(!decide (qa1 (k:Int) B=0))=true:=by simp[c]
    simp only[z2,if_true,if_neg c,ZB]
    by_cases g:200<r.1.length
    ·rw[decide_eq_true (show(r.1.length:Int)>200 by omega),if_pos g]
     simp only[if_true]
     rw[qaB (by decide)]
     simp[c]
    rw[decide_eq_false (show¬(r.1.length:Int)>200 by omega),if_neg g]
    simp only[ZF,if_false]
    rw[qcd (by omega) (by omega)]
    simp[c]
   have z:(!decide (r.2=0))=true:=by simp[e]
   simp only[z,if_true,ZB,yG e,qaB e]
   by_cases c:qa1 (k:Int) B=0
   ·simp only[c,decide_true,Bool.not_true,ZF,if_false,if_true,qb5 (N:=N) (a:=r.1) (b:=B) (by rw[m3.bad e];simp) (by rw[m3.bad e];simp;omega),ZB,jh,bf,yG e,if_neg e]
   have z2:(!decide (qa1 (k:Int) B=0))=true:=by simp[c]
   simp only[z2,if_true,if_neg c,ZB]
   simp[c]
  have z:(!decide (qa1 n A=0))=true:=by simp[zA]
  simp only[z,if_true,if_neg zA,ZB,yG zA,qaB zA]
  simp[zA]
end Go.Av
end
