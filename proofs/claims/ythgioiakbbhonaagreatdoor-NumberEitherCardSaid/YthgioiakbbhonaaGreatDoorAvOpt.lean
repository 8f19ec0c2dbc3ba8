/-
  Values that may be nil: a slice that grows, shrinks and grows again; a pointer.
-/
import Derived.Test.YthgioiakbbhonaaGreatDoorAvHp
import Derived.KernelRfl
noncomputable section
namespace Go.Av
open Go.RowKit
set_option linter.unusedSectionVars false
set_option linter.unusedVariables false
variable [Glob] {α:Type} {P:Program} {A:Heap} {S:List Nat} {m:List (Option Nat)}
abbrev AV.i (n:Int):AV:= .int .i64 n
theorem fa {E:Enc α} {l:List α}:qcL (l.flatMap E.c):=E.flat_allN l
theorem ot {p:Prop} [Decidable p] (h:decide p=true):p:=aK h
theorem of_ {p:Prop} [Decidable p] (h:decide p=false): ¬p:=cO h
theorem bnd {α β:Type} {o:Option α} {f:α->Option β} {b:β} (h:o.bind f=some b): ∃a,o=some a/\f a=some b:=aG.1 h
theorem sq [Base] {c1 c2:Code} {s:St} {Q:XA->St->Prop} (h:Goes P c1 s (andThen (λs'=>Goes P c2 s' Q) Q)):Goes P (.seq c1 c2) s Q:=Goes.seq h
theorem Goes.rg [Base] (hm:P.follows .mixedOrders=true) {id m:Nat} {ops:Array Oper} {draw:Bool} {l0:List (Nat×AV)} {Q:XA->St->Prop} (l:List (Nat×AV)) (A':Heap) (hq:Q .normal (ofG m l,A')) (h:qhA P ops draw [] (l.map (·.1)) (ofG m l0,A)=some (ofG m l,A',[]):=by kernel_rfl):
 Goes P (.region id ops draw) (ofG m l0,A) Q:=Goes.reg hm [] _ h trivial hq
def hsl (b k:Nat) (o:Option (List α)):AV:=match o with
 |none=> .nilslice
 |some l=> .oslice b l.length k
abbrev hof (o:Option (List α)):List α:=o.getD []
def pz (c:Bool) (b off:Nat):AV:=match c with
 |true=> .ptr b off
 |false=> .nilptr
theorem jm.hs {i b k:Nat} {o:Option (List α)} (h:m[i]? =some (some b)):jm A S m (hsl i k o) (hsl b k o):=by
 cases o with
 |none=>exact .same .nilslice
 |some l=>exact .oslice h
theorem jm.hs0 {i k:Nat}:jm A S m (hsl i k (none:Option (List α))) .nilslice:= .same .nilslice
theorem jm.hs1 {i b k:Nat} {l:List α} (h:m[i]? =some (some b)):jm A S m (hsl i k (some l)) (.oslice b l.length k):= .oslice h
theorem jm.pz {i b off:Nat} {c:Bool} (h:m[i]? =some (some b)):jm A S m (Go.Av.pz c i off) (Go.Av.pz c b off):=by
 cases c with
 |false=>exact .same .nilptr
 |true=>exact .ptr h
theorem jm.pz0 {i off:Nat}:jm A S m (Go.Av.pz false i off) .nilptr:= .same .nilptr
theorem vS.cut {E:Enc α} {l r:List α} {hi:Int} (h:cut l 0 hi=some r):vS A S m (.cells (r.flatMap E.c)) (.cells (l.flatMap E.c)):=by
 obtain⟨⟨_,h1,h2⟩,rfl⟩:=qdT h
 have e:l.take hi.toNat=(l.drop (0:Int).toNat).take (hi.toNat-(0:Int).toNat):=by simp
 rw[<-e]
 have hl:(l.take hi.toNat).length=hi.toNat:=by rw[Ym];omega
 refine .pre (E.flat_allN _) ?_ ?_
 ·rw[E.flat_len,E.flat_len,hl];exact aN _ (by omega)
 rw[E.flat_len,hl,qcQ]
theorem qq3 {l r:List α} {hi:Int} (h:cut l 0 hi=some r):hi.toNat=r.length:=by
 obtain⟨⟨_,h1,h2⟩,rfl⟩:=qdT h;simp;omega
theorem sh_os {t e:TypeId} {k b:Nat} (T:SlT P t e k b) {l r:List α} {o:Nat} {hi:Int} (h:cut l 0 hi=some r):(Obl.done (.opt (qC P t (.oslice o l.length k) none (some (.int .i64 hi)) none)) (.oslice o r.length k)).Holds P:=by
 obtain⟨inf,z,g1,g2,_⟩:=T.info;have hc:=(qdT h).1;have hb:=qeu (n:=l.length) (lo:=none) (hi:=some hi) rfl rfl hc;show Pg.opt _=_;simp only[opI,bO,YN]at hb;simp only[qC,T.und,g1,hb,g2,Pg.opt,Int.toNat_zero,bY,aJ,<-qq3 h]
def qgM (b k n i:Nat):AV:= .slice b (if n-i=0 then 0 else 0+i*k) (n-i) (n-i) k
def qho (l:List α) (i:Nat) (ys:List α):List α:=l.take i++cpy (l.drop i) ys
theorem qhS {n cap:Nat} {lo hi:Option Int} {l h:Int} (hl:l=lo.getD 0) (hh:h=hi.getD n) (hn:n<=cap) (hc:0<=l/\l<=h/\h<=cap):qaL (opI lo) (opI hi) none n cap=some (l.toNat,h.toNat,cap):=by
 obtain⟨h1,h2,h3⟩:=hc
 have e1:ym (opI hi) n cap=some h.toNat:=by
  cases hi with
  |none=>simp only[opI,ym,bO]at hh⊢;rw[hh];simp
  |some v=>simp only[opI,ym,YN]at hh⊢;subst hh;rw[ae ⟨by omega,h3⟩]
 have e2:ym (opI lo) 0 h.toNat=some l.toNat:=by
  cases lo with
  |none=>simp only[opI,ym,bO]at hl⊢;rw[hl];simp
  |some v=>simp only[opI,ym,YN]at hl⊢;subst hl;rw[ae ⟨h1,by omega⟩]
 have e0:ym none cap cap=some cap:=rfl;simp only[qaL,aW,ZF,false_and,aU,e0,e1,e2]
def at' (l:List α) (i:Int):Option Nat:=if 0<=i/\i<=l.length then some i.toNat else none
theorem qhN {l:List α} {i:Int} {j:Nat} (h:at' l i=some j):0<=i/\i<=l.length/\j=i.toNat:=by
 unfold at' at h;split at h
 ·rename_i h0;injection h with h;exact⟨h0.1,h0.2,h.symm⟩
 cases h
theorem qoY {t e:TypeId} {k b:Nat} (T:SlT P t e k b) {l:List α} {o j:Nat} {i:Int} (h:at' l i=some j):(Obl.done (.opt (qC P t (.slice o 0 l.length l.length k) (some (.int .i64 i)) none none)) (qgM o k l.length j)).Holds P:=by
 obtain⟨inf,z,g1,g2,_⟩:=T.info;obtain⟨h1,h2,rfl⟩:=qhN h;have hb:=qhS (n:=l.length) (cap:=l.length) (lo:=some i) (hi:=none) rfl rfl (ag _) ⟨h1,by simpa using h2,by simp⟩;show Pg.opt _=_;simp only[opI,bO,YN,aL]at hb;simp only[qC,T.und,g1,hb,g2,Pg.opt,aJ,qgM];congr 1;by_cases e0:l.length=i.toNat
 ·simp[e0]
 have: ¬l.length-i.toNat=0:=by omega
 rw[aa e0,aa this]
theorem qr4 {t e:TypeId} {k b:Nat} (T:SlT P t e k b) {l:List α} {o j:Nat} {i:Int} (h:at' l i=some j):(Obl.done (.opt (qC P t (.slice o 0 l.length l.length k) none (some (.int .i64 i)) none)) (.slice o 0 j l.length k)).Holds P:=by
 obtain⟨inf,z,g1,g2,_⟩:=T.info;obtain⟨h1,h2,rfl⟩:=qhN h;have hb:=qhS (n:=l.length) (cap:=l.length) (lo:=none) (hi:=some i) rfl rfl (ag _) ⟨by simp,by simpa using h1,by simpa using h2⟩;show Pg.opt _=_;simp only[opI,bO,YN,Int.toNat_zero]at hb;simp only[qC,T.und,g1,hb,g2,Pg.opt,aJ,bf,aY,ite_self,cR]
variable {E:Enc α} {k:Nat}
theorem qqJ {t e:TypeId} {b:Nat} (T:SlT P t e k b) (hk:E.k=k) {A':Heap} {Y:AV} {ys l r:List α} {o j:Nat} (hs:qmg E k S A Y ys) (hj:j<=l.length)
 (hb:A[o]? =some (.cells (l.flatMap E.c))) (hS:S.contains o=true) (h:some (qho l j ys)=some r) (hA:A'=A.set o (.cells (r.flatMap E.c))):(Obl.run S (qcu P [t,t] (.wslice o (j*k) (l.length-j) k) Y) A (.int .i64 ((Nat.min ys.length (l.length-j):Nat):Int)) A' true).Holds P:=by
 injection h with h;subst hA h hk;obtain⟨inf,z,h1,h2,_⟩:=T.info
 have key:qcu P [t,t] (.wslice o (j*E.k) (l.length-j) E.k) Y=kz E.k Y λn cs=>qbl E.k o (j*E.k) (l.length-j) n cs:=by
  simp only[qcu,T.und,h1,h2,aJ]
 rw[Obl.Holds,key];obtain⟨f1,e1⟩:=hs.run (λn cs=>qbl E.k o (j*E.k) (l.length-j) n cs) A.length [];refine⟨(o,true)::(o,false)::f1,e1.trans ?_,by simp⟩;have e2:(ys.flatMap E.c).take (Nat.min ys.length (l.length-j)*E.k)=(ys.take (Nat.min ys.length (l.length-j))).flatMap E.c:=qcQ E ys _
 have e3:((ys.take (Nat.min ys.length (l.length-j))).flatMap E.c).length=Nat.min ys.length (l.length-j)*E.k:=by
  rw[E.flat_len,Ym];congr 1;simp only[Nat.min_def];split<;>split<;>omega
 have e4:(l.flatMap E.c).drop (j*E.k+Nat.min ys.length (l.length-j)*E.k)=(l.drop (j+Nat.min ys.length (l.length-j))).flatMap E.c:=by
  rw[<-Nat.add_mul];exact qfz E l _
 have e5:j*E.k+Nat.min ys.length (l.length-j)*E.k<=(l.flatMap E.c).length:=by
  rw[E.flat_len,<-Nat.add_mul];refine aN _ ?_;have:=eC ys.length (l.length-j);exact aX (Nat.add_le_add_left this j) (by omega)
 have e6:(l.flatMap E.c).take (j*E.k)=(l.take j).flatMap E.c:=qcQ E l _;simp only[qbl];rw[qbx hS hb];simp only[e2,e3,e5,aJ];rw[qdG hS (qde hb)];simp only[splice,e3,e4,e6,qho,cpy,YJ,eW,List.flatMap_append,Yz];rfl
theorem qkO {l:List α} {i:Int} {j:Nat} (h:at' l i=some j):j<=l.length:=by
 obtain⟨h1,h2,rfl⟩:=qhN h;omega
theorem qqE {p:Prop} [Decidable p] {u:Unit} (h:(if p then some ()else none:Option Unit)=some u):p:=by
 split at h
 ·rename_i h0;exact h0
 cases h
theorem qnT {l ys r:List α} {j:Nat} (hj:j<=l.length) (h:some (qho l j ys)=some r):l.length=r.length:=by
 injection h with h;subst h;have:=qmP (l:=l.drop j) (ys:=ys) rfl;rw[qho,Yq,<-this,Ym,YJ,aP hj];omega
end Go.Av
