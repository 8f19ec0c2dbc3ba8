/-
  Values that may be nil: a slice that grows, shrinks and grows again; a pointer.
-/
import Derived.Test.YtcnioemfifogeaaGreatDoorAvHp
import Derived.KernelRfl
noncomputable section
namespace Go.Av
open Go.RowKit
set_option linter.unusedSectionVars false
set_option linter.unusedVariables false
variable [Glob] {α:Type} {P:Program} {A:Heap} {S:List Nat} {m:List (Option Nat)}
abbrev AV.i (n:Int):AV:= .int .i64 n
theorem fa {E:Enc α} {l:List α}:qs0 (l.flatMap E.c):=E.flat_allN l
theorem ot {p:Prop} [Decidable p] (h:decide p=true):p:=of_decide_eq_true h
theorem bnd {α β:Type} {o:Option α} {f:α->Option β} {b:β} (h:o.bind f=some b): ∃a,o=some a/\f a=some b:=Option.bind_eq_some_iff.1 h
theorem sq [Base] {c1 c2:Code} {s:St} {Q:XA->St->Prop} (h:Goes P c1 s (andThen (fun s'=>Goes P c2 s' Q) Q)):Goes P (.seq c1 c2) s Q:=Goes.seq h
theorem Goes.rg [Base] (hm:P.follows .mixedOrders=true) {id m:Nat} {ops:Array Oper} {draw:Bool} {l0:List (Nat×AV)} {Q:XA->St->Prop} (l:List (Nat×AV)) (A':Heap) (hq:Q .normal (ofG m l,A')) (h:qwD P ops draw [] (l.map (·.1)) (ofG m l0,A)=some (ofG m l,A',[]):=by kernel_rfl):
 Goes P (.region id ops draw) (ofG m l0,A) Q:=Goes.reg hm [] _ h trivial hq
theorem Goes.ro [Base] (hm:P.follows .mixedOrders=true) {id m:Nat} {ops:Array Oper} {draw:Bool} {l0:List (Nat×AV)} {Q:XA->St->Prop} (orc:List (Nat×Orc)) (l:List (Nat×AV)) (A':Heap) (obls:List Obl) (ho:qsB P obls) (hq:Q .normal (ofG m l,A'))
 (h:qwD P ops draw orc (l.map (·.1)) (ofG m l0,A)=some (ofG m l,A',obls):=by kernel_rfl):Goes P (.region id ops draw) (ofG m l0,A) Q:=Goes.reg hm orc _ h ho hq
theorem qgY.rg [Base] (hm:P.follows .mixedOrders=true) {id m:Nat} {ops:Array Oper} {draw:Bool} {l0:List (Nat×AV)} (l:List (Nat×AV)) (A':Heap) (h:qwD P ops draw [] (l.map (·.1)) (ofG m l0,A)=some (ofG m l,A',[]):=by kernel_rfl):
 qgY P id ops draw (ofG m l0,A) (ofG m l,A'):=qgY.reg hm [] _ h trivial
theorem qgY.ro [Base] (hm:P.follows .mixedOrders=true) {id m:Nat} {ops:Array Oper} {draw:Bool} {l0:List (Nat×AV)} (orc:List (Nat×Orc)) (l:List (Nat×AV)) (A':Heap) (obls:List Obl) (ho:qsB P obls)
 (h:qwD P ops draw orc (l.map (·.1)) (ofG m l0,A)=some (ofG m l,A',obls):=by kernel_rfl):qgY P id ops draw (ofG m l0,A) (ofG m l,A'):=qgY.reg hm orc _ h ho
def hsl (b k:Nat) (o:Option (List α)):AV:=match o with
 |none=> .nilslice
 |some l=> .oslice b l.length k
abbrev hof (o:Option (List α)):List α:=o.getD []
def pz (c:Bool) (b off:Nat):AV:=match c with
 |true=> .ptr b off
 |false=> .nilptr
theorem qkU.hs {i b k:Nat} {o:Option (List α)} (h:m[i]? =some (some b)):qkU A S m (hsl i k o) (hsl b k o):=by
 cases o with
 |none=>exact .same .nilslice
 |some l=>exact .oslice h
theorem qkU.hs0 {i k:Nat}:qkU A S m (hsl i k (none:Option (List α))) .nilslice:= .same .nilslice
theorem qkU.pz {i b off:Nat} {c:Bool} (h:m[i]? =some (some b)):qkU A S m (Go.Av.pz c i off) (Go.Av.pz c b off):=by
 cases c with
 |false=>exact .same .nilptr
 |true=>exact .ptr h
theorem FzW.hs {E:Enc α} {b d:Nat} {o:Option (List α)} (hS:S.contains b=true) (hA:A[b]? =some (.cells ((hof o).flatMap E.c))) (hd:E.dep<=d):FzW A S (d+1) (hsl b E.k o) (vl E (hof o)):=by
 cases o with
 |none=>exact FzW.nilv (E:=E)
 |some l=>exact FzW.fz (Fz.os (E:=E) hS hA hd)
theorem qqM.cut {E:Enc α} {l r:List α} {hi:Int} (h:cut l 0 hi=some r):qqM A S m (.cells (r.flatMap E.c)) (.cells (l.flatMap E.c)):=by
 obtain⟨⟨_,h1,h2⟩,rfl⟩:=qwz h
 have e:l.take hi.toNat=(l.drop (0:Int).toNat).take (hi.toNat-(0:Int).toNat):=by simp
 rw[<-e]
 have hl:(l.take hi.toNat).length=hi.toNat:=by rw[Ym];omega
 refine .pre (E.flat_allN _) ?_ ?_
 ·rw[E.flat_len,E.flat_len,hl]
  exact Nat.mul_le_mul_right _ (by omega)
 rw[E.flat_len,hl,qxj]
theorem qIE {l r:List α} {hi:Int} (h:cut l 0 hi=some r):hi.toNat=r.length:=by
 obtain⟨⟨_,h1,h2⟩,rfl⟩:=qwz h
 simp
 omega
theorem qFh {n cap:Nat} {lo hi:Option Int} {l h:Int} (hl:l=lo.getD 0) (hh:h=hi.getD n) (hn:n<=cap) (hc:0<=l/\l<=h/\h<=cap):qoV (opI lo) (opI hi) none n cap=some (l.toNat,h.toNat,cap):=by
 obtain⟨h1,h2,h3⟩:=hc
 have e1:qkZ (opI hi) n cap=some h.toNat:=by
  cases hi with
  |none=>simp only[opI,qkZ,Option.getD_none]at hh⊢;rw[hh];simp
  |some v=>simp only[opI,qkZ,YN]at hh⊢;subst hh;rw[if_pos ⟨by omega,h3⟩]
 have e2:qkZ (opI lo) 0 h.toNat=some l.toNat:=by
  cases lo with
  |none=>simp only[opI,qkZ,Option.getD_none]at hl⊢;rw[hl];simp
  |some v=>simp only[opI,qkZ,YN]at hl⊢;subst hl;rw[if_pos ⟨h1,by omega⟩]
 have e0:qkZ none cap cap=some cap:=rfl
 simp only[qoV,Option.isSome_none,ZF,false_and,if_false,e0,e1,e2]
def at' (l:List α) (i:Int):Option Nat:=if 0<=i/\i<=l.length then some i.toNat else none
theorem qFf {l:List α} {i:Int} {j:Nat} (h:at' l i=some j):0<=i/\i<=l.length/\j=i.toNat:=by
 unfold at' at h
 split at h
 ·rename_i h0;injection h with h;exact⟨h0.1,h0.2,h.symm⟩
 cases h
variable {E:Enc α} {k:Nat}
theorem qIP {l:List α} {i:Int} {j:Nat} (h:at' l i=some j):j<=l.length:=by
 obtain⟨h1,h2,rfl⟩:=qFf h
 omega
theorem qrW {p:Prop} [Decidable p] {u:Unit} (h:(if p then some ()else none:Option Unit)=some u):p:=by
 split at h
 ·rename_i h0;exact h0
 cases h
end Go.Av
