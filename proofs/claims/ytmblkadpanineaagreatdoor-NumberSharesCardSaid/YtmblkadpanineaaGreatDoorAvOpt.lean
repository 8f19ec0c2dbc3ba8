/-
  Values that may be nil: a slice that grows, shrinks and grows again; a pointer.
-/
import Derived.Test.YtmblkadpanineaaGreatDoorAvHp
import Derived.KernelRfl
noncomputable section
namespace Go.Av
open Go.RowKit
set_option linter.unusedSectionVars false
set_option linter.unusedVariables false
variable [Glob] {α:Type} {P:Program} {A:Heap} {S:List Nat} {m:List (Option Nat)}
abbrev AV.i (n:Int):AV:= .int .i64 n
theorem fa {E:Enc α} {l:List α}:vV (l.flatMap E.c):=E.flat_allN l
theorem bnd {α β:Type} {o:Option α} {f:α->Option β} {b:β} (h:o.bind f=some b): ∃a,o=some a/\f a=some b:=Option.bind_eq_some_iff.1 h
theorem sq [Base] {c1 c2:Code} {s:St} {Q:XA->St->Prop} (h:Goes P c1 s (andThen (fun s'=>Goes P c2 s' Q) Q)):Goes P (.seq c1 c2) s Q:=Goes.seq h
theorem Goes.rg [Base] (hm:P.follows .mixedOrders=true) {id m:Nat} {ops:Array Oper} {draw:Bool} {l0:List (Nat×AV)} {Q:XA->St->Prop} (l:List (Nat×AV)) (A':Heap) (hq:Q .normal (ofG m l,A')) (h:xu P ops draw [] (l.map (·.1)) (ofG m l0,A)=some (ofG m l,A',[]):=by kernel_rfl):
 Goes P (.region id ops draw) (ofG m l0,A) Q:=Goes.reg hm [] _ h trivial hq
theorem Goes.ro [Base] (hm:P.follows .mixedOrders=true) {id m:Nat} {ops:Array Oper} {draw:Bool} {l0:List (Nat×AV)} {Q:XA->St->Prop} (orc:List (Nat×Orc)) (l:List (Nat×AV)) (A':Heap) (obls:List Obl) (ho:vS P obls) (hq:Q .normal (ofG m l,A'))
 (h:xu P ops draw orc (l.map (·.1)) (ofG m l0,A)=some (ofG m l,A',obls):=by kernel_rfl):Goes P (.region id ops draw) (ofG m l0,A) Q:=Goes.reg hm orc _ h ho hq
theorem ji.rg [Base] (hm:P.follows .mixedOrders=true) {id m:Nat} {ops:Array Oper} {draw:Bool} {l0:List (Nat×AV)} (l:List (Nat×AV)) (A':Heap) (h:xu P ops draw [] (l.map (·.1)) (ofG m l0,A)=some (ofG m l,A',[]):=by kernel_rfl):
 ji P id ops draw (ofG m l0,A) (ofG m l,A'):=ji.reg hm [] _ h trivial
theorem ji.ro [Base] (hm:P.follows .mixedOrders=true) {id m:Nat} {ops:Array Oper} {draw:Bool} {l0:List (Nat×AV)} (orc:List (Nat×Orc)) (l:List (Nat×AV)) (A':Heap) (obls:List Obl) (ho:vS P obls)
 (h:xu P ops draw orc (l.map (·.1)) (ofG m l0,A)=some (ofG m l,A',obls):=by kernel_rfl):ji P id ops draw (ofG m l0,A) (ofG m l,A'):=ji.reg hm orc _ h ho
def hsl (b k:Nat) (o:Option (List α)):AV:=match o with
 |none=> .nilslice
 |some l=> .oslice b l.length k
abbrev hof (o:Option (List α)):List α:=o.getD []
def pz (c:Bool) (b off:Nat):AV:=match c with
 |true=> .ptr b off
 |false=> .nilptr
theorem zD.hs {i b k:Nat} {o:Option (List α)} (h:m[i]? =some (some b)):zD A S m (hsl i k o) (hsl b k o):=by
 cases o with
 |none=>exact .same .nilslice
 |some l=>exact .oslice h
theorem zD.hs0 {i k:Nat}:zD A S m (hsl i k (none:Option (List α))) .nilslice:= .same .nilslice
theorem zD.hs1 {i b k:Nat} {l:List α} (h:m[i]? =some (some b)):zD A S m (hsl i k (some l)) (.oslice b l.length k):= .oslice h
theorem zD.pz {i b off:Nat} {c:Bool} (h:m[i]? =some (some b)):zD A S m (Go.Av.pz c i off) (Go.Av.pz c b off):=by
 cases c with
 |false=>exact .same .nilptr
 |true=>exact .ptr h
theorem FzW.hs {E:Enc α} {b d:Nat} {o:Option (List α)} (hS:S.contains b=true) (hA:A[b]? =some (.cells ((hof o).flatMap E.c))) (hd:E.dep<=d):FzW A S (d+1) (hsl b E.k o) (vl E (hof o)):=by
 cases o with
 |none=>exact FzW.nilv (E:=E)
 |some l=>exact FzW.fz (Fz.os (E:=E) hS hA hd)
theorem vG.cut {E:Enc α} {l r:List α} {hi:Int} (h:cut l 0 hi=some r):vG A S m (.cells (r.flatMap E.c)) (.cells (l.flatMap E.c)):=by
 obtain⟨⟨_,h1,h2⟩,rfl⟩:=qcK h
 have e:l.take hi.toNat=(l.drop (0:Int).toNat).take (hi.toNat-(0:Int).toNat):=by simp
 rw[<-e]
 have hl:(l.take hi.toNat).length=hi.toNat:=by rw[Ym];omega
 refine .pre (E.flat_allN _) ?_ ?_
 ·rw[E.flat_len,E.flat_len,hl]
  exact Nat.mul_le_mul_right _ (by omega)
 rw[E.flat_len,hl,qbP]
variable {E:Enc α} {k:Nat}
end Go.Av
