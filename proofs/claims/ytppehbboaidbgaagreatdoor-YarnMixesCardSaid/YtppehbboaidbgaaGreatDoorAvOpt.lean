/-
  Values that may be nil: a slice that grows, shrinks and grows again; a pointer.
-/
import Derived.Test.YtppehbboaidbgaaGreatDoorAvHeap
import Derived.KernelRfl
noncomputable section
namespace Go.Av
open Go.RowKit
set_option linter.unusedSectionVars false
set_option linter.unusedVariables false
variable [Glob] {α:Type} {P:Program} {A:Heap} {S:List Nat} {m:List (Option Nat)}
abbrev AV.i (n:Int):AV:= .int .i64 n
theorem fa {E:Enc α} {l:List α}:qcP (l.flatMap E.c):=E.flat_allN l
theorem bnd {α β:Type} {o:Option α} {f:α->Option β} {b:β} (h:o.bind f=some b): ∃a,o=some a/\f a=some b:=Option.bind_eq_some_iff.1 h
theorem sq [Base] {c1 c2:Code} {s:St} {Q:XA->St->Prop} (h:Goes P c1 s (andThen (fun s'=>Goes P c2 s' Q) Q)):Goes P (.seq c1 c2) s Q:=Goes.seq h
theorem Goes.rg [Base] (hm:P.follows .mixedOrders=true) {id m:Nat} {ops:Array Oper} {draw:Bool} {l0:List (Nat×AV)} {Q:XA->St->Prop} (l:List (Nat×AV)) (A':Heap) (hq:Q .normal (ofG m l,A')) (h:qhi P ops draw [] (l.map (·.1)) (ofG m l0,A)=some (ofG m l,A',[]):=by kernel_rfl):
 Goes P (.region id ops draw) (ofG m l0,A) Q:=Goes.reg hm [] _ h trivial hq
def hsl (b k:Nat) (o:Option (List α)):AV:=match o with
 |none=> .nilslice
 |some l=> .oslice b l.length k
abbrev hof (o:Option (List α)):List α:=o.getD []
def pz (c:Bool) (b off:Nat):AV:=match c with
 |true=> .ptr b off
 |false=> .nilptr
theorem jk.hs {i b k:Nat} {o:Option (List α)} (h:m[i]? =some (some b)):jk A S m (hsl i k o) (hsl b k o):=by
 cases o with
 |none=>exact .same .nilslice
 |some l=>exact .oslice h
theorem jk.hs0 {i k:Nat}:jk A S m (hsl i k (none:Option (List α))) .nilslice:= .same .nilslice
theorem jk.pz {i b off:Nat} {c:Bool} (h:m[i]? =some (some b)):jk A S m (Go.Av.pz c i off) (Go.Av.pz c b off):=by
 cases c with
 |false=>exact .same .nilptr
 |true=>exact .ptr h
theorem jk.pz0 {i off:Nat}:jk A S m (Go.Av.pz false i off) .nilptr:= .same .nilptr
theorem qrc {n cap:Nat} {lo hi:Option Int} {l h:Int} (hl:l=lo.getD 0) (hh:h=hi.getD n) (hn:n<=cap) (hc:0<=l/\l<=h/\h<=cap):qam (opI lo) (opI hi) none n cap=some (l.toNat,h.toNat,cap):=by
 obtain⟨h1,h2,h3⟩:=hc
 have e1:vE (opI hi) n cap=some h.toNat:=by
  cases hi with
  |none=>simp only[opI,vE,Option.getD_none]at hh⊢;rw[hh];simp
  |some v=>simp only[opI,vE,YN]at hh⊢;subst hh;rw[if_pos ⟨by omega,h3⟩]
 have e2:vE (opI lo) 0 h.toNat=some l.toNat:=by
  cases lo with
  |none=>simp only[opI,vE,Option.getD_none]at hl⊢;rw[hl];simp
  |some v=>simp only[opI,vE,YN]at hl⊢;subst hl;rw[if_pos ⟨h1,by omega⟩]
 have e0:vE none cap cap=some cap:=rfl;simp only[qam,Option.isSome_none,ZF,false_and,if_false,e0,e1,e2]
variable {E:Enc α} {k:Nat}
end Go.Av
