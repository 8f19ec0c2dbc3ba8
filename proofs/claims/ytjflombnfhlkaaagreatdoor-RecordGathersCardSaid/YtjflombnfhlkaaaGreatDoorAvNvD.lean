/-
  Division by a number that is not known: it has a result unless the divisor is 0.
-/
import Derived.Test.YtjflombnfhlkaaaGreatDoorAvSq
noncomputable section
namespace Go.Av
set_option linter.unusedSectionVars false
variable [Glob]
def quoI (k:IntKind) (a b:Int):Option Int:=if b=0 then none else some (k.wrap (a.tdiv b))
def remI (_:IntKind) (a b:Int):Option Int:=if b=0 then none else some (a.tmod b)
end Go.Av
end
noncomputable section
namespace Go.Av
open Go.RowKit
set_option linter.unusedSectionVars false
variable [Glob] {α:Type} {P:Program} {A:Heap} {S:List Nat} {m:List (Option Nat)}
def nvl (E:Enc α) (l:List α):AV:=match l with
 |[]=> .nilslice
 |x::xs=>vl E (x::xs)
theorem qlr (E:Enc α) (l:List α) {d:Nat} (hd:E.dep+1≤d):Still d (nvl E l):=by
 cases l with
 |nil=>obtain⟨d,rfl⟩:=Nat.exists_eq_add_of_le' (show 1≤d by omega);exact Still.nilslice d
 |cons x xs=>exact jV E (x::xs) hd
theorem ql4 (E:Enc α) (l:List α):qx (nvl E l):=by
 cases l with
 |nil=>exact qx.nilslice
 |cons x xs=>exact qd E (x::xs)
def encN (E:Enc α):Enc (List α):=one (nvl E) (E.dep+1) (fun x=>by cases x<;>rfl) (fun x d hd=>qlr E x hd) (fun x=>ql4 E x) (fun x d=>by cases x<;>cases d<;>rfl)
theorem qiD {E:Enc α} {l:List α} (h:0<l.length):nvl E l=vl E l:=by
 cases l with
 |nil=>exact absurd h (by simp)
 |cons x xs=>rfl
theorem Wk.nv {E:Enc α} {l:List α}:Wk (nvl E l) (vl E l):=by
 cases l with
 |nil=>exact Wk.nil
 |cons x xs=>exact Wk.refl _
theorem Wk.Lnv {E:Enc α} {l:List α} (h:0<l.length):Wk (vl E l) (nvl E l):=by rw[qiD h];exact Wk.refl _
theorem zG.nv0 {E:Enc α}:zG A S m (nvl E []) .nilslice:= .same qx.nilslice
theorem zG.nvL {E:Enc α} {l:List α}:zG A S m (vl E l) (nvl E l):=by
 cases l with
 |nil=>exact .nilv
 |cons x xs=>exact .same (qd E (x::xs))
theorem zG.Lnv {E:Enc α} {l:List α} (h:0<l.length):zG A S m (nvl E l) (vl E l):=by rw[qiD h];exact .same (qd E l)
theorem FzW.nv0 {E:Enc α} {d:Nat}:FzW A S (d+1) .nilslice (nvl E []):= .of rfl
theorem FzW.nvL {E:Enc α} {l:List α} {d:Nat} (hd:E.dep≤d):FzW A S (d+1) (nvl E l) (vl E l):=by
 cases l with
 |nil=>exact FzW.nilv (E:=E)
 |cons x xs=>exact FzW.still (jV E (x::xs) (by omega))
theorem FzW.Lnv {E:Enc α} {l:List α} {d:Nat} (h:0<l.length) (hd:E.dep≤d):FzW A S (d+1) (vl E l) (nvl E l):=by rw[qiD h];exact FzW.still (jV E l (by omega))
def shlO (k:IntKind) (a b:Int):Option Int:=if b<0 then none else some (k.wrap (a*2^(min b.toNat k.bits)))
def qkz (k:IntKind) (a b:Int):Option Int:=if b<0 then none else some (a.fdiv (2^(min b.toNat k.bits)))
theorem qdN {t:TypeId} {ox oy:Operand} {k k':IntKind} {a b q:Int} (h:qkz k a b=some q):(Obl.done (.opt (qbz P .shr t ox oy (.int k a) (.int k' b))) (.int k q)).Holds P:=by
 unfold qkz at h
 split at h
 ·cases h
 ·rename_i hb
  obtain rfl:=Option.some.inj h
  show Pg.opt _=_
  simp[qbz,qdT,qfa,hb,Pg.opt]
def add64 (x y c:Int):Option (Int×Int):=if 0≤x∧0≤y∧0≤c∧c≤1 then some ((x+y+c)%18446744073709551616,(x+y+c)/18446744073709551616)else none
def sub64 (x y c:Int):Option (Int×Int):=if 0≤x∧0≤y∧y<18446744073709551616∧0≤c∧c≤1 then some ((x-y-c)%18446744073709551616,if x<y+c then 1 else 0)else none
def win (l:List α) (lo hi:Int):Option (Nat×Nat):=if 0≤lo∧lo≤hi∧hi≤l.length∧lo<l.length then some (lo.toNat,(hi-lo).toNat)else none
def idxW (l:List α) (j n:Nat) (i:Int):Option α:=if 0≤i∧i<n then idx l ((j+i.toNat:Nat):Int)else none
theorem ixA {t:TypeId} {x v:AV} {k c:Int} (h:k=c) (e:qo P t x (.int .i64 c)=some v):(Obl.done (.opt (qo P t x (.int .i64 k))) v).Holds P:=by
 subst h
 show Pg.opt _=_
 rw[e]
 rfl
end Go.Av
end
