/-
  Functions of Go's library on texts, told by plain functions.
-/
import Derived.Test.YtjflombnfhlkaaaGreatDoorAvPrim
import Derived.Test.YtjflombnfhlkaaaGreatDoorAvMp
import Derived.Test.YtjflombnfhlkaaaGreatDoorAvLayT
noncomputable section
namespace Go.Av
open Go.Proofs Go.RowKit Go.Shelf
set_option linter.unusedSectionVars false
set_option maxRecDepth 100000
def qia (s:Str) (c:Int):Option Int:=if 0≤c∧c<256 then some (qjK c.toNat s:Nat)else none
theorem qli (s:Str) (c:Int) {res:Int} (h:qia s c=some res):qf Tryz.prog (.fn 231) [.str s,.int .u8 c] [] (.i res) []:=by
 unfold qia at h
 split at h
 ·rename_i hc
  injection h with h
  subst h
  exact qjy hc.1 hc.2
 ·cases h
def qig (s:Str) (c:Int):Option Int:=if 0≤c∧c<256 then some (qhA c.toNat s 0)else none
theorem ql7 (s:Str) (c:Int) {res:Int} (h:qig s c=some res):qf Tryz.prog (.fn 203) [.str s,.int .u8 c] [] (.i res) []:=by
 unfold qig at h
 split at h
 ·rename_i hc
  injection h with h
  subst h
  exact qjH hc.1 hc.2
 ·cases h
def qjr (s:Str):Option (Int×Unit):=if s.length≤18 then(Lib.atoi s).map fun n=>(n,())else none
theorem qnB (s:Str) {res:Int×Unit} (h:qjr s=some res):qf Tryz.prog (.fn 202) [.str s] [] (.tuple [.i res.1,.niliface]) []:=by
 refine qkL ?_
 unfold qjr at h
 unfold qkV
 split at h
 ·rename_i hl
  rw[zi,if_pos (Nat.ble_eq_true_of_le hl)]
  cases ha:Lib.atoi s with
  |none=>rw[ha]at h;cases h
  |some n=>
   rw[ha]at h
   injection h with h
   subst h
   rfl
 ·cases h
def tItoa (n:Int):Option Str:=if-1000000000000000000<n∧n<1000000000000000000 then some (Lib.itoa n)else none
def qjf (s c:Str):Option Str:=if s.length≤1000000∧c.length≤1000∧c.all (fun b=>decide (b.toNat<128))=true then some (Lib.trimS s c)else none
theorem qnm (s c:Str) {res:Str} (h:qjf s c=some res):qf Tryz.prog (.fn 189) [.str s,.str c] [] (.str res) []:=by
 unfold qjf at h
 split at h
 ·rename_i hc
  injection h with h
  subst h
  refine qf.ofCalls (enters_of (by kernel_rfl)) (fun F nu w vs hg hargs=>?_) []
  obtain⟨x,ws,rfl,hx,hws⟩:=hargs.cons_inv
  obtain⟨y,us,he,hy,hus⟩:=hws.cons_inv
  obtain rfl:ws=y::us:=by simpa using he
  obtain rfl:=hus.nil_inv
  obtain⟨b,rfl,rfl⟩:=hx.str_inv
  obtain⟨b2,rfl,rfl⟩:=hy.str_inv
  refine⟨_,.str ⟨(Lib.trimS b.data.toList b2.data.toList).toArray⟩ _ rfl,?_⟩
  have:=Any.strings_Trim_laid Tryz.lays160 (by kernel_rfl) b b2 w (by have:=hc.1;rw[←Lib.size_eq]at this;omega) (by have:=hc.2.1;rw[←Lib.size_eq]at this;omega) (ascii_of_all hc.2.2)
  refine Calls.mono (show Calls Tryz.prog 189 #[.string b,.string b2] w _ from this) ?_
  rintro e w' ⟨he,bel⟩
  exact⟨he,qeg bel⟩
 ·cases h
def tRepeat (s:Str) (n:Int):Option Str:=if 0≤n∧n≤1000000∧s.length*n.toNat≤1000000 then some (Lib.repeatL s n.toNat)else none
end Go.Av
