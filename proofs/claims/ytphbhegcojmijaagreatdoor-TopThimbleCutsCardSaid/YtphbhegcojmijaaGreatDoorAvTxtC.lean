/-
  Functions of Go's library on texts, told by plain functions.
-/
import Derived.Test.YtphbhegcojmijaaGreatDoorAvPrimC
import Derived.Test.YtphbhegcojmijaaGreatDoorAvMp
import Derived.Test.YtphbhegcojmijaaGreatDoorAvLayTC
noncomputable section
namespace Go.Av
open Go.Proofs Go.RowKit Go.Shelf
set_option linter.unusedSectionVars false
set_option maxRecDepth 100000
def qh5 (s:Str) (c:Int):Option Int:=if 0≤c∧c<256 then some (qjo c.toNat s:Nat)else none
theorem qlY (s:Str) (c:Int) {res:Int} (h:qh5 s c=some res):qf Tryz.prog (.fn 219) [.str s,.int .u8 c] [] (.i res) []:=by
 unfold qh5 at h
 split at h
 ·rename_i hc
  injection h with h
  subst h
  exact qjF hc.1 hc.2
 ·cases h
def qgs (s:Str) (c:Int):Option Int:=if 0≤c∧c<256 then some (qeH c.toNat s 0)else none
theorem qlZ (s:Str) (c:Int) {res:Int} (h:qgs s c=some res):qf Tryz.prog (.fn 194) [.str s,.int .u8 c] [] (.i res) []:=by
 unfold qgs at h
 split at h
 ·rename_i hc
  injection h with h
  subst h
  exact qiz hc.1 hc.2
 ·cases h
def qjI (s:Str):Option (Int×Unit):=if s.length≤18 then(Lib.atoi s).map fun n=>(n,())else none
theorem qnp (s:Str) {res:Int×Unit} (h:qjI s=some res):qf Tryz.prog (.fn 160) [.str s] [] (.tuple [.i res.1,.niliface]) []:=by
 refine qk8 ?_
 unfold qjI at h
 unfold qkY
 split at h
 ·rename_i hl
  rw[qN,if_pos (Nat.ble_eq_true_of_le hl)]
  cases ha:Lib.atoi s with
  |none=>rw[ha]at h;cases h
  |some n=>
   rw[ha]at h
   injection h with h
   subst h
   rfl
 ·cases h
def qdW (n:Int):Option Str:=if-1000000000000000000<n∧n<1000000000000000000 then some (Lib.itoa n)else none
theorem qgR (n:Int) {res:Str} (h:qdW n=some res):qf Tryz.prog (.fn 123) [.i n] [] (.str res) []:=by
 unfold qdW at h
 split at h
 ·rename_i hn
  injection h with h
  subst h
  cases hv:qkI n with
  |none=>
   exfalso
   cases n with
   |ofNat m=>
    have hv:zL (Nat.blt m 1000000000000000000) (some (AV.str (qit 18 m []))) none=none:=hv
    rw[qN,if_pos (show Nat.blt m 1000000000000000000=true from Nat.ble_eq_true_of_le (show m+1≤1000000000000000000 by have:=hn.2;simp at this;omega))]at hv
    cases hv
   |negSucc m=>
    have hv:zL (Nat.blt (Nat.succ m) 1000000000000000000) (some (AV.str (45::qit 18 (Nat.succ m) []))) none=none:=hv
    rw[qN,if_pos (show Nat.blt (Nat.succ m) 1000000000000000000=true from Nat.ble_eq_true_of_le (show m+1+1≤1000000000000000000 by have:=hn.1;omega))]at hv
    cases hv
  |some v=>
   have:=qgT hv
   rw[←this.2.2]
   exact qld hv
 ·cases h
def qjv (s c:Str):Option Str:=if s.length≤1000000∧c.length≤1000∧c.all (fun b=>decide (b.toNat<128))=true then some (Lib.trimS s c)else none
theorem qms (s c:Str) {res:Str} (h:qjv s c=some res):qf Tryz.prog (.fn 142) [.str s,.str c] [] (.str res) []:=by
 unfold qjv at h
 split at h
 ·rename_i hc
  injection h with h
  subst h
  refine qf.ofCalls (enters_of (by kernel_rfl)) (fun F nu w vs hg hargs=>?_) []
  obtain⟨x,ws,rfl,hx,hws⟩:=hargs.cons_inv
  obtain⟨y,us,he,hy,hus⟩:=hws.cons_inv
  obtain rfl:ws=y::us:=by simpa using he
  obtain rfl:=hus.nil_inv
  obtain⟨b,rfl,rfl⟩:=hx.str_inv
  obtain⟨b2,rfl,rfl⟩:=hy.str_inv
  refine⟨_,.str ⟨(Lib.trimS b.data.toList b2.data.toList).toArray⟩ _ rfl,?_⟩
  have:=Any.strings_Trim_laid Tryz.lays160 (by kernel_rfl) b b2 w (by have:=hc.1;rw[←Lib.size_eq]at this;omega) (by have:=hc.2.1;rw[←Lib.size_eq]at this;omega) (ascii_of_all hc.2.2)
  refine Calls.mono (show Calls Tryz.prog 142 #[.string b,.string b2] w _ from this) ?_
  rintro e w' ⟨he,bel⟩
  exact⟨he,qbZ bel⟩
 ·cases h
theorem qkd:Builder.Extra Tryz.prog Tryz.lays105_ren where
 sizeBuilder:=by kernel_rfl
 liesBuilder:=by kernel_rfl
 t5:=by kernel_rfl
 a5:=Tryz.isAgg5
 z5:=Tryz.sizeOf5
 v5:=Tryz.zeroValue5
 infoByte:=by kernel_rfl
 cellsByte:=by kernel_rfl
 sizeByte:=by kernel_rfl
 neB5:=by decide
def qfN (s:Str) (n:Int):Option Str:=if 0≤n∧n≤1000000∧s.length*n.toNat≤1000000 then some (Lib.repeatL s n.toNat)else none
theorem qke (s:Str) (n:Int) {res:Str} (h:qfN s n=some res):qf Tryz.prog (.fn 143) [.str s,.i n] [] (.str res) []:=by
 unfold qfN at h
 split at h
 ·rename_i hc
  injection h with h
  subst h
  refine qf.ofCalls (enters_of (by kernel_rfl)) (fun F nu w vs hg hargs=>?_) []
  obtain⟨x,ws,rfl,hx,hws⟩:=hargs.cons_inv
  obtain⟨y,us,he,hy,hus⟩:=hws.cons_inv
  obtain rfl:ws=y::us:=by simpa using he
  obtain rfl:=hus.nil_inv
  obtain⟨b,rfl,rfl⟩:=hx.str_inv
  obtain rfl:=hy.int_inv
  refine⟨_,.str ⟨(Lib.repeatL b.data.toList n.toNat).toArray⟩ _ rfl,?_⟩
  have:=Any.strings_Repeat Tryz.lays105 qkd b n.toNat w (by omega) (by have:=hc.2.2;rw[←Lib.size_eq]at this;omega)
  rw[Int.toNat_of_nonneg hc.1]at this
  refine Calls.mono (show Calls Tryz.prog 143 #[.string b,.int .i64 n] w _ from this) ?_
  rintro e w' ⟨he,bel⟩
  exact⟨he,qbZ bel⟩
 ·cases h
end Go.Av
