/-
  Functions of Go's library on texts and words, told by plain functions.
-/
import Derived.Test.YtkdbjocpkfeckaaGreatDoorAvPrimB9
import Derived.Test.YtkdbjocpkfeckaaGreatDoorAvWb
import Derived.Test.YtkdbjocpkfeckaaGreatDoorAvWa
import Derived.Test.YtkdbjocpkfeckaaGreatDoorAvPt
import Derived.Lib.AppendIntMem
noncomputable section
namespace Go.Av
open Go.Proofs Go.RowKit Go.Shelf Go.Sort
set_option linter.unusedSectionVars false
set_option linter.unusedVariables false
set_option maxRecDepth 100000
def qlo (s:Str) (c:Int):Option Int:=if 0<=c/\c<256 then some (qlm c.toNat s 0)else none
theorem qmV (s:Str) (c:Int) {res:Int} (h:qlo s c=some res):qf Tryz.prog (.fn 301) [.str s,.int .u8 c] [] (.i res) []:=by
 unfold qlo at h;split at h
 ·rename_i hc;injection h with h;subst h;exact qjS hc.1 hc.2
 cases h
def qoZ (s:Str):Option (Int×Unit):=if s.length<=18 then(Lib.atoi s).map fun n=>(n,())else none
theorem qpc (s:Str) {res:Int×Unit} (h:qoZ s=some res):qf Tryz.prog (.fn 192) [.str s] [] (.tuple [.i res.1,.niliface]) []:=by
 refine qmn ?_;unfold qoZ at h;unfold qma;split at h
 ·rename_i hl;rw[za,if_pos (Nat.ble_eq_true_of_le hl)]
  cases ha:Lib.atoi s with
  |none=>rw[ha]at h;cases h
  |some n=>
   rw[ha]at h;injection h with h;subst h;rfl
 cases h
theorem qmA {w:World} {k:Nat} {os:Array Obj}:Kept w (grow (w.drewN k) os):=by
 have h2:Below w.heap.size w (w.drewN k):=below_drewN (Below.refl _ _) k;refine⟨fun rb hlt=>?_,?_,rfl,rfl,rfl⟩
 ·show((w.drewN k).heap++os)[rb]? =_;rw[YC (by have:=h2.size;omega)];exact h2.block rb hlt
 show _<=((w.drewN k).heap++os).size;have h3:=h2.size;simp only[Array.size_append];omega
def qmi (n:Int):Option Str:=if-9223372036854775808<=n/\n<=9223372036854775807 then some (Lib.itoa n)else none
theorem qpE (n:Int) {res:Str} (h:qmi n=some res):qf Tryz.prog (.fn 263) [.i n] [] (.str res) []:=by
 unfold qmi at h;split at h
 ·rename_i hc;injection h with h;subst h;refine qf.ofCalls (enters_of (by kernel_rfl)) (fun F nu w vs hg hargs=>?_) [];obtain⟨x,ws,rfl,hx,hws⟩:=hargs.cons_inv;obtain rfl:=hws.nil_inv;obtain rfl:=hx.int_inv;refine⟨_,.str ⟨(Lib.itoa n).toArray⟩ _ rfl,?_⟩;have:=Any.strconv_Itoa Tryz.lays171 n (by omega) (by omega) w hg.2;refine Calls.mono (show Calls Tryz.prog 263 #[.int .i64 n] w _ from this) ?_;rintro e w' ⟨he,k,os,rfl⟩;exact⟨he,qmA⟩
 cases h
set_option maxHeartbeats 6400000 in
def qn3 (s c:Str):Option Str:=if s.length<=1000000/\c.length<=1000/\c.all (fun b=>decide (b.toNat<128))=true then some (Lib.trimS s c)else none
theorem qg3 (s c:Str) {res:Str} (h:qn3 s c=some res):qf Tryz.prog (.fn 186) [.str s,.str c] [] (.str res) []:=by
 unfold qn3 at h;split at h
 ·rename_i hc;injection h with h;subst h;refine qf.ofCalls (enters_of (by kernel_rfl)) (fun F nu w vs hg hargs=>?_) [];obtain⟨x,ws,rfl,hx,hws⟩:=hargs.cons_inv;obtain⟨y,us,he,hy,hus⟩:=hws.cons_inv
  obtain rfl:ws=y::us:=by simpa using he
  obtain rfl:=hus.nil_inv;obtain⟨b,rfl,rfl⟩:=hx.str_inv;obtain⟨b2,rfl,rfl⟩:=hy.str_inv;refine⟨_,.str ⟨(Lib.trimS b.data.toList b2.data.toList).toArray⟩ _ rfl,?_⟩;have:=Any.strings_Trim_laid Tryz.lays160 (by kernel_rfl) b b2 w (by have:=hc.1;rw[<-Lib.size_eq]at this;omega) (by have:=hc.2.1;rw[<-Lib.size_eq]at this;omega) (ascii_of_all hc.2.2);refine Calls.mono (show Calls Tryz.prog 186 #[.string b,.string b2] w _ from this) ?_;rintro e w' ⟨he,bel⟩;exact⟨he,qhS bel⟩
 cases h
end Go.Av
