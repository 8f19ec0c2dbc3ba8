/-
  What functions of Go's library do that the evaluator does not run, told by value.
-/
import Derived.Test.YtcgpgmdcfcncpaaGreatDoorAvFk
import Derived.Test.YtcgpgmdcfcncpaaGreatDoorAvWb
import Derived.Test.YtcgpgmdcfcncpaaGreatDoorAvLayJ
import Derived.Test.YtcgpgmdcfcncpaaGreatDoorChecked
import Derived.KernelRfl
import Derived.Lib.SmallJoins
import Derived.Lib.Bytealg
import Derived.WalkSmall
noncomputable section
namespace Go.Av
open Go.Proofs Go.RowKit Go.Shelf
set_option linter.unusedSectionVars false
set_option maxRecDepth 100000
def qev:String:= "internal/strconv.uint64pow10"
theorem qhq:Tryz.prog.globalNamed qev=some 2:=by kernel_rfl
instance tabGlob:Glob where
 G F w:=F 2/\Lib.TabIs Tryz.prog w qev .u64 Lib.pow10Tab
 gl _:= .undef
 bt t:=bif Nat.beq t 205 then some 5 else none
 mono:=by
  rintro F F' w w' ⟨h1,h2⟩ hF hk
  refine⟨hF _ h1,?_⟩
  have e:=hk 2 h1
  unfold Lib.TabIs World.var? at h2⊢
  rw[qhq]at h2⊢
  simp only[ZB,e]at h2⊢
  exact h2
 val _ _:= .undef _
theorem qjc {w w':World} (h:Below w.heap.size w w'):Kept w w':=⟨fun rb hlt=>h.block rb hlt,h.size,h.os,h.tape,h.output⟩
def qlS:Nat->Nat->List UInt8->List UInt8
 |0,_,acc=>acc
 |f+1,n,acc=>jN (Nat.blt n 10) (UInt8.ofNat (48+n)::acc) (qlS f (Nat.div n 10) (UInt8.ofNat (48+Nat.mod n 10)::acc))
theorem qmW: ∀(f n:Nat) (acc:List UInt8),n<10^f->qlS f n acc=Lib.decDigits n++acc\/f=0:=by
 intro f
 induction f with
 |zero=>intro n acc _;exact .inr rfl
 |succ f ih=>
  intro n acc h
  left
  unfold qlS
  rw[zN]
  rw[Lib.decDigits]
  by_cases hn:n<10
  ·rw[if_pos (show Nat.blt n 10=true from Nat.ble_eq_true_of_le hn),dif_pos hn]
   rfl
  rw[if_neg (by rw[qcm (by omega)];simp),dif_neg hn]
  have hlt:n/10<10^f:=by
   rw[Nat.pow_succ]at h
   omega
  have e1:Nat.div n 10=n/10:=rfl
  have e2:Nat.mod n 10=n%10:=rfl
  rw[e1,e2]
  rcases ih (n/10) (UInt8.ofNat (48+n%10)::acc) hlt with h2|h2
  ·rw[h2];simp
  subst h2
  simp at h
  omega
def qoR (n:Int):Option AV:=Int.rec (motive:=fun _=>Option AV) (fun m=>jN (Nat.blt m 1000000000000000000) (some (.str (qlS 18 m []))) none)
 (fun m=>jN (Nat.blt (Nat.succ m) 1000000000000000000) (some (.str (45::qlS 18 (Nat.succ m) []))) none) n
theorem qmB {n:Int} {v:AV} (h:qoR n=some v): -1000000000000000000<n/\n<1000000000000000000/\v= .str (Lib.itoa n):=by
 cases n with
 |negSucc m=>
  have h:jN (Nat.blt (Nat.succ m) 1000000000000000000) (some (AV.str (45::qlS 18 (Nat.succ m) []))) none=some v:=h
  rw[zN]at h
  split at h
  ·rename_i hb
   have hm:Nat.succ m<1000000000000000000:=Ys hb
   injection h with h
   refine⟨by omega,by omega,?_⟩
   rcases qmW 18 (Nat.succ m) [] (by simpa using hm)with h2|h2
   ·rw[<-h,h2]
    unfold Lib.itoa
    rw[if_pos (by omega)]
    simp[Int.natAbs]
   cases h2
  cases h
 |ofNat m=>
  have h:jN (Nat.blt m 1000000000000000000) (some (AV.str (qlS 18 m []))) none=some v:=h
  rw[zN]at h
  split at h
  ·rename_i hb
   have hm:m<1000000000000000000:=Ys hb
   injection h with h
   refine⟨by show _<(m:Int);omega,by show(m:Int)<_;omega,?_⟩
   rcases qmW 18 m [] (by simpa using hm)with h2|h2
   ·rw[<-h,h2]
    simp[Lib.itoa]
   cases h2
  cases h
theorem qq2 {n:Int} {v:AV} (h:qoR n=some v):qb Tryz.prog (.fn 169) [.int .i64 n] [] v []:=by
 obtain⟨h0,h1,rfl⟩:=qmB h
 refine qb.ofCalls (enters_of (by kernel_rfl)) (fun F nu w vs hg hargs=>?_) []
 obtain⟨x,ws,rfl,hx,hws⟩:=hargs.cons_inv
 obtain rfl:=hws.nil_inv
 obtain rfl:=hx.int_inv
 refine⟨_,.str ⟨(Lib.itoa n).toArray⟩ _ rfl,?_⟩
 have:=Any.strconv_Itoa Uw n (by omega) (by omega) w hg.2
 refine Calls.mono (show Calls Tryz.prog 169 #[.int .i64 n] w _ from this) ?_
 rintro e w' ⟨he,k,os,rfl⟩
 refine⟨he,?_⟩
 have h2:Below w.heap.size w (w.drewN k):=below_drewN (Below.refl _ _) k
 refine⟨fun rb hlt=>?_,?_,rfl,rfl,rfl⟩
 ·show((w.drewN k).heap++os)[rb]? =_
  rw[YC (by have:=h2.size;omega)]
  exact h2.block rb hlt
 show _<=((w.drewN k).heap++os).size
 have h3:=h2.size
 simp only[Array.size_append]
 omega
def qry (f:FuncId) (args:List AV):Option AV:=
 if f=169 then match args with
  |[.int .i64 n]=>qoR n
  |_=>none
 else none
def qrs:zP:=qrz qry
theorem qp5:qZ Tryz.prog qrs:=by
 refine qpt fun f args v h=>?_
 unfold qry at h
 split at h
 ·rename_i e
  subst e
  split at h
  ·exact qq2 h
  cases h
 cases h
def insC:zP:=fun _ _ _=>none
theorem qq8:qZ Tryz.prog insC:=by
 intro c args A v A' h
 cases h
end Go.Av
