/-
  What functions of Go's library do that the evaluator does not run, told by value.
-/
import Derived.Test.YtcnioemfifogeaaGreatDoorAvFk
import Derived.Test.YtcnioemfifogeaaGreatDoorAvWb
import Derived.Test.YtcnioemfifogeaaGreatDoorAvLayQ3
import Derived.Test.YtcnioemfifogeaaGreatDoorChecked
import Derived.KernelRfl
import Derived.Lib.SmallJoins
import Derived.Lib.Bytealg
import Derived.Shelf.Small.Strs
import Derived.WalkSmall
noncomputable section
namespace Go.Av
open Go.Proofs Go.RowKit Go.Shelf
set_option linter.unusedSectionVars false
set_option maxRecDepth 100000
def qvn:String:= "internal/strconv.uint64pow10"
theorem qzm:Tryz.prog.globalNamed qvn=some 5:=by kernel_rfl
instance tabGlob:Glob where
 G F w:=F 5/\Lib.TabIs Tryz.prog w qvn .u64 Lib.pow10Tab
 gl _:= .undef
 bt t:=bif Nat.beq t 269 then some 5 else none
 mono:=by
  rintro F F' w w' ⟨h1,h2⟩ hF hk
  refine⟨hF _ h1,?_⟩
  have e:=hk 5 h1
  unfold Lib.TabIs World.var? at h2⊢
  rw[qzm]at h2⊢
  simp only[ZB,e]at h2⊢
  exact h2
 val _ _:= .undef _
def qEw:Nat->Nat->List UInt8->List UInt8
 |0,_,acc=>acc
 |f+1,n,acc=>qiF (Nat.blt n 10) (UInt8.ofNat (48+n)::acc) (qEw f (Nat.div n 10) (UInt8.ofNat (48+Nat.mod n 10)::acc))
theorem qFw: ∀(f n:Nat) (acc:List UInt8),n<10^f->qEw f n acc=Lib.decDigits n++acc\/f=0:=by
 intro f
 induction f with
 |zero=>intro n acc _;exact .inr rfl
 |succ f ih=>
  intro n acc h
  left
  unfold qEw
  rw[qfK]
  rw[Lib.decDigits]
  by_cases hn:n<10
  ·rw[if_pos (show Nat.blt n 10=true from Nat.ble_eq_true_of_le hn),dif_pos hn]
   rfl
  rw[if_neg (by rw[qrM (by omega)];simp),dif_neg hn]
  have hlt:n/10<10^f:=by
   rw[Nat.pow_succ]at h
   omega
  have e1:Nat.div n 10=n/10:=rfl
  have e2:Nat.mod n 10=n%10:=rfl
  rw[e1,e2]
  rcases ih (n/10) (UInt8.ofNat (48+n%10)::acc) hlt with h2|h2
  ·rw[h2];simp
  subst h2
  simp at h
  omega
def qHg (n:Int):Option AV:=Int.rec (motive:=fun _=>Option AV) (fun m=>qiF (Nat.blt m 1000000000000000000) (some (.str (qEw 18 m []))) none)
 (fun m=>qiF (Nat.blt (Nat.succ m) 1000000000000000000) (some (.str (45::qEw 18 (Nat.succ m) []))) none) n
theorem qE0 {n:Int} {v:AV} (h:qHg n=some v): -1000000000000000000<n/\n<1000000000000000000/\v= .str (Lib.itoa n):=by
 cases n with
 |negSucc m=>
  have h:qiF (Nat.blt (Nat.succ m) 1000000000000000000) (some (AV.str (45::qEw 18 (Nat.succ m) []))) none=some v:=h
  rw[qfK]at h
  split at h
  ·rename_i hb
   have hm:Nat.succ m<1000000000000000000:=Ys hb
   injection h with h
   refine⟨by omega,by omega,?_⟩
   rcases qFw 18 (Nat.succ m) [] (by simpa using hm)with h2|h2
   ·rw[<-h,h2]
    unfold Lib.itoa
    rw[if_pos (by omega)]
    simp[Int.natAbs]
   cases h2
  cases h
 |ofNat m=>
  have h:qiF (Nat.blt m 1000000000000000000) (some (AV.str (qEw 18 m []))) none=some v:=h
  rw[qfK]at h
  split at h
  ·rename_i hb
   have hm:m<1000000000000000000:=Ys hb
   injection h with h
   refine⟨by show _<(m:Int);omega,by show(m:Int)<_;omega,?_⟩
   rcases qFw 18 m [] (by simpa using hm)with h2|h2
   ·rw[<-h,h2]
    simp[Lib.itoa]
   cases h2
  cases h
theorem qID {n:Int} {v:AV} (h:qHg n=some v):zu Tryz.prog (.fn 220) [.int .i64 n] [] v []:=by
 obtain⟨h0,h1,rfl⟩:=qE0 h
 refine zu.ofCalls (enters_of (by kernel_rfl)) (fun F nu w vs hg hargs=>?_) []
 obtain⟨x,ws,rfl,hx,hws⟩:=hargs.cons_inv
 obtain rfl:=hws.nil_inv
 obtain rfl:=hx.int_inv
 refine⟨_,.str ⟨(Lib.itoa n).toArray⟩ _ rfl,?_⟩
 have:=Any.strconv_Itoa Tryz.lays171 n (by omega) (by omega) w hg.2
 refine Calls.mono (show Calls Tryz.prog 220 #[.int .i64 n] w _ from this) ?_
 rintro e w' ⟨he,k,os,rfl⟩
 refine⟨he,?_⟩
 have h2:Below w.heap.size w (w.drewN k):=below_drewN (Below.refl _ _) k
 refine⟨fun rb hlt=>?_,?_,rfl,rfl,rfl⟩
 ·show((w.drewN k).heap++os)[rb]? =_
  rw[YC (by have:=h2.size;omega)]
  exact h2.block rb hlt
 show _<=((w.drewN k).heap++os).size
 have h3:=h2.size
 simp only[Array.size_append]
 omega
def qHa (s:List UInt8):Option AV:=qiF (Nat.ble s.length 18) (ob (Lib.atoi s) fun n=>some (.tuple [.int .i64 n,.niliface])) none
theorem qIC {s:List UInt8} {v:AV} (h:qHa s=some v):zu Tryz.prog (.fn 190) [.str s] [] v []:=by
 unfold qHa at h
 rw[qfK]at h
 split at h
 ·rename_i hl
  obtain⟨n,hn,h⟩:=qhb h
  injection h with h
  subst h
  have hl:s.length<=18:=Ys hl
  refine zu.ofCalls (enters_of (by kernel_rfl)) (fun F nu w vs hg hargs=>?_) []
  obtain⟨x,ws,rfl,hx,hws⟩:=hargs.cons_inv
  obtain rfl:=hws.nil_inv
  obtain⟨b,rfl,rfl⟩:=hx.str_inv
  refine⟨.tuple #[.int .i64 n,.nilIface],.tuple _ _ rfl (fun i a v ha hv=>?_),?_⟩
  ·match i with
   |0=>simp at ha hv;subst ha hv;exact .int _ _
   |1=>simp at ha hv;subst ha hv;exact .niliface
   |i+2=>simp at ha
  have:=Any.strconv_Atoi Tryz.lays172 b n (by simpa using hl) hn w
  refine Calls.mono (show Calls Tryz.prog 190 #[.string b] w _ from this) ?_
  rintro e w' ⟨he,t,rfl⟩
  refine⟨he,?_⟩
  unfold Lib.bytesWorld World.freeze
  refine⟨fun rb hlt=>?_,?_,rfl,rfl,rfl⟩
  ·simp only[Nat.one_ne_zero,if_false,YD]
   rw[if_neg (by omega)]
   exact heap_alloc_old _ _ hlt
  simp
 cases h
def qFM (c:Nat):List UInt8->Nat->Int:=fun l=>List.rec (motive:=fun _=>Nat->Int) (fun _=> -1) (fun x _ ih k=>qiF (Nat.beq x.toNat c) (Int.ofNat k) (ih (Nat.succ k))) l
theorem qIr (c:UInt8): ∀(l:List UInt8) (k:Nat),qFM c.toNat l k=if Lib.indexByte l c= -1 then-1 else Lib.indexByte l c+k:=by
 intro l
 induction l with
 |nil=>intro k;rfl
 |cons x l ih=>
  intro k
  show qiF (Nat.beq x.toNat c.toNat) (Int.ofNat k) (qFM c.toNat l (k+1))=_
  rw[qfK,ih]
  rw[show Lib.indexByte (x::l) c=if x==c then 0 else if Lib.indexByte l c== -1 then-1 else Lib.indexByte l c+1 from rfl]
  by_cases h:x=c
  ·subst h
   rw[if_pos (qw6 rfl)]
   simp
  have h2:x.toNat≠c.toNat:=fun e=>h (UInt8.toNat_inj.1 e)
  rw[if_neg (by rw[qvT h2];simp)]
  have h3:(x==c)=false:=by simpa using h
  have:=Lib.indexByte_ge l c
  simp only[h3,ZF,if_false,beq_iff_eq]
  by_cases h4:Lib.indexByte l c= -1
  ·simp[h4]
  have h5: ¬Lib.indexByte l c+1= -1:=by omega
  simp only[h4,h5,if_false]
  omega
theorem qHB {s:List UInt8} {c:Int} (h0:0<=c) (h1:c<256):zu Tryz.prog (.fn 279) [.str s,.int .u8 c] [] (.int .i64 (qFM c.toNat s 0)) []:=by
 intro F nu w vs i hargs
 obtain⟨x,ws,rfl,hx,hws⟩:=hargs.cons_inv
 obtain⟨y,us,he,hy,hus⟩:=hws.cons_inv
 obtain rfl:ws=y::us:=by simpa using he
 obtain rfl:=hus.nil_inv
 obtain⟨b,rfl,rfl⟩:=hx.str_inv
 obtain rfl:=hy.int_inv
 right
 have hc:c.toNat.toUInt8.toNat=c.toNat:=by
  rw[Nat.toUInt8_eq,UInt8.toNat_ofNat']
  omega
 refine⟨_,w,F,nu,?_,.refl i,.int .i64 (qFM c.toNat b.data.toList 0)⟩
 rw[run_callFunc_extern Tryz.func279 (by kernel_rfl) (by kernel_rfl) (by kernel_rfl) (show Extern.find Tryz.f279=some Extern.BytealgIndexByte.indexByte by rfl),Lib.run_indexByteString]
 simp only[Result.andThen]
 have e:qFM c.toNat b.data.toList 0=Lib.indexByte b.data.toList c.toNat.toUInt8:=by
  rw[<-hc,qIr,hc]
  split<;>omega
 rw[e]
def qI0 (f:FuncId) (args:List AV):Option AV:=
 if f=220 then match args with
  |[.int .i64 n]=>qHg n
  |_=>none
 else if f=190 then match args with
  |[.str s]=>qHa s
  |_=>none
 else if f=279 then match args with
  |[.str s,.int .u8 c]=>if 0<=c/\c<256 then some (.int .i64 (qFM c.toNat s 0))else none
  |_=>none
 else none
def qIZ:qgt:=qGB qI0
set_option maxHeartbeats 1000000 in
theorem qHn:qeA Tryz.prog qIZ:=by
 refine qDM fun f args v h=>?_
 unfold qI0 at h
 split at h
 ·rename_i e
  subst e
  split at h
  ·exact qID h
  cases h
 split at h
 ·rename_i e
  subst e
  split at h
  ·exact qIC h
  cases h
 split at h
 ·rename_i e
  subst e
  split at h
  ·split at h
   ·rename_i hc
    injection h with h
    subst h
    exact qHB hc.1 hc.2
   cases h
  cases h
 cases h
def insC:qgt:=fun _ _ _=>none
theorem qIx:qeA Tryz.prog insC:=by
 intro c args A v A' h
 cases h
theorem qBf (a b:List UInt8):zu Tryz.prog (.fn 129) [.str a,.str b] [] (.int .i64 (Lib.compareBytes a b)) []:=by
 refine zu.ofCalls (enters_of (by kernel_rfl)) (fun F nu w vs hg hargs=>?_) []
 obtain⟨x,ws,rfl,hx,hws⟩:=hargs.cons_inv
 obtain⟨y,us,he,hy,hus⟩:=hws.cons_inv
 obtain rfl:ws=y::us:=by simpa using he
 obtain rfl:=hus.nil_inv
 obtain⟨a,rfl,rfl⟩:=hx.str_inv
 obtain⟨b,rfl,rfl⟩:=hy.str_inv
 refine⟨.int .i64 (Lib.compareBytes a.data.toList b.data.toList),.int _ _,?_⟩
 refine Calls.mono (show Calls Tryz.prog 129 #[.string a,.string b] w _ from Any.strings_Compare Tryz.lays106 a b w) ?_
 rintro e w' ⟨he,rfl⟩
 exact⟨he,Kept.refl _⟩
def cmpF (f:FuncId) (args:List AV):Option AV:=
 if f=129 then match args with
  |[.str a,.str b]=>some (.int .i64 (Lib.compareBytes a b))
  |_=>none
 else none
def qGw:qgt:=orElse (qGB cmpF) qIZ
theorem qGp:qeA Tryz.prog qGw:=by
 refine qBJ (qDM fun f args v h=>?_) qHn
 unfold cmpF at h
 split at h
 ·rename_i e
  subst e
  split at h
  ·injection h with h
   subst h
   exact qBf _ _
  cases h
 cases h
end Go.Av
