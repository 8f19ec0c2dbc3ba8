/-
  What functions of Go's library do that the evaluator does not run, told by value.
-/
import Derived.Test.YtkdbjocpkfeckaaGreatDoorAvFk
import Derived.Test.YtkdbjocpkfeckaaGreatDoorAvWb
import Derived.Test.YtkdbjocpkfeckaaGreatDoorAvLayB9
import Derived.Test.YtkdbjocpkfeckaaGreatDoorChecked
import Derived.KernelRfl
import Derived.Lib.SmallJoins
import Derived.Lib.Bytealg
import Derived.WalkSmall
noncomputable section
namespace Go.Av
open Go.Proofs Go.RowKit Go.Shelf
set_option linter.unusedSectionVars false
set_option maxRecDepth 100000
def qdK:String:= "internal/strconv.uint64pow10"
theorem qgw:Tryz.prog.globalNamed qdK=some 7:=by kernel_rfl
instance tabGlob:Glob where
 G F w:=F 7/\Lib.TabIs Tryz.prog w qdK .u64 Lib.pow10Tab
 gl _:= .undef
 bt t:=bif Nat.beq t 276 then some 5 else none
 mono:=by
  rintro F F' w w' ⟨h1,h2⟩ hF hk;refine⟨hF _ h1,?_⟩;have e:=hk 7 h1;unfold Lib.TabIs World.var? at h2⊢;rw[qgw]at h2⊢;simp only[ZB,e]at h2⊢;exact h2
 val _ _:= .undef _
def qmD:Nat->Nat->List UInt8->List UInt8
 |0,_,acc=>acc
 |f+1,n,acc=>jD (Nat.blt n 10) (UInt8.ofNat (48+n)::acc) (qmD f (Nat.div n 10) (UInt8.ofNat (48+Nat.mod n 10)::acc))
theorem qnG: ∀(f n:Nat) (acc:List UInt8),n<10^f->qmD f n acc=Lib.decDigits n++acc\/f=0:=by
 intro f
 induction f with
 |zero=>intro n acc _;exact .inr rfl
 |succ f ih=>
  intro n acc h;left;unfold qmD;rw[zP];rw[Lib.decDigits];by_cases hn:n<10
  ·rw[if_pos (show Nat.blt n 10=true from Nat.ble_eq_true_of_le hn),dif_pos hn];rfl
  rw[if_neg (by rw[qbH (by omega)];simp),dif_neg hn]
  have hlt:n/10<10^f:=by
   rw[Nat.pow_succ]at h;omega
  have e1:Nat.div n 10=n/10:=rfl;have e2:Nat.mod n 10=n%10:=rfl;rw[e1,e2];rcases ih (n/10) (UInt8.ofNat (48+n%10)::acc) hlt with h2|h2
  ·rw[h2];simp
  subst h2;simp at h;omega
def qsp (n:Int):Option AV:=Int.rec (motive:=fun _=>Option AV) (fun m=>jD (Nat.blt m 1000000000000000000) (some (.str (qmD 18 m []))) none)
 (fun m=>jD (Nat.blt (Nat.succ m) 1000000000000000000) (some (.str (45::qmD 18 (Nat.succ m) []))) none) n
theorem qmr {n:Int} {v:AV} (h:qsp n=some v): -1000000000000000000<n/\n<1000000000000000000/\v= .str (Lib.itoa n):=by
 cases n with
 |negSucc m=>
  have h:jD (Nat.blt (Nat.succ m) 1000000000000000000) (some (AV.str (45::qmD 18 (Nat.succ m) []))) none=some v:=h;rw[zP]at h;split at h
  ·rename_i hb;have hm:Nat.succ m<1000000000000000000:=Ys hb;injection h with h;refine⟨by omega,by omega,?_⟩;rcases qnG 18 (Nat.succ m) [] (by simpa using hm)with h2|h2
   ·rw[<-h,h2];unfold Lib.itoa;rw[if_pos (by omega)];simp[Int.natAbs]
   cases h2
  cases h
 |ofNat m=>
  have h:jD (Nat.blt m 1000000000000000000) (some (AV.str (qmD 18 m []))) none=some v:=h;rw[zP]at h;split at h
  ·rename_i hb;have hm:m<1000000000000000000:=Ys hb;injection h with h;refine⟨by show _<(m:Int);omega,by show(m:Int)<_;omega,?_⟩;rcases qnG 18 m [] (by simpa using hm)with h2|h2
   ·rw[<-h,h2];simp[Lib.itoa]
   cases h2
  cases h
theorem qsR {n:Int} {v:AV} (h:qsp n=some v):qb Tryz.prog (.fn 263) [.int .i64 n] [] v []:=by
 obtain⟨h0,h1,rfl⟩:=qmr h;refine qb.ofCalls (enters_of (by kernel_rfl)) (fun F nu w vs hg hargs=>?_) [];obtain⟨x,ws,rfl,hx,hws⟩:=hargs.cons_inv;obtain rfl:=hws.nil_inv;obtain rfl:=hx.int_inv;refine⟨_,.str ⟨(Lib.itoa n).toArray⟩ _ rfl,?_⟩;have:=Any.strconv_Itoa Tryz.lays171 n (by omega) (by omega) w hg.2;refine Calls.mono (show Calls Tryz.prog 263 #[.int .i64 n] w _ from this) ?_;rintro e w' ⟨he,k,os,rfl⟩;refine⟨he,?_⟩;have h2:Below w.heap.size w (w.drewN k):=below_drewN (Below.refl _ _) k;refine⟨fun rb hlt=>?_,?_,rfl,rfl,rfl⟩
 ·show((w.drewN k).heap++os)[rb]? =_;rw[YC (by have:=h2.size;omega)];exact h2.block rb hlt
 show _<=((w.drewN k).heap++os).size;have h3:=h2.size;simp only[Array.size_append];omega
def qrL (s:List UInt8):Option AV:=jD (Nat.ble s.length 18) (ob (Lib.atoi s) fun n=>some (.tuple [.int .i64 n,.niliface])) none
theorem qtx {s:List UInt8} {v:AV} (h:qrL s=some v):qb Tryz.prog (.fn 192) [.str s] [] v []:=by
 unfold qrL at h;rw[zP]at h;split at h
 ·rename_i hl;obtain⟨n,hn,h⟩:=jc h;injection h with h;subst h;have hl:s.length<=18:=Ys hl;refine qb.ofCalls (enters_of (by kernel_rfl)) (fun F nu w vs hg hargs=>?_) [];obtain⟨x,ws,rfl,hx,hws⟩:=hargs.cons_inv;obtain rfl:=hws.nil_inv;obtain⟨b,rfl,rfl⟩:=hx.str_inv;refine⟨.tuple #[.int .i64 n,.nilIface],.tuple _ _ rfl (fun i a v ha hv=>?_),?_⟩
  ·match i with
   |0=>simp at ha hv;subst ha hv;exact .int _ _
   |1=>simp at ha hv;subst ha hv;exact .niliface
   |i+2=>simp at ha
  have:=Any.strconv_Atoi Tryz.lays172 b n (by simpa using hl) hn w;refine Calls.mono (show Calls Tryz.prog 192 #[.string b] w _ from this) ?_;rintro e w' ⟨he,t,rfl⟩;refine⟨he,?_⟩;unfold Lib.bytesWorld World.freeze;refine⟨fun rb hlt=>?_,?_,rfl,rfl,rfl⟩
  ·simp only[Nat.one_ne_zero,if_false,YD];rw[if_neg (by omega)];exact heap_alloc_old _ _ hlt
  simp
 cases h
def qpz (c:Nat):List UInt8->Nat->Int:=fun l=>List.rec (motive:=fun _=>Nat->Int) (fun _=> -1) (fun x _ ih k=>jD (Nat.beq x.toNat c) (Int.ofNat k) (ih (Nat.succ k))) l
theorem qs4 (c:UInt8): ∀(l:List UInt8) (k:Nat),qpz c.toNat l k=if Lib.indexByte l c= -1 then-1 else Lib.indexByte l c+k:=by
 intro l
 induction l with
 |nil=>intro k;rfl
 |cons x l ih=>
  intro k;show jD (Nat.beq x.toNat c.toNat) (Int.ofNat k) (qpz c.toNat l (k+1))=_;rw[zP,ih];rw[show Lib.indexByte (x::l) c=if x==c then 0 else if Lib.indexByte l c== -1 then-1 else Lib.indexByte l c+1 from rfl];by_cases h:x=c
  ·subst h;rw[if_pos (qeV rfl)];simp
  have h2:x.toNat≠c.toNat:=fun e=>h (UInt8.toNat_inj.1 e)
  rw[if_neg (by rw[qd2 h2];simp)]
  have h3:(x==c)=false:=by simpa using h
  have:=Lib.indexByte_ge l c;simp only[h3,ZF,if_false,beq_iff_eq];by_cases h4:Lib.indexByte l c= -1
  ·simp[h4]
  have h5: ¬Lib.indexByte l c+1= -1:=by omega
  simp only[h4,h5,if_false];omega
theorem qq5 {s:List UInt8} {c:Int} (h0:0<=c) (h1:c<256):qb Tryz.prog (.fn 301) [.str s,.int .u8 c] [] (.int .i64 (qpz c.toNat s 0)) []:=by
 intro F nu w vs i hargs;obtain⟨x,ws,rfl,hx,hws⟩:=hargs.cons_inv;obtain⟨y,us,he,hy,hus⟩:=hws.cons_inv
 obtain rfl:ws=y::us:=by simpa using he
 obtain rfl:=hus.nil_inv;obtain⟨b,rfl,rfl⟩:=hx.str_inv;obtain rfl:=hy.int_inv;right
 have hc:c.toNat.toUInt8.toNat=c.toNat:=by
  rw[Nat.toUInt8_eq,UInt8.toNat_ofNat'];omega
 refine⟨_,w,F,nu,?_,.refl i,.int .i64 (qpz c.toNat b.data.toList 0)⟩;rw[run_callFunc_extern Tryz.func301 (by kernel_rfl) (by kernel_rfl) (by kernel_rfl) (show Extern.find Tryz.f301=some Extern.BytealgIndexByte.indexByte by rfl),Lib.run_indexByteString];simp only[Result.andThen]
 have e:qpz c.toNat b.data.toList 0=Lib.indexByte b.data.toList c.toNat.toUInt8:=by
  rw[<-hc,qs4,hc];split<;>omega
 rw[e]
def qtV (f:FuncId) (args:List AV):Option AV:=
 if f=263 then match args with
  |[.int .i64 n]=>qsp n
  |_=>none
 else if f=192 then match args with
  |[.str s]=>qrL s
  |_=>none
 else if f=301 then match args with
  |[.str s,.int .u8 c]=>if 0<=c/\c<256 then some (.int .i64 (qpz c.toNat s 0))else none
  |_=>none
 else none
def qtW:zY:=qtQ qtV
set_option maxHeartbeats 1000000 in
theorem qpH:zf Tryz.prog qtW:=by
 refine qqB fun f args v h=>?_
 unfold qtV at h;split at h
 ·rename_i e;subst e;split at h
  ·exact qsR h
  cases h
 split at h
 ·rename_i e;subst e;split at h
  ·exact qtx h
  cases h
 split at h
 ·rename_i e;subst e;split at h
  ·split at h
   ·rename_i hc;injection h with h;subst h;exact qq5 hc.1 hc.2
   cases h
  cases h
 cases h
end Go.Av
