/-
  What functions of Go's library do that the evaluator does not run, told by value.
-/
import Derived.Test.YthgioiakbbhonaaGreatDoorAvFk
import Derived.Test.YthgioiakbbhonaaGreatDoorAvWb
import Derived.Test.YthgioiakbbhonaaGreatDoorAvLayE2
import Derived.Test.YthgioiakbbhonaaGreatDoorChecked
import Derived.KernelRfl
import Derived.Lib.SmallJoins
import Derived.Lib.Bytealg
import Derived.WalkSmall
noncomputable section
namespace Go.Av
open Go.Proofs Go.RowKit Go.Shelf
set_option linter.unusedSectionVars false
set_option maxRecDepth 100000
def qea:String:= "internal/strconv.uint64pow10"
theorem qg4:Tryz.prog.globalNamed qea=some 5:=by kernel_rfl
instance tabGlob:Glob where
 G F w:=F 5/\Lib.TabIs Tryz.prog w qea .u64 Lib.pow10Tab
 gl _:= .undef
 bt t:=bif Nat.beq t 164 then some 5 else none
 mono:=by
  rintro F F' w w' ⟨h1,h2⟩ hF hk;refine⟨hF _ h1,?_⟩;have e:=hk 5 h1;unfold Lib.TabIs World.var? at h2⊢;rw[qg4]at h2⊢;simp only[ZB,e]at h2⊢;exact h2
 val _ _:= .undef _
theorem qfL {w w':World} (h:Below w.heap.size w w'):Kept w w':=⟨λrb hlt=>h.block rb hlt,h.size,h.os,h.tape,h.output⟩
def qlX:Nat->Nat->List UInt8->List UInt8
 |0,_,acc=>acc
 |f+1,n,acc=>jf (Nat.blt n 10) (UInt8.ofNat (48+n)::acc) (qlX f (Nat.div n 10) (UInt8.ofNat (48+Nat.mod n 10)::acc))
theorem qnp: ∀(f n:Nat) (acc:List UInt8),n<10^f->qlX f n acc=Lib.decDigits n++acc\/f=0:=by
 intro f
 induction f with
 |zero=>intro n acc _;exact .inr rfl
 |succ f ih=>
  intro n acc h;left;unfold qlX;rw[zn];rw[Lib.decDigits];by_cases hn:n<10
  ·rw[ae (show Nat.blt n 10=true from bH hn),dif_pos hn];rfl
  rw[aa (by rw[qci (by omega)];simp),dif_neg hn]
  have hlt:n/10<10^f:=by
   rw[bL]at h;omega
  have e1:Nat.div n 10=n/10:=rfl;have e2:Nat.mod n 10=n%10:=rfl;rw[e1,e2];rcases ih (n/10) (UInt8.ofNat (48+n%10)::acc) hlt with h2|h2
  ·rw[h2];simp
  subst h2;simp at h;omega
def qpM (n:Int):Option AV:=Int.rec (motive:=λ_=>Option AV) (λm=>jf (Nat.blt m 1000000000000000000) (some (.str (qlX 18 m []))) none)
 (λm=>jf (Nat.blt (Nat.succ m) 1000000000000000000) (some (.str (45::qlX 18 (Nat.succ m) []))) none) n
theorem qms {n:Int} {v:AV} (h:qpM n=some v): -1000000000000000000<n/\n<1000000000000000000/\v= .str (Lib.itoa n):=by
 cases n with
 |negSucc m=>
  have h:jf (Nat.blt (Nat.succ m) 1000000000000000000) (some (AV.str (45::qlX 18 (Nat.succ m) []))) none=some v:=h;rw[zn]at h;split at h
  ·rename_i hb;have hm:Nat.succ m<1000000000000000000:=Ys hb;injection h with h;refine⟨by omega,by omega,?_⟩;rcases qnp 18 (Nat.succ m) [] (by simpa using hm)with h2|h2
   ·rw[<-h,h2];unfold Lib.itoa;rw[ae (by omega)];simp[Int.natAbs]
   cases h2
  cases h
 |ofNat m=>
  have h:jf (Nat.blt m 1000000000000000000) (some (AV.str (qlX 18 m []))) none=some v:=h;rw[zn]at h;split at h
  ·rename_i hb;have hm:m<1000000000000000000:=Ys hb;injection h with h;refine⟨by show _<(m:Int);omega,by show(m:Int)<_;omega,?_⟩;rcases qnp 18 m [] (by simpa using hm)with h2|h2
   ·rw[<-h,h2];simp[Lib.itoa]
   cases h2
  cases h
theorem qra {n:Int} {v:AV} (h:qpM n=some v):qf Tryz.prog (.fn 186) [.int .i64 n] [] v []:=by
 obtain⟨h0,h1,rfl⟩:=qms h;refine qf.ofCalls (enters_of (by kernel_rfl)) (λF nu w vs hg hargs=>?_) [];obtain⟨x,ws,rfl,hx,hws⟩:=hargs.cons_inv;obtain rfl:=hws.nil_inv;obtain rfl:=hx.int_inv;refine⟨_,.str ⟨(Lib.itoa n).toArray⟩ _ rfl,?_⟩;have:=Any.strconv_Itoa Uo n (by omega) (by omega) w hg.2;refine Calls.mono (show Calls Tryz.prog 186 #[.int .i64 n] w _ from this) ?_;rintro e w' ⟨he,k,os,rfl⟩;refine⟨he,?_⟩;have h2:Below w.heap.size w (w.drewN k):=below_drewN (Below.refl _ _) k;refine⟨λrb hlt=>?_,?_,rfl,rfl,rfl⟩
 ·show((w.drewN k).heap++os)[rb]? =_;rw[YC (by have:=h2.size;omega)];exact h2.block rb hlt
 show _<=((w.drewN k).heap++os).size;have h3:=h2.size;simp only[cW];omega
def qnh (s:List UInt8):Option AV:=jf (Nat.ble s.length 18) (ob (Lib.atoi s) λn=>some (.tuple [.int .i64 n,.niliface])) none
theorem qmX {s:List UInt8} {v:AV} (h:qnh s=some v):qf Tryz.prog (.fn 126) [.str s] [] v []:=by
 unfold qnh at h;rw[zn]at h;split at h
 ·rename_i hl;obtain⟨n,hn,h⟩:=zQ h;injection h with h;subst h;have hl:s.length<=18:=Ys hl;refine qf.ofCalls (enters_of (by kernel_rfl)) (λF nu w vs hg hargs=>?_) [];obtain⟨x,ws,rfl,hx,hws⟩:=hargs.cons_inv;obtain rfl:=hws.nil_inv;obtain⟨b,rfl,rfl⟩:=hx.str_inv;refine⟨.tuple #[.int .i64 n,.nilIface],.tuple _ _ rfl (λi a v ha hv=>?_),?_⟩
  ·match i with
   |0=>simp at ha hv;subst ha hv;exact .int _ _
   |1=>simp at ha hv;subst ha hv;exact .niliface
   |i+2=>simp at ha
  have:=Any.strconv_Atoi Tryz.lays172 b n (by simpa using hl) hn w;refine Calls.mono (show Calls Tryz.prog 126 #[.string b] w _ from this) ?_;rintro e w' ⟨he,t,rfl⟩;refine⟨he,?_⟩;unfold Lib.bytesWorld World.freeze;refine⟨λrb hlt=>?_,?_,rfl,rfl,rfl⟩
  ·simp only[Nat.one_ne_zero,aU,YD];rw[aa (by omega)];exact heap_alloc_old _ _ hlt
  simp
 cases h
def qjl (c:Nat):List UInt8->Nat->Int:=λl=>List.rec (motive:=λ_=>Nat->Int) (λ_=> -1) (λx _ ih k=>jf (Nat.beq x.toNat c) (Int.ofNat k) (ih (Nat.succ k))) l
theorem qq5 (c:UInt8): ∀(l:List UInt8) (k:Nat),qjl c.toNat l k=if Lib.indexByte l c= -1 then-1 else Lib.indexByte l c+k:=by
 intro l
 induction l with
 |nil=>intro k;rfl
 |cons x l ih=>
  intro k;show jf (Nat.beq x.toNat c.toNat) (Int.ofNat k) (qjl c.toNat l (k+1))=_;rw[zn,ih];rw[show Lib.indexByte (x::l) c=if x==c then 0 else if Lib.indexByte l c== -1 then-1 else Lib.indexByte l c+1 from rfl];by_cases h:x=c
  ·subst h;rw[ae (qfu rfl)];simp
  have h2:x.toNat≠c.toNat:=λe=>h (UInt8.toNat_inj.1 e)
  rw[aa (by rw[qdz h2];simp)]
  have h3:(x==c)=false:=by simpa using h
  have:=Lib.indexByte_ge l c;simp only[h3,ZF,aU,bG];by_cases h4:Lib.indexByte l c= -1
  ·simp[h4]
  have h5: ¬Lib.indexByte l c+1= -1:=by omega
  simp only[h4,h5,aU];omega
theorem qlK {s:List UInt8} {c:Int} (h0:0<=c) (h1:c<256):qf Tryz.prog (.fn 222) [.str s,.int .u8 c] [] (.int .i64 (qjl c.toNat s 0)) []:=by
 intro F nu w vs i hargs;obtain⟨x,ws,rfl,hx,hws⟩:=hargs.cons_inv;obtain⟨y,us,he,hy,hus⟩:=hws.cons_inv
 obtain rfl:ws=y::us:=by simpa using he
 obtain rfl:=hus.nil_inv;obtain⟨b,rfl,rfl⟩:=hx.str_inv;obtain rfl:=hy.int_inv;right
 have hc:c.toNat.toUInt8.toNat=c.toNat:=by
  rw[Nat.toUInt8_eq,dV];omega
 refine⟨_,w,F,nu,?_,.refl i,.int .i64 (qjl c.toNat b.data.toList 0)⟩;rw[run_callFunc_extern Tryz.func222 (by kernel_rfl) (by kernel_rfl) (by kernel_rfl) (show Extern.find Tryz.f222=some Extern.BytealgIndexByte.indexByte by rfl),Lib.run_indexByteString];simp only[Result.andThen]
 have e:qjl c.toNat b.data.toList 0=Lib.indexByte b.data.toList c.toNat.toUInt8:=by
  rw[<-hc,qq5,hc];split<;>omega
 rw[e]
def qrG (f:FuncId) (args:List AV):Option AV:=
 if f=186 then match args with
  |[.int .i64 n]=>qpM n
  |_=>none
 else if f=126 then match args with
  |[.str s]=>qnh s
  |_=>none
 else if f=222 then match args with
  |[.str s,.int .u8 c]=>if 0<=c/\c<256 then some (.int .i64 (qjl c.toNat s 0))else none
  |_=>none
 else none
def qrD:zP:=qrJ qrG
set_option maxHeartbeats 1000000 in
theorem qpE:zg Tryz.prog qrD:=by
 refine qpP λf args v h=>?_
 unfold qrG at h;split at h
 ·rename_i e;subst e;split at h
  ·exact qra h
  cases h
 split at h
 ·rename_i e;subst e;split at h
  ·exact qmX h
  cases h
 split at h
 ·rename_i e;subst e;split at h
  ·split at h
   ·rename_i hc;injection h with h;subst h;exact qlK hc.1 hc.2
   cases h
  cases h
 cases h
def insC:zP:=λc args A=>match c with
 | .fn 84=>insA args A
 |_=>none
theorem qqP:zg Tryz.prog insC:=by
 intro c args A v A' h;unfold insC at h;split at h
 ·exact qrj Tryz.lays2_21 (enters_of (by kernel_rfl)) h
 cases h
end Go.Av
