/-
  What functions of Go's library do that the evaluator does not run, told by value.
-/
import Derived.Test.YtjflombnfhlkaaaGreatDoorAvRw
import Derived.Test.YtjflombnfhlkaaaGreatDoorAvLay
import Derived.Test.YtjflombnfhlkaaaGreatDoorChecked
import Derived.KernelRfl
import Derived.Lib.SmallJoins
import Derived.Lib.Bytealg
import Derived.WalkSmall
noncomputable section
namespace Go.Av
open Go.Proofs Go.RowKit Go.Shelf
set_option linter.unusedSectionVars false
set_option maxRecDepth 100000
def qcB:String:= "internal/strconv.uint64pow10"
theorem qfj:Tryz.prog.globalNamed qcB=some 3:=by kernel_rfl
instance tabGlob:Glob where
 G F w:=F 3∧Lib.TabIs Tryz.prog w qcB .u64 Lib.pow10Tab
 gl _:= .undef
 mono:=by
  rintro F F' w w' ⟨h1,h2⟩ hF hk
  refine⟨hF _ h1,?_⟩
  have e:=hk 3 h1
  unfold Lib.TabIs World.var? at h2⊢
  rw[qfj]at h2⊢
  simp only[Option.bind_some,e]at h2⊢
  exact h2
 val _ _:= .undef _
theorem qeg {w w':World} (h:Below w.heap.size w w'):Kept w w':=⟨fun rb hlt=>h.block rb hlt,h.size,h.os,h.tape,h.output⟩
def qkb:Nat→Nat→List UInt8→List UInt8
 |0,_,acc=>acc
 |f+1,n,acc=>jh (Nat.blt n 10) (UInt8.ofNat (48+n)::acc) (qkb f (Nat.div n 10) (UInt8.ofNat (48+Nat.mod n 10)::acc))
theorem qkY: ∀(f n:Nat) (acc:List UInt8),n<10^f→qkb f n acc=Lib.decDigits n++acc∨f=0:=by
 intro f
 induction f with
 |zero=>intro n acc _;exact .inr rfl
 |succ f ih=>
  intro n acc h
  left
  unfold qkb
  rw[zi]
  rw[Lib.decDigits]
  by_cases hn:n<10
  ·rw[if_pos (show Nat.blt n 10=true from Nat.ble_eq_true_of_le hn),dif_pos hn]
   rfl
  ·rw[if_neg (by rw[qa3 (by omega)];simp),dif_neg hn]
   have hlt:n/10<10^f:=by
    rw[Nat.pow_succ]at h
    omega
   have e1:Nat.div n 10=n/10:=rfl
   have e2:Nat.mod n 10=n%10:=rfl
   rw[e1,e2]
   rcases ih (n/10) (UInt8.ofNat (48+n%10)::acc) hlt with h2|h2
   ·rw[h2];simp
   ·subst h2
    simp at h
    omega
def qng (n:Int):Option AV:=Int.rec (motive:=fun _=>Option AV) (fun m=>jh (Nat.blt m 1000000000000000000) (some (.str (qkb 18 m []))) none)
 (fun m=>jh (Nat.blt (Nat.succ m) 1000000000000000000) (some (.str (45::qkb 18 (Nat.succ m) []))) none) n
theorem qkH {n:Int} {v:AV} (h:qng n=some v): -1000000000000000000<n∧n<1000000000000000000∧v= .str (Lib.itoa n):=by
 cases n with
 |negSucc m=>
  have h:jh (Nat.blt (Nat.succ m) 1000000000000000000) (some (AV.str (45::qkb 18 (Nat.succ m) []))) none=some v:=h
  rw[zi]at h
  split at h
  ·rename_i hb
   have hm:Nat.succ m<1000000000000000000:=Nat.le_of_ble_eq_true hb
   injection h with h
   refine⟨by omega,by omega,?_⟩
   rcases qkY 18 (Nat.succ m) [] (by simpa using hm)with h2|h2
   ·rw[←h,h2]
    unfold Lib.itoa
    rw[if_pos (by omega)]
    simp[Int.natAbs]
   ·cases h2
  ·cases h
 |ofNat m=>
  have h:jh (Nat.blt m 1000000000000000000) (some (AV.str (qkb 18 m []))) none=some v:=h
  rw[zi]at h
  split at h
  ·rename_i hb
   have hm:m<1000000000000000000:=Nat.le_of_ble_eq_true hb
   injection h with h
   refine⟨by show _<(m:Int);omega,by show(m:Int)<_;omega,?_⟩
   rcases qkY 18 m [] (by simpa using hm)with h2|h2
   ·rw[←h,h2]
    simp[Lib.itoa]
   ·cases h2
  ·cases h
theorem qoC {n:Int} {v:AV} (h:qng n=some v):qf Tryz.prog (.fn 160) [.int .i64 n] [] v []:=by
 obtain⟨h0,h1,rfl⟩:=qkH h
 refine qf.ofCalls (enters_of (by kernel_rfl)) (fun F nu w vs hg hargs=>?_) []
 obtain⟨x,ws,rfl,hx,hws⟩:=hargs.cons_inv
 obtain rfl:=hws.nil_inv
 obtain rfl:=hx.int_inv
 refine⟨_,.str ⟨(Lib.itoa n).toArray⟩ _ rfl,?_⟩
 have:=Any.strconv_Itoa Tryz.lays171 n (by omega) (by omega) w hg.2
 refine Calls.mono (show Calls Tryz.prog 160 #[.int .i64 n] w _ from this) ?_
 rintro e w' ⟨he,k,os,rfl⟩
 refine⟨he,?_⟩
 have h2:Below w.heap.size w (w.drewN k):=below_drewN (Below.refl _ _) k
 refine⟨fun rb hlt=>?_,?_,rfl,rfl,rfl⟩
 ·show((w.drewN k).heap++os)[rb]? =_
  rw[Array.getElem?_append_left (by have:=h2.size;omega)]
  exact h2.block rb hlt
 ·show _≤((w.drewN k).heap++os).size
  have h3:=h2.size
  simp only[Array.size_append]
  omega
def qkV (s:List UInt8):Option AV:=jh (Nat.ble s.length 18) (ob (Lib.atoi s) fun n=>some (.tuple [.int .i64 n,.niliface])) none
theorem qkL {s:List UInt8} {v:AV} (h:qkV s=some v):qf Tryz.prog (.fn 202) [.str s] [] v []:=by
 unfold qkV at h
 rw[zi]at h
 split at h
 ·rename_i hl
  obtain⟨n,hn,h⟩:=zJ h
  injection h with h
  subst h
  have hl:s.length≤18:=Nat.le_of_ble_eq_true hl
  refine qf.ofCalls (enters_of (by kernel_rfl)) (fun F nu w vs hg hargs=>?_) []
  obtain⟨x,ws,rfl,hx,hws⟩:=hargs.cons_inv
  obtain rfl:=hws.nil_inv
  obtain⟨b,rfl,rfl⟩:=hx.str_inv
  refine⟨.tuple #[.int .i64 n,.nilIface],.tuple _ _ rfl (fun i a v ha hv=>?_),?_⟩
  ·match i with
   |0=>simp at ha hv;subst ha hv;exact .int _ _
   |1=>simp at ha hv;subst ha hv;exact .niliface
   |i+2=>simp at ha
  ·have:=Any.strconv_Atoi Tryz.lays172 b n (by simpa using hl) hn w
   refine Calls.mono (show Calls Tryz.prog 202 #[.string b] w _ from this) ?_
   rintro e w' ⟨he,t,rfl⟩
   refine⟨he,?_⟩
   unfold Lib.bytesWorld World.freeze
   refine⟨fun rb hlt=>?_,?_,rfl,rfl,rfl⟩
   ·simp only[Nat.one_ne_zero,if_false,Array.getElem?_modify]
    rw[if_neg (by omega)]
    exact heap_alloc_old _ _ hlt
   ·simp
 ·cases h
def qjK (c:Nat):List UInt8→Nat:=fun l=>List.rec (motive:=fun _=>Nat) 0 (fun x _ ih=>jh (Nat.beq x.toNat c) (Nat.succ ih) ih) l
theorem qoz (c:UInt8): ∀l:List UInt8,qjK c.toNat l=Lib.countByte l c:=by
 intro l
 induction l with
 |nil=>rfl
 |cons x l ih=>
  show jh (Nat.beq x.toNat c.toNat) (Nat.succ (qjK c.toNat l)) (qjK c.toNat l)=_
  rw[zi,ih]
  unfold Lib.countByte
  rw[List.count_cons]
  by_cases h:x=c
  ·subst h
   rw[if_pos (qcP rfl)]
   simp
  ·have h2:x.toNat≠c.toNat:=fun e=>h (UInt8.toNat_inj.1 e)
   rw[if_neg (by rw[qa8 h2];simp)]
   simp[h]
theorem qjy {s:List UInt8} {c:Int} (h0:0≤c) (h1:c<256):qf Tryz.prog (.fn 231) [.str s,.int .u8 c] [] (.int .i64 (qjK c.toNat s:Nat)) []:=by
 intro F nu w vs i hargs
 obtain⟨x,ws,rfl,hx,hws⟩:=hargs.cons_inv
 obtain⟨y,us,he,hy,hus⟩:=hws.cons_inv
 obtain rfl:ws=y::us:=by simpa using he
 obtain rfl:=hus.nil_inv
 obtain⟨b,rfl,rfl⟩:=hx.str_inv
 obtain rfl:=hy.int_inv
 right
 have hc:c.toNat.toUInt8.toNat=c.toNat:=by
  rw[Nat.toUInt8_eq,UInt8.toNat_ofNat']
  omega
 refine⟨_,w,F,nu,?_,.refl i,.int .i64 (qjK c.toNat b.data.toList:Nat)⟩
 rw[run_callFunc_extern Tryz.func231 (by kernel_rfl) (by kernel_rfl) (by kernel_rfl) (show Extern.find Tryz.f231=some Extern.BytealgCount.count by rfl),Lib.run_countString]
 simp only[Result.andThen]
 rw[←qoz,hc]
def qhA (c:Nat):List UInt8→Nat→Int:=fun l=>List.rec (motive:=fun _=>Nat→Int) (fun _=> -1) (fun x _ ih k=>jh (Nat.beq x.toNat c) (Int.ofNat k) (ih (Nat.succ k))) l
theorem qn2 (c:UInt8): ∀(l:List UInt8) (k:Nat),qhA c.toNat l k=if Lib.indexByte l c= -1 then-1 else Lib.indexByte l c+k:=by
 intro l
 induction l with
 |nil=>intro k;rfl
 |cons x l ih=>
  intro k
  show jh (Nat.beq x.toNat c.toNat) (Int.ofNat k) (qhA c.toNat l (k+1))=_
  rw[zi,ih]
  rw[show Lib.indexByte (x::l) c=if x==c then 0 else if Lib.indexByte l c== -1 then-1 else Lib.indexByte l c+1 from rfl]
  by_cases h:x=c
  ·subst h
   rw[if_pos (qcP rfl)]
   simp
  ·have h2:x.toNat≠c.toNat:=fun e=>h (UInt8.toNat_inj.1 e)
   rw[if_neg (by rw[qa8 h2];simp)]
   have h3:(x==c)=false:=by simpa using h
   have:=Lib.indexByte_ge l c
   simp only[h3,Bool.false_eq_true,if_false,beq_iff_eq]
   by_cases h4:Lib.indexByte l c= -1
   ·simp[h4]
   ·have h5: ¬Lib.indexByte l c+1= -1:=by omega
    simp only[h4,h5,if_false]
    omega
theorem qjH {s:List UInt8} {c:Int} (h0:0≤c) (h1:c<256):qf Tryz.prog (.fn 203) [.str s,.int .u8 c] [] (.int .i64 (qhA c.toNat s 0)) []:=by
 intro F nu w vs i hargs
 obtain⟨x,ws,rfl,hx,hws⟩:=hargs.cons_inv
 obtain⟨y,us,he,hy,hus⟩:=hws.cons_inv
 obtain rfl:ws=y::us:=by simpa using he
 obtain rfl:=hus.nil_inv
 obtain⟨b,rfl,rfl⟩:=hx.str_inv
 obtain rfl:=hy.int_inv
 right
 have hc:c.toNat.toUInt8.toNat=c.toNat:=by
  rw[Nat.toUInt8_eq,UInt8.toNat_ofNat']
  omega
 refine⟨_,w,F,nu,?_,.refl i,.int .i64 (qhA c.toNat b.data.toList 0)⟩
 rw[run_callFunc_extern Tryz.func203 (by kernel_rfl) (by kernel_rfl) (by kernel_rfl) (show Extern.find Tryz.f203=some Extern.BytealgIndexByte.indexByte by rfl),Lib.run_indexByteString]
 simp only[Result.andThen]
 have e:qhA c.toNat b.data.toList 0=Lib.indexByte b.data.toList c.toNat.toUInt8:=by
  rw[←hc,qn2,hc]
  split<;>omega
 rw[e]
theorem qeF:Builder.Extra Tryz.prog Tryz.lays156_ren where
 sizeBuilder:=by kernel_rfl
 liesBuilder:=by kernel_rfl
 t5:=by kernel_rfl
 a5:=Tryz.isAgg5
 z5:=Tryz.sizeOf5
 v5:=Tryz.zeroValue5
 infoByte:=by kernel_rfl
 cellsByte:=by kernel_rfl
 sizeByte:=by kernel_rfl
 neB5:=by decide
def toS:AV→Option (List UInt8)
 | .str s=>some s
 |_=>none
def appK (xs ys:List UInt8):List UInt8:=List.rec (motive:=fun _=>List UInt8) ys (fun x _ ih=>x::ih) xs
theorem qop: ∀xs ys:List UInt8,appK xs ys=xs++ys:=by
 intro xs
 induction xs with
 |nil=>intro ys;rfl
 |cons x xs ih=>intro ys;exact congrArg (x:: ·) (ih ys)
def qhC (sep:List UInt8):List (List UInt8)→List UInt8
 |[]=>[]
 |[x]=>x
 |x::y::xs=>appK x (appK sep (qhC sep (y::xs)))
theorem qmr (sep:List UInt8): ∀xs:List (List UInt8),qhC sep xs=Lib.join xs sep:=by
 intro xs
 induction xs with
 |nil=>rfl
 |cons x xs ih=>
  cases xs with
  |nil=>simp[qhC,Lib.join]
  |cons y ys=>
   simp only[qhC,qop]
   rw[ih]
   unfold Lib.join
   rw[List.intercalate_cons_cons]
   simp
def strsOf:List AV→Option (List (List UInt8))
 |[]=>some []
 |a::al=>ob (toS a) fun s=>ob (strsOf al) fun ss=>some (s::ss)
theorem qjt: ∀{al:List AV} {ss:List (List UInt8)},strsOf al=some ss→al=ss.map AV.str:=by
 intro al
 induction al with
 |nil=>intro ss h;simp[strsOf]at h;subst h;rfl
 |cons a al ih=>
  intro ss h
  obtain⟨s,h1,h⟩:=zJ (show ob (toS a) (fun s=>ob (strsOf al) fun ss=>some (s::ss))=some ss from h)
  obtain⟨ts,h2,h⟩:=zJ h
  injection h with h
  subst h
  have:a= .str s:=by
   unfold toS at h1
   split at h1
   ·injection h1 with h1;rw[h1]
   ·cases h1
  rw[this,ih h2]
  rfl
def qoJ (n:Nat) (cs:List AV) (sep:List UInt8):Option AV:=
 ob (strsOf cs) fun ss=>jh (Nat.beq ss.length n&&Nat.ble n 1000000&&Nat.ble (qhC sep ss).length 140737488355328) (some (.str (qhC sep ss))) none
theorem qkC {F:Nat→Prop} {nu:Nat→Option Nat} {w:World}: ∀(ss:List (List UInt8)) (vs:List Value),vs.length=ss.length→(∀(i:Nat) (a:AV) (v:Value),(ss.map AV.str)[i]? =some a→vs[i]? =some v→R F nu w a v)→
 ∃xs:List ByteArray,vs=xs.map Value.string∧xs.map (fun x=>x.data.toList)=ss:=by
 intro ss
 induction ss with
 |nil=>intro vs h _;exact⟨[],by simpa using h,rfl⟩
 |cons s ss ih=>
  intro vs h hR
  cases vs with
  |nil=>simp at h
  |cons v vs=>
   obtain⟨b,rfl,rfl⟩:=(hR 0 _ _ rfl rfl).str_inv
   obtain⟨xs,rfl,h2⟩:=ih vs (by simpa using h) (fun i a v ha hv=>hR (i+1) a v (by simpa using ha) (by simpa using hv))
   exact⟨b::xs,rfl,by simp[h2]⟩
theorem qoo {n:Nat} {cs:List AV} {sep:List UInt8} {v:AV} (h:qoJ n cs sep=some v):qf Tryz.prog (.fn 116) [.fslice n cs,.str sep] [] v []:=by
 obtain⟨ss,hs,h⟩:=zJ h
 rw[zi]at h
 split at h
 ·rename_i hb
  simp only[Bool.and_eq_true]at hb
  have e1:=Nat.eq_of_beq_eq_true hb.1.1
  have e2:n≤1000000:=Nat.le_of_ble_eq_true hb.1.2
  have e3:=Nat.le_of_ble_eq_true hb.2
  rw[qmr]at e3 h
  injection h with h
  subst h
  obtain rfl:=qjt hs
  intro F nu w vs i hargs
  have hnu:nu=fun _=>none:=funext fun b=>i.fresh b (Nat.zero_le _)
  subst hnu
  obtain⟨x,ws,rfl,hx,hws⟩:=hargs.cons_inv
  obtain⟨y,us,he,hy,hus⟩:=hws.cons_inv
  obtain rfl:ws=y::us:=by simpa using he
  obtain rfl:=hus.nil_inv
  obtain⟨b,rfl,rfl⟩:=hy.str_inv
  have fin: ∀w',Below w.heap.size w w'→Stp F (fun _=>none) [] w F (fun _=>none) [] w':=fun w' bel=>
   have hk:=qeg bel
   Stp.kept i hk.heap hk.size hk.os hk.tape hk.output
  generalize hcs:ss.map AV.str=cs at hx
  cases hx with
  |fslice0 ad cap=>
   have hss:ss=[]:=List.eq_nil_of_length_eq_zero e1
   subst hss
   refine .inl ⟨enters_of (by kernel_rfl),?_⟩
   have:=Any.strings_Join_none Tryz.lays156 qeF ad cap b w
   refine Calls.mono (show Calls Tryz.prog 116 #[.slice ad 0 cap,.string b] w _ from this) ?_
   rintro e w' ⟨rfl,rfl⟩
   exact⟨_,F,_,rfl,.refl i,.str _ _ rfl⟩
  |fslice _ _ ad cap vs hn hF hl hc hR=>
   subst hcs
   obtain⟨xs,rfl,hxs⟩:=qkC ss vs (by simpa using hl) hR
   have hlen:xs.length=n:=by
    have:=congrArg List.length hxs
    simp at this
    omega
   refine .inl ⟨enters_of (by kernel_rfl),?_⟩
   have hbk:ad.block<w.heap.size:=i.ltF _ hF
   cases xs with
   |nil=>
    simp at hlen
    subst hlen
    simp at hxs
    subst hxs
    have:=Any.strings_Join_none Tryz.lays156 qeF (some ad) cap b w
    refine Calls.mono (show Calls Tryz.prog 116 #[.slice (some ad) 0 cap,.string b] w _ from this) ?_
    rintro e w' ⟨rfl,rfl⟩
    exact⟨_,F,_,rfl,.refl i,.str _ _ rfl⟩
   |cons x xs=>
    obtain⟨bk,o,spot⟩:=ad
    have h0:w.cell? ((⟨bk,o,spot⟩:Addr).add 0)=some (.string x):=hc 0 _ rfl
    have hspot:spot=none:=by simpa[Addr.add]using World.cell?_spot h0
    subst hspot
    have:=Any.strings_Join Tryz.lays156 qeF bk o cap (x::xs) b w (fun j y hj=>by
     have:=hc j (.string y) (by simp only[List.getElem?_map,hj,Option.map_some])
     rwa [jR]at this) hbk (by omega) (by omega) (by rw[hxs];exact e3)
    rw[hlen]at this
    refine Calls.mono (show Calls Tryz.prog 116 #[.slice (some ⟨bk,o,none⟩) n cap,.string b] w _ from this) ?_
    rintro e w' ⟨rfl,bel⟩
    refine⟨_,F,_,rfl,fin w' bel,.str _ _ ?_⟩
    rw[←hxs]
 ·cases h
def qoI (f:FuncId) (args:List AV):Option AV:=
 if f=160 then match args with
  |[.int .i64 n]=>qng n
  |_=>none
 else if f=202 then match args with
  |[.str s]=>qkV s
  |_=>none
 else if f=231 then match args with
  |[.str s,.int .u8 c]=>if 0≤c∧c<256 then some (.int .i64 (qjK c.toNat s:Nat))else none
  |_=>none
 else if f=203 then match args with
  |[.str s,.int .u8 c]=>if 0≤c∧c<256 then some (.int .i64 (qhA c.toNat s 0))else none
  |_=>none
 else if f=116 then match args with
  |[.fslice n cs,.str sep]=>qoJ n cs sep
  |_=>none
 else none
def qoR:zM:=qni qoI
set_option maxHeartbeats 1000000 in
theorem qmR:zg Tryz.prog qoR:=by
 refine qnC fun f args v h=>?_
 unfold qoI at h
 split at h
 ·rename_i e
  subst e
  split at h
  ·exact qoC h
  ·cases h
 split at h
 ·rename_i e
  subst e
  split at h
  ·exact qkL h
  ·cases h
 split at h
 ·rename_i e
  subst e
  split at h
  ·split at h
   ·rename_i hc
    injection h with h
    subst h
    exact qjy hc.1 hc.2
   ·cases h
  ·cases h
 split at h
 ·rename_i e
  subst e
  split at h
  ·split at h
   ·rename_i hc
    injection h with h
    subst h
    exact qjH hc.1 hc.2
   ·cases h
  ·cases h
 split at h
 ·rename_i e
  subst e
  split at h
  ·exact qoo h
  ·cases h
 ·cases h
end Go.Av
