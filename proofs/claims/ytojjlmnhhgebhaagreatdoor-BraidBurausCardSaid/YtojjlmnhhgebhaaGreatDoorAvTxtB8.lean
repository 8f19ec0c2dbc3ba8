/-
  Functions of Go's library on texts and words, told by plain functions.
-/
import Derived.Test.YtojjlmnhhgebhaaGreatDoorAvPrimB8
import Derived.Test.YtojjlmnhhgebhaaGreatDoorAvWb
import Derived.Test.YtojjlmnhhgebhaaGreatDoorAvWa
import Derived.Test.YtojjlmnhhgebhaaGreatDoorAvPt
import Derived.Lib.AppendIntMem
noncomputable section
namespace Go.Av
open Go.Proofs Go.RowKit Go.Shelf Go.Sort
set_option linter.unusedSectionVars false
set_option linter.unusedVariables false
set_option maxRecDepth 100000
def qjn (s:Str) (c:Int):Option Int:=if 0<=c/\c<256 then some (qiA c.toNat s 0)else none
theorem qmK (s:Str) (c:Int) {res:Int} (h:qjn s c=some res):qc Tryz.prog (.fn 270) [.str s,.int .u8 c] [] (.i res) []:=by
 unfold qjn at h;split at h
 ·rename_i hc;injection h with h;subst h;exact qj2 hc.1 hc.2
 cases h
def qkD (s:Str):Option (Int×Unit):=if s.length<=18 then(Lib.atoi s).map fun n=>(n,())else none
theorem qoU (s:Str) {res:Int×Unit} (h:qkD s=some res):qc Tryz.prog (.fn 170) [.str s] [] (.tuple [.i res.1,.niliface]) []:=by
 refine qms ?_;unfold qkD at h;unfold qmw;split at h
 ·rename_i hl;rw[kr,if_pos (Nat.ble_eq_true_of_le hl)]
  cases ha:Lib.atoi s with
  |none=>rw[ha]at h;cases h
  |some n=>
   rw[ha]at h;injection h with h;subst h;rfl
 cases h
theorem qi1 {w:World} {k:Nat} {os:Array Obj}:Kept w (grow (w.drewN k) os):=by
 have h2:Below w.heap.size w (w.drewN k):=below_drewN (Below.refl _ _) k;refine⟨fun rb hlt=>?_,?_,rfl,rfl,rfl⟩
 ·show((w.drewN k).heap++os)[rb]? =_;rw[YC (by have:=h2.size;omega)];exact h2.block rb hlt
 show _<=((w.drewN k).heap++os).size;have h3:=h2.size;simp only[Array.size_append];omega
def qlD (n:Int):Option Str:=if-9223372036854775808<=n/\n<=9223372036854775807 then some (Lib.itoa n)else none
theorem qpB (n:Int) {res:Str} (h:qlD n=some res):qc Tryz.prog (.fn 223) [.i n] [] (.str res) []:=by
 unfold qlD at h;split at h
 ·rename_i hc;injection h with h;subst h;refine qc.ofCalls (enters_of (by kernel_rfl)) (fun F nu w vs hg hargs=>?_) [];obtain⟨x,ws,rfl,hx,hws⟩:=hargs.cons_inv;obtain rfl:=hws.nil_inv;obtain rfl:=hx.int_inv;refine⟨_,.str ⟨(Lib.itoa n).toArray⟩ _ rfl,?_⟩;have:=Any.strconv_Itoa Up n (by omega) (by omega) w hg.2;refine Calls.mono (show Calls Tryz.prog 223 #[.int .i64 n] w _ from this) ?_;rintro e w' ⟨he,k,os,rfl⟩;exact⟨he,qi1⟩
 cases h
set_option maxHeartbeats 6400000 in
theorem qpX (u:Nat) (hu64:u<18446744073709551616) (w:World) (htab:Lib.TabIs Tryz.prog w "internal/strconv.uint64pow10" .u64 Lib.pow10Tab):
 Calls Tryz.prog 264 #[.int .u64 u,.int .i64 10] w fun e w'=>e= .returned (.string ⟨(Lib.decDigits u).toArray⟩)/\ ∃k os,w'=grow (w.drewN k) os:=by
 by_cases hs:u<100
 ·have hcv:IntKind.wrap .i64 (u:Int)=(u:Int):=qh (by omega) (by omega)
  go_enter Tryz.func264,Tryz.ntmps264
  go_wp2_with (go_at_call 279;refine(show Calls Tryz.prog 279 #[.int .i64 u] _ _ from Any.internal_strconv_small {Up with} u hs _).mono ?_;rintro e w' ⟨rfl,rfl⟩)
  go_ret
  exact⟨rfl,0,#[],by simp[World.drewN_zero]⟩
 have hu1:1<=u:=by omega
 have hnd20:Lib.nDigits u<=20:=by have:=Lib.numDigits_eq u hu1 hu64;split at this<;>omega
 have hal:Tryz.prog.arrayLen 287=24:=by kernel_rfl
 have hsl: ∀W,(Instr.sliceAt 287 (.pointer (some ⟨w.heap.size,0,none⟩)) none (some (.int .i64 (Lib.nDigits u:Int))) none).run Tryz.prog W= .ok (.slice (some ⟨w.heap.size,0,none⟩) (Lib.nDigits u) 24) W:=fun W=>by
  rw[run_sliceAt_array_h W 287 ⟨w.heap.size,0,none⟩ (by kernel_rfl) .i64 (Lib.nDigits u:Int) (by omega) (by rw[hal];omega)]
  go_simp
 have hH0:=Lib.holds_zero0 w 287 (Lib.nDigits u) (by omega);have hfmt:=Any.internal_strconv_formatBase10 (P:=Tryz.prog) (ρ:=Tryz.lays171_ren) {Up with} w.heap.size 0 24 u (Array.replicate (Lib.nDigits u) 0) (w.alloc (.cells Lib.zeros24 287)) hH0 (by rw[Array.size_replicate];exact Lib.lt_pow_nDigits u) hu64 (by rw[Array.size_replicate];omega);rw[Array.size_replicate]at hfmt;have HH0:=Lib.hid hH0;clear hH0 hal
 go_enter Tryz.func264,Tryz.ntmps264
 go_wp2_with (go_at_call 280;refine(show Calls Tryz.prog 280 #[.int .u64 u] _ _ from Any.internal_strconv_numDigits {Up with} u hu1 hu64 _ (Lib.tabIs_alloc htab _)).mono ?_;rintro e w' ⟨rfl,rfl⟩)
 go_at_call 281
 refine(show Calls Tryz.prog 281 #[.slice (some ⟨w.heap.size,0,none⟩) (Lib.nDigits u) 24,.int .u64 u] _ _ from hfmt).mono ?_;rintro e w' ⟨rfl,k,v',dk,rfl,hF⟩
 have hcv:(convert 254 9 (.slice (some ⟨w.heap.size,0,none⟩) (Lib.nDigits u) 24)).run Tryz.prog ((putRow (fun(b:UInt8)=>Value.int .u8 (b.toNat:Int)) (w.alloc (.cells Lib.zeros24 287)) w.heap.size 0 dk).drewN k)= .ok (.string ⟨(Lib.decDigits u).toArray⟩) ((putRow (fun(b:UInt8)=>Value.int .u8 (b.toNat:Int)) (w.alloc (.cells Lib.zeros24 287)) w.heap.size 0 dk).drewN k):=by
  have h:=run_convert_bytes_back (P:=Tryz.prog) ((putRow (fun(b:UInt8)=>Value.int .u8 (b.toNat:Int)) (w.alloc (.cells Lib.zeros24 287)) w.heap.size 0 dk).drewN k) 254 9 5 ⟨w.heap.size,0,none⟩ 24 (Lib.decDigits u) Tryz.underlying254 Tryz.underlying5 Tryz.underlying9 (fun j hj=>by
   rw[Lib.row_is_numeral hF j hj,Lib.add_plain,World.cell?_drewN]
   exact cell?_putRow (fun(b:UInt8)=>Value.int .u8 (b.toNat:Int)) _ w.heap.size 0 _ dk HH0.out (by rw[hF.size,Array.size_replicate]) j (by rw[hF.size];rw[Lib.decDigits_length]at hj;exact hj))
  rw[Lib.decDigits_length]at h;exact h
 go_wp2
 go_ret
 refine⟨rfl,k,?_⟩;rw[alloc_eq_grow];obtain⟨os',_,e⟩:=putRow_grow_new (fun(b:UInt8)=>Value.int .u8 (b.toNat:Int)) w #[.cells Lib.zeros24 287] w.heap.size 0 dk (Nat.le_refl _);exact⟨os',by rw[e];rfl⟩
theorem qnO (u:Nat) (hu64:u<18446744073709551616) (w:World) (htab:Lib.TabIs Tryz.prog w "internal/strconv.uint64pow10" .u64 Lib.pow10Tab):
 Calls Tryz.prog 224 #[.int .u64 u,.int .i64 10] w fun e w'=>e= .returned (.string ⟨(Lib.decDigits u).toArray⟩)/\ ∃k os,w'=grow (w.drewN k) os:=by
 go_enter Tryz.func224,Tryz.ntmps224
 go_wp2_with (go_at_call 264;refine(qpX u hu64 _ htab).mono ?_;rintro e w' ⟨rfl,k,os,rfl⟩)
 go_ret
 exact⟨rfl,k,os,rfl⟩
def qh9 (n:Int) (b:Int):Option Str:=if 0<=n/\n<10000000000000000000/\b=10 then some (Lib.itoa n)else none
theorem qo8 (n b:Int) {res:Str} (h:qh9 n b=some res):qc Tryz.prog (.fn 224) [.int .u64 n,.i b] [] (.str res) []:=by
 unfold qh9 at h;split at h
 ·rename_i hc;injection h with h;subst h;obtain⟨h0,h1,rfl⟩:=hc;obtain⟨u,rfl⟩: ∃u:Nat,n=u:=⟨n.toNat,by omega⟩;refine qc.ofCalls (enters_of (by kernel_rfl)) (fun F nu w vs hg hargs=>?_) [];obtain⟨x,ws,rfl,hx,hws⟩:=hargs.cons_inv;obtain⟨y,us,he,hy,hus⟩:=hws.cons_inv
  obtain rfl:ws=y::us:=by simpa using he
  obtain rfl:=hus.nil_inv;obtain rfl:=hx.int_inv;obtain rfl:=hy.int_inv;refine⟨_,.str ⟨(Lib.itoa (u:Int)).toArray⟩ _ rfl,?_⟩;refine Calls.mono (qnO u (by omega) w hg.2) ?_;rintro e w' ⟨he,k,os,rfl⟩;exact⟨by rw[he,Lib.itoa_nonneg],qi1⟩
 cases h
def qjX (s c:Str):Option Str:=if s.length<=1000000/\c.length<=1000/\c.all (fun b=>decide (b.toNat<128))=true then some (Lib.trimS s c)else none
theorem qhB (s c:Str) {res:Str} (h:qjX s c=some res):qc Tryz.prog (.fn 164) [.str s,.str c] [] (.str res) []:=by
 unfold qjX at h;split at h
 ·rename_i hc;injection h with h;subst h;refine qc.ofCalls (enters_of (by kernel_rfl)) (fun F nu w vs hg hargs=>?_) [];obtain⟨x,ws,rfl,hx,hws⟩:=hargs.cons_inv;obtain⟨y,us,he,hy,hus⟩:=hws.cons_inv
  obtain rfl:ws=y::us:=by simpa using he
  obtain rfl:=hus.nil_inv;obtain⟨b,rfl,rfl⟩:=hx.str_inv;obtain⟨b2,rfl,rfl⟩:=hy.str_inv;refine⟨_,.str ⟨(Lib.trimS b.data.toList b2.data.toList).toArray⟩ _ rfl,?_⟩;have:=Any.strings_Trim_laid Tryz.lays160 (by kernel_rfl) b b2 w (by have:=hc.1;rw[<-Lib.size_eq]at this;omega) (by have:=hc.2.1;rw[<-Lib.size_eq]at this;omega) (ascii_of_all hc.2.2);refine Calls.mono (show Calls Tryz.prog 164 #[.string b,.string b2] w _ from this) ?_;rintro e w' ⟨he,bel⟩;exact⟨he,qfa bel⟩
 cases h
theorem qfu:Builder.Extra Tryz.prog Un where
 sizeBuilder:=by kernel_rfl
 liesBuilder:=by kernel_rfl
 t5:=by kernel_rfl
 a5:=Tryz.isAgg5
 z5:=Tryz.sizeOf5
 v5:=Tryz.zeroValue5
 infoByte:=by kernel_rfl
 cellsByte:=by kernel_rfl
 sizeByte:=by kernel_rfl
 neB5:=by decide
def qeR (s:Str) (n:Int):Option Str:=if 0<=n/\n<=1000000/\s.length*n.toNat<=1000000 then some (Lib.repeatL s n.toNat)else none
theorem qk0 (s:Str) (n:Int) {res:Str} (h:qeR s n=some res):qc Tryz.prog (.fn 225) [.str s,.i n] [] (.str res) []:=by
 unfold qeR at h;split at h
 ·rename_i hc;injection h with h;subst h;refine qc.ofCalls (enters_of (by kernel_rfl)) (fun F nu w vs hg hargs=>?_) [];obtain⟨x,ws,rfl,hx,hws⟩:=hargs.cons_inv;obtain⟨y,us,he,hy,hus⟩:=hws.cons_inv
  obtain rfl:ws=y::us:=by simpa using he
  obtain rfl:=hus.nil_inv;obtain⟨b,rfl,rfl⟩:=hx.str_inv;obtain rfl:=hy.int_inv;refine⟨_,.str ⟨(Lib.repeatL b.data.toList n.toNat).toArray⟩ _ rfl,?_⟩;have:=Any.strings_Repeat Tryz.lays105 qfu b n.toNat w (by omega) (by have:=hc.2.2;rw[<-Lib.size_eq]at this;omega);rw[Int.toNat_of_nonneg hc.1]at this;refine Calls.mono (show Calls Tryz.prog 225 #[.string b,.int .i64 n] w _ from this) ?_;rintro e w' ⟨he,bel⟩;exact⟨he,qfa bel⟩
 cases h
theorem qn0 (ok:Bool) (o:Option (List Int)) (s:Str) {l:List Int} (h:bWr ok o s=some l):
 qc Tryz.prog (.fn 226) [.ptr 0 0,.str s] [.bld 256 5 [pz ok 0 0,hsl 1 1 o],.cells ((hof o).flatMap (qa .u8).c)] (.tuple [.i ((s.length:Nat):Int),.niliface])
  [.bld 256 5 [pz true 0 0,hsl 2 1 (some l)],.dead,.cells ((hof (some l)).flatMap (qa .u8).c)]:=
 qp2 (P:=Tryz.prog) (ρ:=Un) {Tryz.lays105 with} qfu (enters_of (by kernel_rfl)) ok o s h
theorem qqh (ok:Bool) (o:Option (List Int)) {t:Str} (h:qmN ok o=some t):
 qc Tryz.prog (.fn 227) [.ptr 0 0] [.bld 256 5 [pz ok 0 0,hsl 1 1 o],.cells ((hof o).flatMap (qa .u8).c)] (.str t) [.dead,.dead]:=
 qoD (P:=Tryz.prog) (ρ:=Un) {Tryz.lays105 with} qfu (enters_of (by kernel_rfl)) ok o h
theorem qcx (x y c:Int) {res:Int×Int} (h:xZ x y c=some res):qc Tryz.prog (.fn 261) [.int .u64 x,.int .u64 y,.int .u64 c] [] (.tuple [.int .u64 res.1,.int .u64 res.2]) []:=by
 unfold xZ at h;split at h
 ·rename_i hc;injection h with h;subst h;intro F nu w vs i hargs;obtain⟨a,ws,rfl,ha,hws⟩:=hargs.cons_inv;obtain⟨b,us,he,hb,hus⟩:=hws.cons_inv
  obtain rfl:ws=b::us:=by simpa using he
  obtain⟨d,ts,he,hd,hts⟩:=hus.cons_inv
  obtain rfl:us=d::ts:=by simpa using he
  obtain rfl:=hts.nil_inv;obtain rfl:=ha.int_inv;obtain rfl:=hb.int_inv;obtain rfl:=hd.int_inv;right;obtain⟨x,rfl⟩: ∃u:Nat,x=u:=⟨x.toNat,by omega⟩;obtain⟨y,rfl⟩: ∃u:Nat,y=u:=⟨y.toNat,by omega⟩;obtain⟨c,rfl⟩: ∃u:Nat,c=u:=⟨c.toNat,by omega⟩;refine⟨_,w,F,nu,(show(callFunc 261 #[.int .u64 x,.int .u64 y,.int .u64 c]).run Tryz.prog w=_ from Any7.bits_Add64 Tryz.lays7_25 x y c (by omega) w),.refl i,.tuple _ _ rfl fun q a v hq hv=>?_⟩
  match q,hq,hv with
  |0,hq,hv=>
   obtain rfl:=Ye hq;obtain rfl:=Ye hv
   have e:(((x+y+c)%18446744073709551616:Nat):Int)=((x:Int)+y+c)%18446744073709551616:=by omega
   rw[e];exact .int _ _
  |1,hq,hv=>
   obtain rfl:=Ye hq;obtain rfl:=Ye hv
   have e:(((x+y+c)/18446744073709551616:Nat):Int)=((x:Int)+y+c)/18446744073709551616:=by omega
   rw[e];exact .int _ _
  |q+2,hq,hv=>simp at hq
 cases h
theorem qhL (x y c:Int) {res:Int×Int} (h:qeJ x y c=some res):qc Tryz.prog (.fn 262) [.int .u64 x,.int .u64 y,.int .u64 c] [] (.tuple [.int .u64 res.1,.int .u64 res.2]) []:=by
 unfold qeJ at h;split at h
 ·rename_i hc;injection h with h;subst h;intro F nu w vs i hargs;obtain⟨a,ws,rfl,ha,hws⟩:=hargs.cons_inv;obtain⟨b,us,he,hb,hus⟩:=hws.cons_inv
  obtain rfl:ws=b::us:=by simpa using he
  obtain⟨d,ts,he,hd,hts⟩:=hus.cons_inv
  obtain rfl:us=d::ts:=by simpa using he
  obtain rfl:=hts.nil_inv;obtain rfl:=ha.int_inv;obtain rfl:=hb.int_inv;obtain rfl:=hd.int_inv;right;obtain⟨x,rfl⟩: ∃u:Nat,x=u:=⟨x.toNat,by omega⟩;obtain⟨y,rfl⟩: ∃u:Nat,y=u:=⟨y.toNat,by omega⟩;obtain⟨c,rfl⟩: ∃u:Nat,c=u:=⟨c.toNat,by omega⟩;refine⟨_,w,F,nu,(show(callFunc 262 #[.int .u64 x,.int .u64 y,.int .u64 c]).run Tryz.prog w=_ from Any7.bits_Sub64 Tryz.lays7_26 x y c (by omega) w),.refl i,.tuple _ _ rfl fun q a v hq hv=>?_⟩
  match q,hq,hv with
  |0,hq,hv=>
   obtain rfl:=Ye hq;obtain rfl:=Ye hv
   have e:(((x+18446744073709551616-y-c)%18446744073709551616:Nat):Int)=((x:Int)-y-c)%18446744073709551616:=by omega
   rw[e];exact .int _ _
  |1,hq,hv=>
   obtain rfl:=Ye hq;obtain rfl:=Ye hv
   have e:((if x<y+c then 1 else 0:Nat):Int)=if(x:Int)<y+c then 1 else 0:=by
    split<;>split<;>omega
   rw[e];exact .int _ _
  |q+2,hq,hv=>simp at hq
 cases h
end Go.Av
