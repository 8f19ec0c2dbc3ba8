/-
  Functions of Go's library on texts and words, told by plain functions.
-/
import Derived.Test.YthgioiakbbhonaaGreatDoorAvPrimE2
import Derived.Test.YthgioiakbbhonaaGreatDoorAvWb
import Derived.Test.YthgioiakbbhonaaGreatDoorAvWa
import Derived.Test.YthgioiakbbhonaaGreatDoorAvPt
import Derived.Lib.AppendIntMem
noncomputable section
namespace Go.Av
open Go.Proofs Go.RowKit Go.Shelf Go.Sort
set_option linter.unusedSectionVars false
set_option linter.unusedVariables false
set_option maxRecDepth 100000
def qkJ (s:Str) (c:Int):Option Int:=if 0<=c/\c<256 then some (qjl c.toNat s 0)else none
theorem qnG (s:Str) (c:Int) {res:Int} (h:qkJ s c=some res):qf Tryz.prog (.fn 222) [.str s,.int .u8 c] [] (.i res) []:=by
 unfold qkJ at h;split at h
 ·rename_i hc;injection h with h;subst h;exact qlK hc.1 hc.2
 cases h
def qli (s:Str):Option (Int×Unit):=if s.length<=18 then(Lib.atoi s).map λn=>(n,())else none
theorem qql (s:Str) {res:Int×Unit} (h:qli s=some res):qf Tryz.prog (.fn 126) [.str s] [] (.tuple [.i res.1,.niliface]) []:=by
 refine qmX ?_;unfold qli at h;unfold qnh;split at h
 ·rename_i hl;rw[zn,ae (bH hl)]
  cases ha:Lib.atoi s with
  |none=>rw[ha]at h;cases h
  |some n=>
   rw[ha]at h;injection h with h;subst h;rfl
 cases h
theorem qjH {w:World} {k:Nat} {os:Array Obj}:Kept w (grow (w.drewN k) os):=by
 have h2:Below w.heap.size w (w.drewN k):=below_drewN (Below.refl _ _) k;refine⟨λrb hlt=>?_,?_,rfl,rfl,rfl⟩
 ·show((w.drewN k).heap++os)[rb]? =_;rw[YC (by have:=h2.size;omega)];exact h2.block rb hlt
 show _<=((w.drewN k).heap++os).size;have h3:=h2.size;simp only[cW];omega
def qnr (n:Int):Option Str:=if-9223372036854775808<=n/\n<=9223372036854775807 then some (Lib.itoa n)else none
theorem qoH (n:Int) {res:Str} (h:qnr n=some res):qf Tryz.prog (.fn 186) [.i n] [] (.str res) []:=by
 unfold qnr at h;split at h
 ·rename_i hc;injection h with h;subst h;refine qf.ofCalls (enters_of (by kernel_rfl)) (λF nu w vs hg hargs=>?_) [];obtain⟨x,ws,rfl,hx,hws⟩:=hargs.cons_inv;obtain rfl:=hws.nil_inv;obtain rfl:=hx.int_inv;refine⟨_,.str ⟨(Lib.itoa n).toArray⟩ _ rfl,?_⟩;have:=Any.strconv_Itoa Uo n (by omega) (by omega) w hg.2;refine Calls.mono (show Calls Tryz.prog 186 #[.int .i64 n] w _ from this) ?_;rintro e w' ⟨he,k,os,rfl⟩;exact⟨he,qjH⟩
 cases h
set_option maxHeartbeats 6400000 in
theorem qq1 (u:Nat) (hu64:u<18446744073709551616) (w:World) (htab:Lib.TabIs Tryz.prog w "internal/strconv.uint64pow10" .u64 Lib.pow10Tab):
 Calls Tryz.prog 213 #[.int .u64 u,.int .i64 10] w λe w'=>e= .returned (.string ⟨(Lib.decDigits u).toArray⟩)/\ ∃k os,w'=grow (w.drewN k) os:=by
 by_cases hs:u<100
 ·have hcv:IntKind.wrap .i64 (u:Int)=(u:Int):=qo (by omega) (by omega)
  go_enter Tryz.func213,Tryz.ntmps213
  go_wp2_with (go_at_call 225;refine(show Calls Tryz.prog 225 #[.int .i64 u] _ _ from Any.internal_strconv_small {Uo with} u hs _).mono ?_;rintro e w' ⟨rfl,rfl⟩)
  go_ret
  exact⟨rfl,0,#[],by simp[World.drewN_zero]⟩
 have hu1:1<=u:=by omega
 have hnd20:Lib.nDigits u<=20:=by have:=Lib.numDigits_eq u hu1 hu64;split at this<;>omega
 have hal:Tryz.prog.arrayLen 246=24:=by kernel_rfl
 have hsl: ∀W,(Instr.sliceAt 246 (.pointer (some ⟨w.heap.size,0,none⟩)) none (some (.int .i64 (Lib.nDigits u:Int))) none).run Tryz.prog W= .ok (.slice (some ⟨w.heap.size,0,none⟩) (Lib.nDigits u) 24) W:=λW=>by
  rw[run_sliceAt_array_h W 246 ⟨w.heap.size,0,none⟩ (by kernel_rfl) .i64 (Lib.nDigits u:Int) (by omega) (by rw[hal];omega)]
  go_simp
 have hH0:=Lib.holds_zero0 w 246 (Lib.nDigits u) (by omega);have hfmt:=Any.internal_strconv_formatBase10 (P:=Tryz.prog) (ρ:=Tryz.lays171_ren) {Uo with} w.heap.size 0 24 u (Array.replicate (Lib.nDigits u) 0) (w.alloc (.cells Lib.zeros24 246)) hH0 (by rw[di];exact Lib.lt_pow_nDigits u) hu64 (by rw[di];omega);rw[di]at hfmt;have HH0:=Lib.hid hH0;clear hH0 hal
 go_enter Tryz.func213,Tryz.ntmps213
 go_wp2_with (go_at_call 226;refine(show Calls Tryz.prog 226 #[.int .u64 u] _ _ from Any.internal_strconv_numDigits {Uo with} u hu1 hu64 _ (Lib.tabIs_alloc htab _)).mono ?_;rintro e w' ⟨rfl,rfl⟩)
 go_at_call 227
 refine(show Calls Tryz.prog 227 #[.slice (some ⟨w.heap.size,0,none⟩) (Lib.nDigits u) 24,.int .u64 u] _ _ from hfmt).mono ?_;rintro e w' ⟨rfl,k,v',dk,rfl,hF⟩
 have hcv:(convert 162 9 (.slice (some ⟨w.heap.size,0,none⟩) (Lib.nDigits u) 24)).run Tryz.prog ((putRow (λ(b:UInt8)=>Value.int .u8 (b.toNat:Int)) (w.alloc (.cells Lib.zeros24 246)) w.heap.size 0 dk).drewN k)= .ok (.string ⟨(Lib.decDigits u).toArray⟩) ((putRow (λ(b:UInt8)=>Value.int .u8 (b.toNat:Int)) (w.alloc (.cells Lib.zeros24 246)) w.heap.size 0 dk).drewN k):=by
  have h:=run_convert_bytes_back (P:=Tryz.prog) ((putRow (λ(b:UInt8)=>Value.int .u8 (b.toNat:Int)) (w.alloc (.cells Lib.zeros24 246)) w.heap.size 0 dk).drewN k) 162 9 5 ⟨w.heap.size,0,none⟩ 24 (Lib.decDigits u) Tryz.underlying162 Tryz.underlying5 Tryz.underlying9 (λj hj=>by
   rw[Lib.row_is_numeral hF j hj,Lib.add_plain,World.cell?_drewN]
   exact cell?_putRow (λ(b:UInt8)=>Value.int .u8 (b.toNat:Int)) _ w.heap.size 0 _ dk HH0.out (by rw[hF.size,di]) j (by rw[hF.size];rw[Lib.decDigits_length]at hj;exact hj))
  rw[Lib.decDigits_length]at h;exact h
 go_wp2
 go_ret
 refine⟨rfl,k,?_⟩;rw[alloc_eq_grow];obtain⟨os',_,e⟩:=putRow_grow_new (λ(b:UInt8)=>Value.int .u8 (b.toNat:Int)) w #[.cells Lib.zeros24 246] w.heap.size 0 dk (ag _);exact⟨os',by rw[e];rfl⟩
theorem qpd (u:Nat) (hu64:u<18446744073709551616) (w:World) (htab:Lib.TabIs Tryz.prog w "internal/strconv.uint64pow10" .u64 Lib.pow10Tab):
 Calls Tryz.prog 187 #[.int .u64 u,.int .i64 10] w λe w'=>e= .returned (.string ⟨(Lib.decDigits u).toArray⟩)/\ ∃k os,w'=grow (w.drewN k) os:=by
 go_enter Tryz.func187,Tryz.ntmps187
 go_wp2_with (go_at_call 213;refine(qq1 u hu64 _ htab).mono ?_;rintro e w' ⟨rfl,k,os,rfl⟩)
 go_ret
 exact⟨rfl,k,os,rfl⟩
def qil (n:Int) (b:Int):Option Str:=if 0<=n/\n<10000000000000000000/\b=10 then some (Lib.itoa n)else none
theorem qqf (n b:Int) {res:Str} (h:qil n b=some res):qf Tryz.prog (.fn 187) [.int .u64 n,.i b] [] (.str res) []:=by
 unfold qil at h;split at h
 ·rename_i hc;injection h with h;subst h;obtain⟨h0,h1,rfl⟩:=hc;obtain⟨u,rfl⟩: ∃u:Nat,n=u:=⟨n.toNat,by omega⟩;refine qf.ofCalls (enters_of (by kernel_rfl)) (λF nu w vs hg hargs=>?_) [];obtain⟨x,ws,rfl,hx,hws⟩:=hargs.cons_inv;obtain⟨y,us,he,hy,hus⟩:=hws.cons_inv
  obtain rfl:ws=y::us:=by simpa using he
  obtain rfl:=hus.nil_inv;obtain rfl:=hx.int_inv;obtain rfl:=hy.int_inv;refine⟨_,.str ⟨(Lib.itoa (u:Int)).toArray⟩ _ rfl,?_⟩;refine Calls.mono (qpd u (by omega) w hg.2) ?_;rintro e w' ⟨he,k,os,rfl⟩;exact⟨by rw[he,Lib.itoa_nonneg],qjH⟩
 cases h
def qlb (s c:Str):Option Str:=if s.length<=1000000/\c.length<=1000/\c.all (λb=>decide (b.toNat<128))=true then some (Lib.trimS s c)else none
theorem qi6 (s c:Str) {res:Str} (h:qlb s c=some res):qf Tryz.prog (.fn 163) [.str s,.str c] [] (.str res) []:=by
 unfold qlb at h;split at h
 ·rename_i hc;injection h with h;subst h;refine qf.ofCalls (enters_of (by kernel_rfl)) (λF nu w vs hg hargs=>?_) [];obtain⟨x,ws,rfl,hx,hws⟩:=hargs.cons_inv;obtain⟨y,us,he,hy,hus⟩:=hws.cons_inv
  obtain rfl:ws=y::us:=by simpa using he
  obtain rfl:=hus.nil_inv;obtain⟨b,rfl,rfl⟩:=hx.str_inv;obtain⟨b2,rfl,rfl⟩:=hy.str_inv;refine⟨_,.str ⟨(Lib.trimS b.data.toList b2.data.toList).toArray⟩ _ rfl,?_⟩;have:=Any.strings_Trim_laid Tryz.lays160 (by kernel_rfl) b b2 w (by have:=hc.1;rw[<-Lib.size_eq]at this;omega) (by have:=hc.2.1;rw[<-Lib.size_eq]at this;omega) (ascii_of_all hc.2.2);refine Calls.mono (show Calls Tryz.prog 163 #[.string b,.string b2] w _ from this) ?_;rintro e w' ⟨he,bel⟩;exact⟨he,qfL bel⟩
 cases h
theorem qf7:Builder.Extra Tryz.prog Ul where
 sizeBuilder:=by kernel_rfl
 liesBuilder:=by kernel_rfl
 t5:=by kernel_rfl
 a5:=Tryz.isAgg5
 z5:=Tryz.sizeOf5
 v5:=Tryz.zeroValue5
 infoByte:=by kernel_rfl
 cellsByte:=by kernel_rfl
 sizeByte:=by kernel_rfl
 neB5:=by decide
def qfx (s:Str) (n:Int):Option Str:=if 0<=n/\n<=1000000/\s.length*n.toNat<=1000000 then some (Lib.repeatL s n.toNat)else none
theorem qmi (s:Str) (n:Int) {res:Str} (h:qfx s n=some res):qf Tryz.prog (.fn 71) [.str s,.i n] [] (.str res) []:=by
 unfold qfx at h;split at h
 ·rename_i hc;injection h with h;subst h;refine qf.ofCalls (enters_of (by kernel_rfl)) (λF nu w vs hg hargs=>?_) [];obtain⟨x,ws,rfl,hx,hws⟩:=hargs.cons_inv;obtain⟨y,us,he,hy,hus⟩:=hws.cons_inv
  obtain rfl:ws=y::us:=by simpa using he
  obtain rfl:=hus.nil_inv;obtain⟨b,rfl,rfl⟩:=hx.str_inv;obtain rfl:=hy.int_inv;refine⟨_,.str ⟨(Lib.repeatL b.data.toList n.toNat).toArray⟩ _ rfl,?_⟩;have:=Any.strings_Repeat Tryz.lays105 qf7 b n.toNat w (by omega) (by have:=hc.2.2;rw[<-Lib.size_eq]at this;omega);rw[Int.toNat_of_nonneg hc.1]at this;refine Calls.mono (show Calls Tryz.prog 71 #[.string b,.int .i64 n] w _ from this) ?_;rintro e w' ⟨he,bel⟩;exact⟨he,qfL bel⟩
 cases h
theorem qp1 (ok:Bool) (o:Option (List Int)) (s:Str) {l:List Int} (h:bWr ok o s=some l):
 qf Tryz.prog (.fn 128) [.ptr 0 0,.str s] [.bld 164 5 [pz ok 0 0,hsl 1 1 o],.cells ((hof o).flatMap (qbk .u8).c)] (.tuple [.i ((s.length:Nat):Int),.niliface])
  [.bld 164 5 [pz true 0 0,hsl 2 1 (some l)],.dead,.cells ((hof (some l)).flatMap (qbk .u8).c)]:=
 qrk (P:=Tryz.prog) (ρ:=Ul) {Tryz.lays105 with} qf7 (enters_of (by kernel_rfl)) ok o s h
theorem qrv (ok:Bool) (o:Option (List Int)) {t:Str} (h:qnX ok o=some t):
 qf Tryz.prog (.fn 130) [.ptr 0 0] [.bld 164 5 [pz ok 0 0,hsl 1 1 o],.cells ((hof o).flatMap (qbk .u8).c)] (.str t) [.dead,.dead]:=
 qp6 (P:=Tryz.prog) (ρ:=Ul) {Tryz.lays105 with} qf7 (enters_of (by kernel_rfl)) ok o h
theorem qcY (x y c:Int) {res:Int×Int} (h:qaN x y c=some res):qf Tryz.prog (.fn 167) [.int .u64 x,.int .u64 y,.int .u64 c] [] (.tuple [.int .u64 res.1,.int .u64 res.2]) []:=by
 unfold qaN at h;split at h
 ·rename_i hc;injection h with h;subst h;intro F nu w vs i hargs;obtain⟨a,ws,rfl,ha,hws⟩:=hargs.cons_inv;obtain⟨b,us,he,hb,hus⟩:=hws.cons_inv
  obtain rfl:ws=b::us:=by simpa using he
  obtain⟨d,ts,he,hd,hts⟩:=hus.cons_inv
  obtain rfl:us=d::ts:=by simpa using he
  obtain rfl:=hts.nil_inv;obtain rfl:=ha.int_inv;obtain rfl:=hb.int_inv;obtain rfl:=hd.int_inv;right;obtain⟨x,rfl⟩: ∃u:Nat,x=u:=⟨x.toNat,by omega⟩;obtain⟨y,rfl⟩: ∃u:Nat,y=u:=⟨y.toNat,by omega⟩;obtain⟨c,rfl⟩: ∃u:Nat,c=u:=⟨c.toNat,by omega⟩;refine⟨_,w,F,nu,(show(callFunc 167 #[.int .u64 x,.int .u64 y,.int .u64 c]).run Tryz.prog w=_ from Any7.bits_Add64 Tryz.lays7_25 x y c (by omega) w),.refl i,.tuple _ _ rfl λq a v hq hv=>?_⟩
  match q,hq,hv with
  |0,hq,hv=>
   obtain rfl:=Ye hq;obtain rfl:=Ye hv
   have e:(((x+y+c)%18446744073709551616:Nat):Int)=((x:Int)+y+c)%18446744073709551616:=by omega
   rw[e];exact .int _ _
  |1,hq,hv=>
   obtain rfl:=Ye hq;obtain rfl:=Ye hv
   have e:(((x+y+c)/18446744073709551616:Nat):Int)=((x:Int)+y+c)/18446744073709551616:=by omega
   rw[e];exact .int _ _
  |q+2,hq,hv=>simp at hq
 cases h
theorem qiz (x y c:Int) {res:Int×Int} (h:qfa x y c=some res):qf Tryz.prog (.fn 169) [.int .u64 x,.int .u64 y,.int .u64 c] [] (.tuple [.int .u64 res.1,.int .u64 res.2]) []:=by
 unfold qfa at h;split at h
 ·rename_i hc;injection h with h;subst h;intro F nu w vs i hargs;obtain⟨a,ws,rfl,ha,hws⟩:=hargs.cons_inv;obtain⟨b,us,he,hb,hus⟩:=hws.cons_inv
  obtain rfl:ws=b::us:=by simpa using he
  obtain⟨d,ts,he,hd,hts⟩:=hus.cons_inv
  obtain rfl:us=d::ts:=by simpa using he
  obtain rfl:=hts.nil_inv;obtain rfl:=ha.int_inv;obtain rfl:=hb.int_inv;obtain rfl:=hd.int_inv;right;obtain⟨x,rfl⟩: ∃u:Nat,x=u:=⟨x.toNat,by omega⟩;obtain⟨y,rfl⟩: ∃u:Nat,y=u:=⟨y.toNat,by omega⟩;obtain⟨c,rfl⟩: ∃u:Nat,c=u:=⟨c.toNat,by omega⟩;refine⟨_,w,F,nu,(show(callFunc 169 #[.int .u64 x,.int .u64 y,.int .u64 c]).run Tryz.prog w=_ from Any7.bits_Sub64 Tryz.lays7_26 x y c (by omega) w),.refl i,.tuple _ _ rfl λq a v hq hv=>?_⟩
  match q,hq,hv with
  |0,hq,hv=>
   obtain rfl:=Ye hq;obtain rfl:=Ye hv
   have e:(((x+18446744073709551616-y-c)%18446744073709551616:Nat):Int)=((x:Int)-y-c)%18446744073709551616:=by omega
   rw[e];exact .int _ _
  |1,hq,hv=>
   obtain rfl:=Ye hq;obtain rfl:=Ye hv
   have e:((if x<y+c then 1 else 0:Nat):Int)=if(x:Int)<y+c then 1 else 0:=by
    split<;>split<;>omega
   rw[e];exact .int _ _
  |q+2,hq,hv=>simp at hq
 cases h
end Go.Av
