/-
  Walks of functions: what each computes, as a plain function.
-/
import Derived.Test.YtbiegoecmfgjlaaGreatDoorAvD
import Derived.Test.YtbiegoecmfgjlaaGreatDoorAvC
set_option linter.all false
open Go.IntKind(wrap)
set_option maxRecDepth 100000
noncomputable section
namespace Go.Av
section
open Go.Proofs Go.RowKit
abbrev ZT:=Tryz.prog
abbrev eU:Enc Int:=qcv .u64
abbrev eSS:Enc (List Str):=qbo encS
abbrev zl {α:Type}(l:List α):Int:=(l.length:Int)
def fol:Tryz.prog.follows .mixedOrders=true:=by kernel_rfl
structure qE where
 neg:Bool
 w:List Int
def qmw:Enc qE:=(encB.prod (qbo encI)).comap λx=>(x.neg,x.w)
instance:SE qmw:=⟨nl rfl⟩
structure qh where
 s:Int
 w:List Int
def qkP:Enc qh:=(encI.prod (encN eU)).comap λx=>(x.s,x.w)
instance:SE qkP:=⟨nl rfl⟩
structure qb where
 Num:qh
 Den:qh
def qa:Enc qb:=(qkP.prod qkP).comap λx=>(x.Num,x.Den)
instance:SE qa:=⟨nl rfl⟩
instance:SE (qbo qa):=⟨nl rfl⟩
abbrev gF (b:Nat) (l:List qb):AV:= .gslice b l.length 4
abbrev wM (l:List (List qb)):List Ent:=l.map (zY qa)
abbrev wS (l:List Ent) (i:Int) (v:AV):List Ent:=l.set i.toNat (.av v)
abbrev kA (a:List Int) (x:List Blk):List Blk:= .cells (a.flatMap encI.c)::x
abbrev kB (a:List qb) (x:List Blk):List Blk:= .cells (a.flatMap qa.c)::x
abbrev kC {α3 α4:Type}(a b:List Int) (c:Int) (d:List α3) (e:List α4) (f:Int) (x:List (Nat×AV)):List (Nat×AV):=(8,vl encI a)::(9,vl encI b)::(10,.i c)::(11,.gslice 0 d.length 1)::(12,.slice 1 0 e.length e.length 1)::(13,.i f)::x
abbrev kD {α0 α1:Type}(a:List α0) (b:List α1) (c:Int) (x:List (Nat×AV)):List (Nat×AV):=(0,.gslice 0 a.length 1)::(4,.gslice 1 b.length 1)::(5,.i c)::x
abbrev kE {α0 α1:Type}(a:List α0) (b:List α1) (c d:Int) (x:List (Nat×AV)):List (Nat×AV):=(0,.gslice 0 a.length 1)::(5,.gslice 1 b.length 1)::(6,.i c)::(7,.i d)::x
abbrev kF (a:List Str) (x:List Blk):List Blk:= .cells (a.flatMap encS.c)::x
abbrev kG {α0:Type}(a:List α0) (x:List (Nat×AV)):List (Nat×AV):=(5,.slice 0 0 a.length a.length 1)::x
abbrev kH {α0 α2:Type}(a:List α0) (b:Int) (c:List α2) (x:List (Nat×AV)):List (Nat×AV):=(11,.slice 0 0 a.length a.length 1)::(12,.i b)::(13,.slice 1 0 c.length c.length 1)::x
abbrev kI (x:List (Nat×AV)):List (Nat×AV):=(2,.ptr 0 0)::(3,.ptr 1 0)::(4,.ptr 2 0)::x
abbrev kJ (a b:List Int) (x:List (Nat×AV)):List (Nat×AV):=(0,vl encI a)::(1,vl encI b)::x
abbrev kK {α2:Type}(a b:Int) (c:List α2) (d e:Int) (x:List (Nat×AV)):List (Nat×AV):=(15,.i a)::(16,.i b)::(86,.gslice 0 c.length 1)::(87,.i d)::(88,.i e)::x
abbrev kL (a b c d:Int) (x:List (Nat×AV)):List (Nat×AV):=(2,.int .u64 a)::(8,.int .u64 b)::(9,.int .u64 c)::(10,.int .u64 d)::x
abbrev kM (x:List Blk):List Blk:= .cells [.i 0,.nilslice,.i 0,.nilslice]::x
abbrev kN (a b:List Str) (x:List (Nat×AV)):List (Nat×AV):=(1,vl encS a)::(2,vl encS b)::x
abbrev kO (a:Bool) (b:List Int) (c:Bool) (d:List Int) (x:List Blk):List Blk:= .cells [.bool a,vl encI b]:: .cells [.bool c,vl encI d]::x
abbrev kP (x:List Blk):List Blk:= .dead:: .dead:: .dead::x
abbrev kQ (a b c:Int) (x:List (Nat×AV)):List (Nat×AV):=(14,.int .u64 a)::(15,.int .u64 b)::(16,.int .u64 c)::x
abbrev kR (a b:Int) (x:List (Nat×AV)):List (Nat×AV):=(15,.i a)::(16,.i b)::x
abbrev kS (x:List Blk):List Blk:= .cells [.bool false,.nilslice]::x
abbrev kT (a b:Int) (x:List (Nat×AV)):List (Nat×AV):=(5,.i a)::(6,.int .u64 b)::x
abbrev kU {α0:Type}(a:List α0) (x:List (Nat×AV)):List (Nat×AV):=(6,.slice 0 0 a.length a.length 1)::x
abbrev kV (a:Str) (b:Bool) (x:List (Nat×AV)):List (Nat×AV):=(0,.str a)::(2,.ptr 0 0)::(3,.bool b)::x
abbrev kW (a:List Str) (x:List (Nat×AV)):List (Nat×AV):=(1,vl encS a)::x
abbrev kX (a b:Str) (x:List (Nat×AV)):List (Nat×AV):=(0,.str a)::(1,.str b)::x
abbrev kY (a b:Int) (x:List (Nat×AV)):List (Nat×AV):=(0,.int .u64 a)::(1,.int .u64 b)::x
abbrev kZ {α0:Type}(a:List α0) (x:List (Nat×AV)):List (Nat×AV):=(8,.slice 0 0 a.length a.length 4)::x
abbrev kAA {α1 α2:Type}(a:Int) (b:List α1) (c:List α2) (d e:Int) (x:List (Nat×AV)):List (Nat×AV):=(7,.i a)::(11,.gslice 0 b.length 4)::(50,.gslice 1 c.length 1)::(51,.i d)::(52,.i e)::x
abbrev kAB (a b:Int):List (Nat×AV):=[(7,.i a),(8,.i b)]
abbrev kAC (a b:Int) (c:Str) (x:List (Nat×AV)):List (Nat×AV):=(7,.i a)::(10,.i b)::(11,.str c)::x
abbrev kAD {α0:Type}(a:List α0) (x:List (Nat×AV)):List (Nat×AV):=(6,.gslice 0 a.length 1)::x
abbrev kAE (a b:Int) (x:List (Nat×AV)):List (Nat×AV):=(11,.int .u64 a)::(12,.int .u64 b)::x
abbrev kAF {α1:Type}(a:Int) (b:List α1) (x:List (Nat×AV)):List (Nat×AV):=(7,.i a)::(8,.gslice 0 b.length 1)::x
abbrev kAG (a:Int) (x:List (Nat×AV)):List (Nat×AV):=(1,.i a)::(2,.ptr 0 0)::(4,.ptr 1 0)::(5,.ptr 2 0)::x
abbrev kAH {α0:Type}(a:List α0) (x:List (Nat×AV)):List (Nat×AV):=(12,.gslice 2 a.length 4)::(13,.ptr 3 0)::x
abbrev kAI (a b:Int) (x:List (Nat×AV)):List (Nat×AV):=(7,.int .u64 a)::(8,.int .u64 b)::x
abbrev kAJ (a b:Int) (x:List (Nat×AV)):List (Nat×AV):=(0,.slice 0 0 3 3 1)::(3,.i a)::(9,.slice 0 0 3 3 1)::(10,.i 3)::(11,.i b)::x
abbrev kAK {α0:Type}(a:List α0) (x:List (Nat×AV)):List (Nat×AV):=(0,.gslice 0 a.length 1)::x
abbrev kAL (a b:Int) (x:List (Nat×AV)):List (Nat×AV):=(21,.i a)::(22,.i b)::x
abbrev kAM {α0:Type}(a:List α0) (x:List (Nat×AV)):List (Nat×AV):=(5,.gslice 0 a.length 1)::x
abbrev kAN {α0:Type}(a:List α0) (b:List qb) (c:Int) (x:List (Nat×AV)):List (Nat×AV):=(3,.slice 0 0 a.length a.length 1)::(9,vl qa b)::(10,.i c)::x
abbrev kAO (x:List (Nat×AV)):List (Nat×AV):=(2,.ptr 0 0)::(3,.ptr 1 0)::x
abbrev kAP (a b:Str) (c:Bool) (x:List (Nat×AV)):List (Nat×AV):=(5,.str a)::(6,.str b)::(7,.bool c)::x
abbrev kAQ (a:Int) (x:List (Nat×AV)):List (Nat×AV):=(6,.int .u64 a)::x
abbrev kAR {α2:Type}(a b:Int) (c:List α2) (d e:Int) (x:List (Nat×AV)):List (Nat×AV):=(41,.i a)::(42,.i b)::(60,.gslice 2 c.length 4)::(61,.i d)::(62,.i e)::x
abbrev kAS (a b c:List qb) (x:List Blk):List Blk:= .cells [vl qa a,vl qa b,vl qa c]::x
abbrev kAU (a:List Str) (x:List (Nat×AV)):List (Nat×AV):=(0,vl encS a)::x
abbrev kAV (a:Int) (b:Str) (c:Int) (x:List (Nat×AV)):List (Nat×AV):=(7,.i a)::(8,.str b)::(9,.i c)::x
abbrev kAW (a:Option (List qb)):List Blk:=[.cells ((hof a).flatMap qa.c)]
abbrev kAX (a b:Int):List (Nat×AV):=[(13,.i a),(14,.i b)]
abbrev kAY {α0:Type}(a:List α0) (b:Bool) (x:List (Nat×AV)):List (Nat×AV):=(2,.ptr 0 0)::(3,.gslice 1 a.length 1)::(4,.bool b)::x
abbrev kAZ {α0:Type}(a:List α0) (x:List (Nat×AV)):List (Nat×AV):=(7,.slice 1 0 a.length a.length 4)::x
abbrev kAa {α1:Type}(a:List Int) (b:List α1) (x:List (Nat×AV)):List (Nat×AV):=(10,vl encI a)::(11,.gslice 0 b.length 1)::x
abbrev kAb (a b:Int) (x:List (Nat×AV)):List (Nat×AV):=(0,.i a)::(1,.i b)::x
abbrev kAc (a b:Int) (x:List (Nat×AV)):List (Nat×AV):=(11,.int .u64 a)::(13,.int .u64 b)::x
abbrev kAd (a b:Int):List (Nat×AV):=[(25,.i a),(26,.i b)]
abbrev kAe (a:List qb) (x:List (Nat×AV)):List (Nat×AV):=(0,vl qa a)::x
abbrev kAf (a:Bool) (b:List Int) (x:List Blk):List Blk:= .cells [.bool a,vl encI b]::x
abbrev kAg (a:List Int):List Blk:=[.frozen (a.flatMap encI.c)]
abbrev kAh (a b:Int) (x:List (Nat×AV)):List (Nat×AV):=(17,.int .u64 a)::(18,.int .u64 b)::x
abbrev kAi (x:List (Nat×AV)):List (Nat×AV):=(3,.ptr 1 0)::(4,.ptr 2 0)::(5,.ptr 3 0)::x
abbrev kAj (a:List Int) (x:List (Nat×AV)):List (Nat×AV):=(0,vl encI a)::x
abbrev kAk (a b:Int) (x:List (Nat×AV)):List (Nat×AV):=(6,.i a)::(7,.i b)::x
abbrev kAl {α3:Type}(a b:List Int) (c:Int) (d:List α3) (x:List (Nat×AV)):List (Nat×AV):=(8,vl encI a)::(9,vl encI b)::(10,.i c)::(11,.gslice 0 d.length 1)::x
abbrev kAm (a:Str):List (Nat×AV):=[(0,.str a)]
abbrev kAn (a:Int) (x:List (Nat×AV)):List (Nat×AV):=(7,.int .u64 a)::x
abbrev kAo (x:List (Nat×AV)):List (Nat×AV):=(1,.ptr 0 0)::x
abbrev kAp (a:Bool) (b:List Int):List AV:=[.bool a,vl encI b]
abbrev kAq:List Blk:=[.cells (([]:List Int).flatMap encI.c)]
abbrev kAr:List (Nat×AV):=[(4,.ptr 2 0)]
abbrev kAs (x:List (Nat×AV)):List (Nat×AV):=(2,.ptr 0 0)::x
abbrev kAt (a:Str) (b:Int) (x:List (Nat×AV)):List (Nat×AV):=(0,.str a)::(3,.i b)::x
abbrev kAu (a:Str) (b:Int) (x:List (Nat×AV)):List (Nat×AV):=(3,.str a)::(4,.i b)::x
abbrev kAv (a b c d:Int) (x:List (Nat×AV)):List (Nat×AV):=(2,.i a)::(7,.i b)::(9,.i c)::(10,.i d)::x
abbrev kAw (x:List (Nat×AV)):List (Nat×AV):=(4,.ptr 0 0)::x
abbrev kAx (a:Int) (x:List Blk):List Blk:= .dead:: .cells [.i a]::x
abbrev kAy (a:Int):List (Nat×AV):=[(5,.i a)]
abbrev kAz (a b:Int) (x:List (Nat×AV)):List (Nat×AV):=(8,.i a)::(9,.i b)::x
abbrev kA0:List (Nat×AV):=[(4,.bool false)]
abbrev kA1:List (Nat×AV):=[(6,.bool false)]
abbrev kA2 (a:Bool) (b:List Int) (c:Bool) (d:List Int):List AV:=[.agg [.bool a,vl encI b],.agg [.bool c,vl encI d]]
abbrev kA3 {α0:Type}(a:List α0) (b:Int) (x:List (Nat×AV)):List (Nat×AV):=(3,.gslice 0 a.length 1)::(4,.i b)::x
abbrev kA4 (a b:Int):List (Nat×AV):=[(104,.i a),(105,.i b)]
abbrev kA5 (a b:Int):List (Nat×AV):=[(28,.i a),(29,.i b)]
abbrev kA6:List (Nat×AV):=[(2,.ptr 1 0)]
abbrev kA7 (a:List Str) (b c:Int) (x:List (Nat×AV)):List (Nat×AV):=(10,vl encS a)::(11,.i b)::(12,.i c)::x
abbrev kA8 (a b c:Int) (x:List (Nat×AV)):List (Nat×AV):=(17,.int .u64 a)::(156,.i b)::(157,.i c)::x
abbrev kA9 {α0:Type}(a:List α0) (x:List (Nat×AV)):List (Nat×AV):=(5,.gslice 1 a.length 1)::x
abbrev kBA (x:List (Nat×AV)):List (Nat×AV):=(0,.slice 0 0 1 1 4)::x
abbrev kBB (a b:Int):List AV:=[.int .u64 a,.int .u64 b]
abbrev kBC (a b:Int):List (Nat×AV):=[(110,.i a),(111,.i b)]
abbrev kBD {α0:Type}(a:List α0) (x:List Blk):List Blk:= .cells [.gslice 4 a.length 1]::x
abbrev kBE (a:Str) (b:Bool) (x:List (Nat×AV)):List (Nat×AV):=(5,.str a)::(6,.bool b)::x
abbrev kBF (a b:Int):List (Nat×AV):=[(96,.i a),(97,.i b)]
abbrev kBG (a:Int):List Blk:=[.cells [.i a,.nilslice]]
abbrev kBH (a b:Int) (x:List (Nat×AV)):List (Nat×AV):=(14,.int .u64 a)::(15,.int .u64 b)::x
abbrev kBI (a:Bool):List (Nat×AV):=[(13,.bool a)]
abbrev kBJ (a:Bool):List (Nat×AV):=[(10,.bool a)]
abbrev kBK (a:Int):List (Nat×AV):=[(6,.i a)]
abbrev kBL (x:List Blk):List Blk:= .dead:: .dead::x
abbrev kBM (a:Int):List (Nat×AV):=[(2,.i a)]
abbrev kBN (a:Bool):List (Nat×AV):=[(8,.bool a)]
abbrev kBO (a:Bool):List (Nat×AV):=[(4,.bool a)]
abbrev kBP (a b:Int):List (Nat×AV):=[(65,.i a),(66,.i b)]
abbrev kBQ {α0 α1:Type}(a:List α0) (b:List α1):List (Nat×AV):=[(2,.oslice 0 a.length 1),(3,.gslice 1 b.length 1)]
abbrev kBR (a b:Int):List Blk:=[.cells [.i a,.i b]]
abbrev kBS {α0:Type}(a:List α0) (b:Int) (x:List (Nat×AV)):List (Nat×AV):=(50,.gslice 1 a.length 1)::(51,.i b)::x
abbrev kBT (a:Int):List (Nat×AV):=[(7,.i a)]
abbrev kBU (x:List (Nat×AV)):List (Nat×AV):=(0,.slice 0 0 3 3 1)::x
abbrev kBV:List (Nat×AV):=[(8,.bool false)]
abbrev kBW (a:Bool):List (Nat×AV):=[(15,.bool a)]
abbrev kBX (a:Bool):List (Nat×AV):=[(12,.bool a)]
abbrev kBY (x:List (Nat×AV)):List (Nat×AV):=(4,.nilslice)::x
abbrev kBZ (a:Int):List (Nat×AV):=[(26,.i 3),(27,.i a)]
abbrev kBa (a:Int):List (Nat×AV):=[(61,.i a),(62,.i 0)]
abbrev kBb (a b:List Int):List AV:=[vl encI a,vl encI b]
abbrev kBc (a:Int) (x:List (Nat×AV)):List (Nat×AV):=(0,.int .u64 a)::x
abbrev kBd (a:Int):List (Nat×AV):=[(1,.i a)]
abbrev kBe (a:Int):List (Nat×AV):=[(4,.i a)]
abbrev kBf (a:Int) (b:List Str) (x:List (Nat×AV)):List (Nat×AV):=(9,.i a)::(10,vl encS b)::x
abbrev kBg (a b:List Int):List (Nat×AV):=[(4,vl encI a),(5,vl encI b)]
abbrev kBh:List (Nat×AV):=[(4,.ptr 1 0)]
abbrev kBi (a:Int):List (Nat×AV):=[(7,.i a),(8,.i 0)]
abbrev kBj (x:List (Nat×AV)):List (Nat×AV):=(10,.ptr 1 0)::x
abbrev kBk (a:Int):List (Nat×AV):=[(14,.i a)]
abbrev kBl (a:Int):List (Nat×AV):=[(12,.i a)]
abbrev kBm (a:Bool):List (Nat×AV):=[(9,.bool a)]
abbrev kBn (a:Str):List (Nat×AV):=[(4,.str a)]
abbrev kBo (a:Bool):List (Nat×AV):=[(5,.bool a)]
abbrev kBp (x:List (Nat×AV)):List (Nat×AV):=(8,.int .u64 0)::x
abbrev kBq (x:List (Nat×AV)):List (Nat×AV):=(5,.nilslice)::(6,.i 0)::x
abbrev kBr:List (Nat×AV):=[(4,.i 0)]
abbrev kBs:List (Nat×AV):=[(2,.i 0)]
abbrev kBt (x:List (Nat×AV)):List (Nat×AV):=(11,.ptr 1 0)::x
abbrev kBu:List (Nat×AV):=[(2,.bool false)]
abbrev kBv (x:List (Nat×AV)):List (Nat×AV):=(11,.ptr 0 0)::(12,.ptr 1 0)::x
abbrev kBw:List (Nat×AV):=[(47,.bool true)]
abbrev kBx {α0:Type}(a:List α0):List (Nat×AV):=[(4,.gslice 1 a.length 1)]
abbrev kBy (a:Bool):List (Nat×AV):=[(20,.bool a)]
abbrev kBz (a:Int) (x:List (Nat×AV)):List (Nat×AV):=(2,.int .u64 a)::x
abbrev kB0 (a:Str) (x:List Blk):List Blk:= .cells [.str a]::x
abbrev kB1:List (Nat×AV):=[(4,.i (-1))]
abbrev kB2 (a b:Int) (x:List (Nat×AV)):List (Nat×AV):=(7,.i a)::(8,.i b)::x
abbrev kB3 (a b:Int) (x:List (Nat×AV)):List (Nat×AV):=(2,.i a)::(3,.i b)::x
abbrev kB4 (a b:Int) (c:List Str) (x:List (Nat×AV)):List (Nat×AV):=(1,.i a)::(2,.i b)::(3,vl encS c)::x
abbrev kB5 (a:Str):List (Nat×AV):=[(2,.str a)]
abbrev kB6 (x:List (Nat×AV)):List (Nat×AV):=(9,.ptr 2 0)::x
abbrev kB7 (a:List Str) (x:List (Nat×AV)):List (Nat×AV):=(6,vl encS a)::x
abbrev kB8 {α0:Type}(a:List α0) (x:List Blk):List Blk:= .cells [.gslice 3 a.length 4]::x
abbrev kB9 {α0:Type}(a:List α0) (x:List Blk):List Blk:= .cells [.oslice 5 a.length 4]::x
abbrev kCA {α0:Type}(a:List α0) (x:List Blk):List Blk:= .cells [.gslice 2 a.length 1]::x
abbrev kCB:List (Nat×AV):=[(5,.gslice 0 ([]:List Int).length 1),(6,.i 0),(7,.i 0)]
abbrev kCC (a:Int):List Blk:=[.cells [.i a]]
abbrev kCD (a:Bool):List (Nat×AV):=[(2,.bool a)]
abbrev kCE (a b:Int) (x:List (Nat×AV)):List (Nat×AV):=(5,.i a)::(6,.i b)::x
abbrev kCF:List (Nat×AV):=[(3,.i 0),(9,.slice 0 0 3 3 1),(10,.i 3),(11,.i 0)]
abbrev kCG (x:List (Nat×AV)):List (Nat×AV):=(3,.nilslice)::x
abbrev kCH (a b:Int) (x:List (Nat×AV)):List (Nat×AV):=(41,.i a)::(42,.i b)::x
abbrev nz1 (x:qh):List AV:=ni1 x.s x.w
abbrev nq1 (x:qb):List AV:=ni2 x.Num.s x.Num.w x.Den.s x.Den.w
def wsz {A:Heap}(t:TypeId) (b:Nat) (a:qh) {cs:List AV}(hb:A[b]? =some (.cells cs)) (hc:cs.length=2) (ht:(Tryz.prog.info? t).map (·.size)=some 2:=by kernel_rfl):OH ZT A (.run [b] (qaq ZT t (.ptr b 0) (.agg (nz1 a))) A .undef (A.set b (.cells (nz1 a))) true) (A.set b (.cells (nz1 a))):=wsn t b hb hc rfl (cac rfl (cac nvc can)) ht
def wsq {A:Heap}(t:TypeId) (b:Nat) (a:qb) {cs:List AV}(hb:A[b]? =some (.cells cs)) (hc:cs.length=4) (ht:(Tryz.prog.info? t).map (·.size)=some 4:=by kernel_rfl):OH ZT A (.run [b] (qaq ZT t (.ptr b 0) (.agg (nq1 a))) A .undef (A.set b (.cells (nq1 a))) true) (A.set b (.cells (nq1 a))):=wsn t b hb hc rfl (cac rfl (cac nvc (cac rfl (cac nvc can)))) ht
def qa6:SlT ZT 23 42 1 16:=⟨by kernel_rfl,by kernel_rfl,by kernel_rfl,by kernel_rfl⟩
def qc8:CeT ZT 42:=⟨by kernel_rfl,by kernel_rfl⟩
def yf:SlT ZT 22 23 1 24:=⟨by kernel_rfl,by kernel_rfl,by kernel_rfl,by kernel_rfl⟩
def xW:CeT ZT 23:=⟨by kernel_rfl,by kernel_rfl⟩
def st9:Tryz.prog.underlying 9=some .string:=by kernel_rfl
def jT:SlT ZT 58 3 1 8:=⟨by kernel_rfl,by kernel_rfl,by kernel_rfl,by kernel_rfl⟩
def ce3:CeT ZT 3:=⟨by kernel_rfl,by kernel_rfl⟩
def qnb:Tryz.prog.underlying 42=some .string:=by kernel_rfl
def sl135:SlT ZT 135 30 1 8:=⟨by kernel_rfl,by kernel_rfl,by kernel_rfl,by kernel_rfl⟩
def ce30:CeT ZT 30:=⟨by kernel_rfl,by kernel_rfl⟩
def qbD:Tryz.prog.underlying 79=some (.slice 193):=by kernel_rfl
def ja:SlT ZT 79 193 1 8:=⟨by kernel_rfl,by kernel_rfl,by kernel_rfl,by kernel_rfl⟩
def jk:CeT ZT 193:=⟨by kernel_rfl,by kernel_rfl⟩
def qtw:SlT ZT 223 9 1 16:=⟨by kernel_rfl,by kernel_rfl,by kernel_rfl,by kernel_rfl⟩
def ce9:CeT ZT 9:=⟨by kernel_rfl,by kernel_rfl⟩
def qa4:SlT ZT 77 83 4 64:=⟨by kernel_rfl,by kernel_rfl,by kernel_rfl,by kernel_rfl⟩
def qgo:AgT ZT 83 4:=⟨by kernel_rfl,by kernel_rfl⟩
def qdF:SlT ZT 76 77 1 24:=⟨by kernel_rfl,by kernel_rfl,by kernel_rfl,by kernel_rfl⟩
def qgQ:CeT ZT 77:=⟨by kernel_rfl,by kernel_rfl⟩
def qpj:nIf ZT 83=true:=by kernel_rfl
def it3:Tryz.prog.underlying 3=some (.int .i64):=by kernel_rfl
def yx (l:List Str) (n:Int):Nat->Int->Option (Unit⊕Bool)
 |0,_=>none
 |K+1,a=>
  if a<(l.length:Int)then
  (idx l a).bind λb=>
  if(b.length:Int)>n then
  some (.inr false)
  else
  yx l n K (w64 (a+1))
  else
  some (.inl ())
def yY (N:Nat) (l:List Str) (n:Int):Option Bool:=
 if(l.length:Int)>n then
 some false
 else
 (yx l n N 0).bind (λ
 |(.inl ())=>
 some true
 |(.inr a)=>
 some a)
def qa0 (N:Nat) (l:List Str) (n:Int) {res:Bool}(h:yY N l n=some res):qc ZT (.fn 6) [vl encS l,.i n] [] (.bool res) []:=by
 unfold yY at h;refine fW Tryz.func6 rfl<|sh fol (kAU l (kBd n))<|sq<|sh fol (kAU l ((1,.i n)::(kBm (decide ((zl l)>n)))))<|ihD h (λe h=>?_) (λe h=>?_)
 ·cases h
  exact sh fol kA0<|ah<|gw1
 obtain⟨c,g3,h⟩:=bnd h;refine ag<|sq<|sh fol (kAU l [(1,.i n),(5,.i 0)])<|aj<|gI (λx s'=>(x= .exit 0/\(.inl ())=c/\Sub s' (ofG 23 [],[]))\/(x= .ret/\∃d,(.inr d)=c/\qQ ZT [.tmp 4] (.bool d) .ret s')) ?_ ?_
 ·refine Ua (λM s=>∃(b:Int),s=(ofG 23 (kAU l ((1,.i n)::(kAy b))),[])/\yx l n M b=some c) ?_ (m:=N) ⟨_,rfl,g3⟩;rintro M s ⟨b,rfl,g3⟩
  cases M with
  |zero=>cases g3
  |succ M=>
   rw[yx]at g3;refine sq<|sh fol (kAU l ((1,.i n)::(5,.i b)::(kBI (decide (b<(zl l))))))<|ihD g3 (λf g3=>?_) (λf g3=>?_)
   ·obtain⟨g,a,g3⟩:=bnd g3;refine ag<|sq<|aj<|sq<|gr fol [2,3] (kAU l [(1,.i n),(5,.i b),(22,.bool (decide ((zl g)>n)))]) (qj (iv qa6 encS a) (lv 0 qc8 encS a rfl))<|ihD g3 (λj g3=>?_) (λj g3=>?_)
    ·cases g3
     exact sh fol kA0<|ah<|Or.inr (⟨rfl,_,rfl,gw1⟩)
    exact ag<|gh fol (kAU l ((1,.i n)::(kAy (w64 (b+1)))))<|qY ⟨_,rfl,g3⟩
   cases g3
   exact aA<|Or.inl (⟨rfl,rfl,sK []⟩)
 rintro x s' (⟨rfl,rfl,hsub⟩|⟨rfl,k,rfl,hret⟩)
 ·cases h
  exact aq hsub<|sh fol [(4,.bool true)]<|ah<|gw1
 cases h
 exact hret
def jI (N:Nat) (m:List (List Str)) (n:Int):Nat->Int->Option (Unit⊕Bool)
 |0,_=>none
 |K+1,a=>
  if a<(m.length:Int)then
  (idx m a).bind λb=>
  (yY N b n).bind λc=>
  if(!c)=true then
  some (.inr false)
  else
  jI N m n K (w64 (a+1))
  else
  some (.inl ())
def xR (N:Nat) (m:List (List Str)) (n:Int):Option Bool:=
 if(m.length:Int)>n then
 some false
 else
 (jI N m n N 0).bind (λ
 |(.inl ())=>
 some true
 |(.inr a)=>
 some a)
def qba (N:Nat) (m:List (List Str)) (n:Int) {res:Bool}(h:xR N m n=some res):qc ZT (.fn 5) [vl eSS m,.i n] [] (.bool res) []:=by
 unfold xR at h;refine fW Tryz.func5 rfl<|sh fol ((0,vl eSS m)::(kBd n))<|sq<|sh fol ((0,vl eSS m)::(1,.i n)::(kBm (decide ((zl m)>n))))<|ihD h (λf h=>?_) (λf h=>?_)
 ·cases h
  exact sh fol kA0<|ah<|gw1
 obtain⟨d,g3,h⟩:=bnd h;refine ag<|sq<|sh fol [(0,vl eSS m),(1,.i n),(5,.i 0)]<|aj<|gI (λx s'=>(x= .exit 0/\(.inl ())=d/\Sub s' (ofG 23 [],[]))\/(x= .ret/\∃e,(.inr e)=d/\qQ ZT [.tmp 4] (.bool e) .ret s')) ?_ ?_
 ·refine Ua (λM s=>∃(b:Int),s=(ofG 23 ((0,vl eSS m)::(1,.i n)::(kAy b)),[])/\jI N m n M b=some d) ?_ (m:=N) ⟨_,rfl,g3⟩;rintro M s ⟨b,rfl,g3⟩
  cases M with
  |zero=>cases g3
  |succ M=>
   rw[jI]at g3;refine sq<|sh fol ((0,vl eSS m)::(1,.i n)::(5,.i b)::(kBI (decide (b<(zl m)))))<|ihD g3 (λg g3=>?_) (λg g3=>?_)
   ·obtain⟨j,a,k,c,g3⟩:=bn2 g3;refine ag<|sq<|aj<|sq<|gr fol [2,3,5] [(0,vl eSS m),(1,.i n),(5,.i b),(22,.bool (!k))] (qA (iv yf eSS a) (lv 0 xW eSS a rfl) (cv (qa0 N j n c)))<|ihB g3 (λl g3=>?_) (λl g3=>?_)
    ·cases g3
     exact sh fol kA0<|ah<|Or.inr (⟨rfl,_,rfl,gw1⟩)
    exact ag<|gh fol ((0,vl eSS m)::(1,.i n)::(kAy (w64 (b+1))))<|qY ⟨_,rfl,g3⟩
   cases g3
   exact aA<|Or.inl (⟨rfl,rfl,sK []⟩)
 rintro x s' (⟨rfl,rfl,hsub⟩|⟨rfl,o,rfl,hret⟩)
 ·cases h
  exact aq hsub<|sh fol [(4,.bool true)]<|ah<|gw1
 cases h
 exact hret
def y7 (b:Str):Nat->Int->Option (Unit⊕Int)
 |0,_=>none
 |K+1,a=>
  if a<(b.length:Int)then
  (idx b a).bind λc=>
  if(c.toNat:Int)=47 then
  some (.inr a)
  else
  y7 b K (w64 (a+1))
  else
  some (.inl ())
def xP (N:Nat) (a:Str):Option Int:=
 (y7 a N 0).bind (λ
 |(.inl ())=>
 some (a.length:Int)
 |(.inr b)=>
 some b)
def qbc (N:Nat) (a:Str) {res:Int}(h:xP N a=some res):qc ZT (.fn 112) [.str a] [] (.i res) []:=by
 unfold xP at h;obtain⟨d,g2,h⟩:=bnd h;refine fW Tryz.func112 rfl<|sh fol (kAm a)<|sq<|sh fol [(0,.str a),(3,.i 0)]<|aj<|gI (λx s'=>(x= .exit 0/\(.inl ())=d/\Sub s' (ofG 17 (kAm a),[]))\/(x= .ret/\∃e,(.inr e)=d/\qQ ZT [.tmp 2] (.i e) .ret s')) ?_ ?_
 ·refine Ua (λM s=>∃(b:Int),s=(ofG 17 (kAt a b []),[])/\y7 a M b=some d) ?_ (m:=N) ⟨_,rfl,g2⟩;rintro M s ⟨b,rfl,g2⟩
  cases M with
  |zero=>cases g2
  |succ M=>
   rw[y7]at g2;refine sq<|sh fol (kAt a b [(7,.bool (decide (b<(zl a))))])<|ihD g2 (λf g2=>?_) (λf g2=>?_)
   ·obtain⟨g,c,g2⟩:=bnd g2;refine ag<|sq<|aj<|sq<|gr fol [2] (kAt a b (kBI (decide ((g.toNat:Int)=47)))) (qd (wsx st9 c))<|ihD g2 (λj g2=>?_) (λj g2=>?_)
    ·cases g2
     exact sh fol (kBM b)<|ah<|Or.inr (⟨rfl,_,rfl,gw1⟩)
    exact ag<|gh fol (kAt a (w64 (b+1)) [])<|qY ⟨_,rfl,g2⟩
   cases g2
   exact aA<|Or.inl (⟨rfl,rfl,sK [0]⟩)
 rintro x s' (⟨rfl,rfl,hsub⟩|⟨rfl,k,rfl,hret⟩)
 ·cases h
  exact aq hsub<|sh fol (kBM (zl a))<|ah<|gw1
 cases h
 exact hret
def yE (a:Str):Nat->Int->Option (Unit⊕Bool)
 |0,_=>none
 |K+1,b=>
  if b<(a.length:Int)then
  ((idx a b).bind λc=>
  if(c.toNat:Int)<48 then
  some true
  else
  some (decide ((c.toNat:Int)>57)):Option Bool).bind λd=>
  if d=true then
  some (.inr false)
  else
  yE a K (w64 (b+1))
  else
  some (.inl ())
def qcb (N:Nat) (b:Str):Option Bool:=
 (yE b N 0).bind (λ
 |(.inl ())=>
 some true
 |(.inr a)=>
 some a)
def qie (N:Nat) (b:Str) {res:Bool}(h:qcb N b=some res):qc ZT (.fn 164) [.str b] [] (.bool res) []:=by
 unfold qcb at h;obtain⟨e,g2,h⟩:=bnd h;refine fW Tryz.func164 rfl<|sh fol (kAm b)<|sq<|sh fol [(0,.str b),(3,.i 0)]<|aj<|gI (λx s'=>(x= .exit 0/\(.inl ())=e/\Sub s' (ofG 20 [],[]))\/(x= .ret/\∃g,(.inr g)=e/\qQ ZT [.tmp 2] (.bool g) .ret s')) ?_ ?_
 ·refine Ua (λM s=>∃(d:Int),s=(ofG 20 (kAt b d []),[])/\yE b M d=some e) ?_ (m:=N) ⟨_,rfl,g2⟩;rintro M s ⟨d,rfl,g2⟩
  cases M with
  |zero=>cases g2
  |succ M=>
   rw[yE]at g2;refine sq<|sh fol (kAt b d [(7,.bool (decide (d<(zl b))))])<|ihD g2 (λj g2=>?_) (λj g2=>?_)
   ·obtain⟨k,a,g2⟩:=bnd g2;refine ag<|sq<|aj<|sq<|aQ (s':=(ofG 20 (kAt b d [(19,.bool k)]),[])) ?_ ?_
    ·obtain⟨l,c,a⟩:=bnd a;rcases wyD a with⟨f,a⟩|⟨f,a⟩
     ·cases a
      exact tr fol [2,4] (kAt b d [(19,.bool true)]) (qj (wsx st9 c) (gw f))
     cases a
     exact tr fol [2,4,7] (kAt b d [(19,.bool (decide ((l.toNat:Int)>57)))]) (qA (wsx st9 c) (gw f) (wsx st9 c))
    refine ihB g2 (λn g2=>?_) (λn g2=>?_)
    ·cases g2
     exact sh fol kBu<|ah<|Or.inr (⟨rfl,_,rfl,gw1⟩)
    exact ag<|gh fol (kAt b (w64 (d+1)) [])<|qY ⟨_,rfl,g2⟩
   cases g2
   exact aA<|Or.inl (⟨rfl,rfl,sK []⟩)
 rintro x s' (⟨rfl,rfl,hsub⟩|⟨rfl,o,rfl,hret⟩)
 ·cases h
  exact aq hsub<|sh fol [(2,.bool true)]<|ah<|gw1
 cases h
 exact hret
def jO (N:Nat) (a:Str):Option Bool:=
 (if(a.length:Int)=0 then
 some true
 else
 if(a.length:Int)>1 then
 (idx a 0).bind λb=>
 some (decide ((b.toNat:Int)=48))
 else
 some false:Option Bool).bind λc=>
 if c=true then
 some false
 else
 (qcb N a).bind λd=>
 some d
def jH (N:Nat) (b:Str) {res:Bool}(h:jO N b=some res):qc ZT (.fn 113) [.str b] [] (.bool res) []:=by
 unfold jO at h;obtain⟨g,a,h⟩:=bnd h;refine fW Tryz.func113 rfl<|sh fol (kAm b)<|sq<|sq<|aQ (s':=(ofG 18 ((0,.str b)::(kBW g)),[])) ?_ ?_
 ·rcases wyD a with⟨e,a⟩|⟨e,a⟩
  ·cases a
   exact tr fol [3] [(0,.str b),(15,.bool true)] (qd (gw e))
  rcases wyD a with⟨f,a⟩|⟨f,a⟩
  ·obtain⟨i,c,rfl⟩:=bs1 a;exact tr fol [3,7,9] ((0,.str b)::(kBW (decide ((i.toNat:Int)=48)))) (qA (gw e) (gw f) (wsx st9 c))
  cases a
  exact tr fol [3,7] [(0,.str b),(15,.bool false)] (qj (gw e) (gw f))
 refine ihB h (λj h=>?_) (λj h=>?_)
 ·cases h
  exact sh fol kBu<|ah<|gw1
 obtain⟨k,d,rfl⟩:=bs1 h;exact ag<|sq<|gr fol [1] (kCD k) (qd (cv (qie N b d)))<|ah<|gw1
def xh (a:Str):Nat->Int->Int->Option Int
 |0,_,_=>none
 |K+1,c,b=>
  if b<(a.length:Int)then
  (idx a b).bind λd=>
  xh a K (w64 ((w64 ((w64 (10*c))+(w64 (d.toNat:Int))))-48)) (w64 (b+1))
  else
  some c
def qav (N:Nat) (a:Str):Option Int:=
 (xh a N 0 0).bind λb=>
 some b
def qch (N:Nat) (a:Str) {res:Int}(h:qav N a=some res):qc ZT (.fn 168) [.str a] [] (.i res) []:=by
 unfold qav at h;obtain⟨f,g4,h⟩:=bnd h;refine fW Tryz.func168 rfl<|sh fol (kAm a)<|sh fol [(0,.str a),(3,.i 0)]<|sq<|sh fol ((0,.str a)::(3,.i 0)::kBr)<|aj<|gI (λx s'=>(x= .exit 0/\∃e,e=f/\Sub s' (ofG 20 [(3,.i e)],[]))) ?_ ?_
 ·refine Ua (λM s=>∃(c:Int) (b:Int),s=(ofG 20 (kAt a c (kBe b)),[])/\xh a M c b=some f) ?_ (m:=N) ⟨_,_,rfl,g4⟩;rintro M s ⟨c,b,rfl,g4⟩
  cases M with
  |zero=>cases g4
  |succ M=>
   rw[xh]at g4;refine sq<|sh fol (kAt a c ((4,.i b)::(kBN (decide (b<(zl a))))))<|ihD g4 (λj g4=>?_) (λj g4=>?_)
   ·obtain⟨g,d,g4⟩:=bnd g4;exact ag<|sq<|aj<|gr fol [4] (kAt a (w64 ((w64 ((w64 (10*c))+(w64 (g.toNat:Int))))-48)) (kBe b)) (qd (wsx st9 d))<|gh fol (kAt a (w64 ((w64 ((w64 (10*c))+(w64 (g.toNat:Int))))-48)) (kBe (w64 (b+1))))<|qY ⟨_,_,rfl,g4⟩
   cases g4
   exact aA<|⟨rfl,_,rfl,sK [3]⟩
 rintro x s' ⟨rfl,e,rfl,hsub⟩;obtain rfl:=si h;exact aq hsub<|sh fol (kBM e)<|ah<|gw1
def qaU:Nat->(List Int)->Option (List Int)
 |0,_=>none
 |K+1,a=>
  (if(a.length:Int)>0 then
  (idx a (w64 ((a.length:Int)-1))).bind λb=>
  some (decide (b=0))
  else
  some false:Option Bool).bind λc=>
  if c=true then
  (cut a 0 (w64 ((a.length:Int)-1))).bind λd=>
  qaU K d
  else
  some a
def xu (N:Nat) (w:List Int):Option (List Int):=
 (qaU N w).bind λa=>
 some a
def xS (N:Nat) (w:List Int) {res:List Int}(h:xu N w=some res):qc ZT (.fn 202) [vl encI w] [] (vl encI res) []:=by
 unfold xu at h;obtain⟨g,g3,h⟩:=bnd h;refine fW Tryz.func202 rfl<|sh fol (kAj w [])<|sq<|aj<|gI (λx s'=>(x= .exit 0/\∃e,e=g/\Sub s' (ofG 21 (kAj e []),[]))) ?_ ?_
 ·refine Ua (λM s=>∃(c:List Int),s=(ofG 21 (kAj c []),[])/\qaU M c=some g) ?_ (m:=N) ⟨_,rfl,g3⟩;rintro M s ⟨c,rfl,g3⟩
  cases M with
  |zero=>cases g3
  |succ M=>
   rw[qaU]at g3;obtain⟨i,a,g3⟩:=bnd g3;refine sq<|sq<|aQ (s':=(ofG 21 (kAj c [(14,.bool i)]),[])) ?_ ?_
   ·rcases wyD a with⟨f,a⟩|⟨f,a⟩
    ·obtain⟨j,b,rfl⟩:=bs1 a;exact tr fol [3,8,9] (kAj c [(14,.bool (decide (j=0)))]) (qA (gw f) (iv jT encI b) (lv 0 ce3 encI b rfl))
    cases a
    exact tr fol [3] (kAj c [(14,.bool false)]) (qd (gw f))
   refine ihB g3 (λk g3=>?_) (λk g3=>?_)
   ·obtain⟨l,d,g3⟩:=bnd g3;exact ag<|aj<|gr fol [4] (kAj l []) (qd (wvs jT encI none (some (w64 ((zl c)-1))) d))<|qY ⟨_,rfl,g3⟩
   cases g3
   exact aA<|⟨rfl,_,rfl,sK [0]⟩
 rintro x s' ⟨rfl,e,rfl,hsub⟩;obtain rfl:=si h;exact aq hsub<|sh fol [(2,vl encI e)]<|ah<|gw1
def zP (N:Nat) (neg:Bool) (w:List Int):Option qE:=
 (xu N w).bind λa=>
 (if neg=true then
 some (decide ((a.length:Int)>0))
 else
 some false:Option Bool).bind λb=>
 some (⟨b,a⟩:qE)
def jm (N:Nat) (neg:Bool) (w:List Int) {res:qE}(h:zP N neg w=some res):qc ZT (.fn 173) (kAp neg w) [] (.agg (kAp res.neg res.w)) []:=by
 unfold zP at h;obtain⟨b,c,e,a,h⟩:=bn2 h;refine fW Tryz.func173 rfl<|sg fol ((0,.bool neg)::(1,vl encI w)::(kAw [])) (kS [])<|sq<|gr fol [1] ((0,.bool neg)::(1,vl encI b)::(kAw [])) (qd (cv (xS N w c)))<|sq<|aQ (s':=(ofG 15 (kAw []),(kAf e b []))) ?_ ?_
 ·rcases wyB a with⟨d,a⟩|⟨d,a⟩
  ·cases a
   exact fe fol [1] (kAw []) (kAf (decide ((zl b)>0)) b []) (qd (gw d))
  cases a
  exact fe fol [1] (kAw []) [.cells [.bool false,vl encI b]] (qd (gw d))
 cases h
 exact ah<|gw1
def qap (N:Nat):Nat->(List Int)->Str->Option ((List Int)×Str)
 |0,_,_=>none
 |K+1,f,a=>
  if(a.length:Int)>9 then
  (cut a (w64 ((a.length:Int)-9)) (a.length:Int)).bind λb=>
  (qav N b).bind λc=>
  (app 8 f [c]).bind λd=>
  (cut a 0 (w64 ((a.length:Int)-9))).bind λe=>
  qap N K d e
  else
  some (f,a)
def qbm (N:Nat) (a:Str):Option qE:=
 (if(a.length:Int)>0 then
 (idx a 0).bind λh=>
 some (decide ((h.toNat:Int)=45))
 else
 some false:Option Bool).bind λg=>
 ((if g=true then
 (cut a 1 (a.length:Int)).bind λi=>
 some i
 else
 some a:Option Str)).bind λj=>
 (qap N N ([]:List Int) j).bind λ(b,c)=>
 (qav N c).bind λd=>
 (app 8 b [d]).bind λe=>
 (zP N g e).bind λf=>
 some f
def qdJ (N:Nat) (k:Str) {res:qE}(h:qbm N k=some res):qc ZT (.fn 165) [.str k] [] (.agg (kAp res.neg res.w)) []:=by
 unfold qbm at h;obtain⟨c,a,h⟩:=bnd h;refine fW Tryz.func165 rfl<|sg fol ((0,.str k)::(kAs [])) (kS [])<|sq<|aQ (s':=(ofG 40 (kV k c []),(kS []))) ?_ ?_
 ·rcases wyD a with⟨D,a⟩|⟨D,a⟩
  ·obtain⟨H,y,rfl⟩:=bs1 a;exact tr fol [3,5] (kV k (decide ((H.toNat:Int)=45)) []) (qj (gw D) (wsx st9 y))
  cases a
  exact tr fol [3] ((0,.str k)::(kAs [(3,.bool false)])) (qd (gw D))
 obtain⟨I,g6,h⟩:=bnd h;refine sq<|sh fol (kV k c (kBI c))<|gI (λx s'=>(x= .normal/\∃z,z=I/\Sub s' (ofG 40 (kV z c []),(kS [])))) ?_ ?_
 ·refine ihB g6 (λJ g6=>?_) (λJ g6=>?_)
  ·obtain⟨K,A,rfl⟩:=bs1 g6;exact gr fol [1] (kV K c []) (qd (wss st9 (some 1) none A))<|⟨rfl,_,rfl,(bm _)⟩
  cases g6
  exact ag<|⟨rfl,_,rfl,sK [0,2,3]⟩
 rintro x s' ⟨rfl,z,rfl,hsub⟩;obtain⟨B,g13,h⟩:=bnd h;refine aq hsub<|sh fol (kV z c (kBY []))<|sq<|aj<|gI (λx s'=>(x= .exit 0/\∃d f,(d,f)=B/\Sub s' (ofG 40 (kV f c (kBx d)),(kS (kA d []))))) ?_ ?_
 ·refine aq (s':=(ofG 40 (kV z c [(4,.gslice 1 ([]:List Int).length 1)]),(kS kAq))) (sN [] [some 0,none] (kk (kk (kk (ke .nil kz)))) (.kb rfl (.same sn) (.fresh .nil)))<|Ua (λM s=>∃(v:List Int) (b:Str),s=(ofG 40 (kV b c (kBx v)),(kS (kA v [])))/\qap N M v b=some B) ?_ (m:=N) ⟨_,_,rfl,g13⟩;rintro M s ⟨v,b,rfl,g13⟩
  cases M with
  |zero=>cases g13
  |succ M=>
   rw[qap]at g13;refine sq<|sh fol (kV b c [(4,.gslice 1 v.length 1),(18,.bool (decide ((zl b)>9)))])<|ihD g13 (λF g13=>?_) (λF g13=>?_)
   ·obtain⟨G,l,n,o,e,p,C,q,g13⟩:=bn4 g13;exact ag<|aj<|sq<|gq fol [5,6,8] (kV b c [(4,.gslice 3 e.length 1)]) (kS (kAx n (kA e []))) (qA (wss st9 (some (w64 ((zl b)-9))) none l) (cv (qch N G o)) (hx (kS (kA v (kCC n))) (wap [1,2] jT (wdg 1 rfl p) (wsc 2 [n] rfl))))<|gr fol [4] (kV C c [(4,.gslice 3 e.length 1)]) (qd (wss st9 none (some (w64 ((zl b)-9))) q))<|⟨M,(ofG 40 (kV C c (kBx e)),(kS (kA e []))),aY _,(sN [] [some 0,some 3] kz (.kb rfl (.same sn) (.ks .nil))),_,_,rfl,g13⟩
   cases g13
   exact aA<|⟨rfl,_,_,rfl,sK [0,2,3,4]⟩
 rintro x s' ⟨rfl,d,f,rfl,hsub⟩;obtain⟨g,r,i,t,j,u,rfl⟩:=bs3 h;exact aq hsub<|sq<|gq fol [3,5,6] (kAs []) (kAf j.neg j.w (kAx g (kAg i))) (qA (cv (qch N f r)) (hx (kS (kA d (kCC g))) (wap [1,2] jT (wdg 1 rfl t) (wsc 2 [g] rfl))) (hx (kS (kAx g (kA i []))) (wcf [.bool c,.gslice 3 i.length 1] [3] (bi (Ul tB) (bi (Uy (E:=encI) rfl rfl (nl rfl)) bB)) (jm N c i u))))<|gN [] [some 0] (kAs []) (kAf j.neg j.w []) kz (.kb rfl (.same sn) .nil)<|ah<|gw1
def xy:Nat->(List Int)->Int->Option (List Int)
 |0,_,_=>none
 |K+1,b,a=>
  if(!decide (a=0))=true then
  ((if(a.tmod 1000000000)<0 then
  some (w64 (0-(a.tmod 1000000000)))
  else
  some (a.tmod 1000000000):Option Int)).bind λc=>
  (app 8 b [c]).bind λd=>
  xy K d (w64 (a.tdiv 1000000000))
  else
  some b
def qbb (N:Nat) (n:Int):Option qE:=
 (xy N ([]:List Int) n).bind λb=>
 (zP N (decide (n<0)) b).bind λa=>
 some a
def qdM (N:Nat) (n:Int) {res:qE}(h:qbb N n=some res):qc ZT (.fn 166) [.i n] [] (.agg (kAp res.neg res.w)) []:=by
 unfold qbb at h;obtain⟨k,g4,h⟩:=bnd h;refine fW Tryz.func166 rfl<|sg fol ((0,.i n)::(kAs [])) (kS [])<|sh fol ((0,.i n)::(kAs (kCG [])))<|sh fol ((0,.i n)::(kAs (kCG (kBO (decide (n<0))))))<|sq<|aj<|gI (λx s'=>(x= .exit 0/\∃d,d=k/\Sub s' (ofG 25 (kAY d (decide (n<0)) []),(kS (kA d []))))) ?_ ?_
 ·refine aq (s':=(ofG 25 ((0,.i n)::(kAs ((3,.gslice 1 ([]:List Int).length 1)::(kBO (decide (n<0)))))),(kS kAq))) (sN [] [some 0,none] (kk (kk (ke .nil kz))) (.kb rfl (.same sn) (.fresh .nil)))<|Ua (λM s=>∃(b:List Int) (a:Int),s=(ofG 25 ((0,.i a)::(kAY b (decide (n<0)) [])),(kS (kA b [])))/\xy M b a=some k) ?_ (m:=N) ⟨_,_,rfl,g4⟩;rintro M s ⟨b,a,rfl,g4⟩
  cases M with
  |zero=>cases g4
  |succ M=>
   rw[xy]at g4;refine sq<|sh fol ((0,.i a)::(kAY b (decide (n<0)) (kBm (!decide (a=0)))))<|ihB g4 (λl g4=>?_) (λl g4=>?_)
   ·obtain⟨o,g7,g4⟩:=bnd g4;refine ag<|aj<|sh fol ((0,.i a)::(kAY b (decide (n<0)) (kAy (a.tmod 1000000000))))<|sq<|sh fol ((0,.i a)::(kAY b (decide (n<0)) ((5,.i (a.tmod 1000000000))::(kBI (decide ((a.tmod 1000000000)<0))))))<|gI (λx s'=>(x= .normal/\∃f,f=o/\Sub s' (ofG 25 ((0,.i a)::(kAY b (decide (n<0)) (kAy f))),(kS (kA b []))))) ?_ ?_
    ·refine ihD g7 (λp g7=>?_) (λp g7=>?_)
     ·cases g7
      exact gh fol ((0,.i a)::(kAY b (decide (n<0)) (kAy (w64 (0-(a.tmod 1000000000))))))<|⟨rfl,_,rfl,(bm _)⟩
     cases g7
     exact ag<|⟨rfl,_,rfl,sK [0,2,3,4,5]⟩
    rintro x s' ⟨rfl,f,rfl,hsub⟩;obtain⟨g,j,g4⟩:=bnd g4;exact aq hsub<|sq<|gq fol [3] ((0,.i a)::(kAs ((3,.gslice 3 g.length 1)::(kBO (decide (n<0)))))) (kS (kAx f (kA g []))) (qd (hx (kS (kA b (kCC f))) (wap [1,2] jT (wdg 1 rfl j) (wsc 2 [f] rfl))))<|gh fol ((0,.i (w64 (a.tdiv 1000000000)))::(kAs ((3,.gslice 3 g.length 1)::(kBO (decide (n<0))))))<|⟨M,(ofG 25 ((0,.i (w64 (a.tdiv 1000000000)))::(kAY g (decide (n<0)) [])),(kS (kA g []))),aY _,(sN [] [some 0,some 3] kz (.kb rfl (.same sn) (.ks .nil))),_,_,rfl,g4⟩
   cases g4
   exact aA<|⟨rfl,_,rfl,sK [2,3,4]⟩
 rintro x s' ⟨rfl,d,rfl,hsub⟩;obtain⟨c,e,rfl⟩:=bs1 h;exact aq hsub<|sq<|gq fol [2] (kAs []) (kAf c.neg c.w (kAg d)) (qd (wcf [.bool (decide (n<0)),.gslice 1 d.length 1] [1] (bi (Ul tB) (bi (Uy (E:=encI) rfl rfl (nl rfl)) bB)) (jm N (decide (n<0)) d e)))<|gN [] [some 0] (kAs []) (kAf c.neg c.w []) kz (.kb rfl (.same sn) .nil)<|ah<|gw1
def j6 (N:Nat) (a:Str):Option (qE×qE):=
 (xP N a).bind λb=>
 if b=(a.length:Int)then
 (qbm N a).bind λc=>
 (qbb N 1).bind λd=>
 some (c,d)
 else
 (cut a 0 b).bind λe=>
 (qbm N e).bind λf=>
 (cut a (w64 (b+1)) (a.length:Int)).bind λg=>
 (qbm N g).bind λh=>
 some (f,h)
def qar (N:Nat) (a:Str) {res:qE×qE}(h:j6 N a=some res):qc ZT (.fn 114) [.str a] [] (.tuple (kA2 res.1.neg res.1.w res.2.neg res.2.w)) []:=by
 unfold j6 at h;obtain⟨b,c,h⟩:=bnd h;refine fW Tryz.func114 rfl<|sg fol ((0,.str a)::(kAO [])) (kS (kS []))<|sh fol (kAO (kBn a))<|sq<|gr fol [1] (kAO ((4,.str a)::(kAy b))) (qd (cv (qbc N a c)))<|sq<|sh fol (kAO ((4,.str a)::(5,.i b)::(kBX (decide (b=(zl a))))))<|ihD h (λp h=>?_) (λp h=>?_)
 ·obtain⟨l,d,m,e,rfl⟩:=bs2 h;exact sq<|gq fol [1,2] (kAO []) (kO l.neg l.w m.neg m.w []) (qj (cv (qdJ N a d)) (cv (qdM N 1 e)))<|ah<|gwt
 obtain⟨q,f,n,g,r,j,o,k,rfl⟩:=bs4 h;exact ag<|sq<|gq fol [2,3,7,8] (kAO []) (kO n.neg n.w o.neg o.w []) (zO (wss st9 none (some b) f) (cv (qdJ N q g)) (wss st9 (some (w64 (b+1))) none j) (cv (qdJ N r k)))<|ah<|gwt
def zi (a b:List Int):Nat->Int->Option (Unit⊕Int)
 |0,_=>none
 |K+1,c=>
  if c>=0 then
  (idx a c).bind λd=>
  (idx b c).bind λe=>
  if d<e then
  some (.inr (-1))
  else
  if d>e then
  some (.inr 1)
  else
  zi a b K (w64 (c-1))
  else
  some (.inl ())
def jW (N:Nat) (a b:List Int):Option Int:=
 if(!decide ((a.length:Int)=(b.length:Int)))=true then
 if(a.length:Int)<(b.length:Int)then
 some (-1)
 else
 some 1
 else
 (zi a b N (w64 ((a.length:Int)-1))).bind (λ
 |(.inl ())=>
 some 0
 |(.inr c)=>
 some c)
def qci (N:Nat) (a b:List Int) {res:Int}(h:jW N a b=some res):qc ZT (.fn 175) (kBb a b) [] (.i res) []:=by
 unfold jW at h;refine fW Tryz.func175 rfl<|sh fol (kJ a b [])<|sq<|sh fol (kJ a b (kBJ (!decide ((zl a)=(zl b)))))<|ihB h (λn h=>?_) (λn h=>?_)
 ·refine sq<|sh fol (kBW (decide ((zl a)<(zl b))))<|ihD h (λo h=>?_) (λo h=>?_)
  ·cases h
   exact sh fol kB1<|ah<|gw1
  cases h
  exact ag<|sh fol [(4,.i 1)]<|ah<|gw1
 obtain⟨f,g4,h⟩:=bnd h;refine ag<|sq<|sh fol (kJ a b (kAy (w64 ((zl a)-1))))<|aj<|gI (λx s'=>(x= .exit 0/\(.inl ())=f/\Sub s' (ofG 41 [],[]))\/(x= .ret/\∃j,(.inr j)=f/\qQ ZT [.tmp 4] (.i j) .ret s')) ?_ ?_
 ·refine Ua (λM s=>∃(e:Int),s=(ofG 41 (kJ a b (kAy e)),[])/\zi a b M e=some f) ?_ (m:=N) ⟨_,rfl,g4⟩;rintro M s ⟨e,rfl,g4⟩
  cases M with
  |zero=>cases g4
  |succ M=>
   rw[zi]at g4;refine sq<|sh fol (kJ a b ((5,.i e)::(kBy (decide (e>=0)))))<|ihD g4 (λp g4=>?_) (λp g4=>?_)
   ·obtain⟨k,c,l,d,g4⟩:=bn2 g4;refine ag<|sq<|aj<|sq<|sq<|gr fol [2,3,6,7] (kJ a b [(5,.i e),(31,.bool (decide (k<l)))]) (zO (iv jT encI c) (lv 0 ce3 encI c rfl) (iv jT encI d) (lv 0 ce3 encI d rfl))<|ihD g4 (λq g4=>?_) (λq g4=>?_)
    ·cases g4
     exact sh fol kB1<|ah<|Or.inr (⟨rfl,_,rfl,gw1⟩)
    refine ag<|sq<|gr fol [2,3,6,7] (kJ a b [(5,.i e),(40,.bool (decide (k>l)))]) (zO (iv jT encI c) (lv 0 ce3 encI c rfl) (iv jT encI d) (lv 0 ce3 encI d rfl))<|ihD g4 (λg g4=>?_) (λg g4=>?_)
    ·cases g4
     exact sh fol [(4,.i 1)]<|ah<|Or.inr (⟨rfl,_,rfl,gw1⟩)
    exact ag<|gh fol (kJ a b (kAy (w64 (e-1))))<|qY ⟨_,rfl,g4⟩
   cases g4
   exact aA<|Or.inl (⟨rfl,rfl,sK []⟩)
 rintro x s' (⟨rfl,rfl,hsub⟩|⟨rfl,r,rfl,hret⟩)
 ·cases h
  exact aq hsub<|sh fol kBr<|ah<|gw1
 cases h
 exact hret
def jD (a b:List Int) (g:Int):Nat->(List Int)->Int->Int->Option ((List Int)×Int)
 |0,_,_,_=>none
 |K+1,h,i,c=>
  if c<(b.length:Int)then
  (idx h (w64 (g+c))).bind λd=>
  (idx a g).bind λe=>
  (idx b c).bind λf=>
  (put h (w64 (g+c)) ((w64 ((w64 (d+(w64 (e*f))))+i)).tmod 1000000000)).bind λj=>
  jD a b g K j (w64 ((w64 ((w64 (d+(w64 (e*f))))+i)).tdiv 1000000000)) (w64 (c+1))
  else
  some (h,i)
def jy (N:Nat) (a b:List Int):Nat->(List Int)->Int->Option (List Int)
 |0,_,_=>none
 |K+1,h,c=>
  if c<(a.length:Int)then
  (jD a b c N h 0 0).bind λ(d,e)=>
  (idx d (w64 (c+(b.length:Int)))).bind λf=>
  (put d (w64 (c+(b.length:Int))) (w64 (f+e))).bind λg=>
  jy N a b K g (w64 (c+1))
  else
  some h
def yC (N:Nat) (a b:List Int):Option (List Int):=
 (mk 8 (w64 ((a.length:Int)+(b.length:Int))) 0).bind λd=>
 (jy N a b N d 0).bind λe=>
 (xu N e).bind λc=>
 some c
def qbS (N:Nat) (a b:List Int) {res:List Int}(h:yC N a b=some res):qc ZT (.fn 177) (kBb a b) [] (vl encI res) []:=by
 unfold yC at h;obtain⟨F,B,H,g5,h⟩:=bn2 h;refine fW Tryz.func177 rfl<|sh fol (kJ a b [])<|sq<|gq fol [5] (kJ a b (kG F [])) (kA F []) (qd (wmr jT encI 0 B))<|sq<|sh fol (kJ a b (kG F [(6,.i 0)]))<|aj<|gI (λx s'=>(x= .exit 0/\∃v,v=H/\Sub s' (ofG 72 (kG v []),(kA v [])))) ?_ ?_
 ·refine Ua (λM s=>∃(w:List Int) (c:Int),s=(ofG 72 (kJ a b (kG w (kBK c))),(kA w []))/\jy N a b M w c=some H) ?_ (m:=N) ⟨_,_,rfl,g5⟩;rintro M s ⟨w,c,rfl,g5⟩
  cases M with
  |zero=>cases g5
  |succ M=>
   rw[jy]at g5;refine sq<|sh fol (kJ a b (kG w [(6,.i c),(19,.bool (decide (c<(zl a))))]))<|ihD g5 (λI g5=>?_) (λI g5=>?_)
   ·obtain⟨C,g12,g5⟩:=bnd g5;refine ag<|sq<|aj<|sh fol (kJ a b (kG w [(6,.i c),(7,.i 0)]))<|sq<|sh fol (kJ a b (kG w [(6,.i c),(7,.i 0),(8,.i 0)]))<|aj<|gI (λx s'=>(x= .exit 2/\∃f y,(f,y)=C/\Sub s' (ofG 72 (kJ a b (kG f (kAk c y []))),(kA f [])))) ?_ ?_
    ·refine Ua (λM s=>∃(z:List Int) (t:Int) (r:Int),s=(ofG 72 (kJ a b (kG z ((6,.i c)::(kAB t r)))),(kA z []))/\jD a b c M z t r=some C) ?_ (m:=N) ⟨_,_,_,rfl,g12⟩;rintro M s ⟨z,t,r,rfl,g12⟩
     cases M with
     |zero=>cases g12
     |succ M=>
      rw[jD]at g12;refine sq<|sh fol (kJ a b (kG z (kAk c t [(8,.i r),(25,.bool (decide (r<(zl b))))])))<|ihD g12 (λG g12=>?_) (λG g12=>?_)
      ·obtain⟨g,d,j,k,l,n,o,p,g12⟩:=bn4 g12;exact ag<|sq<|aj<|sq<|gr fol [4,5,8,9,12,13] (kJ a b (kG z ((6,.i c)::(kAz r (w64 ((w64 (g+(w64 (j*l))))+t)) [])))) (qdO (wis jT 0 d) (wlp ce3 0 rfl d rfl) (iv jT encI k) (lv 0 ce3 encI k rfl) (iv jT encI n) (lv 0 ce3 encI n rfl))<|sq<|gq fol [6,7] (kJ a b (kG z ((6,.i c)::(kAz r (w64 ((w64 (g+(w64 (j*l))))+t)) [])))) (kA o []) (qj (wis jT 0 d) (wsp 3 0 rfl d p rfl))<|gN [] [some 0] (kJ a b (kG o ((6,.i c)::(kAz r (w64 ((w64 (g+(w64 (j*l))))+t)) [])))) (kA o []) (kk (kk (ke (.sliceE rfl (zD p)) kz))) (.ks .nil)<|gh fol (kJ a b (kG o ((6,.i c)::(kAB (w64 ((w64 ((w64 (g+(w64 (j*l))))+t)).tdiv 1000000000)) r))))<|gh fol (kJ a b (kG o ((6,.i c)::(kAB (w64 ((w64 ((w64 (g+(w64 (j*l))))+t)).tdiv 1000000000)) (w64 (r+1))))))<|qY ⟨_,_,_,rfl,g12⟩
      cases g12
      exact aA<|⟨rfl,_,_,rfl,sK [0,1,5,6,7]⟩
    rintro x s' ⟨rfl,f,y,rfl,hsub⟩;obtain⟨J,e,u,q,g5⟩:=bn2 g5;exact aq hsub<|gq fol [10,11,14,15] (kJ a b (kG f (kBK c))) (kA u []) (zO (wis jT 0 e) (wlp ce3 0 rfl e rfl) (wis jT 0 e) (wsp 3 0 rfl e q rfl))<|gN [] [some 0] (kJ a b (kG u (kBK c))) (kA u []) (kk (kk (ke (.sliceE rfl (zD q)) kz))) (.ks .nil)<|gh fol (kJ a b (kG u (kBK (w64 (c+1)))))<|qY ⟨_,_,rfl,g5⟩
   cases g5
   exact aA<|⟨rfl,_,rfl,sK [5]⟩
 rintro x s' ⟨rfl,v,rfl,hsub⟩;obtain⟨D,A,rfl⟩:=bs1 h;exact aq hsub<|sq<|gq fol [1] [(4,vl encI D)] (kAg v) (qd (wcf [.slice 0 0 v.length v.length 1] [0] (bi (eL (E:=encI) rfl rfl (nl rfl)) bB) (xS N v A)))<|gN [] [] [(4,vl encI D)] [] kz .nil<|ah<|gw1
def jR (a:List Int) (d:Int):Nat->(List Int)->Int->Int->Option ((List Int)×Int)
 |0,_,_,_=>none
 |K+1,c,e,b=>
  if b>=0 then
  (idx a b).bind λi=>
  (qdh .i64 (w64 ((w64 (e*1000000000))+i)) d).bind λf=>
  (idx c b).bind λj=>
  (put c b f).bind λg=>
  (qfo .i64 (w64 ((w64 (e*1000000000))+i)) d).bind λh=>
  jR a d K g h (w64 (b-1))
  else
  some (c,e)
def qae (N:Nat) (a:List Int) (d:Int):Option ((List Int)×Int):=
 (mk 8 (a.length:Int) 0).bind λc=>
 (jR a d N c 0 (w64 ((a.length:Int)-1))).bind λ(e,f)=>
 (xu N e).bind λb=>
 some (b,f)
def qd6 (N:Nat) (a:List Int) (d:Int) {res:(List Int)×Int}(h:qae N a d=some res):qc ZT (.fn 201) [vl encI a,.i d] [] (.tuple [vl encI res.1,.i res.2]) []:=by
 unfold qae at h;obtain⟨v,q,y,g7,h⟩:=bn2 h;refine fW Tryz.func201 rfl<|sh fol (kAj a (kBd d))<|sq<|gq fol [2] (kAj a ((1,.i d)::(kU v []))) (kA v []) (qd (wmr jT encI 0 q))<|sh fol (kAj a ((1,.i d)::(kU v [(7,.i 0)])))<|sq<|sh fol (kAj a ((1,.i d)::(kU v [(7,.i 0),(8,.i (w64 ((zl a)-1)))])))<|aj<|gI (λx s'=>(x= .exit 0/\∃g r,(g,r)=y/\Sub s' (ofG 39 (kU g (kBT r)),(kA g [])))) ?_ ?_
 ·refine Ua (λM s=>∃(k:List Int) (l:Int) (f:Int),s=(ofG 39 (kAj a ((1,.i d)::(kU k (kAB l f)))),(kA k []))/\jR a d M k l f=some y) ?_ (m:=N) ⟨_,_,_,rfl,g7⟩;rintro M s ⟨k,l,f,rfl,g7⟩
  cases M with
  |zero=>cases g7
  |succ M=>
   rw[jR]at g7;refine sq<|sh fol (kAj a ((1,.i d)::(kU k (kB2 l f [(17,.bool (decide (f>=0)))]))))<|ihD g7 (λz g7=>?_) (λz g7=>?_)
   ·obtain⟨w,j,A,n,B,b,c,e,t,o,g7⟩:=bn5 g7;exact ag<|sq<|aj<|sq<|gr fol [4,5] (kAj a ((1,.i d)::(kU k (kAz f (w64 ((w64 (l*1000000000))+w)) [])))) (qj (iv jT encI j) (lv 0 ce3 encI j rfl))<|sq<|gq fol [4,5,6] (kAj a ((1,.i d)::(kU k (kAz f (w64 ((w64 (l*1000000000))+w)) [])))) (kA c []) (qA (wxq 3 n) (wis jT 0 b) (wsp 3 0 rfl b e rfl))<|gN [] [some 0] (kAj a ((1,.i d)::(kU c (kAz f (w64 ((w64 (l*1000000000))+w)) [])))) (kA c []) (kk (kk (ke (.sliceE rfl (zD e)) kz))) (.ks .nil)<|gr fol [2] (kAj a ((1,.i d)::(kU c (kAB t f)))) (qd (wxr 3 o))<|gh fol (kAj a ((1,.i d)::(kU c (kAB t (w64 (f-1))))))<|qY ⟨_,_,_,rfl,g7⟩
   cases g7
   exact aA<|⟨rfl,_,_,rfl,sK [6,7]⟩
 rintro x s' ⟨rfl,g,r,rfl,hsub⟩;obtain⟨u,p,rfl⟩:=bs1 h;exact aq hsub<|sq<|gq fol [1] ((4,vl encI u)::(kAy r)) (kAg g) (qd (wcf [.slice 0 0 g.length g.length 1] [0] (bi (eL (E:=encI) rfl rfl (nl rfl)) bB) (xS N g p)))<|gN [] [] ((4,vl encI u)::(kAy r)) [] kz .nil<|ah<|gwt
def xq (u v:List Int) (j:Int):Nat->Int->Int->Option (Int⊕Int)
 |0,_,_=>none
 |K+1,c,a=>
  (if a>=1000000000 then
  some true
  else
  (idx v (w64 ((v.length:Int)-2))).bind λd=>
  (idx u (w64 ((w64 (j+(v.length:Int)))-2))).bind λe=>
  some (decide ((w64 (a*d))>(w64 ((w64 (c*1000000000))+e)))):Option Bool).bind λf=>
  if f=true then
  (idx v (w64 ((v.length:Int)-1))).bind λb=>
  if(w64 (c+b))>=1000000000 then
  some (.inr (w64 (a-1)))
  else
  xq u v j K (w64 (c+b)) (w64 (a-1))
  else
  some (.inl a)
def qa8 (N:Nat) (u v:List Int) (j:Int):Option Int:=
 (idx u (w64 (j+(v.length:Int)))).bind λb=>
 (idx u (w64 ((w64 (j+(v.length:Int)))-1))).bind λc=>
 (idx v (w64 ((v.length:Int)-1))).bind λd=>
 (qdh .i64 (w64 ((w64 (b*1000000000))+c)) d).bind λe=>
 (qfo .i64 (w64 ((w64 (b*1000000000))+c)) d).bind λf=>
 (xq u v j N f e).bind (λ
 |(.inl g)=>
 some g
 |(.inr a)=>
 some a)
def qjU (N:Nat) (u v:List Int) (j:Int) {res:Int}(h:qa8 N u v j=some res):qc ZT (.fn 203) [vl encI u,vl encI v,.i j] [] (.i res) []:=by
 unfold qa8 at h;obtain⟨D,l,E,n,I,b,F,p,G,q,w,g9,h⟩:=bn6 h;refine fW Tryz.func203 rfl<|sh fol (kJ u v (kBM j))<|sh fol (kJ u v ((2,.i j)::(kBT (zl v))))<|sq<|gr fol [4,5,12,13] (kJ u v ((2,.i j)::(kAB (zl v) (w64 ((w64 (D*1000000000))+E))))) (zO (iv jT encI l) (lv 0 ce3 encI l rfl) (iv jT encI n) (lv 0 ce3 encI n rfl))<|sq<|gr fol [4,5,6,11,12,13] (kJ u v (kAv j (zl v) F G [])) (qdO (iv jT encI b) (lv 0 ce3 encI b rfl) (wxq 3 p) (iv jT encI b) (lv 0 ce3 encI b rfl) (wxr 3 q))<|sq<|aj<|gI (λx s'=>(x= .exit 0/\∃t,(.inl t)=w/\Sub s' (ofG 77 [(9,.i t)],[]))\/(x= .ret/\∃r,(.inr r)=w/\qQ ZT [.tmp 6] (.i r) .ret s')) ?_ ?_
 ·refine Ua (λM s=>∃(c:Int) (d:Int),s=(ofG 77 (kJ u v (kAv j (zl v) d c [])),[])/\xq u v j M c d=some w) ?_ (m:=N) ⟨_,_,rfl,g9⟩;rintro M s ⟨c,d,rfl,g9⟩
  cases M with
  |zero=>cases g9
  |succ M=>
   rw[xq]at g9;obtain⟨y,a,g9⟩:=bnd g9;refine sq<|sq<|aQ (s':=(ofG 77 (kJ u v (kAv j (zl v) d c [(63,.bool y)])),[])) ?_ ?_
   ·rcases wyD a with⟨o,a⟩|⟨o,a⟩
    ·cases a
     exact tr fol [2] (kJ u v (kAv j (zl v) d c [(63,.bool true)])) (qd (gw o))
    obtain⟨z,e,A,f,rfl⟩:=bs2 a;exact tr fol [2,7,8,17,18] (kJ u v (kAv j (zl v) d c [(63,.bool (decide ((w64 (d*z))>(w64 ((w64 (c*1000000000))+A)))))])) (qbE (gw o) (iv jT encI e) (lv 0 ce3 encI e rfl) (iv jT encI f) (lv 0 ce3 encI f rfl))
   refine ihB g9 (λB g9=>?_) (λB g9=>?_)
   ·obtain⟨k,g,g9⟩:=bnd g9;refine ag<|aj<|sh fol (kJ u v (kAv j (zl v) (w64 (d-1)) c []))<|sq<|gr fol [4,5] (kJ u v (kAv j (zl v) (w64 (d-1)) (w64 (c+k)) [])) (qj (iv jT encI g) (lv 0 ce3 encI g rfl))<|sh fol (kJ u v (kAv j (zl v) (w64 (d-1)) (w64 (c+k)) [(74,.bool (decide ((w64 (c+k))>=1000000000)))]))<|ihD g9 (λC g9=>?_) (λC g9=>?_)
    ·cases g9
     exact sh fol (kBK (w64 (d-1)))<|ah<|Or.inr (⟨rfl,_,rfl,gw1⟩)
    exact ag<|⟨M,(ofG 77 (kJ u v (kAv j (zl v) (w64 (d-1)) (w64 (c+k)) [])),[]),aY _,(sK [0,1,2,7,9,10]),_,_,rfl,g9⟩
   cases g9
   exact aA<|Or.inl (⟨rfl,_,rfl,sK [9]⟩)
 rintro x s' (⟨rfl,t,rfl,hsub⟩|⟨rfl,H,rfl,hret⟩)
 ·obtain rfl:=si h;exact aq hsub<|sh fol (kBK t)<|ah<|gw1
 cases h
 exact hret
def vH (a:List Int):Nat->(List Int)->Option (List Int)
 |0,_=>none
 |K+1,b=>
  if(b.length:Int)<(w64 ((a.length:Int)+1))then
  (app 8 b [0]).bind λc=>
  vH a K c
  else
  some b
def ku (h:List Int) (e a:Int):Nat->(List Int)->Int->Int->Option ((List Int)×Int)
 |0,_,_,_=>none
 |K+1,f,b,c=>
  if c<(h.length:Int)then
  (idx h c).bind λd=>
  (idx f (w64 (c+e))).bind λg=>
  ((if(w64 (g-((w64 ((w64 (a*d))+b)).tmod 1000000000)))<0 then
  some (w64 ((w64 ((w64 ((w64 (a*d))+b)).tdiv 1000000000))+1),w64 ((w64 (g-((w64 ((w64 (a*d))+b)).tmod 1000000000)))+1000000000))
  else
  some (w64 ((w64 ((w64 (a*d))+b)).tdiv 1000000000),w64 (g-((w64 ((w64 (a*d))+b)).tmod 1000000000))):Option (Int×Int))).bind λ(i,j)=>
  (put f (w64 (c+e)) j).bind λk=>
  ku h e a K k i (w64 (c+1))
  else
  some (f,b)
def zI (g:List Int) (b:Int):Nat->(List Int)->Int->Int->Option ((List Int)×Int)
 |0,_,_,_=>none
 |K+1,c,d,a=>
  if a<(g.length:Int)then
  (idx c (w64 (a+b))).bind λe=>
  (idx g a).bind λf=>
  (put c (w64 (a+b)) ((w64 ((w64 (e+f))+d)).tmod 1000000000)).bind λh=>
  zI g b K h (w64 ((w64 ((w64 (e+f))+d)).tdiv 1000000000)) (w64 (a+1))
  else
  some (c,d)
def jw (N:Nat) (b:List Int):Nat->(List Int)->(List Int)->Int->Option ((List Int)×(List Int))
 |0,_,_,_=>none
 |K+1,c,d,a=>
  if a>=0 then
  (qa8 N c b a).bind λe=>
  (ku b a e N c 0 0).bind λ(g,i)=>
  (idx g (w64 (a+(b.length:Int)))).bind λj=>
  (put g (w64 (a+(b.length:Int))) (w64 (j-i))).bind λf=>
  (idx f (w64 (a+(b.length:Int)))).bind λk=>
  ((if k<0 then
  (zI b a N f 0 0).bind λ(h,l)=>
  (idx h (w64 (a+(b.length:Int)))).bind λm=>
  (put h (w64 (a+(b.length:Int))) (w64 (m+l))).bind λn=>
  some (n,w64 (e-1))
  else
  some (f,e):Option ((List Int)×Int))).bind λ(o,p)=>
  (idx d a).bind λr=>
  (put d a p).bind λq=>
  jw N b K o q (w64 (a-1))
  else
  some (c,d)
def vg (N:Nat) (a b:List Int):Option ((List Int)×(List Int)):=
 (jW N a b).bind λq=>
 if q<0 then
 some ([],a)
 else
 if(b.length:Int)=1 then
 (idx b 0).bind λr=>
 (qae N a r).bind λp=>
 (xu N ([p.2]:List Int)).bind λs=>
 some (p.1,s)
 else
 (idx b (w64 ((b.length:Int)-1))).bind λt=>
 (qdh .i64 1000000000 (w64 (t+1))).bind λe=>
 (yC N b ([e]:List Int)).bind λd=>
 (yC N a ([e]:List Int)).bind λf=>
 (app 8 ([]:List Int) f).bind λg=>
 (vH a N g).bind λc=>
 (mk 8 (w64 ((c.length:Int)-(d.length:Int))) 0).bind λh=>
 (jw N d N c h (w64 ((w64 ((c.length:Int)-(d.length:Int)))-1))).bind λ(i,j)=>
 (cut i 0 (d.length:Int)).bind λk=>
 (xu N k).bind λl=>
 (idx ([e]:List Int) 0).bind λm=>
 (qae N l m).bind λn=>
 (xu N j).bind λo=>
 some (o,n.1)
def qbV (N:Nat) (a b:List Int) {res:(List Int)×(List Int)}(h:vg N a b=some res):qc ZT (.fn 167) (kBb a b) [] (.tuple (kBb res.1 res.2)) []:=by
 unfold vg at h;obtain⟨r1,e_r1,h⟩:=bnd h;refine fW Tryz.func167 rfl<|sh fol (kJ a b [])<|sq<|sq<|gr fol [2] (kJ a b [(27,.bool (decide (r1<0)))]) (qd (cv (qci N a b e_r1)))<|ihD h (λc2 h=>?_) (λc2 h=>?_)
 ·cases h
  exact sh fol (kBY [(5,vl encI a)])<|ah<|(gw2 [.nilslice,vl encI a] (cj (ba (dw (E:=encI)) (ba (Ub (yI encI _ (nl rfl))) ci))))
 refine ag<|sq<|sh fol (kJ a b [(31,.bool (decide ((zl b)=1)))])<|ihD h (λc3 h=>?_) (λc3 h=>?_)
 ·obtain⟨x4,a7,r5,e_r5,r6,e_r6,rfl⟩:=bs3 h;exact sq<|gr fol [2,3,4] ((6,vl encI r5.1)::(kBT r5.2)) (qA (iv jT encI a7) (lv 0 ce3 encI a7 rfl) (cv (qd6 N a x4 e_r5)))<|sq<|gq fol [3] (kBg r5.1 r6) [.frozen [.i r5.2]] (qd (hx (kCC r5.2) (wcf [.slice 0 0 1 1 1] [0] (bi (dX rfl rfl (Uf (bn tI cF))) bB) (xS N ([r5.2]:List Int) e_r6))))<|gN [] [] (kBg r5.1 r6) [] kz .nil<|ah<|gwt
 obtain⟨x7,a8,g,e_q8,c,e_r9,r10,e_r10,a2,e_l11,r14,g14,h⟩:=bn6 h;refine ag<|sq<|gq fol [4,5,7] (kJ a b [(8,.slice 0 0 1 1 1)]) (kCC g) (qA (iv jT encI a8) (lv 0 ce3 encI a8 rfl) (wxq 3 e_q8))<|sq<|gq fol [2] (kAj a [(8,.slice 0 0 1 1 1),(9,vl encI c)]) [.frozen [.i g]] (qd (hx (kCC g) (wcf [vl encI b,.slice 0 0 1 1 1] [0] (bi (Ul (yI encI _ (nl rfl))) (bi (dX rfl rfl (Uf (bn tI cF))) bB)) (qbS N b ([g]:List Int) e_r9))))<|gN [0] [] (kAj a [(8,vl encI ([g]:List Int)),(9,vl encI c)]) [] (kk (ke (.frz (Fz.litF rfl rfl (Uf (bn tI cF))) (kr encI _)) kz)) .nil<|sh fol (kAj a [(8,vl encI ([g]:List Int)),(9,vl encI c),(10,.i (zl c))])<|sq<|gq fol [3,4] (kAj a [(8,vl encI ([g]:List Int)),(9,vl encI c),(10,.i (zl c)),(11,.gslice 1 a2.length 1)]) (.dead::(kA a2 [])) (qj (cv (qbS N a ([g]:List Int) e_r10)) (hx [.cells []] (wap [0] jT (wdz encI 0 rfl e_l11) wsv)))<|sq<|aj<|gI (λx s'=>(x= .exit 0/\∃z,z=r14/\Sub s' (ofG 206 (kAl ([g]:List Int) c (zl c) z []),(kA z [])))) ?_ ?_
 ·refine aq (s':=(ofG 206 (kAj a (kAl ([g]:List Int) c (zl c) a2 [])),(kA a2 []))) (sN [] [some 1] kz (.ks .nil))<|Ua (λM s=>∃(A:List Int),s=(ofG 206 (kAj a (kAl ([g]:List Int) c (zl c) A [])),(kA A []))/\vH a M A=some r14) ?_ (m:=N) ⟨_,rfl,g14⟩;rintro M s ⟨A,rfl,g14⟩
  cases M with
  |zero=>cases g14
  |succ M=>
   rw[vH]at g14;refine sq<|sh fol (kAj a (kAl ([g]:List Int) c (zl c) A [(68,.bool (decide ((zl A)<(w64 ((zl a)+1)))))]))<|ihD g14 (λc15 g14=>?_) (λc15 g14=>?_)
   ·obtain⟨a3,e_l16,g14⟩:=bnd g14;exact ag<|aj<|gq fol [2] (kAj a [(8,vl encI ([g]:List Int)),(9,vl encI c),(10,.i (zl c)),(11,.gslice 2 a3.length 1)]) (.dead:: .cells [.i 0]::(kA a3 [])) (qd (hx (kA A [.cells [.i 0]]) (wap [0,1] jT (wdg 0 rfl e_l16) (wsc 1 [0] rfl))))<|⟨M,(ofG 206 (kAj a (kAl ([g]:List Int) c (zl c) a3 [])),(kA a3 [])),aY _,(sN [] [some 2] kz (.ks .nil)),_,rfl,g14⟩
   cases g14
   exact aA<|⟨rfl,_,rfl,sK [8,9,10,11]⟩
 rintro x s' ⟨rfl,z,rfl,hsub⟩;obtain⟨a4,e_l17,r23,g23,h⟩:=bn2 h;refine aq hsub<|sq<|gq fol [4] (kAl ([g]:List Int) c (zl c) z [(12,.slice 1 0 a4.length a4.length 1)]) (kA z (kA a4 [])) (qd (wmr jT encI 0 e_l17))<|sq<|sh fol (kC ([g]:List Int) c (zl c) z a4 (w64 ((w64 ((zl z)-(zl c)))-1)) [])<|aj<|gI (λx s'=>(x= .exit 2/\∃G l,(G,l)=r23/\Sub s' (ofG 206 [(8,vl encI ([g]:List Int)),(10,.i (zl c)),(11,.gslice 0 G.length 1),(12,.slice 1 0 l.length l.length 1)],(kA G (kA l []))))) ?_ ?_
 ·refine Ua (λM s=>∃(p:List Int) (d:List Int) (e:Int),s=(ofG 206 (kC ([g]:List Int) c (zl c) p d e []),(kA p (kA d [])))/\jw N c M p d e=some r23) ?_ (m:=N) ⟨_,_,_,rfl,g23⟩;rintro M s ⟨p,d,e,rfl,g23⟩
  cases M with
  |zero=>cases g23
  |succ M=>
   rw[jw]at g23;refine sq<|sh fol (kC ([g]:List Int) c (zl c) p d e [(83,.bool (decide (e>=0)))])<|ihD g23 (λc24 g23=>?_) (λc24 g23=>?_)
   ·obtain⟨f,e_r25,r31,g31,g23⟩:=bn2 g23;refine ag<|sq<|aj<|sq<|gr fol [3] (kC ([g]:List Int) c (zl c) p d e (kBk f)) (qd (wcs [.gslice 0 p.length 1,vl encI c,.i e] [0] (bi (Uy (E:=encI) rfl rfl (nl rfl)) (bi (Ul (yI encI _ (nl rfl))) (bi (Ul tI) bB))) (qjU N p c e e_r25)))<|sh fol (kC ([g]:List Int) c (zl c) p d e [(14,.i f),(15,.i 0)])<|sq<|sh fol (kC ([g]:List Int) c (zl c) p d e [(14,.i f),(15,.i 0),(16,.i 0)])<|aj<|gI (λx s'=>(x= .exit 4/\∃H n30,(H,n30)=r31/\Sub s' (ofG 206 (kC ([g]:List Int) c (zl c) H d e [(14,.i f),(15,.i n30)]),(kA H (kA d []))))) ?_ ?_
    ·refine Ua (λM s=>∃(n:List Int) (j:Int) (k:Int),s=(ofG 206 (kC ([g]:List Int) c (zl c) n d e ((14,.i f)::(kR j k []))),(kA n (kA d [])))/\ku c e f M n j k=some r31) ?_ (m:=N) ⟨_,_,_,rfl,g31⟩;rintro M s ⟨n,j,k,rfl,g31⟩
     cases M with
     |zero=>cases g31
     |succ M=>
      rw[ku]at g31;refine sq<|sh fol (kC ([g]:List Int) c (zl c) n d e ((14,.i f)::(kR j k [(92,.bool (decide (k<(zl c))))])))<|ihD g31 (λc32 g31=>?_) (λc32 g31=>?_)
      ·obtain⟨o,I,D,r,r37,g37,g31⟩:=bn3 g31;refine ag<|sq<|aj<|sq<|gr fol [3,4] (kC ([g]:List Int) c (zl c) n d e [(14,.i f),(16,.i k),(17,.i (w64 ((w64 (f*o))+j)))]) (qj (iv jT encI I) (lv 0 ce3 encI I rfl))<|sq<|gr fol [4,5] (kC ([g]:List Int) c (zl c) n d e [(14,.i f),(16,.i k),(17,.i (w64 ((w64 (f*o))+j))),(18,.i (w64 (D-((w64 ((w64 (f*o))+j)).tmod 1000000000))))]) (qj (wig jT 0 r) (wlp ce3 0 rfl r rfl))<|sh fol (kC ([g]:List Int) c (zl c) n d e ((14,.i f)::(kR (w64 ((w64 ((w64 (f*o))+j)).tdiv 1000000000)) k [(18,.i (w64 (D-((w64 ((w64 (f*o))+j)).tmod 1000000000))))])))<|sq<|sh fol (kC ([g]:List Int) c (zl c) n d e ((14,.i f)::(kR (w64 ((w64 ((w64 (f*o))+j)).tdiv 1000000000)) k [(18,.i (w64 (D-((w64 ((w64 (f*o))+j)).tmod 1000000000)))),(115,.bool (decide ((w64 (D-((w64 ((w64 (f*o))+j)).tmod 1000000000)))<0)))])))<|gI (λx s'=>(x= .normal/\∃F n36,(F,n36)=r37/\Sub s' (ofG 206 (kC ([g]:List Int) c (zl c) n d e ((14,.i f)::(kR F k [(18,.i n36)]))),(kA n (kA d []))))) ?_ ?_
       ·refine ihD g37 (λc38 g37=>?_) (λc38 g37=>?_)
        ·cases g37
         exact sh fol (kC ([g]:List Int) c (zl c) n d e ((14,.i f)::(kR (w64 ((w64 ((w64 (f*o))+j)).tdiv 1000000000)) k [(18,.i (w64 ((w64 (D-((w64 ((w64 (f*o))+j)).tmod 1000000000)))+1000000000)))])))<|gh fol (kC ([g]:List Int) c (zl c) n d e ((14,.i f)::(kR (w64 ((w64 ((w64 ((w64 (f*o))+j)).tdiv 1000000000))+1)) k [(18,.i (w64 ((w64 (D-((w64 ((w64 (f*o))+j)).tmod 1000000000)))+1000000000)))])))<|⟨rfl,_,_,rfl,(bm _)⟩
        cases g37
        exact ag<|⟨rfl,_,_,rfl,sK [8,9,10,11,12,13,14,15,16,18]⟩
       rintro x s' ⟨rfl,F,n36,rfl,hsub⟩;obtain⟨a5,J,g31⟩:=bnd g31;exact aq hsub<|gq fol [5,6] (kC ([g]:List Int) c (zl c) n d e ((14,.i f)::(kR F k []))) (kA a5 (kA d [])) (qj (wig jT 0 r) (wsp 3 0 rfl r J rfl))<|gN [] [some 0,some 1] (kC ([g]:List Int) c (zl c) a5 d e ((14,.i f)::(kR F k []))) (kA a5 (kA d [])) (kk (kk (kk (ke (.gsliceE rfl (zD J)) kz)))) (.ks (.ks .nil))<|gh fol (kC ([g]:List Int) c (zl c) a5 d e ((14,.i f)::(kR F (w64 (k+1)) [])))<|qY ⟨_,_,_,rfl,g31⟩
      cases g31
      exact aA<|⟨rfl,_,_,rfl,sK [8,9,10,11,12,13,14,15]⟩
    rintro x s' ⟨rfl,H,n30,rfl,hsub⟩;obtain⟨x40,t,B,K,x42,L,r45,g45,g23⟩:=bn4 g23;refine aq hsub<|sq<|gq fol [8,9,12,13] (kC ([g]:List Int) c (zl c) H d e (kBk f)) (kA B (kA d [])) (zO (wig jT 0 t) (wlp ce3 0 rfl t rfl) (wig jT 0 t) (wsp 3 0 rfl t K rfl))<|gN [] [some 0,some 1] (kC ([g]:List Int) c (zl c) B d e (kBk f)) (kA B (kA d [])) (kk (kk (kk (ke (.gsliceE rfl (zD K)) kz)))) (.ks (.ks .nil))<|sq<|sq<|gr fol [4,5] (kC ([g]:List Int) c (zl c) B d e [(14,.i f),(145,.bool (decide (x42<0)))]) (qj (wig jT 0 L) (wlp ce3 0 rfl L rfl))<|gI (λx s'=>(x= .normal/\∃u n44,(u,n44)=r45/\Sub s' (ofG 206 (kC ([g]:List Int) c (zl c) u d e (kBk n44)),(kA u (kA d []))))) ?_ ?_
    ·refine ihD g45 (λc46 g45=>?_) (λc46 g45=>?_)
     ·obtain⟨r52,g52,g45⟩:=bnd g45;refine sh fol (kC ([g]:List Int) c (zl c) B d e (kBk (w64 (f-1))))<|sh fol (kC ([g]:List Int) c (zl c) B d e [(14,.i (w64 (f-1))),(19,.i 0)])<|sq<|sh fol (kC ([g]:List Int) c (zl c) B d e [(14,.i (w64 (f-1))),(19,.i 0),(20,.i 0)])<|aj<|gI (λx s'=>(x= .exit 6/\∃O n51,(O,n51)=r52/\Sub s' (ofG 206 (kC ([g]:List Int) c (zl c) O d e [(14,.i (w64 (f-1))),(19,.i n51)]),(kA O (kA d []))))) ?_ ?_
      ·refine Ua (λM s=>∃(C:List Int) (v:Int) (q:Int),s=(ofG 206 (kC ([g]:List Int) c (zl c) C d e [(14,.i (w64 (f-1))),(19,.i v),(20,.i q)]),(kA C (kA d [])))/\zI c e M C v q=some r52) ?_ (m:=N) ⟨_,_,_,rfl,g52⟩;rintro M s ⟨C,v,q,rfl,g52⟩
       cases M with
       |zero=>cases g52
       |succ M=>
        rw[zI]at g52;refine sq<|sh fol (kC ([g]:List Int) c (zl c) C d e [(14,.i (w64 (f-1))),(19,.i v),(20,.i q),(150,.bool (decide (q<(zl c))))])<|ihD g52 (λc53 g52=>?_) (λc53 g52=>?_)
        ·obtain⟨P,w,Q,U,V,X,g52⟩:=bn3 g52;exact ag<|sq<|aj<|sq<|gr fol [4,5,8,9] (kC ([g]:List Int) c (zl c) C d e [(14,.i (w64 (f-1))),(20,.i q),(21,.i (w64 ((w64 (P+Q))+v)))]) (zO (wig jT 0 w) (wlp ce3 0 rfl w rfl) (iv jT encI U) (lv 0 ce3 encI U rfl))<|sq<|gq fol [6,7] (kC ([g]:List Int) c (zl c) C d e [(14,.i (w64 (f-1))),(20,.i q),(21,.i (w64 ((w64 (P+Q))+v)))]) (kA V (kA d [])) (qj (wig jT 0 w) (wsp 3 0 rfl w X rfl))<|gN [] [some 0,some 1] (kC ([g]:List Int) c (zl c) V d e [(14,.i (w64 (f-1))),(20,.i q),(21,.i (w64 ((w64 (P+Q))+v)))]) (kA V (kA d [])) (kk (kk (kk (ke (.gsliceE rfl (zD X)) kz)))) (.ks (.ks .nil))<|gh fol (kC ([g]:List Int) c (zl c) V d e [(14,.i (w64 (f-1))),(19,.i (w64 ((w64 ((w64 (P+Q))+v)).tdiv 1000000000))),(20,.i q)])<|gh fol (kC ([g]:List Int) c (zl c) V d e [(14,.i (w64 (f-1))),(19,.i (w64 ((w64 ((w64 (P+Q))+v)).tdiv 1000000000))),(20,.i (w64 (q+1)))])<|qY ⟨_,_,_,rfl,g52⟩
        cases g52
        exact aA<|⟨rfl,_,_,rfl,sK [8,9,10,11,12,13,14,19]⟩
      rintro x s' ⟨rfl,O,n51,rfl,hsub⟩;obtain⟨x57,y,l58,Y,rfl⟩:=bs2 g45;exact aq hsub<|gq fol [8,9,12,13] (kC ([g]:List Int) c (zl c) O d e (kBk (w64 (f-1)))) (kA l58 (kA d [])) (zO (wig jT 0 y) (wlp ce3 0 rfl y rfl) (wig jT 0 y) (wsp 3 0 rfl y Y rfl))<|⟨rfl,_,_,rfl,((show Sub _ (ofG 206 (kC ([g]:List Int) c (zl c) l58 d e (kBk (w64 (f-1)))),(kA l58 (kA d [])))from(sN [] [some 0,some 1] (kk (kk (kk (ke (.gsliceE rfl (zD Y)) kz)))) (.ks (.ks .nil)))).trans (bm _))⟩
     cases g45
     exact ag<|⟨rfl,_,_,rfl,sK [8,9,10,11,12,13,14]⟩
    rintro x s' ⟨rfl,u,n44,rfl,hsub⟩;obtain⟨x59,Z,a6,a0,g23⟩:=bn2 g23;exact aq hsub<|gq fol [3,4] (kC ([g]:List Int) c (zl c) u d e []) (kA u (kA a6 [])) (qj (wis jT 1 Z) (wsp 3 1 rfl Z a0 rfl))<|gN [] [some 0,some 1] (kC ([g]:List Int) c (zl c) u a6 e []) (kA u (kA a6 [])) (kk (kk (kk (kk (ke (.sliceE rfl (zD a0)) kz))))) (.ks (.ks .nil))<|gh fol (kC ([g]:List Int) c (zl c) u a6 (w64 (e-1)) [])<|qY ⟨_,_,_,rfl,g23⟩
   cases g23
   exact aA<|⟨rfl,_,_,rfl,sK [8,10,11,12]⟩
 rintro x s' ⟨rfl,G,l,rfl,hsub⟩;obtain⟨s61,e_s61,r62,e_r62,x63,a1,r64,e_r64,r65,e_r65,rfl⟩:=bs5 h;exact aq hsub<|sq<|aq (s':=(ofG 206 [(8,vl encI ([g]:List Int)),(10,.i (zl c)),(11,vl encI G),(12,.slice 0 0 l.length l.length 1)],(kA l []))) (sN [0] [some 1] (kk (kk (ke (.frz (Uy (E:=encI) rfl rfl (nl rfl)) (kr encI _)) kz))) (.ks .nil))<|gr fol [2,3,5,6,7] [(12,.slice 0 0 l.length l.length 1),(22,vl encI r64.1)] (qbE (wvs jT encI none (some (zl c)) e_s61) (cv (xS N s61 e_r62)) (iv jT encI a1) (lv 0 ce3 encI a1 rfl) (cv (qd6 N r62 x63 e_r64)))<|sq<|gq fol [1] (kBg r65 r64.1) (kAg l) (qd (wcf [.slice 0 0 l.length l.length 1] [0] (bi (eL (E:=encI) rfl rfl (nl rfl)) bB) (xS N l e_r65)))<|gN [] [] (kBg r65 r64.1) [] kz .nil<|ah<|gwt
def zN (N:Nat):Nat->(List Int)->(List Int)->Option (List Int)
 |0,_,_=>none
 |K+1,b,a=>
  if(a.length:Int)>0 then
  (vg N b a).bind λc=>
  zN N K a c.2
  else
  some b
def qbw (N:Nat) (a b:List Int):Option (List Int):=
 (zN N N a b).bind λc=>
 some c
def qfl (N:Nat) (a b:List Int) {res:List Int}(h:qbw N a b=some res):qc ZT (.fn 115) (kBb a b) [] (vl encI res) []:=by
 unfold qbw at h;obtain⟨g,g4,h⟩:=bnd h;refine fW Tryz.func115 rfl<|sh fol (kJ a b [])<|sq<|aj<|gI (λx s'=>(x= .exit 0/\∃f,f=g/\Sub s' (ofG 19 (kAj f []),[]))) ?_ ?_
 ·refine Ua (λM s=>∃(d:List Int) (c:List Int),s=(ofG 19 (kJ d c []),[])/\zN N M d c=some g) ?_ (m:=N) ⟨_,_,rfl,g4⟩;rintro M s ⟨d,c,rfl,g4⟩
  cases M with
  |zero=>cases g4
  |succ M=>
   rw[zN]at g4;refine sq<|sh fol (kJ d c (kBm (decide ((zl c)>0))))<|ihD g4 (λj g4=>?_) (λj g4=>?_)
   ·obtain⟨i,e,g4⟩:=bnd g4;exact ag<|aj<|sq<|gr fol [2] [(1,vl encI c),(6,vl encI i.2)] (qd (cv (qbV N d c e)))<|gh fol (kJ c i.2 [])<|qY ⟨_,_,rfl,g4⟩
   cases g4
   exact aA<|⟨rfl,_,rfl,sK [0]⟩
 rintro x s' ⟨rfl,f,rfl,hsub⟩;obtain rfl:=si h;exact aq hsub<|sh fol [(4,vl encI f)]<|ah<|gw1
def qb4 (N:Nat) (a:Str):Option Int:=
 (if(a.length:Int)>0 then
 (idx a 0).bind λt=>
 some (decide ((t.toNat:Int)=45))
 else
 some false:Option Bool).bind λu=>
 ((if u=true then
 (cut a 1 (a.length:Int)).bind λv=>
 some v
 else
 some a:Option Str)).bind λb=>
 (xP N b).bind λc=>
 ((cut b 0 c).bind λf=>
 (jO N f).bind λg=>
 if(!g)=true then
 some true
 else
 (idx a 0).bind λh=>
 if(h.toNat:Int)=45 then
 (cut b 0 c).bind λi=>
 some (i==[48])
 else
 some false:Option Bool).bind λj=>
 if j=true then
 some 1
 else
 (if c<(b.length:Int)then
 (cut b (w64 (c+1)) (b.length:Int)).bind λk=>
 (jO N k).bind λl=>
 if(!l)=true then
 some true
 else
 (cut b (w64 (c+1)) (b.length:Int)).bind λm=>
 if(m==[48])=true then
 some true
 else
 (cut b (w64 (c+1)) (b.length:Int)).bind λn=>
 some (n==[49])
 else
 some false:Option Bool).bind λo=>
 if o=true then
 some 1
 else
 (if c>600 then
 some true
 else
 some (decide ((w64 ((w64 ((b.length:Int)-c))-1))>600)):Option Bool).bind λp=>
 if p=true then
 some 4
 else
 ((if c<(b.length:Int)then
 (j6 N b).bind λd=>
 (qbw N d.1.w d.2.w).bind λe=>
 (if(!decide ((e.length:Int)=1))=true then
 some true
 else
 (idx e 0).bind λq=>
 some (!decide (q=1)):Option Bool).bind λr=>
 if r=true then
 some (.inr 1)
 else
 some (.inl ())
 else
 some (.inl ()):Option (Unit⊕Int))).bind (λ
 |(.inl ())=>
 some 0
 |(.inr s)=>
 some s)
def qcd (N:Nat) (a:Str) {res:Int}(h:qb4 N a=some res):qc ZT (.fn 60) [.str a] [] (.i res) []:=by
 unfold qb4 at h;obtain⟨b3,k,h⟩:=bnd h;refine fW Tryz.func60 rfl<|sh fol (kAm a)<|sh fol [(0,.str a),(3,.str a)]<|sq<|sq<|aQ (s':=(ofG 96 [(0,.str a),(3,.str a),(16,.bool b3)],[])) ?_ ?_
 ·rcases wyD k with⟨M,k⟩|⟨M,k⟩
  ·obtain⟨c2,H,rfl⟩:=bs1 k;exact tr fol [3,5] [(0,.str a),(3,.str a),(16,.bool (decide ((c2.toNat:Int)=45)))] (qj (gw M) (wsx st9 H))
  cases k
  exact tr fol [3] [(0,.str a),(3,.str a),(16,.bool false)] (qd (gw M))
 obtain⟨r6,g6,h⟩:=bnd h;refine gI (λx s'=>(x= .normal/\∃g,g=r6/\Sub s' (ofG 96 [(0,.str a),(3,.str g)],[]))) ?_ ?_
 ·refine ihB g6 (λc7 g6=>?_) (λc7 g6=>?_)
  ·obtain⟨s8,I,rfl⟩:=bs1 g6;exact gr fol [1] [(0,.str a),(3,.str s8)] (qd (wss st9 (some 1) none I))<|⟨rfl,_,rfl,(bm _)⟩
  cases g6
  exact ag<|⟨rfl,_,rfl,sK [0,3]⟩
 rintro x s' ⟨rfl,g,rfl,hsub⟩;obtain⟨d,J,O,c,h⟩:=bn2 h;refine aq hsub<|sq<|gr fol [1] ((0,.str a)::(kAu g d [])) (qd (cv (qbc N g J)))<|sq<|sq<|aQ (s':=(ofG 96 (kAu g d [(36,.bool O)]),[])) ?_ ?_
 ·obtain⟨v,l,r11,m,c⟩:=bn2 c;rcases wyB c with⟨t,c⟩|⟨t,c⟩
  ·cases c
   exact tr fol [2,3,5] (kAu g d [(36,.bool true)]) (qA (wss st9 none (some d) l) (cv (jH N v m)) (gw t))
  obtain⟨c13,p,c⟩:=bnd c;rcases wyD c with⟨y,c⟩|⟨y,c⟩
  ·obtain⟨P,z,rfl⟩:=bs1 c;exact tr fol [2,3,5,7,9,12] (kAu g d [(36,.bool (P==[48]))]) (qdO (wss st9 none (some d) l) (cv (jH N v m)) (gw t) (wsx qnb p) (gw y) (wss st9 none (some d) z))
  cases c
  exact tr fol [2,3,5,7,9] (kAu g d [(36,.bool false)]) (qbE (wss st9 none (some d) l) (cv (jH N v m)) (gw t) (wsx qnb p) (gw y))
 refine ihB h (λQ h=>?_) (λQ h=>?_)
 ·cases h
  exact sh fol [(2,.i 1)]<|ah<|gw1
 obtain⟨U,b,h⟩:=bnd h;refine ag<|sq<|sq<|aQ (s':=(ofG 96 (kAu g d [(62,.bool U)]),[])) ?_ ?_
 ·rcases wyD b with⟨q,b⟩|⟨q,b⟩
  ·obtain⟨A,n,r21,o,b⟩:=bn2 b;rcases wyB b with⟨u,b⟩|⟨u,b⟩
   ·cases b
    exact tr fol [4,8,9,11] (kAu g d [(62,.bool true)]) (zO (gw q) (wss st9 (some (w64 (d+1))) none n) (cv (jH N A o)) (gw u))
   obtain⟨s23,r,b⟩:=bnd b;rcases wyB b with⟨B,b⟩|⟨B,b⟩
   ·cases b
    exact tr fol [4,8,9,11,15,18] (kAu g d [(62,.bool true)]) (qdO (gw q) (wss st9 (some (w64 (d+1))) none n) (cv (jH N A o)) (gw u) (wss st9 (some (w64 (d+1))) none r) (gw B))
   obtain⟨V,C,rfl⟩:=bs1 b;exact tr fol [4,8,9,11,15,18,22] (kAu g d [(62,.bool (V==[49]))]) (qgD (gw q) (wss st9 (some (w64 (d+1))) none n) (cv (jH N A o)) (gw u) (wss st9 (some (w64 (d+1))) none r) (gw B) (wss st9 (some (w64 (d+1))) none C))
  cases b
  exact tr fol [4] (kAu g d [(62,.bool false)]) (qd (gw q))
 refine ihB h (λX h=>?_) (λX h=>?_)
 ·cases h
  exact sh fol [(2,.i 1)]<|ah<|gw1
 obtain⟨Y,e,h⟩:=bnd h;refine ag<|sq<|sq<|aQ (s':=(ofG 96 (kAu g d [(72,.bool Y)]),[])) ?_ ?_
 ·rcases wyD e with⟨D,e⟩|⟨D,e⟩
  ·cases e
   exact tr fol [2] (kAu g d [(72,.bool true)]) (qd (gw D))
  cases e
  exact tr fol [2] (kAu g d [(72,.bool (decide ((w64 ((w64 ((zl g)-d))-1))>600)))]) (qd (gw D))
 refine ihB h (λZ h=>?_) (λZ h=>?_)
 ·cases h
  exact sh fol [(2,.i 4)]<|ah<|gw1
 obtain⟨K,g33,h⟩:=bnd h;refine ag<|sq<|sh fol [(3,.str g),(76,.bool (decide (d<(zl g))))]<|gI (λx s'=>(x= .normal/\(.inl ())=K/\Sub s' (ofG 96 [],[]))\/(x= .ret/\∃L,(.inr L)=K/\qQ ZT [.tmp 2] (.i L) .ret s')) ?_ ?_
 ·refine ihD g33 (λa0 g33=>?_) (λa0 g33=>?_)
  ·obtain⟨j,E,a1,F,a2,f,g33⟩:=bn3 g33;refine sq<|gq fol [1] [(5,.ptr 0 0),(6,.ptr 1 0)] (kO j.1.neg j.1.w j.2.neg j.2.w []) (qd (cv (qar N g E)))<|sq<|gr fol [4] [(7,vl encI a1)] (qd (cv (qfl N j.1.w j.2.w F)))<|sq<|aQ (s':=(ofG 96 [(95,.bool a2)],(kO j.1.neg j.1.w j.2.neg j.2.w []))) ?_ ?_
   ·rcases wyB f with⟨G,f⟩|⟨G,f⟩
    ·cases f
     exact tr fol [3] [(95,.bool true)] (qd (gw G))
    obtain⟨a3,s,rfl⟩:=bs1 f;exact tr fol [3,5,6] [(95,.bool (!decide (a3=1)))] (qA (gw G) (iv jT encI s) (lv 0 ce3 encI s rfl))
   refine ihB g33 (λa4 g33=>?_) (λa4 g33=>?_)
   ·cases g33
    exact sh fol [(2,.i 1)]<|ah<|Or.inr (⟨rfl,_,rfl,gw1⟩)
   cases g33
   exact ag<|Or.inl (⟨rfl,rfl,(sN [] [] kz .nil)⟩)
  cases g33
  exact ag<|Or.inl (⟨rfl,rfl,sK []⟩)
 rintro x s' (⟨rfl,rfl,hsub⟩|⟨rfl,q43,rfl,hret⟩)
 ·cases h
  exact aq hsub<|sh fol kBs<|ah<|gw1
 cases h
 exact hret
def jd (N:Nat) (v:List Str):Nat->Int->Option (Unit⊕Int)
 |0,_=>none
 |K+1,a=>
  if a<(v.length:Int)then
  (idx v a).bind λc=>
  (qb4 N c).bind λb=>
  if(!decide (b=0))=true then
  some (.inr b)
  else
  jd N v K (w64 (a+1))
  else
  some (.inl ())
def ko (N:Nat) (v:List Str):Option Int:=
 (jd N v N 0).bind (λ
 |(.inl ())=>
 some 0
 |(.inr a)=>
 some a)
def xL (N:Nat) (v:List Str) {res:Int}(h:ko N v=some res):qc ZT (.fn 17) [vl encS v] [] (.i res) []:=by
 unfold ko at h;obtain⟨e,g2,h⟩:=bnd h;refine fW Tryz.func17 rfl<|sh fol (kAU v [])<|sq<|sh fol (kAU v [(3,.i 0)])<|aj<|gI (λx s'=>(x= .exit 0/\(.inl ())=e/\Sub s' (ofG 19 [],[]))\/(x= .ret/\∃f,(.inr f)=e/\qQ ZT [.tmp 2] (.i f) .ret s')) ?_ ?_
 ·refine Ua (λM s=>∃(a:Int),s=(ofG 19 (kAU v [(3,.i a)]),[])/\jd N v M a=some e) ?_ (m:=N) ⟨_,rfl,g2⟩;rintro M s ⟨a,rfl,g2⟩
  cases M with
  |zero=>cases g2
  |succ M=>
   rw[jd]at g2;refine sq<|sh fol (kAU v ((3,.i a)::(kBN (decide (a<(zl v))))))<|ihD g2 (λg g2=>?_) (λg g2=>?_)
   ·obtain⟨j,b,d,c,g2⟩:=bn2 g2;refine ag<|sq<|aj<|sq<|gr fol [2,3,4] (kAU v ((3,.i a)::(kBe d))) (qA (iv qa6 encS b) (lv 0 qc8 encS b rfl) (cv (qcd N j c)))<|sh fol (kAU v [(3,.i a),(4,.i d),(17,.bool (!decide (d=0)))])<|ihB g2 (λk g2=>?_) (λk g2=>?_)
    ·cases g2
     exact sh fol (kBM d)<|ah<|Or.inr (⟨rfl,_,rfl,gw1⟩)
    exact ag<|gh fol (kAU v [(3,.i (w64 (a+1)))])<|qY ⟨_,rfl,g2⟩
   cases g2
   exact aA<|Or.inl (⟨rfl,rfl,sK []⟩)
 rintro x s' (⟨rfl,rfl,hsub⟩|⟨rfl,l,rfl,hret⟩)
 ·cases h
  exact aq hsub<|sh fol kBs<|ah<|gw1
 cases h
 exact hret
def zA (N:Nat) (m:List (List Str)):Nat->Int->Option (Unit⊕Int)
 |0,_=>none
 |K+1,c=>
  if c<(m.length:Int)then
  (idx m c).bind λa=>
  (idx m 0).bind λd=>
  if(!decide ((a.length:Int)=(d.length:Int)))=true then
  some (.inr 2)
  else
  (ko N a).bind λb=>
  if(!decide (b=0))=true then
  some (.inr b)
  else
  zA N m K (w64 (c+1))
  else
  some (.inl ())
def vO (N:Nat) (m:List (List Str)) (b:List Str):Option Int:=
 if(m.length:Int)=0 then
 some 12
 else
 (if(m.length:Int)>24 then
 some true
 else
 (idx m 0).bind λd=>
 some (decide ((d.length:Int)>24)):Option Bool).bind λe=>
 if e=true then
 some 5
 else
 (zA N m N 0).bind (λ
 |(.inl ())=>
 if(!decide ((b.length:Int)=(m.length:Int)))=true then
 some 2
 else
 (ko N b).bind λa=>
 some a
 |(.inr c)=>
 some c)
def qet (N:Nat) (m:List (List Str)) (b:List Str) {res:Int}(h:vO N m b=some res):qc ZT (.fn 7) [vl eSS m,vl encS b] [] (.i res) []:=by
 unfold vO at h;refine fW Tryz.func7 rfl<|sh fol ((0,vl eSS m)::(kW b []))<|sq<|sh fol ((0,vl eSS m)::(kW b (kBm (decide ((zl m)=0)))))<|ihD h (λy h=>?_) (λy h=>?_)
 ·cases h
  exact sh fol [(4,.i 12)]<|ah<|gw1
 obtain⟨z,c,h⟩:=bnd h;refine ag<|sq<|sq<|aQ (s':=(ofG 51 ((0,vl eSS m)::(kW b [(19,.bool z)])),[])) ?_ ?_
 ·rcases wyD c with⟨n,c⟩|⟨n,c⟩
  ·cases c
   exact tr fol [3] ((0,vl eSS m)::(kW b [(19,.bool true)])) (qd (gw n))
  obtain⟨A,g,rfl⟩:=bs1 c;exact tr fol [3,5,6] ((0,vl eSS m)::(kW b [(19,.bool (decide ((zl A)>24)))])) (qA (gw n) (iv yf eSS g) (lv 0 xW eSS g rfl))
 refine ihB h (λB h=>?_) (λB h=>?_)
 ·cases h
  exact sh fol [(4,.i 5)]<|ah<|gw1
 obtain⟨o,g8,h⟩:=bnd h;refine ag<|sq<|sh fol ((0,vl eSS m)::(kW b [(5,.i 0)]))<|aj<|gI (λx s'=>(x= .exit 0/\(.inl ())=o/\Sub s' (ofG 51 ((0,vl eSS m)::(kW b [])),[]))\/(x= .ret/\∃w,(.inr w)=o/\qQ ZT [.tmp 4] (.i w) .ret s')) ?_ ?_
 ·refine Ua (λM s=>∃(e:Int),s=(ofG 51 ((0,vl eSS m)::(kW b (kAy e))),[])/\zA N m M e=some o) ?_ (m:=N) ⟨_,rfl,g8⟩;rintro M s ⟨e,rfl,g8⟩
  cases M with
  |zero=>cases g8
  |succ M=>
   rw[zA]at g8;refine sq<|sh fol ((0,vl eSS m)::(kW b [(5,.i e),(23,.bool (decide (e<(zl m))))]))<|ihD g8 (λp g8=>?_) (λp g8=>?_)
   ·obtain⟨l,a,q,d,g8⟩:=bn2 g8;refine ag<|sq<|aj<|sq<|sq<|gr fol [2,3,6,7] ((0,vl eSS m)::(kW b [(5,.i e),(35,.bool (!decide ((zl l)=(zl q))))])) (zO (iv yf eSS a) (lv 0 xW eSS a rfl) (iv yf eSS d) (lv 0 xW eSS d rfl))<|ihB g8 (λr g8=>?_) (λr g8=>?_)
    ·cases g8
     exact sh fol [(4,.i 2)]<|ah<|Or.inr (⟨rfl,_,rfl,gw1⟩)
    obtain⟨f,j,g8⟩:=bnd g8;refine ag<|sq<|gr fol [2,3,4] ((0,vl eSS m)::(kW b ((5,.i e)::(kBK f)))) (qA (iv yf eSS a) (lv 0 xW eSS a rfl) (cv (xL N l j)))<|sh fol ((0,vl eSS m)::(kW b (kCE e f [(42,.bool (!decide (f=0)))])))<|ihB g8 (λt g8=>?_) (λt g8=>?_)
    ·cases g8
     exact sh fol (kBe f)<|ah<|Or.inr (⟨rfl,_,rfl,gw1⟩)
    exact ag<|gh fol ((0,vl eSS m)::(kW b (kAy (w64 (e+1)))))<|qY ⟨_,rfl,g8⟩
   cases g8
   exact aA<|Or.inl (⟨rfl,rfl,sK [0,1]⟩)
 rintro x s' (⟨rfl,rfl,hsub⟩|⟨rfl,C,rfl,hret⟩)
 ·refine aq hsub<|sq<|sh fol (kW b [(48,.bool (!decide ((zl b)=(zl m))))])<|ihB h (λu h=>?_) (λu h=>?_)
  ·cases h
   exact sh fol [(4,.i 2)]<|ah<|gw1
  obtain⟨v,k,rfl⟩:=bs1 h;exact ag<|sq<|gr fol [1] (kBe v) (qd (cv (xL N b k)))<|ah<|gw1
 cases h
 exact hret
def qbf (a:Str):Option Int:=
 if(a==[48])=true then
 some 0
 else
 (if(a.length:Int)>0 then
 (idx a 0).bind λb=>
 some (decide ((b.toNat:Int)=45))
 else
 some false:Option Bool).bind λc=>
 if c=true then
 some (-1)
 else
 some 1
def qek (a:Str) {res:Int}(h:qbf a=some res):qc ZT (.fn 154) [.str a] [] (.i res) []:=by
 unfold qbf at h;refine fW Tryz.func154 rfl<|sh fol (kAm a)<|sq<|sh fol ((0,.str a)::(kBO (a==[48])))<|ihB h (λe h=>?_) (λe h=>?_)
 ·cases h
  exact sh fol kBs<|ah<|gw1
 obtain⟨f,b,h⟩:=bnd h;refine ag<|sq<|sq<|aQ (s':=(ofG 13 (kBX f),[])) ?_ ?_
 ·rcases wyD b with⟨d,b⟩|⟨d,b⟩
  ·obtain⟨g,c,rfl⟩:=bs1 b;exact tr fol [3,5] (kBX (decide ((g.toNat:Int)=45))) (qj (gw d) (wsx qnb c))
  cases b
  exact tr fol [3] [(12,.bool false)] (qd (gw d))
 refine ihB h (λj h=>?_) (λj h=>?_)
 ·cases h
  exact sh fol [(2,.i (-1))]<|ah<|gw1
 cases h
 exact ag<|sh fol [(2,.i 1)]<|ah<|gw1
def qb6 (a:Str):Option Str:=
 (qbf a).bind λb=>
 if b<0 then
 (cut a 1 (a.length:Int)).bind λc=>
 some c
 else
 some a
def qdj (a:Str) {res:Str}(h:qb6 a=some res):qc ZT (.fn 95) [.str a] [] (.str res) []:=by
 unfold qb6 at h;obtain⟨d,b,h⟩:=bnd h;refine fW Tryz.func95 rfl<|sh fol (kAm a)<|sq<|sq<|gr fol [1] ((0,.str a)::(kBo (decide (d<0)))) (qd (cv (qek a b)))<|ihD h (λe h=>?_) (λe h=>?_)
 ·obtain⟨f,c,rfl⟩:=bs1 h;exact sq<|gr fol [1] (kB5 f) (qd (wss qnb (some 1) none c))<|ah<|gw1
 cases h
 exact ag<|sh fol (kB5 a)<|ah<|gw1
def qb5 (N:Nat) (a:Str):Option Str:=
 (xP N a).bind λb=>
 (cut a 0 b).bind λc=>
 some c
def qdp (N:Nat) (a:Str) {res:Str}(h:qb5 N a=some res):qc ZT (.fn 96) [.str a] [] (.str res) []:=by
 unfold qb5 at h;obtain⟨d,b,e,c,rfl⟩:=bs2 h;exact fW Tryz.func96 rfl<|sh fol (kAm a)<|sq<|gr fol [2,3] (kB5 e) (qj (cv (qbc N a b)) (wss qnb none (some d) c))<|ah<|gw1
def qb2 (N:Nat) (a:Str):Option Str:=
 (xP N a).bind λb=>
 if b=(a.length:Int)then
 some [49]
 else
 (cut a (w64 (b+1)) (a.length:Int)).bind λc=>
 some c
def qhq (N:Nat) (a:Str) {res:Str}(h:qb2 N a=some res):qc ZT (.fn 97) [.str a] [] (.str res) []:=by
 unfold qb2 at h;obtain⟨d,b,h⟩:=bnd h;refine fW Tryz.func97 rfl<|sh fol (kAm a)<|sq<|gr fol [1] (kAt a d []) (qd (cv (qbc N a b)))<|sq<|sh fol (kAt a d (kBm (decide (d=(zl a)))))<|ihD h (λe h=>?_) (λe h=>?_)
 ·cases h
  exact sh fol [(2,.str [49])]<|ah<|gw1
 obtain⟨f,c,rfl⟩:=bs1 h;exact ag<|sq<|gr fol [3] (kB5 f) (qd (wss qnb (some (w64 (d+1))) none c))<|ah<|gw1
def qdr (N:Nat) (a:Str) (digits:Int):Option Bool:=
 (if(a.length:Int)<=(w64 ((w64 (2*digits))+2))then
 (qb4 N a).bind λb=>
 if b=0 then
 (qb5 N a).bind λc=>
 (qb6 c).bind λd=>
 if(d.length:Int)<=digits then
 (qb2 N a).bind λe=>
 some (decide ((e.length:Int)<=digits))
 else
 some false
 else
 some false
 else
 some false:Option Bool).bind λf=>
 some f
def qkX (N:Nat) (a:Str) (digits:Int) {res:Bool}(h:qdr N a digits=some res):qc ZT (.fn 40) [.str a,.i digits] [] (.bool res) []:=by
 unfold qdr at h;obtain⟨m,b,h⟩:=bnd h;refine fW Tryz.func40 rfl<|sh fol ((0,.str a)::(kBd digits))<|sq<|aQ (s':=(ofG 31 (kBO m),[])) ?_ ?_
 ·rcases wyD b with⟨f,b⟩|⟨f,b⟩
  ·obtain⟨o,c,b⟩:=bnd b;rcases wyD b with⟨j,b⟩|⟨j,b⟩
   ·obtain⟨l,d,p,e,b⟩:=bn2 b;rcases wyD b with⟨k,b⟩|⟨k,b⟩
    ·obtain⟨n,g,rfl⟩:=bs1 b;exact tr fol [6,8,11,13,14,19,21] (kBO (decide ((zl n)<=digits))) (qgD (gw f) (cv (qcd N a c)) (gw j) (cv (qdp N a d)) (cv (qdj l e)) (gw k) (cv (qhq N a g)))
    cases b
    exact tr fol [6,8,11,13,14,19] kA0 (qdO (gw f) (cv (qcd N a c)) (gw j) (cv (qdp N a d)) (cv (qdj l e)) (gw k))
   cases b
   exact tr fol [6,8,11] kA0 (qA (gw f) (cv (qcd N a c)) (gw j))
  cases b
  exact tr fol [6] kA0 (qd (gw f))
 obtain rfl:=si h;exact ah<|gw1
def yU (N:Nat) (l:List Str) (digits:Int):Nat->Int->Option (Unit⊕Bool)
 |0,_=>none
 |K+1,a=>
  if a<(l.length:Int)then
  (idx l a).bind λb=>
  (qdr N b digits).bind λc=>
  if(!c)=true then
  some (.inr false)
  else
  yU N l digits K (w64 (a+1))
  else
  some (.inl ())
def qaR (N:Nat) (l:List Str) (n digits:Int):Option Bool:=
 if(l.length:Int)>n then
 some false
 else
 (yU N l digits N 0).bind (λ
 |(.inl ())=>
 some true
 |(.inr a)=>
 some a)
def qeu (N:Nat) (l:List Str) (n digits:Int) {res:Bool}(h:qaR N l n digits=some res):qc ZT (.fn 9) [vl encS l,.i n,.i digits] [] (.bool res) []:=by
 unfold qaR at h;refine fW Tryz.func9 rfl<|sh fol (kAU l ((1,.i n)::(kBM digits)))<|sq<|sh fol (kAU l [(2,.i digits),(11,.bool (decide ((zl l)>n)))])<|ihD h (λf h=>?_) (λf h=>?_)
 ·cases h
  exact sh fol kA1<|ah<|gw1
 obtain⟨d,g3,h⟩:=bnd h;refine ag<|sq<|sh fol (kAU l [(2,.i digits),(7,.i 0)])<|aj<|gI (λx s'=>(x= .exit 0/\(.inl ())=d/\Sub s' (ofG 25 [],[]))\/(x= .ret/\∃e,(.inr e)=d/\qQ ZT [.tmp 6] (.bool e) .ret s')) ?_ ?_
 ·refine Ua (λM s=>∃(b:Int),s=(ofG 25 (kAU l ((2,.i digits)::(kBT b))),[])/\yU N l digits M b=some d) ?_ (m:=N) ⟨_,rfl,g3⟩;rintro M s ⟨b,rfl,g3⟩
  cases M with
  |zero=>cases g3
  |succ M=>
   rw[yU]at g3;refine sq<|sh fol (kAU l ((2,.i digits)::(7,.i b)::(kBW (decide (b<(zl l))))))<|ihD g3 (λg g3=>?_) (λg g3=>?_)
   ·obtain⟨j,a,k,c,g3⟩:=bn2 g3;refine ag<|sq<|aj<|sq<|gr fol [2,3,5] (kAU l [(2,.i digits),(7,.i b),(24,.bool (!k))]) (qA (iv qa6 encS a) (lv 0 qc8 encS a rfl) (cv (qkX N j digits c)))<|ihB g3 (λo g3=>?_) (λo g3=>?_)
    ·cases g3
     exact sh fol kA1<|ah<|Or.inr (⟨rfl,_,rfl,gw1⟩)
    exact ag<|gh fol (kAU l ((2,.i digits)::(kBT (w64 (b+1)))))<|qY ⟨_,rfl,g3⟩
   cases g3
   exact aA<|Or.inl (⟨rfl,rfl,sK []⟩)
 rintro x s' (⟨rfl,rfl,hsub⟩|⟨rfl,p,rfl,hret⟩)
 ·cases h
  exact aq hsub<|sh fol [(6,.bool true)]<|ah<|gw1
 cases h
 exact hret
def vG (N:Nat) (m:List (List Str)) (columns digits:Int):Nat->Int->Option (Unit⊕Bool)
 |0,_=>none
 |K+1,a=>
  if a<(m.length:Int)then
  ((idx m a).bind λc=>
  (idx m 0).bind λd=>
  if(!decide ((c.length:Int)=(d.length:Int)))=true then
  some true
  else
  (qaR N c columns digits).bind λe=>
  some (!e):Option Bool).bind λb=>
  if b=true then
  some (.inr false)
  else
  vG N m columns digits K (w64 (a+1))
  else
  some (.inl ())
def qaJ (N:Nat) (m:List (List Str)) (rows columns digits:Int):Option Bool:=
 if(m.length:Int)>rows then
 some false
 else
 (vG N m columns digits N 0).bind (λ
 |(.inl ())=>
 some true
 |(.inr a)=>
 some a)
def qdN (N:Nat) (m:List (List Str)) (rows columns digits:Int) {res:Bool}(h:qaJ N m rows columns digits=some res):qc ZT (.fn 8) [vl eSS m,.i rows,.i columns,.i digits] [] (.bool res) []:=by
 unfold qaJ at h;refine fW Tryz.func8 rfl<|sh fol ((0,vl eSS m)::(1,.i rows)::(kB3 columns digits []))<|sq<|sh fol ((0,vl eSS m)::(kB3 columns digits (kBI (decide ((zl m)>rows)))))<|ihD h (λn h=>?_) (λn h=>?_)
 ·cases h
  exact sh fol kBV<|ah<|gw1
 obtain⟨f,g3,h⟩:=bnd h;refine ag<|sq<|sh fol ((0,vl eSS m)::(kB3 columns digits [(9,.i 0)]))<|aj<|gI (λx s'=>(x= .exit 0/\(.inl ())=f/\Sub s' (ofG 40 [],[]))\/(x= .ret/\∃l,(.inr l)=f/\qQ ZT [.tmp 8] (.bool l) .ret s')) ?_ ?_
 ·refine Ua (λM s=>∃(d:Int),s=(ofG 40 ((0,vl eSS m)::(kB3 columns digits [(9,.i d)])),[])/\vG N m columns digits M d=some f) ?_ (m:=N) ⟨_,rfl,g3⟩;rintro M s ⟨d,rfl,g3⟩
  cases M with
  |zero=>cases g3
  |succ M=>
   rw[vG]at g3;refine sq<|sh fol ((0,vl eSS m)::(kB3 columns digits [(9,.i d),(17,.bool (decide (d<(zl m))))]))<|ihD g3 (λo g3=>?_) (λo g3=>?_)
   ·obtain⟨g,a,g3⟩:=bnd g3;refine ag<|sq<|aj<|sq<|aQ (s':=(ofG 40 ((0,vl eSS m)::(kB3 columns digits [(9,.i d),(39,.bool g)])),[])) ?_ ?_
    ·obtain⟨p,b,t,c,a⟩:=bn2 a;rcases wyB a with⟨j,a⟩|⟨j,a⟩
     ·cases a
      exact tr fol [2,3,6,7,10] ((0,vl eSS m)::(kB3 columns digits [(9,.i d),(39,.bool true)])) (qbE (iv yf eSS b) (lv 0 xW eSS b rfl) (iv yf eSS c) (lv 0 xW eSS c rfl) (gw j))
     obtain⟨q,e,rfl⟩:=bs1 a;exact tr fol [2,3,6,7,10,13,14,17] ((0,vl eSS m)::(kB3 columns digits [(9,.i d),(39,.bool (!q))])) (qiM (iv yf eSS b) (lv 0 xW eSS b rfl) (iv yf eSS c) (lv 0 xW eSS c rfl) (gw j) (iv yf eSS b) (lv 0 xW eSS b rfl) (cv (qeu N p columns digits e)))
    refine ihB g3 (λk g3=>?_) (λk g3=>?_)
    ·cases g3
     exact sh fol kBV<|ah<|Or.inr (⟨rfl,_,rfl,gw1⟩)
    exact ag<|gh fol ((0,vl eSS m)::(kB3 columns digits [(9,.i (w64 (d+1)))]))<|qY ⟨_,rfl,g3⟩
   cases g3
   exact aA<|Or.inl (⟨rfl,rfl,sK []⟩)
 rintro x s' (⟨rfl,rfl,hsub⟩|⟨rfl,r,rfl,hret⟩)
 ·cases h
  exact aq hsub<|sh fol [(8,.bool true)]<|ah<|gw1
 cases h
 exact hret
def qy (l:List Int):Nat->Int->Option (Unit⊕Int)
 |0,_=>none
 |K+1,a=>
  if a<(l.length:Int)then
  (idx l a).bind λb=>
  if(!decide (b=0))=true then
  some (.inr b)
  else
  qy l K (w64 (a+1))
  else
  some (.inl ())
def zf (N:Nat) (l:List Int):Option Int:=
 (qy l N 0).bind (λ
 |(.inl ())=>
 some 0
 |(.inr a)=>
 some a)
def qaK (N:Nat) (l:List Int) {res:Int}(h:zf N l=some res):qc ZT (.fn 50) [vl encI l] [] (.i res) []:=by
 unfold zf at h;obtain⟨d,g2,h⟩:=bnd h;refine fW Tryz.func50 rfl<|sh fol (kAj l [])<|sq<|sh fol [(5,vl encI l),(6,.i (zl l)),(7,.i 0)]<|aj<|gI (λx s'=>(x= .exit 0/\(.inl ())=d/\Sub s' (ofG 15 [],[]))\/(x= .ret/\∃e,(.inr e)=d/\qQ ZT [.tmp 2] (.i e) .ret s')) ?_ ?_
 ·refine Ua (λM s=>∃(a:Int),s=(ofG 15 ((5,vl encI l)::(kAk (zl l) a [])),[])/\qy l M a=some d) ?_ (m:=N) ⟨_,rfl,g2⟩;rintro M s ⟨a,rfl,g2⟩
  cases M with
  |zero=>cases g2
  |succ M=>
   rw[qy]at g2;refine sh fol ((5,vl encI l)::(kAk (zl l) a (kBN (decide (a<(zl l))))))<|sq<|ihD g2 (λf g2=>?_) (λf g2=>?_)
   ·obtain⟨c,b,g2⟩:=bnd g2;refine ag<|sq<|aj<|sq<|gr fol [0,1] ((4,.i c)::(5,vl encI l)::(kAk (zl l) a [])) (qj (iv sl135 encI b) (lv 0 ce30 encI b rfl))<|sh fol ((4,.i c)::(5,vl encI l)::(kAk (zl l) a (kBX (!decide (c=0)))))<|ihB g2 (λg g2=>?_) (λg g2=>?_)
    ·cases g2
     exact sh fol (kBM c)<|ah<|Or.inr (⟨rfl,_,rfl,gw1⟩)
    exact ag<|gh fol ((5,vl encI l)::(kAk (zl l) (w64 (a+1)) []))<|qY ⟨_,rfl,g2⟩
   cases g2
   exact aA<|Or.inl (⟨rfl,rfl,sK []⟩)
 rintro x s' (⟨rfl,rfl,hsub⟩|⟨rfl,j,rfl,hret⟩)
 ·cases h
  exact aq hsub<|sh fol kBs<|ah<|gw1
 cases h
 exact hret
def qC (holds:Bool) (e:Int):Option Int:=
 if holds=true then
 some e
 else
 some 0
def jg (holds:Bool) (e:Int) {res:Int}(h:qC holds e=some res):qc ZT (.fn 51) [.bool holds,.i e] [] (.i res) []:=by
 unfold qC at h;refine fW Tryz.func51 rfl<|sh fol ((0,.bool holds)::(kBd e))<|sq<|sh fol ((1,.i e)::(kBo holds))<|ihB h (λa h=>?_) (λa h=>?_)
 ·cases h
  exact sh fol (kBe e)<|ah<|gw1
 cases h
 exact ag<|sh fol kBr<|ah<|gw1
def qdc (n:Int):Option qh:=
 some (⟨n,[]⟩:qh)
def qcM (n:Int) {res:qh}(h:qdc n=some res):qc ZT (.fn 67) [.i n] [] (.agg (nz1 res)) []:=by
 unfold qdc at h;cases h
 exact fW Tryz.func67 rfl<|sg fol ((0,.i n)::(kAs [])) [bZ]<|sg fol (kAs []) (kBG n)<|ah<|(gw2 [.agg [.i n,.nilslice]] (dK (ba (Ub tI) (ba (Uq (E:=eU)) ci))))
def qdG (n:Int):Option Int:=
 if n<0 then
 some (wrap .u64 (w64 (0-n)))
 else
 some (wrap .u64 n)
def qfv (n:Int) {res:Int}(h:qdG n=some res):qc ZT (.fn 159) [.i n] [] (.int .u64 res) []:=by
 unfold qdG at h;refine fW Tryz.func159 rfl<|sh fol [(0,.i n)]<|sq<|sh fol ((0,.i n)::(kBO (decide (n<0))))<|ihD h (λa h=>?_) (λa h=>?_)
 ·cases h
  exact sh fol (kBz (wrap .u64 (w64 (0-n))) [])<|ah<|gw1
 cases h
 exact ag<|sh fol (kBz (wrap .u64 n) [])<|ah<|gw1
def qK (a:qh):Option (Bool×(List Int)):=
 if(!a.w.isEmpty)=true then
 some (decide (a.s<0),a.w)
 else
 if a.s=0 then
 some (false,[])
 else
 (qdG a.s).bind λb=>
 some (decide (a.s<0),[b])
def zQ (a:qh) {res:Bool×(List Int)}(h:qK a=some res):qc ZT (.fn 134) [.agg (nz1 a)] [] (.tuple [.bool res.1,vl eU res.2]) []:=by
 unfold qK at h;refine fW Tryz.func134 rfl<|sg fol (kAo []) [.cells (nz1 a)]<|sq<|aj<|sq<|gr fol [2] (kAo (kBO (!a.w.isEmpty))) (qd (hs (.done (.opt (qbI ZT .neq 79 (.tmp 6) (.const (.slice none 0 0)) (nvl eU a.w) .nilslice)) (.bool (!a.w.isEmpty))) (ne_nv qbD)))<|ihB h (λc h=>?_) (λc h=>?_)
 ·cases h
  exact sh fol [(2,.bool (decide (a.s<0))),(3,nvl eU a.w)]<|ah<|(gw2 [.bool (decide (a.s<0)),nvl eU a.w] (cj (ba (Ub tB) (ba (FzW.nvL (E:=eU) (nl rfl)) ci))))
 refine sh fol (kAo (kBI (decide (a.s=0))))<|ihD h (λd h=>?_) (λd h=>?_)
 ·cases h
  exact sh fol ((2,.bool false)::(kCG []))<|ah<|(gw2 [.bool false,.nilslice] (cj (ba (Ub tB) (ba (dw (E:=eU)) ci))))
 obtain⟨e,b,rfl⟩:=bs1 h;exact ag<|sq<|gq fol [5] [(2,.bool (decide (a.s<0))),(3,.slice 1 0 1 1 1)] [.cells (nz1 a),.cells [.int .u64 e]] (qd (cv (qfv a.s b)))<|ah<|(gw2 [.bool (decide (a.s<0)),.slice 1 0 1 1 1] (cj (ba (Ub tB) (ba (FzW.fz (dX rfl rfl (Uf (bn tI cF)))) ci))))
def vT (neg:Bool) (w:List Int):Option qh:=
 if(w.length:Int)=0 then
 some (⟨0,[]⟩:qh)
 else
 (if(w.length:Int)=1 then
 (idx w 0).bind λd=>
 if d<=9223372036854775807 then
 some neg
 else
 some false
 else
 some false:Option Bool).bind λe=>
 if e=true then
 (idx w 0).bind λf=>
 some (⟨w64 (0-(w64 f)),[]⟩:qh)
 else
 (if(w.length:Int)=1 then
 (idx w 0).bind λa=>
 some (decide (a<=9223372036854775807))
 else
 some false:Option Bool).bind λb=>
 if b=true then
 (idx w 0).bind λc=>
 some (⟨w64 c,[]⟩:qh)
 else
 if neg=true then
 some (⟨(-1),w⟩:qh)
 else
 some (⟨1,w⟩:qh)
def qa7 (neg:Bool) (w:List Int) {res:qh}(h:vT neg w=some res):qc ZT (.fn 135) [.bool neg,vl eU w] [] (.agg (nz1 res)) []:=by
 unfold vT at h;refine fW Tryz.func135 rfl<|sg fol ((0,.bool neg)::(1,vl eU w)::(kAw [])) [bZ]<|sq<|aj<|sh fol ((0,.bool neg)::(1,vl eU w)::(kAw (kBo (decide ((zl w)=0)))))<|ihD h (λr h=>?_) (λr h=>?_)
 ·cases h
  exact sh fol (kAw [])<|ah<|(gw2 [.agg [.i 0,.nilslice]] (dK (ba (Ub tI) (ba (Uq (E:=eU)) ci))))
 obtain⟨s,a,h⟩:=bnd h;refine sq<|aQ (s':=(ofG 50 ((0,.bool neg)::(1,vl eU w)::(kAw (kBJ s))),[bZ])) ?_ ?_
 ·rcases wyD a with⟨j,a⟩|⟨j,a⟩
  ·obtain⟨u,c,a⟩:=bnd a;rcases wyD a with⟨k,a⟩|⟨k,a⟩
   ·cases a
    exact tr fol [3,5,6,9] ((0,.bool neg)::(1,vl eU w)::(kAw (kBJ neg))) (zO (gw j) (iv ja eU c) (lv 0 jk eU c rfl) (gw k))
   cases a
   exact tr fol [3,5,6,9] ((0,.bool neg)::(1,vl eU w)::(kAw [(10,.bool false)])) (zO (gw j) (iv ja eU c) (lv 0 jk eU c rfl) (gw k))
  cases a
  exact tr fol [3] ((0,.bool neg)::(1,vl eU w)::(kAw [(10,.bool false)])) (qd (gw j))
 refine ihB h (λt h=>?_) (λt h=>?_)
 ·obtain⟨q,f,rfl⟩:=bs1 h;exact sq<|gq fol [1,2] (kAw []) (kBG (w64 (0-(w64 q)))) (qj (iv ja eU f) (lv 0 jk eU f rfl))<|ah<|(gw2 [.agg [.i (w64 (0-(w64 q))),.nilslice]] (dK (ba (Ub tI) (ba (Uq (E:=eU)) ci))))
 obtain⟨l,b,h⟩:=bnd h;refine sq<|aQ (s':=(ofG 50 ((0,.bool neg)::(1,vl eU w)::(kAw [(29,.bool l)])),[bZ])) ?_ ?_
 ·rcases wyD b with⟨m,b⟩|⟨m,b⟩
  ·obtain⟨n,d,rfl⟩:=bs1 b;exact tr fol [3,5,6] ((0,.bool neg)::(1,vl eU w)::(kAw [(29,.bool (decide (n<=9223372036854775807)))])) (qA (gw m) (iv ja eU d) (lv 0 jk eU d rfl))
  cases b
  exact tr fol [3] ((0,.bool neg)::(1,vl eU w)::(kAw [(29,.bool false)])) (qd (gw m))
 refine ihB h (λo h=>?_) (λo h=>?_)
 ·obtain⟨g,e,rfl⟩:=bs1 h;exact sq<|gq fol [1,2] (kAw []) (kBG (w64 g)) (qj (iv ja eU e) (lv 0 jk eU e rfl))<|ah<|(gw2 [.agg [.i (w64 g),.nilslice]] (dK (ba (Ub tI) (ba (Uq (E:=eU)) ci))))
 refine sh fol ((1,vl eU w)::(kAw [(44,.bool neg)]))<|ihB h (λp h=>?_) (λp h=>?_)
 ·cases h
  exact sg fol (kAw []) [.cells [.i (-1),vl eU w]]<|ah<|(gw2 [.agg [.i (-1),vl eU w]] (dK (ba (Ub tI) (ba (FzW.Lnv (E:=eU) (by first|omega|(simp only[dr,aO]at*;omega)) (nl rfl)) ci))))
 cases h
 exact ag<|sg fol (kAw []) [.cells [.i 1,vl eU w]]<|ah<|(gw2 [.agg [.i 1,vl eU w]] (dK (ba (Ub tI) (ba (FzW.Lnv (E:=eU) (by first|omega|(simp only[dr,aO]at*;omega)) (nl rfl)) ci))))
def qb9 (w:List Int):Nat->Int->Option Int
 |0,_=>none
 |K+1,a=>
  (if a>0 then
  (idx w (w64 (a-1))).bind λb=>
  some (decide (b=0))
  else
  some false:Option Bool).bind λc=>
  if c=true then
  qb9 w K (w64 (a-1))
  else
  some a
def qak (N:Nat) (w:List Int):Option (List Int):=
 (qb9 w N (w.length:Int)).bind λa=>
 (cut w 0 a).bind λb=>
 some b
def qas (N:Nat) (w:List Int) {res:List Int}(h:qak N w=some res):qc ZT (.fn 186) [vl eU w] [] (vl eU res) []:=by
 unfold qak at h;obtain⟨g,g3,h⟩:=bnd h;refine fW Tryz.func186 rfl<|sh fol [(0,vl eU w)]<|sh fol [(0,vl eU w),(3,.i (zl w))]<|sq<|aj<|gI (λx s'=>(x= .exit 0/\∃e,e=g/\Sub s' (ofG 21 [(0,vl eU w),(3,.i e)],[]))) ?_ ?_
 ·refine Ua (λM s=>∃(c:Int),s=(ofG 21 [(0,vl eU w),(3,.i c)],[])/\qb9 w M c=some g) ?_ (m:=N) ⟨_,rfl,g3⟩;rintro M s ⟨c,rfl,g3⟩
  cases M with
  |zero=>cases g3
  |succ M=>
   rw[qb9]at g3;obtain⟨j,a,g3⟩:=bnd g3;refine sq<|sq<|aQ (s':=(ofG 21 ((0,vl eU w)::(3,.i c)::(kBW j)),[])) ?_ ?_
   ·rcases wyD a with⟨f,a⟩|⟨f,a⟩
    ·obtain⟨k,b,rfl⟩:=bs1 a;exact tr fol [2,6,7] ((0,vl eU w)::(3,.i c)::(kBW (decide (k=0)))) (qA (gw f) (iv ja eU b) (lv 0 jk eU b rfl))
    cases a
    exact tr fol [2] [(0,vl eU w),(3,.i c),(15,.bool false)] (qd (gw f))
   refine ihB g3 (λl g3=>?_) (λl g3=>?_)
   ·exact ag<|aj<|gh fol [(0,vl eU w),(3,.i (w64 (c-1)))]<|qY ⟨_,rfl,g3⟩
   cases g3
   exact aA<|⟨rfl,_,rfl,sK [0,3]⟩
 rintro x s' ⟨rfl,e,rfl,hsub⟩;obtain⟨n,d,rfl⟩:=bs1 h;exact aq hsub<|sq<|gr fol [2] [(2,vl eU n)] (qd (wvs ja eU none (some e) d))<|ah<|gw1
def ve (c d:List Int):Nat->(List Int)->Int->Int->Option ((List Int)×Int)
 |0,_,_,_=>none
 |K+1,e,a,j=>
  if a<(c.length:Int)then
  ((if a<(d.length:Int)then
  (idx d a).bind λf=>
  some f
  else
  some 0:Option Int)).bind λg=>
  (idx c a).bind λh=>
  (qaV h g j).bind λb=>
  (idx e a).bind λk=>
  (put e a b.1).bind λi=>
  ve c d K i (w64 (a+1)) b.2
  else
  some (e,j)
def qbz (N:Nat) (b y:List Int):Option (List Int):=
 ((if(b.length:Int)<(y.length:Int)then
 some (y,b)
 else
 some (b,y):Option ((List Int)×(List Int)))).bind λ(a,g)=>
 (mk 8 (w64 ((a.length:Int)+1)) 0).bind λh=>
 (ve a g N h 0 0).bind λ(f,c)=>
 (idx f (a.length:Int)).bind λi=>
 (put f (a.length:Int) c).bind λd=>
 (qak N d).bind λe=>
 some e
def qh8 (N:Nat) (z y:List Int) {res:List Int}(h:qbz N z y=some res):qc ZT (.fn 136) [vl eU z,vl eU y] [] (vl eU res) []:=by
 unfold qbz at h;obtain⟨L,g3,h⟩:=bnd h;refine fW Tryz.func136 rfl<|sh fol [(0,vl eU z),(1,vl eU y)]<|sq<|sh fol ((0,vl eU z)::(1,vl eU y)::(kBI (decide ((zl z)<(zl y)))))<|gI (λx s'=>(x= .normal/\∃a d,(a,d)=L/\Sub s' (ofG 54 [(0,vl eU a),(1,vl eU d)],[]))) ?_ ?_
 ·refine ihD g3 (λO g3=>?_) (λO g3=>?_)
  ·cases g3
   exact gh fol [(0,vl eU y),(1,vl eU z)]<|⟨rfl,_,_,rfl,(bm _)⟩
  cases g3
  exact ag<|⟨rfl,_,_,rfl,sK [0,1]⟩
 rintro x s' ⟨rfl,a,d,rfl,hsub⟩;obtain⟨F,A,B,g11,h⟩:=bn2 h;refine aq hsub<|sq<|gq fol [3] ((0,vl eU a)::(1,vl eU d)::(kG F [])) [.cells (F.flatMap eU.c)] (qd (wmr ja eU 0 A))<|sh fol ((0,vl eU a)::(1,vl eU d)::(kG F [(6,.int .u64 0)]))<|sq<|sh fol ((0,vl eU a)::(1,vl eU d)::(kG F [(6,.int .u64 0),(21,.i (zl a)),(22,.i 0)]))<|aj<|gI (λx s'=>(x= .exit 0/\∃C t,(C,t)=B/\Sub s' (ofG 54 ((0,vl eU a)::(kG C (kAQ t []))),[.cells (C.flatMap eU.c)]))) ?_ ?_
 ·refine Ua (λM s=>∃(f:List Int) (b:Int) (p:Int),s=(ofG 54 ((0,vl eU a)::(1,vl eU d)::(kG f (kAQ p (kAL (zl a) b [])))),[.cells (f.flatMap eU.c)])/\ve a d M f b p=some B) ?_ (m:=N) ⟨_,_,_,rfl,g11⟩;rintro M s ⟨f,b,p,rfl,g11⟩
  cases M with
  |zero=>cases g11
  |succ M=>
   rw[ve]at g11;refine sh fol ((0,vl eU a)::(1,vl eU d)::(kG f (kAQ p (kAL (zl a) b [(23,.bool (decide (b<(zl a))))]))))<|sq<|ihD g11 (λG g11=>?_) (λG g11=>?_)
   ·obtain⟨H,g14,g11⟩:=bnd g11;refine ag<|sq<|aj<|sh fol ((0,vl eU a)::(1,vl eU d)::(kG f (kAQ p ((7,.i b)::(kAL (zl a) b [])))))<|sh fol ((0,vl eU a)::(1,vl eU d)::(kG f (kAQ p ((7,.i b)::(kBp (kAL (zl a) b []))))))<|sq<|sh fol ((0,vl eU a)::(1,vl eU d)::(kG f (kAQ p ((7,.i b)::(kBp (kAL (zl a) b [(28,.bool (decide (b<(zl d))))]))))))<|gI (λx s'=>(x= .normal/\∃q,q=H/\Sub s' (ofG 54 ((0,vl eU a)::(1,vl eU d)::(kG f (kAQ p ((7,.i b)::(8,.int .u64 q)::(kAL (zl a) b []))))),[.cells (f.flatMap eU.c)]))) ?_ ?_
    ·refine ihD g14 (λI g14=>?_) (λI g14=>?_)
     ·obtain⟨J,g,rfl⟩:=bs1 g14;exact gr fol [2,3] ((0,vl eU a)::(1,vl eU d)::(kG f (kAQ p ((7,.i b)::(8,.int .u64 J)::(kAL (zl a) b []))))) (qj (iv ja eU g) (lv 0 jk eU g rfl))<|⟨rfl,_,rfl,(bm _)⟩
     cases g14
     exact ag<|⟨rfl,_,rfl,sK [0,1,5,6,7,8,21,22]⟩
    rintro x s' ⟨rfl,q,rfl,hsub⟩;obtain⟨K,j,u,v,P,k,r,l,g11⟩:=bn4 g11;exact aq hsub<|gq fol [4,5,8,12,13] ((0,vl eU a)::(1,vl eU d)::(kG f (kAQ u.2 (kAL (zl a) b [])))) [.cells (r.flatMap eU.c)] (qbE (iv ja eU j) (lv 0 jk eU j rfl) (cv (qdC K q p v)) (wis ja 0 k) (wsp 193 0 rfl k l rfl))<|gN [] [some 0] ((0,vl eU a)::(1,vl eU d)::(kG r (kAQ u.2 (kAL (zl a) b [])))) [.cells (r.flatMap eU.c)] (kk (kk (ke (.sliceE rfl (zD l)) kz))) (.ks .nil)<|gh fol ((0,vl eU a)::(1,vl eU d)::(kG r (kAQ u.2 (kAL (zl a) (w64 (b+1)) []))))<|qY ⟨_,_,_,rfl,g11⟩
   cases g11
   exact aA<|⟨rfl,_,_,rfl,sK [0,5,6]⟩
 rintro x s' ⟨rfl,C,t,rfl,hsub⟩;obtain⟨Q,n,e,o,D,w,rfl⟩:=bs3 h;exact aq hsub<|sq<|gq fol [4,5] (kG C []) [.cells (e.flatMap eU.c)] (qj (wis ja 0 n) (wsp 193 0 rfl n o rfl))<|gN [] [some 0] (kG e []) [.cells (e.flatMap eU.c)] (ke (.sliceE rfl (zD o)) kz) (.ks .nil)<|sq<|gq fol [1] [(4,vl eU D)] [.frozen (e.flatMap eU.c)] (qd (wcf [.slice 0 0 e.length e.length 1] [0] (bi (eL (E:=eU) rfl rfl (nl rfl)) bB) (qas N e w)))<|gN [] [] [(4,vl eU D)] [] kz .nil<|ah<|gw1
def zZ (a b:List Int):Nat->Int->Option (Unit⊕Int)
 |0,_=>none
 |K+1,c=>
  if c>=0 then
  (idx a c).bind λd=>
  (idx b c).bind λe=>
  if(!decide (d=e))=true then
  if d<e then
  some (.inr (-1))
  else
  some (.inr 1)
  else
  zZ a b K (w64 (c-1))
  else
  some (.inl ())
def vC (N:Nat) (a b:List Int):Option Int:=
 if(!decide ((a.length:Int)=(b.length:Int)))=true then
 if(a.length:Int)<(b.length:Int)then
 some (-1)
 else
 some 1
 else
 (zZ a b N (w64 ((a.length:Int)-1))).bind (λ
 |(.inl ())=>
 some 0
 |(.inr c)=>
 some c)
def qdd (N:Nat) (a b:List Int) {res:Int}(h:vC N a b=some res):qc ZT (.fn 137) [vl eU a,vl eU b] [] (.i res) []:=by
 unfold vC at h;refine fW Tryz.func137 rfl<|sh fol [(0,vl eU a),(1,vl eU b)]<|sq<|sh fol ((0,vl eU a)::(1,vl eU b)::(kBJ (!decide ((zl a)=(zl b)))))<|ihB h (λn h=>?_) (λn h=>?_)
 ·refine sq<|sh fol (kBW (decide ((zl a)<(zl b))))<|ihD h (λo h=>?_) (λo h=>?_)
  ·cases h
   exact sh fol kB1<|ah<|gw1
  cases h
  exact ag<|sh fol [(4,.i 1)]<|ah<|gw1
 obtain⟨f,g4,h⟩:=bnd h;refine ag<|sq<|sh fol ((0,vl eU a)::(1,vl eU b)::(kAy (w64 ((zl a)-1))))<|aj<|gI (λx s'=>(x= .exit 0/\(.inl ())=f/\Sub s' (ofG 41 [],[]))\/(x= .ret/\∃j,(.inr j)=f/\qQ ZT [.tmp 4] (.i j) .ret s')) ?_ ?_
 ·refine Ua (λM s=>∃(e:Int),s=(ofG 41 ((0,vl eU a)::(1,vl eU b)::(kAy e)),[])/\zZ a b M e=some f) ?_ (m:=N) ⟨_,rfl,g4⟩;rintro M s ⟨e,rfl,g4⟩
  cases M with
  |zero=>cases g4
  |succ M=>
   rw[zZ]at g4;refine sq<|sh fol ((0,vl eU a)::(1,vl eU b)::(5,.i e)::(kBy (decide (e>=0))))<|ihD g4 (λp g4=>?_) (λp g4=>?_)
   ·obtain⟨k,c,l,d,g4⟩:=bn2 g4;refine ag<|sq<|aj<|sq<|gr fol [2,3,6,7] [(0,vl eU a),(1,vl eU b),(5,.i e),(31,.bool (!decide (k=l)))] (zO (iv ja eU c) (lv 0 jk eU c rfl) (iv ja eU d) (lv 0 jk eU d rfl))<|ihB g4 (λq g4=>?_) (λq g4=>?_)
    ·refine sq<|sq<|gr fol [2,3,6,7] [(40,.bool (decide (k<l)))] (zO (iv ja eU c) (lv 0 jk eU c rfl) (iv ja eU d) (lv 0 jk eU d rfl))<|ihD g4 (λg g4=>?_) (λg g4=>?_)
     ·cases g4
      exact sh fol kB1<|ah<|Or.inr (⟨rfl,_,rfl,gw1⟩)
     cases g4
     exact ag<|sh fol [(4,.i 1)]<|ah<|Or.inr (⟨rfl,_,rfl,gw1⟩)
    exact ag<|gh fol ((0,vl eU a)::(1,vl eU b)::(kAy (w64 (e-1))))<|qY ⟨_,rfl,g4⟩
   cases g4
   exact aA<|Or.inl (⟨rfl,rfl,sK []⟩)
 rintro x s' (⟨rfl,rfl,hsub⟩|⟨rfl,r,rfl,hret⟩)
 ·cases h
  exact aq hsub<|sh fol kBr<|ah<|gw1
 cases h
 exact hret
def yF (c y:List Int):Nat->(List Int)->Int->Int->Option (List Int)
 |0,_,_,_=>none
 |K+1,d,a,h=>
  if a<(c.length:Int)then
  ((if a<(y.length:Int)then
  (idx y a).bind λe=>
  some e
  else
  some 0:Option Int)).bind λi=>
  (idx c a).bind λf=>
  (qfC f i h).bind λb=>
  (idx d a).bind λj=>
  (put d a b.1).bind λg=>
  yF c y K g (w64 (a+1)) b.2
  else
  some d
def xN (N:Nat) (b y:List Int):Option (List Int):=
 (mk 8 (b.length:Int) 0).bind λc=>
 (yF b y N c 0 0).bind λd=>
 (qak N d).bind λa=>
 some a
def qfi (N:Nat) (a y:List Int) {res:List Int}(h:xN N a y=some res):qc ZT (.fn 138) [vl eU a,vl eU y] [] (vl eU res) []:=by
 unfold xN at h;obtain⟨u,r,B,g6,h⟩:=bn2 h;refine fW Tryz.func138 rfl<|sh fol [(0,vl eU a),(1,vl eU y)]<|sq<|gq fol [2] ((0,vl eU a)::(1,vl eU y)::(kG u [])) [.cells (u.flatMap eU.c)] (qd (wmr ja eU 0 r))<|sh fol ((0,vl eU a)::(1,vl eU y)::(kG u [(6,.int .u64 0)]))<|sq<|sh fol ((0,vl eU a)::(1,vl eU y)::(kG u [(6,.int .u64 0),(13,.i (zl a)),(14,.i 0)]))<|aj<|gI (λx s'=>(x= .exit 0/\∃n,n=B/\Sub s' (ofG 41 (kG n []),[.cells (n.flatMap eU.c)]))) ?_ ?_
 ·refine Ua (λM s=>∃(d:List Int) (b:Int) (k:Int),s=(ofG 41 ((0,vl eU a)::(1,vl eU y)::(kG d (kAQ k (kAX (zl a) b)))),[.cells (d.flatMap eU.c)])/\yF a y M d b k=some B) ?_ (m:=N) ⟨_,_,_,rfl,g6⟩;rintro M s ⟨d,b,k,rfl,g6⟩
  cases M with
  |zero=>cases g6
  |succ M=>
   rw[yF]at g6;refine sh fol ((0,vl eU a)::(1,vl eU y)::(kG d (kAQ k ((13,.i (zl a))::(14,.i b)::(kBW (decide (b<(zl a))))))))<|sq<|ihD g6 (λC g6=>?_) (λC g6=>?_)
   ·obtain⟨D,g9,g6⟩:=bnd g6;refine ag<|sq<|aj<|sh fol ((0,vl eU a)::(1,vl eU y)::(kG d (kAQ k ((7,.i b)::(kAX (zl a) b)))))<|sh fol ((0,vl eU a)::(1,vl eU y)::(kG d (kAQ k ((7,.i b)::(kBp (kAX (zl a) b))))))<|sq<|sh fol ((0,vl eU a)::(1,vl eU y)::(kG d (kAQ k ((7,.i b)::(kBp ((13,.i (zl a))::(14,.i b)::(kBy (decide (b<(zl y))))))))))<|gI (λx s'=>(x= .normal/\∃v,v=D/\Sub s' (ofG 41 ((0,vl eU a)::(1,vl eU y)::(kG d (kAQ k ((7,.i b)::(8,.int .u64 v)::(kAX (zl a) b))))),[.cells (d.flatMap eU.c)]))) ?_ ?_
    ·refine ihD g9 (λw g9=>?_) (λw g9=>?_)
     ·obtain⟨z,e,rfl⟩:=bs1 g9;exact gr fol [2,3] ((0,vl eU a)::(1,vl eU y)::(kG d (kAQ k ((7,.i b)::(8,.int .u64 z)::(kAX (zl a) b))))) (qj (iv ja eU e) (lv 0 jk eU e rfl))<|⟨rfl,_,rfl,(bm _)⟩
     cases g9
     exact ag<|⟨rfl,_,rfl,sK [0,1,5,6,7,8,13,14]⟩
    rintro x s' ⟨rfl,v,rfl,hsub⟩;obtain⟨A,f,o,p,F,g,l,j,g6⟩:=bn4 g6;exact aq hsub<|gq fol [4,5,8,12,13] ((0,vl eU a)::(1,vl eU y)::(kG d (kAQ o.2 (kAX (zl a) b)))) [.cells (l.flatMap eU.c)] (qbE (iv ja eU f) (lv 0 jk eU f rfl) (cv (qjO A v k p)) (wis ja 0 g) (wsp 193 0 rfl g j rfl))<|gN [] [some 0] ((0,vl eU a)::(1,vl eU y)::(kG l (kAQ o.2 (kAX (zl a) b)))) [.cells (l.flatMap eU.c)] (kk (kk (ke (.sliceE rfl (zD j)) kz))) (.ks .nil)<|gh fol ((0,vl eU a)::(1,vl eU y)::(kG l (kAQ o.2 (kAX (zl a) (w64 (b+1))))))<|qY ⟨_,_,_,rfl,g6⟩
   cases g6
   exact aA<|⟨rfl,_,rfl,sK [5]⟩
 rintro x s' ⟨rfl,n,rfl,hsub⟩;obtain⟨t,q,rfl⟩:=bs1 h;exact aq hsub<|sq<|gq fol [1] [(4,vl eU t)] [.frozen (n.flatMap eU.c)] (qd (wcf [.slice 0 0 n.length n.length 1] [0] (bi (eL (E:=eU) rfl rfl (nl rfl)) bB) (qas N n q)))<|gN [] [] [(4,vl eU t)] [] kz .nil<|ah<|gw1
def vS (N:Nat) (a b:qh):Option qh:=
 (if a.w.isEmpty=true then
 some b.w.isEmpty
 else
 some false:Option Bool).bind λm=>
 ((if m=true then
 if((decide ((w64 (a.s+b.s))>a.s))==(decide (b.s>0)))=true then
 some (.inr (⟨w64 (a.s+b.s),[]⟩:qh))
 else
 some (.inl ())
 else
 some (.inl ()):Option (Unit⊕qh))).bind (λ
 |(.inl ())=>
 (qK a).bind λc=>
 (qK b).bind λd=>
 if(c.1==d.1)=true then
 (qbz N c.2 d.2).bind λe=>
 (vT c.1 e).bind λf=>
 some f
 else
 (vC N c.2 d.2).bind λg=>
 if g>=0 then
 (xN N c.2 d.2).bind λh=>
 (vT c.1 h).bind λi=>
 some i
 else
 (xN N d.2 c.2).bind λj=>
 (vT d.1 j).bind λk=>
 some k
 |(.inr l)=>
 some l)
def qbe (N:Nat) (a b:qh) {res:qh}(h:vS N a b=some res):qc ZT (.fn 79) [.agg (nz1 a),.agg (nz1 b)] [] (.agg (nz1 res)) []:=by
 unfold vS at h;obtain⟨G,c,h⟩:=bnd h;refine fW Tryz.func79 rfl<|sg fol (kI []) [.cells (nz1 a),.cells (nz1 b),bZ]<|sq<|sq<|aQ (s':=(ofG 67 (kI [(17,.bool G)]),[.cells (nz1 a),.cells (nz1 b),bZ])) ?_ ?_
 ·rcases wyB c with⟨u,c⟩|⟨u,c⟩
  ·cases c
   exact tr fol [2,3,6] (kI [(17,.bool b.w.isEmpty)]) (qA (wen qbD 11 eU a.w) (gw u) (wen qbD 15 eU b.w))
  cases c
  exact tr fol [2,3] (kI [(17,.bool false)]) (qj (wen qbD 11 eU a.w) (gw u))
 obtain⟨D,g4,h⟩:=bnd h;refine gI (λx s'=>(x= .normal/\(.inl ())=D/\Sub s' (ofG 67 (kI []),[.cells (nz1 a),.cells (nz1 b),bZ]))\/(x= .ret/\∃F,(.inr F)=D/\qQ ZT [.cell 4 81] (.agg (nz1 F)) .ret s')) ?_ ?_
 ·refine ihB g4 (λH g4=>?_) (λH g4=>?_)
  ·refine sh fol (kI (kAy (w64 (a.s+b.s))))<|sh fol (kI [(5,.i (w64 (a.s+b.s))),(30,.bool ((decide ((w64 (a.s+b.s))>a.s))==(decide (b.s>0))))])<|ihB g4 (λI g4=>?_) (λI g4=>?_)
   ·cases g4
    exact sg fol kAr (.cells (nz1 a):: .cells (nz1 b)::(kBG (w64 (a.s+b.s))))<|ah<|Or.inr (⟨rfl,_,rfl,(gw2 [.agg [.i (w64 (a.s+b.s)),.nilslice]] (dK (ba (Ub tI) (ba (Uq (E:=eU)) ci))))⟩)
   cases g4
   exact ag<|Or.inl (⟨rfl,rfl,sK [2,3,4]⟩)
  cases g4
  exact ag<|Or.inl (⟨rfl,rfl,sK [2,3,4]⟩)
 rintro x s' (⟨rfl,rfl,hsub⟩|⟨rfl,J,rfl,hret⟩)
 ·obtain⟨d,o,e,p,h⟩:=bn2 h;refine aq hsub<|sq<|gr fol [1] [(3,.ptr 1 0),(4,.ptr 2 0),(6,.bool d.1),(7,vl eU d.2)] (qd (cv (zQ a o)))<|sq<|gr fol [1] [(4,.ptr 2 0),(6,.bool d.1),(7,vl eU d.2),(8,.bool e.1),(9,vl eU e.2)] (qd (cv (zQ b p)))<|sq<|aj<|sh fol [(4,.ptr 2 0),(6,.bool d.1),(7,vl eU d.2),(8,.bool e.1),(9,vl eU e.2),(43,.bool (d.1==e.1))]<|ihB h (λv h=>?_) (λv h=>?_)
  ·obtain⟨y,f,q,g,rfl⟩:=bs2 h;exact sq<|gq fol [3,4,5] kAr [.cells (nz1 a),.cells (nz1 b),.cells (nz1 q)] (qA (cv (qh8 N d.2 e.2 f)) (cv (qa7 d.1 y g)) (wsz 81 2 q rfl rfl))<|ah<|gw1
  obtain⟨z,j,h⟩:=bnd h;refine sq<|gr fol [2] [(4,.ptr 2 0),(6,.bool d.1),(7,vl eU d.2),(8,.bool e.1),(9,vl eU e.2),(52,.bool (decide (z>=0)))] (qd (cv (qdd N d.2 e.2 j)))<|ihD h (λA h=>?_) (λA h=>?_)
  ·obtain⟨B,k,r,l,rfl⟩:=bs2 h;exact sq<|gq fol [3,4,5] kAr [.cells (nz1 a),.cells (nz1 b),.cells (nz1 r)] (qA (cv (qfi N d.2 e.2 k)) (cv (qa7 d.1 B l)) (wsz 81 2 r rfl rfl))<|ah<|gw1
  obtain⟨C,m,t,n,rfl⟩:=bs2 h;exact ag<|sq<|gq fol [3,4,5] kAr [.cells (nz1 a),.cells (nz1 b),.cells (nz1 t)] (qA (cv (qfi N e.2 d.2 m)) (cv (qa7 e.1 C n)) (wsz 81 2 t rfl rfl))<|ah<|gw1
 cases h
 exact hret
end
section
open Go.Proofs Go.RowKit
def bits_Mul64 (a y:Int):Option (Int×Int):=
 some (wrap .u64 ((wrap .u64 ((wrap .u64 ((qo .u64 a 32)*(qo .u64 y 32)))+(qo .u64 (wrap .u64 ((wrap .u64 ((qo .u64 a 32)*(qw .u64 y 4294967295)))+(qo .u64 (wrap .u64 ((qw .u64 a 4294967295)*(qw .u64 y 4294967295))) 32))) 32)))+(qo .u64 (wrap .u64 ((qw .u64 (wrap .u64 ((wrap .u64 ((qo .u64 a 32)*(qw .u64 y 4294967295)))+(qo .u64 (wrap .u64 ((qw .u64 a 4294967295)*(qw .u64 y 4294967295))) 32))) 4294967295)+(wrap .u64 ((qw .u64 a 4294967295)*(qo .u64 y 32))))) 32)),wrap .u64 (a*y))
def qbJ (a y:Int) {res:Int×Int}(h:bits_Mul64 a y=some res):qc ZT (.fn 158) (kBB a y) [] (.tuple (kBB res.1 res.2)) []:=by
 unfold bits_Mul64 at h;cases h
 exact fW Tryz.func158 rfl<|sh fol (kY a y [])<|sh fol (kY a y (kAQ (qw .u64 a 4294967295) []))<|sh fol (kY a y (kAQ (qw .u64 a 4294967295) (kAn (qo .u64 a 32) [])))<|sh fol (kY a y (kAQ (qw .u64 a 4294967295) (kAI (qo .u64 a 32) (qw .u64 y 4294967295) [])))<|sh fol (kY a y (kAQ (qw .u64 a 4294967295) (kAI (qo .u64 a 32) (qw .u64 y 4294967295) [(9,.int .u64 (qo .u64 y 32))])))<|sh fol (kY a y (kAQ (qw .u64 a 4294967295) (kAI (qo .u64 a 32) (qw .u64 y 4294967295) [(9,.int .u64 (qo .u64 y 32)),(10,.int .u64 (wrap .u64 ((qw .u64 a 4294967295)*(qw .u64 y 4294967295))))])))<|sh fol (kY a y (kAQ (qw .u64 a 4294967295) (kAn (qo .u64 a 32) [(9,.int .u64 (qo .u64 y 32)),(11,.int .u64 (wrap .u64 ((wrap .u64 ((qo .u64 a 32)*(qw .u64 y 4294967295)))+(qo .u64 (wrap .u64 ((qw .u64 a 4294967295)*(qw .u64 y 4294967295))) 32))))])))<|sh fol (kY a y (kAQ (qw .u64 a 4294967295) (kAn (qo .u64 a 32) ((9,.int .u64 (qo .u64 y 32))::(kAE (wrap .u64 ((wrap .u64 ((qo .u64 a 32)*(qw .u64 y 4294967295)))+(qo .u64 (wrap .u64 ((qw .u64 a 4294967295)*(qw .u64 y 4294967295))) 32))) (qw .u64 (wrap .u64 ((wrap .u64 ((qo .u64 a 32)*(qw .u64 y 4294967295)))+(qo .u64 (wrap .u64 ((qw .u64 a 4294967295)*(qw .u64 y 4294967295))) 32))) 4294967295) [])))))<|sh fol (kY a y (kAQ (qw .u64 a 4294967295) (kAn (qo .u64 a 32) [(9,.int .u64 (qo .u64 y 32)),(12,.int .u64 (qw .u64 (wrap .u64 ((wrap .u64 ((qo .u64 a 32)*(qw .u64 y 4294967295)))+(qo .u64 (wrap .u64 ((qw .u64 a 4294967295)*(qw .u64 y 4294967295))) 32))) 4294967295)),(13,.int .u64 (qo .u64 (wrap .u64 ((wrap .u64 ((qo .u64 a 32)*(qw .u64 y 4294967295)))+(qo .u64 (wrap .u64 ((qw .u64 a 4294967295)*(qw .u64 y 4294967295))) 32))) 32))])))<|sh fol (kY a y (kAn (qo .u64 a 32) [(9,.int .u64 (qo .u64 y 32)),(12,.int .u64 (wrap .u64 ((qw .u64 (wrap .u64 ((wrap .u64 ((qo .u64 a 32)*(qw .u64 y 4294967295)))+(qo .u64 (wrap .u64 ((qw .u64 a 4294967295)*(qw .u64 y 4294967295))) 32))) 4294967295)+(wrap .u64 ((qw .u64 a 4294967295)*(qo .u64 y 32)))))),(13,.int .u64 (qo .u64 (wrap .u64 ((wrap .u64 ((qo .u64 a 32)*(qw .u64 y 4294967295)))+(qo .u64 (wrap .u64 ((qw .u64 a 4294967295)*(qw .u64 y 4294967295))) 32))) 32))]))<|sh fol (kY a y [(4,.int .u64 (wrap .u64 ((wrap .u64 ((wrap .u64 ((qo .u64 a 32)*(qo .u64 y 32)))+(qo .u64 (wrap .u64 ((wrap .u64 ((qo .u64 a 32)*(qw .u64 y 4294967295)))+(qo .u64 (wrap .u64 ((qw .u64 a 4294967295)*(qw .u64 y 4294967295))) 32))) 32)))+(qo .u64 (wrap .u64 ((qw .u64 (wrap .u64 ((wrap .u64 ((qo .u64 a 32)*(qw .u64 y 4294967295)))+(qo .u64 (wrap .u64 ((qw .u64 a 4294967295)*(qw .u64 y 4294967295))) 32))) 4294967295)+(wrap .u64 ((qw .u64 a 4294967295)*(qo .u64 y 32))))) 32))))])<|sh fol [(4,.int .u64 (wrap .u64 ((wrap .u64 ((wrap .u64 ((qo .u64 a 32)*(qo .u64 y 32)))+(qo .u64 (wrap .u64 ((wrap .u64 ((qo .u64 a 32)*(qw .u64 y 4294967295)))+(qo .u64 (wrap .u64 ((qw .u64 a 4294967295)*(qw .u64 y 4294967295))) 32))) 32)))+(qo .u64 (wrap .u64 ((qw .u64 (wrap .u64 ((wrap .u64 ((qo .u64 a 32)*(qw .u64 y 4294967295)))+(qo .u64 (wrap .u64 ((qw .u64 a 4294967295)*(qw .u64 y 4294967295))) 32))) 4294967295)+(wrap .u64 ((qw .u64 a 4294967295)*(qo .u64 y 32))))) 32)))),(5,.int .u64 (wrap .u64 (a*y)))]<|ah<|gwt
def yA (b:List Int) (l g:Int):Nat->(List Int)->Int->Int->Option ((List Int)×Int)
 |0,_,_,_=>none
 |K+1,h,a,c=>
  if a<(b.length:Int)then
  (idx b a).bind λi=>
  (bits_Mul64 l i).bind λd=>
  (idx h (w64 (g+a))).bind λj=>
  (qaV d.2 j 0).bind λe=>
  (qaV e.1 c 0).bind λf=>
  (put h (w64 (g+a)) f.1).bind λk=>
  yA b l g K k (w64 (a+1)) (wrap .u64 ((wrap .u64 (d.1+e.2))+f.2))
  else
  some (h,c)
def yD (N:Nat) (a b:List Int):Nat->(List Int)->Int->Option (List Int)
 |0,_,_=>none
 |K+1,g,c=>
  if c<(a.length:Int)then
  (idx a c).bind λh=>
  (yA b h c N g 0 0).bind λ(d,e)=>
  (idx d (w64 (c+(b.length:Int)))).bind λi=>
  (put d (w64 (c+(b.length:Int))) e).bind λf=>
  yD N a b K f (w64 (c+1))
  else
  some g
def qbC (N:Nat) (a b:List Int):Option (List Int):=
 (mk 8 (w64 ((a.length:Int)+(b.length:Int))) 0).bind λd=>
 (yD N a b N d 0).bind λe=>
 (qak N e).bind λc=>
 some c
def qif (N:Nat) (a b:List Int) {res:List Int}(h:qbC N a b=some res):qc ZT (.fn 160) [vl eU a,vl eU b] [] (vl eU res) []:=by
 unfold qbC at h;obtain⟨L,H,Q,g5,h⟩:=bn2 h;refine fW Tryz.func160 rfl<|sh fol [(0,vl eU a),(1,vl eU b)]<|sq<|gq fol [5] ((0,vl eU a)::(1,vl eU b)::(kG L [])) [.cells (L.flatMap eU.c)] (qd (wmr ja eU 0 H))<|sq<|sh fol ((1,vl eU b)::(kG L [(20,vl eU a),(21,.i (zl a)),(22,.i 0)]))<|aj<|gI (λx s'=>(x= .exit 0/\∃y,y=Q/\Sub s' (ofG 80 (kG y []),[.cells (y.flatMap eU.c)]))) ?_ ?_
 ·refine Ua (λM s=>∃(z:List Int) (d:Int),s=(ofG 80 ((1,vl eU b)::(kG z ((20,vl eU a)::(kAL (zl a) d [])))),[.cells (z.flatMap eU.c)])/\yD N a b M z d=some Q) ?_ (m:=N) ⟨_,_,rfl,g5⟩;rintro M s ⟨z,d,rfl,g5⟩
  cases M with
  |zero=>cases g5
  |succ M=>
   rw[yD]at g5;refine sh fol ((1,vl eU b)::(kG z ((20,vl eU a)::(kAL (zl a) d [(23,.bool (decide (d<(zl a))))]))))<|sq<|ihD g5 (λU g5=>?_) (λU g5=>?_)
   ·obtain⟨l,A,I,g13,g5⟩:=bn2 g5;refine ag<|sq<|aj<|sq<|gr fol [1,2] ((1,vl eU b)::(kG z ((6,.i d)::(kAn l ((20,vl eU a)::(kAL (zl a) d [])))))) (qj (iv ja eU A) (lv 0 jk eU A rfl))<|sh fol ((1,vl eU b)::(kG z ((6,.i d)::(kAn l (kBp ((20,vl eU a)::(kAL (zl a) d [])))))))<|sq<|sh fol ((1,vl eU b)::(kG z ((6,.i d)::(kAn l (kBp ((20,vl eU a)::(kAL (zl a) d [(27,vl eU b),(28,.i (zl b)),(29,.i 0)])))))))<|aj<|gI (λx s'=>(x= .exit 2/\∃o B,(o,B)=I/\Sub s' (ofG 80 ((1,vl eU b)::(kG o ((6,.i d)::(8,.int .u64 B)::(20,vl eU a)::(kAL (zl a) d [])))),[.cells (o.flatMap eU.c)]))) ?_ ?_
    ·refine Ua (λM s=>∃(n:List Int) (g:Int) (f:Int),s=(ofG 80 ((1,vl eU b)::(kG n ((6,.i d)::(kAI l f ((20,vl eU a)::(kAL (zl a) d ((27,vl eU b)::(kA5 (zl b) g)))))))),[.cells (n.flatMap eU.c)])/\yA b l d M n g f=some I) ?_ (m:=N) ⟨_,_,_,rfl,g13⟩;rintro M s ⟨n,g,f,rfl,g13⟩
     cases M with
     |zero=>cases g13
     |succ M=>
      rw[yA]at g13;refine sh fol ((1,vl eU b)::(kG n ((6,.i d)::(kAI l f ((20,vl eU a)::(kAL (zl a) d [(27,vl eU b),(28,.i (zl b)),(29,.i g),(30,.bool (decide (g<(zl b))))]))))))<|sq<|ihD g13 (λO g13=>?_) (λO g13=>?_)
      ·obtain⟨J,p,e,C,P,j,k,D,q,F,v,r,g13⟩:=bn6 g13;exact ag<|sq<|aj<|sq<|gr fol [1,2] ((1,vl eU b)::(kG n ((6,.i d)::(kAI l f ((9,.i g)::(10,.int .u64 J)::(20,vl eU a)::(kAL (zl a) d ((27,vl eU b)::(kA5 (zl b) g)))))))) (qj (iv ja eU p) (lv 0 jk eU p rfl))<|sq<|gr fol [2] ((1,vl eU b)::(kG n ((6,.i d)::(kAI l f ((9,.i g)::(kAE e.1 e.2 ((20,vl eU a)::(kAL (zl a) d ((27,vl eU b)::(kA5 (zl b) g)))))))))) (qd (cv (qbJ l J C)))<|sh fol ((1,vl eU b)::(kG n ((6,.i d)::(kAI l f ((9,.i g)::(kAE e.1 e.2 ((20,vl eU a)::(kAL (zl a) d ((27,vl eU b)::(kA5 (zl b) g))))))))))<|sq<|gr fol [5,6,7] ((1,vl eU b)::(kG n ((6,.i d)::(kAI l f ((9,.i g)::(kAE e.1 k.1 ((13,.int .u64 k.2)::(20,vl eU a)::(kAL (zl a) d ((27,vl eU b)::(kA5 (zl b) g)))))))))) (qA (wis ja 0 j) (wlp jk 0 rfl j rfl) (cv (qdC e.2 P 0 D)))<|sh fol ((1,vl eU b)::(kG n ((6,.i d)::(kAI l f ((9,.i g)::(kAE (wrap .u64 (e.1+k.2)) k.1 ((20,vl eU a)::(kAL (zl a) d ((27,vl eU b)::(kA5 (zl b) g))))))))))<|sq<|gr fol [2] ((1,vl eU b)::(kG n ((6,.i d)::(kAn l ((9,.i g)::(kAE (wrap .u64 (e.1+k.2)) q.1 ((13,.int .u64 q.2)::(20,vl eU a)::(kAL (zl a) d ((27,vl eU b)::(kA5 (zl b) g)))))))))) (qd (cv (qdC k.1 f 0 F)))<|gq fol [8,9] ((1,vl eU b)::(kG n ((6,.i d)::(kAI l (wrap .u64 ((wrap .u64 (e.1+k.2))+q.2)) ((20,vl eU a)::(kAL (zl a) d ((27,vl eU b)::(kA5 (zl b) g)))))))) [.cells (v.flatMap eU.c)] (qj (wis ja 0 j) (wsp 193 0 rfl j r rfl))<|gN [] [some 0] ((1,vl eU b)::(kG v ((6,.i d)::(kAI l (wrap .u64 ((wrap .u64 (e.1+k.2))+q.2)) ((20,vl eU a)::(kAL (zl a) d ((27,vl eU b)::(kA5 (zl b) g)))))))) [.cells (v.flatMap eU.c)] (kk (ke (.sliceE rfl (zD r)) kz)) (.ks .nil)<|gh fol ((1,vl eU b)::(kG v ((6,.i d)::(kAI l (wrap .u64 ((wrap .u64 (e.1+k.2))+q.2)) ((20,vl eU a)::(kAL (zl a) d ((27,vl eU b)::(kA5 (zl b) (w64 (g+1))))))))))<|qY ⟨_,_,_,rfl,g13⟩
      cases g13
      exact aA<|⟨rfl,_,_,rfl,sK [1,5,6,8,20,21,22]⟩
    rintro x s' ⟨rfl,o,B,rfl,hsub⟩;obtain⟨V,t,w,u,g5⟩:=bn2 g5;exact aq hsub<|gq fol [6,7] ((1,vl eU b)::(kG o ((20,vl eU a)::(kAL (zl a) d [])))) [.cells (w.flatMap eU.c)] (qj (wis ja 0 t) (wsp 193 0 rfl t u rfl))<|gN [] [some 0] ((1,vl eU b)::(kG w ((20,vl eU a)::(kAL (zl a) d [])))) [.cells (w.flatMap eU.c)] (kk (ke (.sliceE rfl (zD u)) kz)) (.ks .nil)<|gh fol ((1,vl eU b)::(kG w ((20,vl eU a)::(kAL (zl a) (w64 (d+1)) []))))<|qY ⟨_,_,rfl,g5⟩
   cases g5
   exact aA<|⟨rfl,_,rfl,sK [5]⟩
 rintro x s' ⟨rfl,y,rfl,hsub⟩;obtain⟨K,G,rfl⟩:=bs1 h;exact aq hsub<|sq<|gq fol [1] [(4,vl eU K)] [.frozen (y.flatMap eU.c)] (qd (wcf [.slice 0 0 y.length y.length 1] [0] (bi (eL (E:=eU) rfl rfl (nl rfl)) bB) (qas N y G)))<|gN [] [] [(4,vl eU K)] [] kz .nil<|ah<|gw1
def qO (N:Nat) (a b:qh):Option qh:=
 (if a.w.isEmpty=true then
 some b.w.isEmpty
 else
 some false:Option Bool).bind λj=>
 ((if j=true then
 (qdG a.s).bind λk=>
 (qdG b.s).bind λl=>
 (bits_Mul64 k l).bind λe=>
 (if e.1=0 then
 some (decide (e.2<=9223372036854775807))
 else
 some false:Option Bool).bind λf=>
 if f=true then
 if(!((decide (a.s<0))==(decide (b.s<0))))=true then
 some (.inr (⟨w64 (0-(w64 e.2)),[]⟩:qh))
 else
 some (.inr (⟨w64 e.2,[]⟩:qh))
 else
 some (.inl ())
 else
 some (.inl ()):Option (Unit⊕qh))).bind (λ
 |(.inl ())=>
 (qK a).bind λc=>
 (qK b).bind λd=>
 (qbC N c.2 d.2).bind λg=>
 (vT (!(c.1==d.1)) g).bind λh=>
 some h
 |(.inr i)=>
 some i)
def vV (N:Nat) (a b:qh) {res:qh}(h:qO N a b=some res):qc ZT (.fn 105) [.agg (nz1 a),.agg (nz1 b)] [] (.agg (nz1 res)) []:=by
 unfold qO at h;obtain⟨C,d,h⟩:=bnd h;refine fW Tryz.func105 rfl<|sg fol (kI []) [.cells (nz1 a),.cells (nz1 b),bZ]<|sq<|sq<|aQ (s':=(ofG 66 (kI [(18,.bool C)]),[.cells (nz1 a),.cells (nz1 b),bZ])) ?_ ?_
 ·rcases wyB d with⟨t,d⟩|⟨t,d⟩
  ·cases d
   exact tr fol [2,3,6] (kI [(18,.bool b.w.isEmpty)]) (qA (wen qbD 12 eU a.w) (gw t) (wen qbD 16 eU b.w))
  cases d
  exact tr fol [2,3] (kI [(18,.bool false)]) (qj (wen qbD 12 eU a.w) (gw t))
 obtain⟨A,g4,h⟩:=bnd h;refine gI (λx s'=>(x= .normal/\(.inl ())=A/\Sub s' (ofG 66 (kI []),[.cells (nz1 a),.cells (nz1 b),bZ]))\/(x= .ret/\∃B,(.inr B)=A/\qQ ZT [.cell 4 81] (.agg (nz1 B)) .ret s')) ?_ ?_
 ·refine ihB g4 (λD g4=>?_) (λD g4=>?_)
  ·obtain⟨F,o,G,p,f,q,u,c,g4⟩:=bn4 g4;refine sq<|gr fol [2,5,6] (kI ((5,.int .u64 f.1)::(kAQ f.2 []))) (qA (cv (qfv a.s o)) (cv (qfv b.s p)) (cv (qbJ F G q)))<|sq<|aQ (s':=(ofG 66 (kI (kAQ f.2 [(34,.bool u)])),[.cells (nz1 a),.cells (nz1 b),bZ])) ?_ ?_
   ·rcases wyD c with⟨j,c⟩|⟨j,c⟩
    ·cases c
     exact tr fol [2] (kI (kAQ f.2 [(34,.bool (decide (f.2<=9223372036854775807)))])) (qd (gw j))
    cases c
    exact tr fol [2] (kI (kAQ f.2 [(34,.bool false)])) (qd (gw j))
   refine ihB g4 (λv g4=>?_) (λv g4=>?_)
   ·refine sq<|sh fol ((4,.ptr 2 0)::(kAQ f.2 [(41,.bool (!((decide (a.s<0))==(decide (b.s<0)))))]))<|ihB g4 (λy g4=>?_) (λy g4=>?_)
    ·cases g4
     exact sg fol kAr (.cells (nz1 a):: .cells (nz1 b)::(kBG (w64 (0-(w64 f.2)))))<|ah<|Or.inr (⟨rfl,_,rfl,(gw2 [.agg [.i (w64 (0-(w64 f.2))),.nilslice]] (dK (ba (Ub tI) (ba (Uq (E:=eU)) ci))))⟩)
    cases g4
    exact ag<|sg fol kAr (.cells (nz1 a):: .cells (nz1 b)::(kBG (w64 f.2)))<|ah<|Or.inr (⟨rfl,_,rfl,(gw2 [.agg [.i (w64 f.2),.nilslice]] (dK (ba (Ub tI) (ba (Uq (E:=eU)) ci))))⟩)
   cases g4
   exact ag<|Or.inl (⟨rfl,rfl,sK [2,3,4]⟩)
  cases g4
  exact ag<|Or.inl (⟨rfl,rfl,sK [2,3,4]⟩)
 rintro x s' (⟨rfl,rfl,hsub⟩|⟨rfl,H,rfl,hret⟩)
 ·obtain⟨e,k,g,l,z,m,r,n,rfl⟩:=bs4 h;exact aq hsub<|sq<|gr fol [1] [(3,.ptr 1 0),(4,.ptr 2 0),(7,.bool e.1),(8,vl eU e.2)] (qd (cv (zQ a k)))<|sq<|gr fol [1] [(4,.ptr 2 0),(7,.bool e.1),(8,vl eU e.2),(9,.bool g.1),(10,vl eU g.2)] (qd (cv (zQ b l)))<|sq<|gq fol [5,6,7] kAr [.cells (nz1 a),.cells (nz1 b),.cells (nz1 r)] (qA (cv (qif N e.2 g.2 m)) (cv (qa7 (!(e.1==g.1)) z n)) (wsz 81 2 r rfl rfl))<|ah<|gw1
 cases h
 exact hret
def zH (a:qh):Option qh:=
 (if a.w.isEmpty=true then
 some (!decide (a.s=(-9223372036854775808)))
 else
 some false:Option Bool).bind λc=>
 if c=true then
 some (⟨w64 (0-a.s),[]⟩:qh)
 else
 (qK a).bind λb=>
 (vT (!b.1) b.2).bind λd=>
 some d
def vR (a:qh) {res:qh}(h:zH a=some res):qc ZT (.fn 122) [.agg (nz1 a)] [] (.agg (nz1 res)) []:=by
 unfold zH at h;obtain⟨j,b,h⟩:=bnd h;refine fW Tryz.func122 rfl<|sg fol (kAo kA6) [.cells (nz1 a),bZ]<|sq<|sq<|aQ (s':=(ofG 26 (kAo ((2,.ptr 1 0)::(kBX j))),[.cells (nz1 a),bZ])) ?_ ?_
 ·rcases wyB b with⟨f,b⟩|⟨f,b⟩
  ·cases b
   exact tr fol [2,3] (kAo ((2,.ptr 1 0)::(kBX (!decide (a.s=(-9223372036854775808)))))) (qj (wen qbD 6 eU a.w) (gw f))
  cases b
  exact tr fol [2,3] (kAo [(2,.ptr 1 0),(12,.bool false)]) (qj (wen qbD 6 eU a.w) (gw f))
 refine ihB h (λk h=>?_) (λk h=>?_)
 ·cases h
  exact sg fol kA6 (.cells (nz1 a)::(kBG (w64 (0-a.s))))<|ah<|(gw2 [.agg [.i (w64 (0-a.s)),.nilslice]] (dK (ba (Ub tI) (ba (Uq (E:=eU)) ci))))
 obtain⟨e,c,g,d,rfl⟩:=bs2 h;exact ag<|sq<|gr fol [1] [(2,.ptr 1 0),(3,.bool e.1),(4,vl eU e.2)] (qd (cv (zQ a c)))<|sq<|gq fol [3,4] kA6 [.cells (nz1 a),.cells (nz1 g)] (qj (cv (qa7 (!e.1) e.2 d)) (wsz 81 1 g rfl rfl))<|ah<|gw1
def yZ (N:Nat):Nat->Int->(List Int)->Int->(List Int)->Int->Option (Int×(List Int))
 |0,_,_,_,_,_=>none
 |K+1,e,f,h,i,g=>
  if g>0 then
  ((((if(qw .i64 g 1)=1 then
  (qO N (⟨h,i⟩:qh) (⟨e,f⟩:qh)).bind λa=>
  some (a.s,a.w)
  else
  some (h,i):Option (Int×(List Int)))).bind λ(b,c)=>
  if g>1 then
  (qO N (⟨e,f⟩:qh) (⟨e,f⟩:qh)).bind λd=>
  some (d.s,d.w,b,c)
  else
  some (e,f,b,c):Option (Int×(List Int)×Int×(List Int)))).bind λ(j,k,l,m)=>
  yZ N K j k l m (qo .i64 g 1)
  else
  some (h,i)
def qcT (N:Nat) (a:qh) (k:Int):Option qh:=
 (qdc 1).bind λb=>
 (yZ N N a.s a.w b.s b.w k).bind λ(c,d)=>
 some (⟨c,d⟩:qh)
def qjz (N:Nat) (a:qh) (k:Int) {res:qh}(h:qcT N a k=some res):qc ZT (.fn 132) [.agg (nz1 a),.i k] [] (.agg (nz1 res)) []:=by
 unfold qcT at h;obtain⟨E,t,F,g9,h⟩:=bn2 h;refine fW Tryz.func132 rfl<|sg fol ((1,.i k)::(kAs kBh)) [.cells (nz1 a),bZ]<|sq<|gq fol [0,2] (kAG k []) [.cells (nz1 a),bZ,.cells (nz1 E)] (qj (cv (qcM 1 t)) (hx [.cells (nz1 a),bZ,bZ] (wsz 81 2 E rfl rfl)))<|sq<|aj<|gI (λx s'=>(x= .exit 0/\∃q r,(q,r)=F/\Sub s' (ofG 23 (kAw [(5,.ptr 1 0)]),[bZ,.cells (ni1 q r)]))) ?_ ?_
 ·refine Ua (λM s=>∃(e:Int) (f:List Int) (w:Int) (y:List Int) (b:Int),s=(ofG 23 (kAG b []),[.cells (ni1 e f),bZ,.cells (ni1 w y)])/\yZ N M e f w y b=some F) ?_ (m:=N) ⟨_,_,_,_,_,rfl,g9⟩;rintro M s ⟨e,f,w,y,b,rfl,g9⟩
  cases M with
  |zero=>cases g9
  |succ M=>
   rw[yZ]at g9;refine sq<|sh fol (kAG b (kBN (decide (b>0))))<|ihD g9 (λz g9=>?_) (λz g9=>?_)
   ·obtain⟨A,g15,g9⟩:=bnd g9;refine ag<|sq<|gI (λx s'=>(x= .normal/\∃g j l n,(g,j,l,n)=A/\Sub s' (ofG 23 (kAG b []),[.cells (ni1 g j),bZ,.cells (ni1 l n)]))) ?_ ?_
    ·obtain⟨B,g18,g15⟩:=bnd g15;refine aj<|sq<|sh fol (kAG b (kBI (decide ((qw .i64 b 1)=1))))<|gI (λx s'=>(x= .normal/\∃c d,(c,d)=B/\Sub s' (ofG 23 (kAG b []),[.cells (ni1 e f),bZ,.cells (ni1 c d)]))) ?_ ?_
     ·refine ihD g18 (λC g18=>?_) (λC g18=>?_)
      ·obtain⟨u,o,rfl⟩:=bs1 g18;exact gq fol [2,3] (kAG b []) [.cells (ni1 e f),bZ,.cells (nz1 u)] (qj (cv (vV N (⟨w,y⟩:qh) (⟨e,f⟩:qh) o)) (wsz 81 2 u rfl rfl))<|⟨rfl,_,_,rfl,(bm _)⟩
      cases g18
      exact ag<|⟨rfl,_,_,rfl,sK [1,2,4,5]⟩
     rintro x s' ⟨rfl,c,d,rfl,hsub⟩;refine aq hsub<|sh fol (kAG b [(18,.bool (decide (b>1)))])<|ihD g15 (λD g15=>?_) (λD g15=>?_)
     ·obtain⟨v,p,rfl⟩:=bs1 g15;exact gq fol [2,3] (kAG b []) [.cells (nz1 v),bZ,.cells (ni1 c d)] (qj (cv (vV N (⟨e,f⟩:qh) (⟨e,f⟩:qh) p)) (wsz 81 0 v rfl rfl))<|⟨rfl,_,_,_,_,rfl,(bm _)⟩
     cases g15
     exact ag<|⟨rfl,_,_,_,_,rfl,sK [1,2,4,5]⟩
    rintro x s' ⟨rfl,g,j,l,n,rfl,hsub⟩;exact aq hsub<|gh fol (kAG (qo .i64 b 1) [])<|qY ⟨_,_,_,_,_,rfl,g9⟩
   cases g9
   exact aA<|⟨rfl,_,_,rfl,(sN [] [some 1,some 2] (.drop (.drop (.kp (.kp .nil)))) (.kb rfl (.same sn) (.kb rfl (.same sn) .nil)))⟩
 rintro x s' ⟨rfl,q,r,rfl,hsub⟩;cases h
 exact aq hsub<|sq<|gq fol [1] (kAw []) [.cells (ni1 q r),.cells (ni1 q r)] (qd (wsz 81 0 ⟨q,r⟩ rfl rfl))<|ah<|gw1
def stringslite_HasPrefix (b a:Str):Option Bool:=
 (if(b.length:Int)>=(a.length:Int)then
 (cut b 0 (a.length:Int)).bind λc=>
 some (c==a)
 else
 some false:Option Bool).bind λd=>
 some d
def xX (d a:Str) {res:Bool}(h:stringslite_HasPrefix d a=some res):qc ZT (.fn 188) [.str d,.str a] [] (.bool res) []:=by
 unfold stringslite_HasPrefix at h;obtain⟨f,b,h⟩:=bnd h;refine fW Tryz.func188 rfl<|sh fol (kX d a [])<|sq<|aQ (s':=(ofG 18 (kBO f),[])) ?_ ?_
 ·rcases wyD b with⟨e,b⟩|⟨e,b⟩
  ·obtain⟨g,c,rfl⟩:=bs1 b;exact tr fol [5,9] (kBO (g==a)) (qj (gw e) (wss st9 none (some (zl a)) c))
  cases b
  exact tr fol [5] kA0 (qd (gw e))
 obtain rfl:=si h;exact ah<|gw1
def strings_HasPrefix (b a:Str):Option Bool:=
 (stringslite_HasPrefix b a).bind λc=>
 some c
def qfZ (c a:Str) {res:Bool}(h:strings_HasPrefix c a=some res):qc ZT (.fn 139) [.str c,.str a] [] (.bool res) []:=by
 unfold strings_HasPrefix at h;obtain⟨d,b,rfl⟩:=bs1 h;exact fW Tryz.func139 rfl<|sh fol (kX c a [])<|sq<|gr fol [2] (kBO d) (qd (cv (xX c a b)))<|ah<|gw1
def stringslite_TrimPrefix (b a:Str):Option Str:=
 (stringslite_HasPrefix b a).bind λc=>
 if c=true then
 (cut b (a.length:Int) (b.length:Int)).bind λd=>
 some d
 else
 some b
def qd2 (b a:Str) {res:Str}(h:stringslite_TrimPrefix b a=some res):qc ZT (.fn 189) [.str b,.str a] [] (.str res) []:=by
 unfold stringslite_TrimPrefix at h;obtain⟨e,c,h⟩:=bnd h;refine fW Tryz.func189 rfl<|sh fol (kX b a [])<|sq<|sq<|gr fol [2] (kX b a [(7,.bool e)]) (qd (cv (xX b a c)))<|ihB h (λf h=>?_) (λf h=>?_)
 ·obtain⟨g,d,rfl⟩:=bs1 h;exact sq<|gr fol [3] (kBn g) (qd (wss st9 (some (zl a)) none d))<|ah<|gw1
 cases h
 exact ag<|sh fol (kBn b)<|ah<|gw1
def strings_TrimPrefix (b a:Str):Option Str:=
 (stringslite_TrimPrefix b a).bind λc=>
 some c
def qcx (c a:Str) {res:Str}(h:strings_TrimPrefix c a=some res):qc ZT (.fn 140) [.str c,.str a] [] (.str res) []:=by
 unfold strings_TrimPrefix at h;obtain⟨d,b,rfl⟩:=bs1 h;exact fW Tryz.func140 rfl<|sh fol (kX c a [])<|sq<|gr fol [2] (kBn d) (qd (cv (qd2 c a b)))<|ah<|gw1
def qbi (N:Nat):Nat->Int->(List Int)->Str->Option (Int×(List Int))
 |0,_,_,_=>none
 |K+1,j,k,a=>
  if(a.length:Int)>0 then
  (cut a 0 (if(a.length:Int)<18 then(a.length:Int)else 18)).bind λc=>
  (qlW c).bind λd=>
  (qdc 10).bind λe=>
  (qcT N e (if(a.length:Int)<18 then(a.length:Int)else 18)).bind λf=>
  (qO N (⟨j,k⟩:qh) f).bind λg=>
  (qdc d.1).bind λh=>
  (vS N g h).bind λb=>
  (cut a (if(a.length:Int)<18 then(a.length:Int)else 18) (a.length:Int)).bind λi=>
  qbi N K b.s b.w i
  else
  some (j,k)
def qcq (N:Nat) (b:Str):Option qh:=
 (strings_HasPrefix b [45]).bind λe=>
 (strings_TrimPrefix b [45]).bind λf=>
 (qbi N N 0 [] f).bind λ(c,d)=>
 if e=true then
 (zH (⟨c,d⟩:qh)).bind λa=>
 some a
 else
 some (⟨c,d⟩:qh)
def qcU (N:Nat) (q:Str) {res:qh}(h:qcq N q=some res):qc ZT (.fn 80) [.str q] [] (.agg (nz1 res)) []:=by
 unfold qcq at h;obtain⟨b,r,H,t,I,g8,h⟩:=bn3 h;refine fW Tryz.func80 rfl<|sg fol ((0,.str q)::(kAs [])) [bZ]<|sq<|gr fol [1] (kV q b []) (qd (cv (qfZ q [45] r)))<|sq<|gr fol [1] (kV H b []) (qd (cv (qcx q [45] t)))<|sg fol (kV H b kBh) [bZ,bZ]<|sq<|aj<|gI (λx s'=>(x= .exit 0/\∃c d,(c,d)=I/\Sub s' (ofG 41 (kAs ((3,.bool b)::kBh)),[bZ,.cells (ni1 c d)]))) ?_ ?_
 ·refine Ua (λM s=>∃(y:Int) (z:List Int) (a:Str),s=(ofG 41 (kV a b kBh),[bZ,.cells (ni1 y z)])/\qbi N M y z a=some I) ?_ (m:=N) ⟨_,_,_,rfl,g8⟩;rintro M s ⟨y,z,a,rfl,g8⟩
  cases M with
  |zero=>cases g8
  |succ M=>
   rw[qbi]at g8;refine sq<|sh fol (kV a b ((4,.ptr 1 0)::(kBW (decide ((zl a)>0)))))<|ihD g8 (λJ g8=>?_) (λJ g8=>?_)
   ·obtain⟨A,e,u,f,B,g,C,j,D,k,E,l,v,n,F,o,g8⟩:=bn8 g8;exact ag<|aj<|sh fol (kV a b ((4,.ptr 1 0)::(kAy (if(zl a)<18 then(zl a)else 18))))<|sq<|gr fol [2,3] (kV a b ((4,.ptr 1 0)::(5,.i (if(zl a)<18 then(zl a)else 18))::(kBK u.1))) (qj (wss st9 none (some (if(zl a)<18 then(zl a)else 18)) e) (cv (qrs A f)))<|sq<|gq fol [1,3,4,6,7,8] (kV a b ((4,.ptr 1 0)::(kAy (if(zl a)<18 then(zl a)else 18)))) [bZ,.cells (nz1 v)] (qdO (cv (qcM 10 g)) (cv (qjz N B (if(zl a)<18 then(zl a)else 18) j)) (cv (vV N (⟨y,z⟩:qh) C k)) (cv (qcM u.1 l)) (cv (qbe N D E n)) (wsz 81 1 v rfl rfl))<|gr fol [2] (kV F b kBh) (qd (wss st9 (some (if(zl a)<18 then(zl a)else 18)) none o))<|qY ⟨_,_,_,rfl,g8⟩
   cases g8
   exact aA<|⟨rfl,_,_,rfl,sK [2,3,4]⟩
 rintro x s' ⟨rfl,c,d,rfl,hsub⟩;refine aq hsub<|sq<|sh fol (kAs [(4,.ptr 1 0),(37,.bool b)])<|ihB h (λG h=>?_) (λG h=>?_)
 ·obtain⟨w,p,rfl⟩:=bs1 h;exact sq<|gq fol [1,2] (kAs []) [.cells (nz1 w),.cells (ni1 c d)] (qj (cv (vR (⟨c,d⟩:qh) p)) (wsz 81 0 w rfl rfl))<|ah<|gw1
 cases h
 exact ag<|sq<|gq fol [1] (kAs []) [.cells (ni1 c d),.cells (ni1 c d)] (qd (wsz 81 0 ⟨c,d⟩ rfl rfl))<|ah<|gw1
def stringslite_IndexByte (a:Str) (c:Int):Option Int:=
 (qld a c).bind λb=>
 some b
def qep (b:Str) (c:Int) {res:Int}(h:stringslite_IndexByte b c=some res):qc ZT (.fn 227) [.str b,.int .u8 c] [] (.i res) []:=by
 unfold stringslite_IndexByte at h;obtain⟨d,a,rfl⟩:=bs1 h;exact fW Tryz.func227 rfl<|sh fol [(0,.str b),(1,.int .u8 c)]<|sq<|gr fol [2] (kBe d) (qd (cv (qpe b c a)))<|ah<|gw1
def stringslite_Index (a substr:Str):Option Int:=
 (if(substr.length:Int)=0 then
 some true
 else
 some (substr==a):Option Bool).bind λb=>
 if b=true then
 some 0
 else
 if(substr.length:Int)=1 then
 (idx substr 0).bind λc=>
 (stringslite_IndexByte a (c.toNat:Int)).bind λd=>
 some d
 else
 if(substr.length:Int)>=(a.length:Int)then
 some (-1)
 else
 none
def qfS (b substr:Str) {res:Int}(h:stringslite_Index b substr=some res):qc ZT (.fn 199) [.str b,.str substr] [] (.i res) []:=by
 unfold stringslite_Index at h;obtain⟨f,a,h⟩:=bnd h;refine fW Tryz.func199 rfl<|sh fol (kX b substr [])<|sh fol (kX b substr (kAy (zl substr)))<|sq<|aj<|sq<|aQ (s':=(ofG 143 (kX b substr [(5,.i (zl substr)),(16,.bool f)]),[])) ?_ ?_
 ·rcases wyD a with⟨e,a⟩|⟨e,a⟩
  ·cases a
   exact tr fol [2] (kX b substr [(5,.i (zl substr)),(16,.bool true)]) (qd (gw e))
  cases a
  exact tr fol [2] (kX b substr [(5,.i (zl substr)),(16,.bool (substr==b))]) (qd (gw e))
 refine ihB h (λg h=>?_) (λg h=>?_)
 ·cases h
  exact sh fol kBr<|ah<|gw1
 refine sh fol (kX b substr [(5,.i (zl substr)),(24,.bool (decide ((zl substr)=1)))])<|ihD h (λj h=>?_) (λj h=>?_)
 ·obtain⟨k,c,l,d,rfl⟩:=bs2 h;exact sq<|gr fol [2,3] (kBe l) (qj (wsx st9 c) (cv (qep b (k.toNat:Int) d)))<|ah<|gw1
 refine sh fol (kX b substr [(5,.i (zl substr)),(31,.bool (decide ((zl substr)>=(zl b))))])<|ihD h (λm h=>?_) (λm h=>?_)
 ·cases h
  exact sh fol kB1<|ah<|gw1
 cases h
def stringslite_Cut (a sep:Str):Option (Str×Str×Bool):=
 (stringslite_Index a sep).bind λb=>
 if b>=0 then
 (cut a 0 b).bind λc=>
 (cut a (w64 (b+(sep.length:Int))) (a.length:Int)).bind λd=>
 some (c,d,true)
 else
 some (a,[],false)
def qgM (a sep:Str) {res:Str×Str×Bool}(h:stringslite_Cut a sep=some res):qc ZT (.fn 155) [.str a,.str sep] [] (.tuple [.str res.1,.str res.2.1,.bool res.2.2]) []:=by
 unfold stringslite_Cut at h;obtain⟨b,c,h⟩:=bnd h;refine fW Tryz.func155 rfl<|sh fol (kX a sep [])<|sq<|sq<|gr fol [2] (kX a sep (kBT b)) (qd (cv (qfS a sep c)))<|sh fol (kX a sep ((7,.i b)::(kBX (decide (b>=0)))))<|ihD h (λf h=>?_) (λf h=>?_)
 ·obtain⟨g,d,j,e,rfl⟩:=bs2 h;exact sq<|gr fol [2,8] [(4,.str g),(5,.str j),(6,.bool true)] (qj (wss st9 none (some b) d) (wss st9 (some (w64 (b+(zl sep)))) none e))<|ah<|gwt
 cases h
 exact ag<|sh fol ((4,.str a)::(5,.str [])::kA1)<|ah<|gwt
def strings_Cut (b sep:Str):Option (Str×Str×Bool):=
 (stringslite_Cut b sep).bind λa=>
 some (a.1,a.2.1,a.2.2)
def qfB (b sep:Str) {res:Str×Str×Bool}(h:strings_Cut b sep=some res):qc ZT (.fn 98) [.str b,.str sep] [] (.tuple [.str res.1,.str res.2.1,.bool res.2.2]) []:=by
 unfold strings_Cut at h;obtain⟨c,a,rfl⟩:=bs1 h;exact fW Tryz.func98 rfl<|sh fol (kX b sep [])<|sq<|gr fol [2] ((4,.str c.1)::(kBE c.2.1 c.2.2 [])) (qd (cv (qgM b sep a)))<|ah<|gwt
def zg (a:qh):Option Int:=
 some (if(if a.s<1 then a.s else 1)>(-1)then(if a.s<1 then a.s else 1)else(-1))
def xE (a:qh) {res:Int}(h:zg a=some res):qc ZT (.fn 99) [.agg (nz1 a)] [] (.i res) []:=by
 unfold zg at h;cases h
 exact fW Tryz.func99 rfl<|sg fol (kAo []) [.cells (nz1 a)]<|sh fol (kBM (if(if a.s<1 then a.s else 1)>(-1)then(if a.s<1 then a.s else 1)else(-1)))<|ah<|gw1
def qax (N:Nat) (a b:qh):Option qh:=
 (zH b).bind λc=>
 (vS N a c).bind λd=>
 some d
def qfx (N:Nat) (a b:qh) {res:qh}(h:qax N a b=some res):qc ZT (.fn 182) [.agg (nz1 a),.agg (nz1 b)] [] (.agg (nz1 res)) []:=by
 unfold qax at h;obtain⟨f,c,e,d,rfl⟩:=bs2 h;exact fW Tryz.func182 rfl<|sg fol (kI []) [.cells (nz1 a),.cells (nz1 b),bZ]<|sq<|gq fol [2,3,4] kAr [.cells (nz1 a),.cells (nz1 b),.cells (nz1 e)] (qA (cv (vR b c)) (cv (qbe N a f d)) (wsz 81 2 e rfl rfl))<|ah<|gw1
def bits_Len64 (a:Int):Option Int:=
 ((if a>=4294967296 then
 some (qo .u64 a 32,32)
 else
 some (a,0):Option (Int×Int))).bind λ(b,f)=>
 ((if b>=65536 then
 some (qo .u64 b 16,w64 (f+16))
 else
 some (b,f):Option (Int×Int))).bind λ(c,g)=>
 ((if c>=256 then
 some (qo .u64 c 8,w64 (g+8))
 else
 some (c,g):Option (Int×Int))).bind λ(h,d)=>
 (idx ([0,1,2,2,3,3,3,3,4,4,4,4,4,4,4,4,5,5,5,5,5,5,5,5,5,5,5,5,5,5,5,5,6,6,6,6,6,6,6,6,6,6,6,6,6,6,6,6,6,6,6,6,6,6,6,6,6,6,6,6,6,6,6,6,7,7,7,7,7,7,7,7,7,7,7,7,7,7,7,7,7,7,7,7,7,7,7,7,7,7,7,7,7,7,7,7,7,7,7,7,7,7,7,7,7,7,7,7,7,7,7,7,7,7,7,7,7,7,7,7,7,7,7,7,7,7,7,7,8,8,8,8,8,8,8,8,8,8,8,8,8,8,8,8,8,8,8,8,8,8,8,8,8,8,8,8,8,8,8,8,8,8,8,8,8,8,8,8,8,8,8,8,8,8,8,8,8,8,8,8,8,8,8,8,8,8,8,8,8,8,8,8,8,8,8,8,8,8,8,8,8,8,8,8,8,8,8,8,8,8,8,8,8,8,8,8,8,8,8,8,8,8,8,8,8,8,8,8,8,8,8,8,8,8,8,8,8,8,8,8,8,8,8,8,8,8,8,8,8,8,8,8,8,8,8,8]:Str) (wrap .u8 h)).bind λe=>
 some (w64 (d+(w64 (e.toNat:Int))))
def qgu (b:Int) {res:Int}(h:bits_Len64 b=some res):qc ZT (.fn 184) [.int .u64 b] [] (.i res) []:=by
 unfold bits_Len64 at h;obtain⟨n,g3,h⟩:=bnd h;refine fW Tryz.func184 rfl<|sh fol (kBc b kBs)<|sq<|sh fol (kBc b ((2,.i 0)::(kBO (decide (b>=4294967296)))))<|gI (λx s'=>(x= .normal/\∃c f,(c,f)=n/\Sub s' (ofG 25 (kBc c (kBM f)),[]))) ?_ ?_
 ·refine ihD g3 (λo g3=>?_) (λo g3=>?_)
  ·cases g3
   exact sh fol (kBc (qo .u64 b 32) [])<|gh fol (kBc (qo .u64 b 32) [(2,.i 32)])<|⟨rfl,_,_,rfl,(bm _)⟩
  cases g3
  exact ag<|⟨rfl,_,_,rfl,sK [0,2]⟩
 rintro x s' ⟨rfl,c,f,rfl,hsub⟩;obtain⟨p,g7,h⟩:=bnd h;refine aq hsub<|sq<|sh fol (kBc c ((2,.i f)::(kBN (decide (c>=65536)))))<|gI (λx s'=>(x= .normal/\∃d g,(d,g)=p/\Sub s' (ofG 25 (kBc d (kBM g)),[]))) ?_ ?_
 ·refine ihD g7 (λq g7=>?_) (λq g7=>?_)
  ·cases g7
   exact sh fol (kBc (qo .u64 c 16) (kBM f))<|gh fol (kBc (qo .u64 c 16) (kBM (w64 (f+16))))<|⟨rfl,_,_,rfl,(bm _)⟩
  cases g7
  exact ag<|⟨rfl,_,_,rfl,sK [0,2]⟩
 rintro x s' ⟨rfl,d,g,rfl,hsub⟩;obtain⟨j,g11,h⟩:=bnd h;refine aq hsub<|sq<|sh fol (kBc d [(2,.i g),(14,.bool (decide (d>=256)))])<|gI (λx s'=>(x= .normal/\∃k a,(k,a)=j/\Sub s' (ofG 25 (kBc k (kBM a)),[]))) ?_ ?_
 ·refine ihD g11 (λl g11=>?_) (λl g11=>?_)
  ·cases g11
   exact sh fol (kBc (qo .u64 d 8) (kBM g))<|gh fol (kBc (qo .u64 d 8) (kBM (w64 (g+8))))<|⟨rfl,_,_,rfl,(bm _)⟩
  cases g11
  exact ag<|⟨rfl,_,_,rfl,sK [0,2]⟩
 rintro x s' ⟨rfl,k,a,rfl,hsub⟩;obtain⟨m,e,rfl⟩:=bs1 h;exact aq hsub<|sq<|gr fol [3] (kBM (w64 (a+(w64 (m.toNat:Int))))) (qd (wsy .u8 st9 e))<|ah<|gw1
def bits_LeadingZeros64 (a:Int):Option Int:=
 (bits_Len64 a).bind λb=>
 some (w64 (64-b))
def qcl (b:Int) {res:Int}(h:bits_LeadingZeros64 b=some res):qc ZT (.fn 215) [.int .u64 b] [] (.i res) []:=by
 unfold bits_LeadingZeros64 at h;obtain⟨c,a,rfl⟩:=bs1 h;exact fW Tryz.func215 rfl<|sh fol (kBc b [])<|sq<|gr fol [1] (kBM (w64 (64-c))) (qd (cv (qgu b a)))<|ah<|gw1
def qaP (d c:Int):Nat->Int->Int->Option Int
 |0,_,_=>none
 |K+1,a,b=>
  (if a>=4294967296 then
  some true
  else
  some (decide ((wrap .u64 (a*(qw .u64 d 4294967295)))>(wrap .u64 ((wrap .u64 (4294967296*b))+(qo .u64 c 32))))):Option Bool).bind λe=>
  if e=true then
  if(wrap .u64 (b+(qo .u64 d 32)))>=4294967296 then
  some (wrap .u64 (a-1))
  else
  qaP d c K (wrap .u64 (a-1)) (wrap .u64 (b+(qo .u64 d 32)))
  else
  some a
def qaS (d c:Int):Nat->Int->Int->Option Int
 |0,_,_=>none
 |K+1,b,a=>
  (if a>=4294967296 then
  some true
  else
  some (decide ((wrap .u64 (a*(qw .u64 d 4294967295)))>(wrap .u64 ((wrap .u64 (4294967296*b))+(qw .u64 c 4294967295))))):Option Bool).bind λe=>
  if e=true then
  if(wrap .u64 (b+(qo .u64 d 32)))>=4294967296 then
  some (wrap .u64 (a-1))
  else
  qaS d c K (wrap .u64 (b+(qo .u64 d 32))) (wrap .u64 (a-1))
  else
  some a
def qbY (N:Nat) (hi lo y:Int):Option (Int×Int):=
 ((if y=0 then
 none
 else
 some ():Option Unit)).bind λ_=>
 ((if y<=hi then
 none
 else
 some ():Option Unit)).bind λ_=>
 if hi=0 then
 (qdh .u64 lo y).bind λk=>
 (qfo .u64 lo y).bind λl=>
 some (k,l)
 else
 (bits_LeadingZeros64 y).bind λf=>
 (qhF .u64 y (wrap .u64 f)).bind λd=>
 (qhF .u64 hi (wrap .u64 f)).bind λb=>
 (qj7 .u64 lo (wrap .u64 (64-(wrap .u64 f)))).bind λc=>
 (qhF .u64 lo (wrap .u64 f)).bind λa=>
 (qdh .u64 (orI .u64 b c) (qo .u64 d 32)).bind λg=>
 (qaP d a N g (wrap .u64 ((orI .u64 b c)-(wrap .u64 (g*(qo .u64 d 32)))))).bind λe=>
 (qdh .u64 (wrap .u64 ((wrap .u64 ((wrap .u64 ((orI .u64 b c)*4294967296))+(qo .u64 a 32)))-(wrap .u64 (e*d)))) (qo .u64 d 32)).bind λh=>
 (qaS d a N (wrap .u64 ((wrap .u64 ((wrap .u64 ((wrap .u64 ((orI .u64 b c)*4294967296))+(qo .u64 a 32)))-(wrap .u64 (e*d))))-(wrap .u64 (h*(qo .u64 d 32))))) h).bind λi=>
 (qj7 .u64 (wrap .u64 ((wrap .u64 ((wrap .u64 ((wrap .u64 ((wrap .u64 ((wrap .u64 ((orI .u64 b c)*4294967296))+(qo .u64 a 32)))-(wrap .u64 (e*d))))*4294967296))+(qw .u64 a 4294967295)))-(wrap .u64 (i*d)))) (wrap .u64 f)).bind λj=>
 some (wrap .u64 ((wrap .u64 (e*4294967296))+i),j)
def qgp (N:Nat) (hi lo y:Int) {res:Int×Int}(h:qbY N hi lo y=some res):qc ZT (.fn 214) (.int .u64 hi::(kBB lo y)) [] (.tuple (kBB res.1 res.2)) []:=by
 unfold qbY at h;obtain⟨U,g1,h⟩:=bnd h;refine fW Tryz.func214 rfl<|sh fol (kY hi lo (kBz y []))<|sq<|sh fol (kY hi lo (kBz y (kBy (decide (y=0)))))<|gI (λx s'=>(x= .normal/\()=U/\Sub s' (ofG 135 (kY hi lo (kBz y [])),[]))) ?_ ?_
 ·refine ihD g1 (λV g1=>?_) (λV g1=>?_)
  ·cases g1
  cases g1
  exact ag<|⟨rfl,rfl,sK [0,1,2]⟩
 rintro x s' ⟨rfl,rfl,hsub⟩;obtain⟨X,g3,h⟩:=bnd h;refine aq hsub<|sq<|sh fol (kY hi lo (kBz y [(24,.bool (decide (y<=hi)))]))<|gI (λx s'=>(x= .normal/\()=X/\Sub s' (ofG 135 (kY hi lo (kBz y [])),[]))) ?_ ?_
 ·refine ihD g3 (λY g3=>?_) (λY g3=>?_)
  ·cases g3
  cases g3
  exact ag<|⟨rfl,rfl,sK [0,1,2]⟩
 rintro x s' ⟨rfl,rfl,hsub⟩;refine aq hsub<|sq<|sh fol (kY hi lo (kBz y [(27,.bool (decide (hi=0)))]))<|ihD h (λZ h=>?_) (λZ h=>?_)
 ·obtain⟨q6,C,q7,D,rfl⟩:=bs2 h;exact sq<|gr fol [2,5] (kAQ q6 (kAn q7 [])) (qj (wxq 193 C) (wxr 193 D))<|ah<|gwt
 obtain⟨f,E,b,F,c,p,d,q,a,r,t,u,G,g17,h⟩:=bn7 h;refine ag<|sq<|gr fol [1] (kY hi lo (kBz y [(8,.int .u64 (wrap .u64 f))])) (qd (cv (qcl y E)))<|sq<|gr fol [2] (kY hi lo (kBz b [(8,.int .u64 (wrap .u64 f))])) (qd (wyl 193 .u64 F))<|sh fol (kY hi lo (kBz b [(8,.int .u64 (wrap .u64 f)),(9,.int .u64 (qo .u64 b 32))]))<|sh fol (kY hi lo (kL b (wrap .u64 f) (qo .u64 b 32) (qw .u64 b 4294967295) []))<|sq<|gr fol [2,6] ((1,.int .u64 lo)::(kL b (wrap .u64 f) (qo .u64 b 32) (qw .u64 b 4294967295) [(11,.int .u64 (orI .u64 c d))])) (qj (wyl 193 .u64 p) (wyh 193 .u64 q))<|sq<|gr fol [2] (kL b (wrap .u64 f) (qo .u64 b 32) (qw .u64 b 4294967295) (kAE (orI .u64 c d) a [])) (qd (wyl 193 .u64 r))<|sh fol (kL b (wrap .u64 f) (qo .u64 b 32) (qw .u64 b 4294967295) (kAE (orI .u64 c d) a [(13,.int .u64 (qo .u64 a 32))]))<|sh fol (kL b (wrap .u64 f) (qo .u64 b 32) (qw .u64 b 4294967295) (kAc (orI .u64 c d) (qo .u64 a 32) [(14,.int .u64 (qw .u64 a 4294967295))]))<|sq<|gr fol [2] (kL b (wrap .u64 f) (qo .u64 b 32) (qw .u64 b 4294967295) (kAc (orI .u64 c d) (qo .u64 a 32) (kBH (qw .u64 a 4294967295) t []))) (qd (wxq 193 u))<|sh fol (kL b (wrap .u64 f) (qo .u64 b 32) (qw .u64 b 4294967295) (kAc (orI .u64 c d) (qo .u64 a 32) (kQ (qw .u64 a 4294967295) t (wrap .u64 ((orI .u64 c d)-(wrap .u64 (t*(qo .u64 b 32))))) [])))<|sq<|aj<|gI (λx s'=>(x= .exit 0/\∃e,e=G/\Sub s' (ofG 135 (kL b (wrap .u64 f) (qo .u64 b 32) (qw .u64 b 4294967295) (kAc (orI .u64 c d) (qo .u64 a 32) (kBH (qw .u64 a 4294967295) e []))),[]))) ?_ ?_
 ·refine Ua (λM s=>∃(j:Int) (g:Int),s=(ofG 135 (kL b (wrap .u64 f) (qo .u64 b 32) (qw .u64 b 4294967295) (kAc (orI .u64 c d) (qo .u64 a 32) (kQ (qw .u64 a 4294967295) j g []))),[])/\qaP b a M j g=some G) ?_ (m:=N) ⟨_,_,rfl,g17⟩;rintro M s ⟨j,g,rfl,g17⟩
  cases M with
  |zero=>cases g17
  |succ M=>
   rw[qaP]at g17;obtain⟨I,k,g17⟩:=bnd g17;refine sq<|sq<|aQ (s':=(ofG 135 (kL b (wrap .u64 f) (qo .u64 b 32) (qw .u64 b 4294967295) (kAc (orI .u64 c d) (qo .u64 a 32) (kQ (qw .u64 a 4294967295) j g [(78,.bool I)]))),[])) ?_ ?_
   ·rcases wyD k with⟨v,k⟩|⟨v,k⟩
    ·cases k
     exact tr fol [2] (kL b (wrap .u64 f) (qo .u64 b 32) (qw .u64 b 4294967295) (kAc (orI .u64 c d) (qo .u64 a 32) (kQ (qw .u64 a 4294967295) j g [(78,.bool true)]))) (qd (gw v))
    cases k
    exact tr fol [2] (kL b (wrap .u64 f) (qo .u64 b 32) (qw .u64 b 4294967295) (kAc (orI .u64 c d) (qo .u64 a 32) (kQ (qw .u64 a 4294967295) j g [(78,.bool (decide ((wrap .u64 (j*(qw .u64 b 4294967295)))>(wrap .u64 ((wrap .u64 (4294967296*g))+(qo .u64 a 32))))))]))) (qd (gw v))
   refine ihB g17 (λJ g17=>?_) (λJ g17=>?_)
   ·refine ag<|aj<|sh fol (kL b (wrap .u64 f) (qo .u64 b 32) (qw .u64 b 4294967295) (kAc (orI .u64 c d) (qo .u64 a 32) (kQ (qw .u64 a 4294967295) (wrap .u64 (j-1)) g [])))<|sh fol (kL b (wrap .u64 f) (qo .u64 b 32) (qw .u64 b 4294967295) (kAc (orI .u64 c d) (qo .u64 a 32) (kQ (qw .u64 a 4294967295) (wrap .u64 (j-1)) (wrap .u64 (g+(qo .u64 b 32))) [])))<|sh fol (kL b (wrap .u64 f) (qo .u64 b 32) (qw .u64 b 4294967295) (kAc (orI .u64 c d) (qo .u64 a 32) (kQ (qw .u64 a 4294967295) (wrap .u64 (j-1)) (wrap .u64 (g+(qo .u64 b 32))) [(85,.bool (decide ((wrap .u64 (g+(qo .u64 b 32)))>=4294967296)))])))<|ihD g17 (λK g17=>?_) (λK g17=>?_)
    ·cases g17
     exact aA<|⟨rfl,_,rfl,sK [2,8,9,10,11,13,14,15]⟩
    exact ag<|⟨M,(ofG 135 (kL b (wrap .u64 f) (qo .u64 b 32) (qw .u64 b 4294967295) (kAc (orI .u64 c d) (qo .u64 a 32) (kQ (qw .u64 a 4294967295) (wrap .u64 (j-1)) (wrap .u64 (g+(qo .u64 b 32))) []))),[]),aY _,(sK [2,8,9,10,11,13,14,15,16]),_,_,rfl,g17⟩
   cases g17
   exact aA<|⟨rfl,_,rfl,sK [2,8,9,10,11,13,14,15]⟩
 rintro x s' ⟨rfl,e,rfl,hsub⟩;obtain⟨w,z,H,g27,h⟩:=bn2 h;refine aq hsub<|sh fol (kL b (wrap .u64 f) (qo .u64 b 32) (qw .u64 b 4294967295) (kBH (qw .u64 a 4294967295) e [(17,.int .u64 (wrap .u64 ((wrap .u64 ((wrap .u64 ((orI .u64 c d)*4294967296))+(qo .u64 a 32)))-(wrap .u64 (e*b)))))]))<|sq<|gr fol [2] (kL b (wrap .u64 f) (qo .u64 b 32) (qw .u64 b 4294967295) (kBH (qw .u64 a 4294967295) e (kAh (wrap .u64 ((wrap .u64 ((wrap .u64 ((orI .u64 c d)*4294967296))+(qo .u64 a 32)))-(wrap .u64 (e*b)))) w []))) (qd (wxq 193 z))<|sh fol (kL b (wrap .u64 f) (qo .u64 b 32) (qw .u64 b 4294967295) (kQ (qw .u64 a 4294967295) e (wrap .u64 ((wrap .u64 ((wrap .u64 ((wrap .u64 ((orI .u64 c d)*4294967296))+(qo .u64 a 32)))-(wrap .u64 (e*b))))-(wrap .u64 (w*(qo .u64 b 32))))) (kAh (wrap .u64 ((wrap .u64 ((wrap .u64 ((orI .u64 c d)*4294967296))+(qo .u64 a 32)))-(wrap .u64 (e*b)))) w [])))<|sq<|aj<|gI (λx s'=>(x= .exit 2/\∃o,o=H/\Sub s' (ofG 135 (kBz b ((8,.int .u64 (wrap .u64 f))::(kBH (qw .u64 a 4294967295) e (kAh (wrap .u64 ((wrap .u64 ((wrap .u64 ((orI .u64 c d)*4294967296))+(qo .u64 a 32)))-(wrap .u64 (e*b)))) o [])))),[]))) ?_ ?_
 ·refine Ua (λM s=>∃(i:Int) (l:Int),s=(ofG 135 (kL b (wrap .u64 f) (qo .u64 b 32) (qw .u64 b 4294967295) (kQ (qw .u64 a 4294967295) e i (kAh (wrap .u64 ((wrap .u64 ((wrap .u64 ((orI .u64 c d)*4294967296))+(qo .u64 a 32)))-(wrap .u64 (e*b)))) l []))),[])/\qaS b a M i l=some H) ?_ (m:=N) ⟨_,_,rfl,g27⟩;rintro M s ⟨i,l,rfl,g27⟩
  cases M with
  |zero=>cases g27
  |succ M=>
   rw[qaS]at g27;obtain⟨L,n,g27⟩:=bnd g27;refine sq<|sq<|aQ (s':=(ofG 135 (kL b (wrap .u64 f) (qo .u64 b 32) (qw .u64 b 4294967295) (kQ (qw .u64 a 4294967295) e i (kAh (wrap .u64 ((wrap .u64 ((wrap .u64 ((orI .u64 c d)*4294967296))+(qo .u64 a 32)))-(wrap .u64 (e*b)))) l [(113,.bool L)]))),[])) ?_ ?_
   ·rcases wyD n with⟨A,n⟩|⟨A,n⟩
    ·cases n
     exact tr fol [2] (kL b (wrap .u64 f) (qo .u64 b 32) (qw .u64 b 4294967295) (kQ (qw .u64 a 4294967295) e i (kAh (wrap .u64 ((wrap .u64 ((wrap .u64 ((orI .u64 c d)*4294967296))+(qo .u64 a 32)))-(wrap .u64 (e*b)))) l [(113,.bool true)]))) (qd (gw A))
    cases n
    exact tr fol [2] (kL b (wrap .u64 f) (qo .u64 b 32) (qw .u64 b 4294967295) (kQ (qw .u64 a 4294967295) e i (kAh (wrap .u64 ((wrap .u64 ((wrap .u64 ((orI .u64 c d)*4294967296))+(qo .u64 a 32)))-(wrap .u64 (e*b)))) l [(113,.bool (decide ((wrap .u64 (l*(qw .u64 b 4294967295)))>(wrap .u64 ((wrap .u64 (4294967296*i))+(qw .u64 a 4294967295))))))]))) (qd (gw A))
   refine ihB g27 (λO g27=>?_) (λO g27=>?_)
   ·refine ag<|aj<|sh fol (kL b (wrap .u64 f) (qo .u64 b 32) (qw .u64 b 4294967295) (kQ (qw .u64 a 4294967295) e i (kAh (wrap .u64 ((wrap .u64 ((wrap .u64 ((orI .u64 c d)*4294967296))+(qo .u64 a 32)))-(wrap .u64 (e*b)))) (wrap .u64 (l-1)) [])))<|sh fol (kL b (wrap .u64 f) (qo .u64 b 32) (qw .u64 b 4294967295) (kQ (qw .u64 a 4294967295) e (wrap .u64 (i+(qo .u64 b 32))) (kAh (wrap .u64 ((wrap .u64 ((wrap .u64 ((orI .u64 c d)*4294967296))+(qo .u64 a 32)))-(wrap .u64 (e*b)))) (wrap .u64 (l-1)) [])))<|sh fol (kL b (wrap .u64 f) (qo .u64 b 32) (qw .u64 b 4294967295) (kQ (qw .u64 a 4294967295) e (wrap .u64 (i+(qo .u64 b 32))) (kAh (wrap .u64 ((wrap .u64 ((wrap .u64 ((orI .u64 c d)*4294967296))+(qo .u64 a 32)))-(wrap .u64 (e*b)))) (wrap .u64 (l-1)) [(120,.bool (decide ((wrap .u64 (i+(qo .u64 b 32)))>=4294967296)))])))<|ihD g27 (λP g27=>?_) (λP g27=>?_)
    ·cases g27
     exact aA<|⟨rfl,_,rfl,sK [2,8,14,15,17,18]⟩
    exact ag<|⟨M,(ofG 135 (kL b (wrap .u64 f) (qo .u64 b 32) (qw .u64 b 4294967295) (kQ (qw .u64 a 4294967295) e (wrap .u64 (i+(qo .u64 b 32))) (kAh (wrap .u64 ((wrap .u64 ((wrap .u64 ((orI .u64 c d)*4294967296))+(qo .u64 a 32)))-(wrap .u64 (e*b)))) (wrap .u64 (l-1)) []))),[]),aY _,(sK [2,8,9,10,14,15,16,17,18]),_,_,rfl,g27⟩
   cases g27
   exact aA<|⟨rfl,_,rfl,sK [2,8,14,15,17,18]⟩
 rintro x s' ⟨rfl,o,rfl,hsub⟩;obtain⟨Q,B,rfl⟩:=bs1 h;exact aq hsub<|sq<|gr fol [13] (kAQ (wrap .u64 ((wrap .u64 (e*4294967296))+o)) (kAn Q [])) (qd (wyh 193 .u64 B))<|ah<|gwt
def jP (b:List Int) (a:Int):Nat->(List Int)->Int->Option (List Int)
 |0,_,_=>none
 |K+1,f,c=>
  if c<(b.length:Int)then
  (((idx b c).bind λe=>
  (idx f c).bind λg=>
  (qhF .u64 e a).bind λh=>
  (put f c (orI .u64 g h)).bind λd=>
  if a>0 then
  (qj7 .u64 e (w64 (64-a))).bind λi=>
  (idx d (w64 (c+1))).bind λk=>
  (put d (w64 (c+1)) i).bind λj=>
  some j
  else
  some d:Option (List Int))).bind λl=>
  jP b a K l (w64 (c+1))
  else
  some f
def qag (N:Nat) (a:List Int) (b:Int):Option (List Int):=
 (mk 8 (w64 ((a.length:Int)+1)) 0).bind λc=>
 (jP a b N c 0).bind λd=>
 some d
def qed (N:Nat) (a:List Int) (b:Int) {w:List Int}(h:qag N a b=some w):qc ZT (.fn 216) [vl eU a,.i b] [] (.slice 0 0 w.length w.length 1) [.cells (w.flatMap eU.c)]:=by
 unfold qag at h;refine fH Tryz.func216 rfl ?_;intro B hB;obtain⟨y,u,A,g6,h⟩:=bn2 h;refine sh fol ((0,vl eU a)::(kBd b))<|sq<|gq fol [3] ((0,vl eU a)::(1,.i b)::(kG y [])) [.cells (y.flatMap eU.c)] (qd (wmr ja eU 0 u))<|sq<|sh fol ((1,.i b)::(kG y [(12,vl eU a),(13,.i (zl a)),(14,.i 0)]))<|aj<|gI (λx s'=>(x= .exit 0/\∃o,o=A/\Sub s' (ofG 40 (kG o []),[.cells (o.flatMap eU.c)]))) ?_ ?_
 ·refine Ua (λM s=>∃(p:List Int) (e:Int),s=(ofG 40 ((1,.i b)::(kG p ((12,vl eU a)::(kAX (zl a) e)))),[.cells (p.flatMap eU.c)])/\jP a b M p e=some A) ?_ (m:=N) ⟨_,_,rfl,g6⟩;rintro M s ⟨p,e,rfl,g6⟩
  cases M with
  |zero=>cases g6
  |succ M=>
   rw[jP]at g6;refine sh fol ((1,.i b)::(kG p ((12,vl eU a)::(13,.i (zl a))::(14,.i e)::(kBW (decide (e<(zl a)))))))<|sq<|ihD g6 (λC g6=>?_) (λC g6=>?_)
   ·obtain⟨D,g9,g6⟩:=bnd g6;refine ag<|sq<|gI (λx s'=>(x= .normal/\∃v,v=D/\Sub s' (ofG 40 ((1,.i b)::(kG v ((12,vl eU a)::(kAX (zl a) e)))),[.cells (v.flatMap eU.c)]))) ?_ ?_
    ·obtain⟨n,f,E,d,F,q,g,j,g9⟩:=bn4 g9;refine aj<|sq<|gr fol [1,2] ((1,.i b)::(kG p ((6,.i e)::(kAn n ((12,vl eU a)::(kAX (zl a) e)))))) (qj (iv ja eU f) (lv 0 jk eU f rfl))<|sq<|gq fol [2,3,6,8,9] ((1,.i b)::(kG p ((6,.i e)::(kAn n ((12,vl eU a)::(kAX (zl a) e)))))) [.cells (g.flatMap eU.c)] (qbE (wis ja 0 d) (wlp jk 0 rfl d rfl) (wxl 193 q) (wis ja 0 d) (wsp 193 0 rfl d j rfl))<|gS ((1,.i b)::(kG g ((6,.i e)::(kAn n ((12,vl eU a)::(kAX (zl a) e)))))) [.cells (g.flatMap eU.c)] (sB hB [] [some 0] (kk (ke (.sliceE rfl (zD j)) kz)) (.ks .nil))<|sh fol ((1,.i b)::(kG g ((6,.i e)::(kAn n [(12,vl eU a),(13,.i (zl a)),(14,.i e),(29,.bool (decide (b>0)))]))))<|ihD g9 (λz g9=>?_) (λz g9=>?_)
     ·obtain⟨G,r,H,k,t,l,rfl⟩:=bs3 g9;exact gq fol [6,7,8] ((1,.i b)::(kG g ((12,vl eU a)::(kAX (zl a) e)))) [.cells (t.flatMap eU.c)] (qA (wxh 193 r) (wis ja 0 k) (wsp 193 0 rfl k l rfl))<|⟨rfl,_,rfl,((show Sub _ (ofG 40 ((1,.i b)::(kG t ((12,vl eU a)::(kAX (zl a) e)))),[.cells (t.flatMap eU.c)])from(sB hB [] [some 0] (kk (ke (.sliceE rfl (zD l)) kz)) (.ks .nil))).trans (bm _))⟩
     cases g9
     exact ag<|⟨rfl,_,rfl,sK [1,5,12,13,14]⟩
    rintro x s' ⟨rfl,v,rfl,hsub⟩;exact aq hsub<|gh fol ((1,.i b)::(kG v ((12,vl eU a)::(kAX (zl a) (w64 (e+1))))))<|qY ⟨_,_,rfl,g6⟩
   cases g6
   exact aA<|⟨rfl,_,rfl,sK [5]⟩
 rintro x s' ⟨rfl,o,rfl,hsub⟩;obtain rfl:=si h;exact aq hsub<|sh fol [(4,.slice 0 0 o.length o.length 1)]<|ah<|(gh2 [.slice 0 0 o.length o.length 1] (di _ _))
def qan (e:List Int) (f g:Nat) (a:List Int):Nat->Int->Int->Int->Option Int
 |0,_,_,_=>none
 |K+1,b,c,i=>
  if i=0 then
  (idx a (w64 ((a.length:Int)-2))).bind λj=>
  (bits_Mul64 b j).bind λd=>
  (if d.1<c then
  some true
  else
  if d.1=c then
  (qgP e f g (w64 ((a.length:Int)-2))).bind λk=>
  some (decide (d.2<=k))
  else
  some false:Option Bool).bind λl=>
  if l=true then
  some b
  else
  (idx a (w64 ((a.length:Int)-1))).bind λm=>
  (qaV c m 0).bind λh=>
  qan e f g a K (wrap .u64 (b-1)) h.1 h.2
  else
  some b
def y9 (b e:Nat) (c:List Int) (f:Int):Nat->(List Int)->Int->Int->Int->Option ((List Int)×Int×Int)
 |0,_,_,_,_=>none
 |K+1,d,a,g,h=>
  if a<(c.length:Int)then
  (idx c a).bind λl=>
  (bits_Mul64 f l).bind λi=>
  (qaV i.2 h 0).bind λj=>
  (qgP d b e a).bind λm=>
  (qfC m j.1 g).bind λk=>
  (put d ((b+(a:Int).toNat:Nat):Int) k.1).bind λn=>
  y9 b e c f K n (w64 (a+1)) k.2 (wrap .u64 (i.1+j.2))
  else
  some (d,g,h)
def xm (b e:Nat) (c:List Int):Nat->(List Int)->Int->Int->Option ((List Int)×Int)
 |0,_,_,_=>none
 |K+1,d,a,f=>
  if a<(c.length:Int)then
  (qgP d b e a).bind λh=>
  (idx c a).bind λi=>
  (qaV h i f).bind λg=>
  (put d ((b+(a:Int).toNat:Nat):Int) g.1).bind λj=>
  xm b e c K j (w64 (a+1)) g.2
  else
  some (d,f)
def qcZ (N:Nat) (d:List Int) (b c v:Nat) (a:List Int):Option ((List Int)×Int):=
 (qgP d b c (a.length:Int)).bind λu=>
 (idx a (w64 ((a.length:Int)-1))).bind λl=>
 ((if u>=l then
 (qgP d b c (w64 ((a.length:Int)-1))).bind λm=>
 (qaV m l 0).bind λf=>
 some (18446744073709551615,f.1,f.2)
 else
 (qgP d b c (w64 ((a.length:Int)-1))).bind λn=>
 (qbY N u n l).bind λg=>
 some (g.1,g.2,0):Option (Int×Int×Int))).bind λ(w,x,y)=>
 (qan d b c a N w x y).bind λe=>
 (y9 b c a e N d 0 0 0).bind λ(h,o,p)=>
 (qgP h b c (a.length:Int)).bind λq=>
 (qfC q p o).bind λi=>
 (put h ((b+((a.length:Int):Int).toNat:Nat):Int) i.1).bind λj=>
 if i.2=0 then
 some (j,e)
 else
 (xm b c a N j 0 0).bind λ(k,r)=>
 (qgP k b c (a.length:Int)).bind λs=>
 (put k ((b+((a.length:Int):Int).toNat:Nat):Int) (wrap .u64 (s+r))).bind λt=>
 some (t,wrap .u64 (e-1))
def qjp (N:Nat) (z:List Int) (d e b:Nat) (a:List Int) {l1:List Int}{n2:Int}(h:qcZ N z d e b a=some (l1,n2)):qc ZT (.fn 217) [.slice 0 d e b 1,vl eU a] [.cells (z.flatMap eU.c)] (.int .u64 n2) [.cells (l1.flatMap eU.c)]:=by
 unfold qcZ at h;refine fH Tryz.func217 rfl ?_;intro B hB;obtain⟨x3,A,x4,q,r8,g8,h⟩:=bn3 h;refine sh fol [(0,.slice 0 d e b 1),(1,vl eU a)]<|sh fol ((0,.slice 0 d e b 1)::(1,vl eU a)::(kAy (zl a)))<|sh fol ((0,.slice 0 d e b 1)::(1,vl eU a)::(kAy (zl a)))<|sh fol ((0,.slice 0 d e b 1)::(1,vl eU a)::(5,.i (zl a))::(kBp []))<|sq<|sq<|gr fol [2,3,7,8] ((0,.slice 0 d e b 1)::(1,vl eU a)::(5,.i (zl a))::(kBp [(30,.bool (decide (x3>=x4)))])) (zO (wiw ja 0 b A) (wlp jk 0 rfl (wI A) rfl) (iv ja eU q) (lv 0 jk eU q rfl))<|gI (λx s'=>(x= .normal/\∃n5 n6 n7,(n5,n6,n7)=r8/\Sub s' (ofG 186 ((0,.slice 0 d e b 1)::(1,vl eU a)::(kT (zl a) n5 (kAI n6 n7 []))),[.cells (z.flatMap eU.c)]))) ?_ ?_
 ·refine ihD g8 (λc9 g8=>?_) (λc9 g8=>?_)
  ·obtain⟨x10,D,b7,Q,rfl⟩:=bs2 g8;exact sh fol [(0,.slice 0 d e b 1),(1,vl eU a),(5,.i (zl a)),(6,.int .u64 18446744073709551615)]<|gr fol [3,4,8,9,10] ((0,.slice 0 d e b 1)::(1,vl eU a)::(5,.i (zl a))::(6,.int .u64 18446744073709551615)::(kAI b7.1 b7.2 [])) (qbE (wiw ja 0 b D) (wlp jk 0 rfl (wI D) rfl) (iv ja eU q) (lv 0 jk eU q rfl) (cv (qdC x10 x4 0 Q)))<|⟨rfl,_,_,_,rfl,(bm _)⟩
  obtain⟨x13,E,b8,U,rfl⟩:=bs2 g8;exact gr fol [2,3,7,8,12,13,14] ((0,.slice 0 d e b 1)::(1,vl eU a)::(kT (zl a) b8.1 (kAn b8.2 (kBp [])))) (qgD (wiw ja 0 b A) (wlp jk 0 rfl (wI A) rfl) (wiw ja 0 b E) (wlp jk 0 rfl (wI E) rfl) (iv ja eU q) (lv 0 jk eU q rfl) (cv (qgp N x3 x13 x4 U)))<|⟨rfl,_,_,_,rfl,(bm _)⟩
 rintro x s' ⟨rfl,n5,n6,n7,rfl,hsub⟩;obtain⟨b9,g19,h⟩:=bnd h;refine aq hsub<|sq<|aj<|gI (λx s'=>(x= .exit 0/\∃f,f=b9/\Sub s' (ofG 186 ((0,.slice 0 d e b 1)::(1,vl eU a)::(kT (zl a) f [])),[.cells (z.flatMap eU.c)]))) ?_ ?_
 ·refine Ua (λM s=>∃(k:Int) (l:Int) (K:Int),s=(ofG 186 ((0,.slice 0 d e b 1)::(1,vl eU a)::(kT (zl a) k (kAI l K []))),[.cells (z.flatMap eU.c)])/\qan z d e a M k l K=some b9) ?_ (m:=N) ⟨_,_,_,rfl,g19⟩;rintro M s ⟨k,l,K,rfl,g19⟩
  cases M with
  |zero=>cases g19
  |succ M=>
   rw[qan]at g19;refine sq<|sh fol ((0,.slice 0 d e b 1)::(1,vl eU a)::(kT (zl a) k (kAn l [(64,.bool (decide (K=0)))])))<|ihD g19 (λc20 g19=>?_) (λc20 g19=>?_)
   ·obtain⟨x21,F,V,X,b26,g,g19⟩:=bn3 g19;refine ag<|aj<|sq<|gr fol [4,5,6] ((0,.slice 0 d e b 1)::(1,vl eU a)::(kT (zl a) k (kAn l [(9,.int .u64 V.1),(10,.int .u64 V.2)]))) (qA (iv ja eU F) (lv 0 jk eU F rfl) (cv (qbJ k x21 X)))<|sq<|sq<|aQ (s':=(ofG 186 ((0,.slice 0 d e b 1)::(1,vl eU a)::(kT (zl a) k (kAn l [(91,.bool b26)]))),[.cells (z.flatMap eU.c)])) ?_ ?_
    ·rcases wyD g with⟨L,g⟩|⟨L,g⟩
     ·cases g
      exact tr fol [3] ((0,.slice 0 d e b 1)::(1,vl eU a)::(kT (zl a) k (kAn l [(91,.bool true)]))) (qd (gw L))
     rcases wyD g with⟨Y,g⟩|⟨Y,g⟩
     ·obtain⟨x25,G,rfl⟩:=bs1 g;exact tr fol [3,7,12,13] ((0,.slice 0 d e b 1)::(1,vl eU a)::(kT (zl a) k (kAn l [(91,.bool (decide (V.2<=x25)))]))) (zO (gw L) (gw Y) (wiw ja 0 b G) (wlp jk 0 rfl (wI G) rfl))
     cases g
     exact tr fol [3,7] ((0,.slice 0 d e b 1)::(1,vl eU a)::(kT (zl a) k (kAn l [(91,.bool false)]))) (qj (gw L) (gw Y))
    refine ihB g19 (λc28 g19=>?_) (λc28 g19=>?_)
    ·cases g19
     exact aA<|⟨rfl,_,rfl,sK [0,1,5,6]⟩
    obtain⟨x29,H,c0,Z,g19⟩:=bn2 g19;exact ag<|sh fol ((0,.slice 0 d e b 1)::(1,vl eU a)::(kT (zl a) (wrap .u64 (k-1)) (kAn l [])))<|gr fol [4,5,6] ((0,.slice 0 d e b 1)::(1,vl eU a)::(kT (zl a) (wrap .u64 (k-1)) (kAI c0.1 c0.2 []))) (qA (iv ja eU H) (lv 0 jk eU H rfl) (cv (qdC l x29 0 Z)))<|qY ⟨_,_,_,rfl,g19⟩
   cases g19
   exact aA<|⟨rfl,_,rfl,sK [0,1,5,6]⟩
 rintro x s' ⟨rfl,f,rfl,hsub⟩;obtain⟨c1,g38,h⟩:=bnd h;refine aq hsub<|sh fol ((0,.slice 0 d e b 1)::(1,vl eU a)::(kT (zl a) f [(11,.int .u64 0),(12,.int .u64 0)]))<|sq<|sh fol ((0,.slice 0 d e b 1)::(1,vl eU a)::(kT (zl a) f [(11,.int .u64 0),(12,.int .u64 0),(104,.i (zl a)),(105,.i 0)]))<|aj<|gI (λx s'=>(x= .exit 2/\∃a0 O P,(a0,O,P)=c1/\Sub s' (ofG 186 ((0,.slice 0 d e b 1)::(1,vl eU a)::(kT (zl a) f (kAE O P []))),[.cells (a0.flatMap eU.c)]))) ?_ ?_
 ·refine Ua (λM s=>∃(a1:List Int) (j:Int) (n:Int) (w:Int),s=(ofG 186 ((0,.slice 0 d e b 1)::(1,vl eU a)::(kT (zl a) f (kAE n w (kA4 (zl a) j)))),[.cells (a1.flatMap eU.c)])/\y9 d e a f M a1 j n w=some c1) ?_ (m:=N) ⟨_,_,_,_,rfl,g38⟩;rintro M s ⟨a1,j,n,w,rfl,g38⟩
  cases M with
  |zero=>cases g38
  |succ M=>
   rw[y9]at g38;refine sh fol ((0,.slice 0 d e b 1)::(1,vl eU a)::(kT (zl a) f (kAE n w [(104,.i (zl a)),(105,.i j),(106,.bool (decide (j<(zl a))))])))<|sq<|ihD g38 (λc39 g38=>?_) (λc39 g38=>?_)
   ·obtain⟨x40,I,o,a2,y,a3,x43,r,a4,a5,c2,a6,g38⟩:=bn6 g38;exact ag<|sq<|aj<|sh fol ((0,.slice 0 d e b 1)::(1,vl eU a)::(kT (zl a) f (kAE n w ((13,.i j)::(kA4 (zl a) j)))))<|sq<|gr fol [3,4,5] ((0,.slice 0 d e b 1)::(1,vl eU a)::(kT (zl a) f (kAE n w ((13,.i j)::(kBH o.1 o.2 (kA4 (zl a) j)))))) (qA (iv ja eU I) (lv 0 jk eU I rfl) (cv (qbJ f x40 a2)))<|sh fol ((0,.slice 0 d e b 1)::(1,vl eU a)::(kT (zl a) f (kAE n w ((13,.i j)::(kBH o.1 o.2 (kA4 (zl a) j))))))<|sq<|gr fol [2] ((0,.slice 0 d e b 1)::(1,vl eU a)::(kT (zl a) f ((11,.int .u64 n)::(13,.i j)::(kQ o.1 y.1 y.2 (kA4 (zl a) j))))) (qd (cv (qdC o.2 w 0 a3)))<|sh fol ((0,.slice 0 d e b 1)::(1,vl eU a)::(kT (zl a) f (kAE n (wrap .u64 (o.1+y.2)) ((13,.i j)::(15,.int .u64 y.1)::(kA4 (zl a) j)))))<|gq fol [4,5,8,12,13] ((0,.slice 0 d e b 1)::(1,vl eU a)::(kT (zl a) f (kAE a4.2 (wrap .u64 (o.1+y.2)) (kA4 (zl a) j)))) [.cells (c2.flatMap eU.c)] (qbE (wiw ja 0 b r) (wlp jk 0 rfl (wI r) rfl) (cv (qjO x43 y.1 n a5)) (wiw ja 0 b r) (wsp 193 0 rfl (wI r) a6 rfl))<|gS ((0,.slice 0 d e b 1)::(1,vl eU a)::(kT (zl a) f (kAE a4.2 (wrap .u64 (o.1+y.2)) (kA4 (zl a) j)))) [.cells (c2.flatMap eU.c)] (sB hB [] [some 0] kz (.ks .nil))<|gh fol ((0,.slice 0 d e b 1)::(1,vl eU a)::(kT (zl a) f (kAE a4.2 (wrap .u64 (o.1+y.2)) (kA4 (zl a) (w64 (j+1))))))<|qY ⟨_,_,_,_,rfl,g38⟩
   cases g38
   exact aA<|⟨rfl,_,_,_,rfl,sK [0,1,5,6,11,12]⟩
 rintro x s' ⟨rfl,a0,O,P,rfl,hsub⟩;obtain⟨x47,t,a7,a8,c3,a9,h⟩:=bn3 h;refine aq hsub<|sq<|gq fol [4,5,8,12,13] ((0,.slice 0 d e b 1)::(1,vl eU a)::(kT (zl a) f [(11,.int .u64 a7.2)])) [.cells (c3.flatMap eU.c)] (qbE (wiw ja 0 b t) (wlp jk 0 rfl (wI t) rfl) (cv (qjO x47 P O a8)) (wiw ja 0 b t) (wsp 193 0 rfl (wI t) a9 rfl))<|gS ((0,.slice 0 d e b 1)::(1,vl eU a)::(kT (zl a) f [(11,.int .u64 a7.2)])) [.cells (c3.flatMap eU.c)] (sB hB [] [some 0] kz (.ks .nil))<|sq<|sh fol ((0,.slice 0 d e b 1)::(1,vl eU a)::(kT (zl a) f [(154,.bool (decide (a7.2=0)))]))<|ihD h (λc51 h=>?_) (λc51 h=>?_)
 ·refine sh fol [(4,.int .u64 f)]<|ah ?_;simp only[ZI,ZP]at h;obtain⟨rfl,rfl⟩:=h;exact(gh2 [.int .u64 f] (di _ _))
 obtain⟨c4,g57,h⟩:=bnd h;refine ag<|sh fol ((0,.slice 0 d e b 1)::(1,vl eU a)::(kT (zl a) f [(17,.int .u64 0)]))<|sq<|sh fol ((0,.slice 0 d e b 1)::(1,vl eU a)::(kT (zl a) f [(17,.int .u64 0),(156,.i (zl a)),(157,.i 0)]))<|aj<|gI (λx s'=>(x= .exit 4/\∃b0 b1,(b0,b1)=c4/\Sub s' (ofG 186 ((0,.slice 0 d e b 1)::(kT (zl a) f [(17,.int .u64 b1)])),[.cells (b0.flatMap eU.c)]))) ?_ ?_
 ·refine Ua (λM s=>∃(b2:List Int) (p:Int) (C:Int),s=(ofG 186 ((0,.slice 0 d e b 1)::(1,vl eU a)::(kT (zl a) f (kA8 C (zl a) p []))),[.cells (b2.flatMap eU.c)])/\xm d e a M b2 p C=some c4) ?_ (m:=N) ⟨_,_,_,rfl,g57⟩;rintro M s ⟨b2,p,C,rfl,g57⟩
  cases M with
  |zero=>cases g57
  |succ M=>
   rw[xm]at g57;refine sh fol ((0,.slice 0 d e b 1)::(1,vl eU a)::(kT (zl a) f (kA8 C (zl a) p [(158,.bool (decide (p<(zl a))))])))<|sq<|ihD g57 (λc58 g57=>?_) (λc58 g57=>?_)
   ·obtain⟨x59,u,x60,J,b3,b4,c5,b5,g57⟩:=bn4 g57;exact ag<|sq<|aj<|sh fol ((0,.slice 0 d e b 1)::(1,vl eU a)::(kT (zl a) f [(17,.int .u64 C),(18,.i p),(156,.i (zl a)),(157,.i p)]))<|gq fol [4,5,8,9,11,15,16] ((0,.slice 0 d e b 1)::(1,vl eU a)::(kT (zl a) f (kA8 b3.2 (zl a) p []))) [.cells (c5.flatMap eU.c)] (qgD (wiw ja 0 b u) (wlp jk 0 rfl (wI u) rfl) (iv ja eU J) (lv 0 jk eU J rfl) (cv (qdC x59 x60 C b4)) (wiw ja 0 b u) (wsp 193 0 rfl (wI u) b5 rfl))<|gS ((0,.slice 0 d e b 1)::(1,vl eU a)::(kT (zl a) f (kA8 b3.2 (zl a) p []))) [.cells (c5.flatMap eU.c)] (sB hB [] [some 0] kz (.ks .nil))<|gh fol ((0,.slice 0 d e b 1)::(1,vl eU a)::(kT (zl a) f (kA8 b3.2 (zl a) (w64 (p+1)) [])))<|qY ⟨_,_,_,rfl,g57⟩
   cases g57
   exact aA<|⟨rfl,_,_,rfl,sK [0,5,6,17]⟩
 rintro x s' ⟨rfl,b0,b1,rfl,hsub⟩;obtain⟨x64,v,c6,b6,h⟩:=bn2 h;refine aq hsub<|sq<|gq fol [2,3,6,7] (kAQ f []) [.cells (c6.flatMap eU.c)] (zO (wiw ja 0 b v) (wlp jk 0 rfl (wI v) rfl) (wiw ja 0 b v) (wsp 193 0 rfl (wI v) b6 rfl))<|gS (kAQ f []) [.cells (c6.flatMap eU.c)] (sB hB [] [some 0] kz (.ks .nil))<|sh fol [(4,.int .u64 (wrap .u64 (f-1)))]<|ah ?_;simp only[ZI,ZP]at h;obtain⟨rfl,rfl⟩:=h;exact(gh2 [.int .u64 (wrap .u64 (f-1))] (di _ _))
def xZ (N:Nat) (a b:List Int):Nat->(List Int)->Int->Int->Option ((List Int)×Int)
 |0,_,_,_=>none
 |K+1,e,i,c=>
  if c>=0 then
  (idx a c).bind λf=>
  (idx b 0).bind λg=>
  (qbY N i f g).bind λd=>
  (idx e c).bind λj=>
  (put e c d.1).bind λh=>
  xZ N a b K h d.2 (w64 (c-1))
  else
  some (e,i)
def xU (N:Nat) (c:List Int):Nat->(List Int)->(List Int)->Int->Option ((List Int)×(List Int))
 |0,_,_,_=>none
 |K+1,b,d,a=>
  if a>=0 then
  (win b a (w64 ((w64 (a+(c.length:Int)))+1))).bind λ(e,g)=>
  (qcZ N b e g (b.length-e) c).bind λ(f,h)=>
  ((if b.length=f.length then some ()else none:Option Unit)).bind λj=>
  (idx d a).bind λk=>
  (put d a h).bind λi=>
  xU N c K f i (w64 (a-1))
  else
  some (b,d)
def yN (c:Int) (e:List Int):Nat->(List Int)->Int->Option (List Int)
 |0,_,_=>none
 |K+1,d,a=>
  if a<(e.length:Int)then
  (((idx d a).bind λf=>
  (qj7 .u64 f c).bind λg=>
  (put d a g).bind λb=>
  (if c>0 then
  some (decide ((w64 (a+1))<(b.length:Int)))
  else
  some false:Option Bool).bind λh=>
  if h=true then
  (idx b a).bind λi=>
  (idx b (w64 (a+1))).bind λj=>
  (qhF .u64 j (w64 (64-c))).bind λk=>
  (put b a (orI .u64 i k)).bind λl=>
  some l
  else
  some b:Option (List Int))).bind λm=>
  yN c e K m (w64 (a+1))
  else
  some d
def qbT (N:Nat) (a b:List Int):Option ((List Int)×(List Int)):=
 (vC N a b).bind λq=>
 if q<0 then
 some ([],a)
 else
 if(b.length:Int)=1 then
 (mk 8 (a.length:Int) 0).bind λr=>
 (xZ N a b N r 0 (w64 ((a.length:Int)-1))).bind λ(s,t)=>
 (qak N s).bind λe=>
 (qak N ([t]:List Int)).bind λf=>
 some (e,f)
 else
 (idx b (w64 ((b.length:Int)-1))).bind λg=>
 (bits_LeadingZeros64 g).bind λd=>
 (qag N b d).bind λh=>
 (qak N h).bind λc=>
 (qag N a d).bind λi=>
 (mk 8 (w64 ((w64 ((a.length:Int)-(c.length:Int)))+1)) 0).bind λj=>
 (xU N c N i j (w64 ((a.length:Int)-(c.length:Int)))).bind λ(k,l)=>
 (yN d c N k 0).bind λm=>
 (qak N l).bind λn=>
 (cut m 0 (c.length:Int)).bind λo=>
 (qak N o).bind λp=>
 some (n,p)
def qgr (N:Nat) (a b:List Int) {res:(List Int)×(List Int)}(h:qbT N a b=some res):qc ZT (.fn 183) [vl eU a,vl eU b] [] (.tuple [vl eU res.1,vl eU res.2]) []:=by
 unfold qbT at h;obtain⟨r1,e_r1,h⟩:=bnd h;refine fW Tryz.func183 rfl<|sh fol [(0,vl eU a),(1,vl eU b)]<|sq<|sq<|gr fol [2] [(0,vl eU a),(1,vl eU b),(19,.bool (decide (r1<0)))] (qd (cv (qdd N a b e_r1)))<|ihD h (λc2 h=>?_) (λc2 h=>?_)
 ·cases h
  exact sh fol (kBY [(5,vl eU a)])<|ah<|(gw2 [.nilslice,vl eU a] (cj (ba (dw (E:=eU)) (ba (Ub (yI eU _ (nl rfl))) ci))))
 refine ag<|sq<|sh fol [(0,vl eU a),(1,vl eU b),(23,.bool (decide ((zl b)=1)))]<|ihD h (λc3 h=>?_) (λc3 h=>?_)
 ·obtain⟨l4,e_l4,r10,g10,h⟩:=bn2 h;refine sq<|gq fol [2] ((0,vl eU a)::(1,vl eU b)::(kU l4 [])) [.cells (l4.flatMap eU.c)] (qd (wmr ja eU 0 e_l4))<|sh fol ((0,vl eU a)::(1,vl eU b)::(kU l4 [(7,.int .u64 0)]))<|sq<|sh fol ((0,vl eU a)::(1,vl eU b)::(kU l4 [(7,.int .u64 0),(8,.i (w64 ((zl a)-1)))]))<|aj<|gI (λx s'=>(x= .exit 0/\∃L n9,(L,n9)=r10/\Sub s' (ofG 137 (kU L (kAn n9 [])),[.cells (L.flatMap eU.c)]))) ?_ ?_
  ·refine Ua (λM s=>∃(l5:List Int) (n6:Int) (U:Int),s=(ofG 137 ((0,vl eU a)::(1,vl eU b)::(kU l5 (kAn n6 [(8,.i U)]))),[.cells (l5.flatMap eU.c)])/\xZ N a b M l5 n6 U=some r10) ?_ (m:=N) ⟨_,_,_,rfl,g10⟩;rintro M s ⟨l5,n6,U,rfl,g10⟩
   cases M with
   |zero=>cases g10
   |succ M=>
    rw[xZ]at g10;refine sq<|sh fol ((0,vl eU a)::(1,vl eU b)::(kU l5 (kAn n6 [(8,.i U),(31,.bool (decide (U>=0)))])))<|ihD g10 (λc11 g10=>?_) (λc11 g10=>?_)
    ·obtain⟨x12,v,x13,w,V,X,x15,y,O,z,g10⟩:=bn5 g10;exact ag<|sq<|aj<|gq fol [5,6,8,9,10,14,15] ((0,vl eU a)::(1,vl eU b)::(kU l5 (kAn V.2 [(8,.i U)]))) [.cells (O.flatMap eU.c)] (qgD (iv ja eU v) (lv 0 jk eU v rfl) (iv ja eU w) (lv 0 jk eU w rfl) (cv (qgp N n6 x12 x13 X)) (wis ja 0 y) (wsp 193 0 rfl y z rfl))<|gN [] [some 0] ((0,vl eU a)::(1,vl eU b)::(kU O (kAn V.2 [(8,.i U)]))) [.cells (O.flatMap eU.c)] (kk (kk (ke (.sliceE rfl (zD z)) kz))) (.ks .nil)<|gh fol ((0,vl eU a)::(1,vl eU b)::(kU O (kAn V.2 [(8,.i (w64 (U-1)))])))<|qY ⟨_,_,_,rfl,g10⟩
    cases g10
    exact aA<|⟨rfl,_,_,rfl,sK [6,7]⟩
  rintro x s' ⟨rfl,L,n9,rfl,hsub⟩;obtain⟨r17,Y,r18,Z,rfl⟩:=bs2 h;exact aq hsub<|sq<|gq fol [1,4] [(4,vl eU r17),(5,vl eU r18)] [.frozen (L.flatMap eU.c),.frozen [.int .u64 n9]] (qj (wcf [.slice 0 0 L.length L.length 1] [0] (bi (eL (E:=eU) rfl rfl (nl rfl)) bB) (qas N L Y)) (hx [.frozen (L.flatMap eU.c),.cells [.int .u64 n9]] (wcf [.slice 1 0 1 1 1] [1] (bi (dX rfl rfl (Uf (bn tI cF))) bB) (qas N ([n9]:List Int) Z))))<|gN [] [] [(4,vl eU r17),(5,vl eU r18)] [] kz .nil<|ah<|gwt
 obtain⟨x19,A,f,a0,r,a1,d,a2,j,a3,a4,a5,r32,g32,h⟩:=bn7 h;refine ag<|sq<|gr fol [4,5,6] [(0,vl eU a),(1,vl eU b),(9,.i f)] (qA (iv ja eU A) (lv 0 jk eU A rfl) (cv (qcl x19 a0)))<|sq<|gq fol [2,3] [(0,vl eU a),(9,.i f),(10,vl eU d)] [.frozen (r.flatMap eU.c)] (qj (wch [] (.slice 0 0 r.length r.length 1) [.cells (r.flatMap eU.c)] [] [some 0] (qed N b f a1) .nil (.new rfl rfl (.same fa) rfl .nil) (rc (.same (kr eU _)) (rc (.same nI) rn)) (.slice rfl)) (wcf [.slice 0 0 r.length r.length 1] [0] (bi (eL (E:=eU) rfl rfl (nl rfl)) bB) (qas N r a2)))<|gN [] [] [(0,vl eU a),(9,.i f),(10,vl eU d)] [] kz .nil<|sq<|gq fol [2] [(0,vl eU a),(9,.i f),(10,vl eU d),(11,.slice 0 0 j.length j.length 1)] [.cells (j.flatMap eU.c)] (qd (wch [] (.slice 0 0 j.length j.length 1) [.cells (j.flatMap eU.c)] [] [some 0] (qed N a f a3) .nil (.new rfl rfl (.same fa) rfl .nil) (rc (.same (kr eU _)) (rc (.same nI) rn)) (.slice rfl)))<|sh fol ((0,vl eU a)::(9,.i f)::(10,vl eU d)::(11,.slice 0 0 j.length j.length 1)::(kBl (zl d)))<|sq<|gq fol [5] ((0,vl eU a)::(9,.i f)::(10,vl eU d)::(kH j (zl d) a4 [])) [.cells (j.flatMap eU.c),.cells (a4.flatMap eU.c)] (qd (wmr ja eU 0 a5))<|sq<|sh fol ((9,.i f)::(10,vl eU d)::(kH j (zl d) a4 (kBk (w64 ((zl a)-(zl d))))))<|aj<|gI (λx s'=>(x= .exit 2/\∃B e,(B,e)=r32/\Sub s' (ofG 137 ((9,.i f)::(kH B (zl d) e [])),[.cells (B.flatMap eU.c),.cells (e.flatMap eU.c)]))) ?_ ?_
 ·refine Ua (λM s=>∃(k:List Int) (t:List Int) (n:Int),s=(ofG 137 ((9,.i f)::(10,vl eU d)::(kH k (zl d) t (kBk n))),[.cells (k.flatMap eU.c),.cells (t.flatMap eU.c)])/\xU N d M k t n=some r32) ?_ (m:=N) ⟨_,_,_,rfl,g32⟩;rintro M s ⟨k,t,n,rfl,g32⟩
  cases M with
  |zero=>cases g32
  |succ M=>
   rw[xU]at g32;refine sq<|sh fol ((9,.i f)::(10,vl eU d)::(kH k (zl d) t [(14,.i n),(81,.bool (decide (n>=0)))]))<|ihD g32 (λc33 g32=>?_) (λc33 g32=>?_)
   ·refine ag<|sq (aj ?_);obtain⟨⟨P,n36⟩,a6,g32⟩:=bnd g32;obtain⟨⟨C,n39⟩,a7,g32⟩:=bnd g32;obtain⟨u40,a8,x41,D,Q,F,g32⟩:=bn3 g32;exact gq fol [8,10,11,12] ((9,.i f)::(10,vl eU d)::(kH k (zl d) t (kBk n))) [.cells (C.flatMap eU.c),.cells (Q.flatMap eU.c)] (zO (hs (.done (.opt (zV ZT 79 (.slice 0 0 k.length k.length 1) (some (.i n)) (some (.i (w64 ((w64 (n+(zl d)))+1)))) none)) (.slice 0 P n36 (k.length-P) 1)) (wn_ix ja a6)) (wch [0] (.int .u64 n39) [.cells (C.flatMap eU.c),.cells (t.flatMap eU.c)] [some 0] [some 0,none] (qjp N k P n36 (k.length-P) d a7) (.ks .nil) (.back rfl rfl (.same fa) rfl (.old rfl rfl .nil)) (rc (.slice rfl) (rc (.same (kr eU _)) rn)) (.same nI)) (wis ja 1 D) (wsp 193 1 rfl D F rfl))<|gN [] [some 0,some 1] ((9,.i f)::(10,vl eU d)::(kH C (zl d) Q (kBk n))) [.cells (C.flatMap eU.c),.cells (Q.flatMap eU.c)] (kk (kk (ke (.sliceE rfl (qli a8)) (kk (ke (.sliceE rfl (zD F)) kz))))) (.ks (.ks .nil))<|gh fol ((9,.i f)::(10,vl eU d)::(kH C (zl d) Q (kBk (w64 (n-1)))))<|qY ⟨_,_,_,rfl,g32⟩
   cases g32
   exact aA<|⟨rfl,_,_,rfl,sK [9,11,12,13]⟩
 rintro x s' ⟨rfl,B,e,rfl,hsub⟩;obtain⟨r46,g46,h⟩:=bnd h;refine aq hsub<|sq<|sh fol ((9,.i f)::(kH B (zl d) e [(96,.i (zl d)),(97,.i 0)]))<|aj<|gI (λx s'=>(x= .exit 4/\∃G,G=r46/\Sub s' (ofG 137 (kH G (zl d) e []),[.cells (G.flatMap eU.c),.cells (e.flatMap eU.c)]))) ?_ ?_
 ·refine Ua (λM s=>∃(u:List Int) (g:Int),s=(ofG 137 ((9,.i f)::(kH u (zl d) e (kBF (zl d) g))),[.cells (u.flatMap eU.c),.cells (e.flatMap eU.c)])/\yN f d M u g=some r46) ?_ (m:=N) ⟨_,_,rfl,g46⟩;rintro M s ⟨u,g,rfl,g46⟩
  cases M with
  |zero=>cases g46
  |succ M=>
   rw[yN]at g46;refine sh fol ((9,.i f)::(kH u (zl d) e [(96,.i (zl d)),(97,.i g),(98,.bool (decide (g<(zl d))))]))<|sq<|ihD g46 (λc47 g46=>?_) (λc47 g46=>?_)
   ·obtain⟨r49,g49,g46⟩:=bnd g46;refine ag<|sq<|gI (λx s'=>(x= .normal/\∃H,H=r49/\Sub s' (ofG 137 ((9,.i f)::(kH H (zl d) e (kBF (zl d) g))),[.cells (H.flatMap eU.c),.cells (e.flatMap eU.c)]))) ?_ ?_
    ·obtain⟨x50,o,q51,a9,p,I,b54,l,g49⟩:=bn4 g49;refine aj<|sh fol ((9,.i f)::(kH u (zl d) e ((15,.i g)::(kBF (zl d) g))))<|sq<|gq fol [2,3,5,6,7] ((9,.i f)::(kH u (zl d) e ((15,.i g)::(kBF (zl d) g)))) [.cells (p.flatMap eU.c),.cells (e.flatMap eU.c)] (qbE (wis ja 0 o) (wlp jk 0 rfl o rfl) (wxh 193 a9) (wis ja 0 o) (wsp 193 0 rfl o I rfl))<|gN [] [some 0,some 1] ((9,.i f)::(kH p (zl d) e ((15,.i g)::(kBF (zl d) g)))) [.cells (p.flatMap eU.c),.cells (e.flatMap eU.c)] (kk (ke (.sliceE rfl (zD I)) kz)) (.ks (.ks .nil))<|sq<|aQ (s':=(ofG 137 ((9,.i f)::(kH p (zl d) e [(15,.i g),(96,.i (zl d)),(97,.i g),(115,.bool b54)])),[.cells (p.flatMap eU.c),.cells (e.flatMap eU.c)])) ?_ ?_
     ·rcases wyD l with⟨b0,l⟩|⟨b0,l⟩
      ·cases l
       exact tr fol [2] ((9,.i f)::(kH p (zl d) e [(15,.i g),(96,.i (zl d)),(97,.i g),(115,.bool (decide ((w64 (g+1))<(zl p))))])) (qd (gw b0))
      cases l
      exact tr fol [2] ((9,.i f)::(kH p (zl d) e [(15,.i g),(96,.i (zl d)),(97,.i g),(115,.bool false)])) (qd (gw b0))
     refine ihB g49 (λc56 g49=>?_) (λc56 g49=>?_)
     ·obtain⟨x57,q,x58,J,q59,b1,b2,K,rfl⟩:=bs4 g49;exact gq fol [2,3,7,8,11,13,14] ((9,.i f)::(kH p (zl d) e (kBF (zl d) g))) [.cells (b2.flatMap eU.c),.cells (e.flatMap eU.c)] (qgD (wis ja 0 q) (wlp jk 0 rfl q rfl) (wis ja 0 J) (wlp jk 0 rfl J rfl) (wxl 193 b1) (wis ja 0 q) (wsp 193 0 rfl q K rfl))<|⟨rfl,_,rfl,((show Sub _ (ofG 137 ((9,.i f)::(kH b2 (zl d) e (kBF (zl d) g))),[.cells (b2.flatMap eU.c),.cells (e.flatMap eU.c)])from(sN [] [some 0,some 1] (kk (ke (.sliceE rfl (zD K)) kz)) (.ks (.ks .nil)))).trans (bm _))⟩
     cases g49
     exact ag<|⟨rfl,_,rfl,sK [9,11,12,13,96,97]⟩
    rintro x s' ⟨rfl,H,rfl,hsub⟩;exact aq hsub<|gh fol ((9,.i f)::(kH H (zl d) e (kBF (zl d) (w64 (g+1)))))<|qY ⟨_,_,rfl,g46⟩
   cases g46
   exact aA<|⟨rfl,_,rfl,sK [11,12,13]⟩
 rintro x s' ⟨rfl,G,rfl,hsub⟩;obtain⟨r62,b3,s63,b4,r64,b5,rfl⟩:=bs3 h;exact aq hsub<|sq<|aq (s':=(ofG 137 [(11,vl eU G),(12,.i (zl d)),(13,.slice 0 0 e.length e.length 1)],[.cells (e.flatMap eU.c)])) (sN [0] [some 1] (ke (.frz (eL (E:=eU) rfl rfl (nl rfl)) (kr eU _)) kz) (.ks .nil))<|gq fol [1,4,5] [(4,vl eU r62),(5,vl eU r64)] [.frozen (e.flatMap eU.c)] (qA (wcf [.slice 0 0 e.length e.length 1] [0] (bi (eL (E:=eU) rfl rfl (nl rfl)) bB) (qas N e b3)) (wvs ja eU none (some (zl d)) b4) (cv (qas N s63 b5)))<|gN [] [] [(4,vl eU r62),(5,vl eU r64)] [] kz .nil<|ah<|gwt
def jS (N:Nat) (a b:qh):Option (qh×qh):=
 (if a.w.isEmpty=true then
 if b.w.isEmpty=true then
 some (!decide (a.s=(-9223372036854775808)))
 else
 some false
 else
 some false:Option Bool).bind λr=>
 if r=true then
 (qdh .i64 a.s b.s).bind λq=>
 (qfo .i64 a.s b.s).bind λi=>
 ((if i<0 then
 some (w64 (q-1),w64 (i+b.s))
 else
 some (q,i):Option (Int×Int))).bind λ(t,u)=>
 some ((⟨t,[]⟩:qh),(⟨u,[]⟩:qh))
 else
 (qK a).bind λd=>
 (qK b).bind λj=>
 (qbT N d.2 j.2).bind λf=>
 (vT d.1 f.1).bind λe=>
 (vT d.1 f.2).bind λc=>
 (zg c).bind λk=>
 ((if k<0 then
 (qdc 1).bind λl=>
 (qax N e l).bind λg=>
 (vS N c b).bind λh=>
 some (g.s,g.w,h.s,h.w)
 else
 some (e.s,e.w,c.s,c.w):Option (Int×(List Int)×Int×(List Int)))).bind λ(m,n,o,p)=>
 some ((⟨m,n⟩:qh),(⟨o,p⟩:qh))
def qd4 (N:Nat) (a b:qh) {res:qh×qh}(h:jS N a b=some res):qc ZT (.fn 128) [.agg (nz1 a),.agg (nz1 b)] [] (.tuple [.agg (nz1 res.1),.agg (nz1 res.2)]) []:=by
 unfold jS at h;obtain⟨V,c,h⟩:=bnd h;refine fW Tryz.func128 rfl<|sg fol (kI [(5,.ptr 3 0)]) [.cells (nz1 a),.cells (nz1 b),bZ,bZ]<|sq<|sq<|aQ (s':=(ofG 84 (kI [(5,.ptr 3 0),(28,.bool V)]),[.cells (nz1 a),.cells (nz1 b),bZ,bZ])) ?_ ?_
 ·rcases wyB c with⟨H,c⟩|⟨H,c⟩
  ·rcases wyB c with⟨J,c⟩|⟨J,c⟩
   ·cases c
    exact tr fol [2,3,6,8] (kI [(5,.ptr 3 0),(28,.bool (!decide (a.s=(-9223372036854775808))))]) (zO (wen qbD 17 eU a.w) (gw H) (wen qbD 21 eU b.w) (gw J))
   cases c
   exact tr fol [2,3,6,8] (kI [(5,.ptr 3 0),(28,.bool false)]) (zO (wen qbD 17 eU a.w) (gw H) (wen qbD 21 eU b.w) (gw J))
  cases c
  exact tr fol [2,3] (kI [(5,.ptr 3 0),(28,.bool false)]) (qj (wen qbD 17 eU a.w) (gw H))
 refine ihB h (λX h=>?_) (λX h=>?_)
 ·obtain⟨K,z,I,A,L,g10,h⟩:=bn3 h;refine sq<|gr fol [4,9] (kAi (kAk K I [])) (qj (wxq 3 z) (wxr 3 A))<|sq<|sh fol (kAi (kAk K I [(40,.bool (decide (I<0)))]))<|gI (λx s'=>(x= .normal/\∃B C,(B,C)=L/\Sub s' (ofG 84 (kAw ((5,.ptr 1 0)::(kAk B C []))),[bZ,bZ]))) ?_ ?_
  ·refine ihD g10 (λM g10=>?_) (λM g10=>?_)
   ·cases g10
    exact gh fol ((4,.ptr 2 0)::(5,.ptr 3 0)::(kAk (w64 (K-1)) (w64 (I+b.s)) []))<|⟨rfl,_,_,rfl,(sN [] [some 2,some 3] kz (.kb rfl (.same sn) (.kb rfl (.same sn) .nil)))⟩
   cases g10
   exact ag<|⟨rfl,_,_,rfl,(sN [] [some 2,some 3] (.drop (.kp (.kp (.keep (.same nI) (.keep (.same nI) .nil))))) (.kb rfl (.same sn) (.kb rfl (.same sn) .nil)))⟩
  rintro x s' ⟨rfl,B,C,rfl,hsub⟩;cases h
  exact aq hsub<|sg fol (kAw [(5,.ptr 1 0)]) (.cells [.i B,.nilslice]::(kBG C))<|ah<|(gw2 [.agg [.i B,.nilslice],.agg [.i C,.nilslice]] (cj (ba (dK (ba (Ub tI) (ba (Uq (E:=eU)) ci))) (ba (dK (ba (Ub tI) (ba (Uq (E:=eU)) ci))) ci))))
 obtain⟨d,n,D,o,k,p,l,q,m,r,O,t,P,g22,h⟩:=bn7 h;refine ag<|sq<|gr fol [1] (kAi [(8,.bool d.1),(9,vl eU d.2)]) (qd (cv (zQ a n)))<|sq<|gr fol [1] (kAi [(8,.bool d.1),(9,vl eU d.2),(11,vl eU D.2)]) (qd (cv (zQ b o)))<|sq<|gr fol [2] (kAi [(8,.bool d.1),(12,vl eU k.1),(13,vl eU k.2)]) (qd (cv (qgr N d.2 D.2 p)))<|sq<|gq fol [2,5,8,9] (kAi [(14,.ptr 4 0),(15,.ptr 5 0)]) [.cells (nz1 a),.cells (nz1 b),bZ,bZ,.cells (nz1 l),.cells (nz1 m)] (zO (cv (qa7 d.1 k.1 q)) (cv (qa7 d.1 k.2 r)) (hx [.cells (nz1 a),.cells (nz1 b),bZ,bZ,bZ,bZ] (wsz 81 4 l rfl rfl)) (hx [.cells (nz1 a),.cells (nz1 b),bZ,bZ,.cells (nz1 l),bZ] (wsz 81 5 m rfl rfl)))<|sq<|sq<|gr fol [1] (kAi [(14,.ptr 4 0),(15,.ptr 5 0),(75,.bool (decide (O<0)))]) (qd (cv (xE m t)))<|gI (λx s'=>(x= .normal/\∃e f g j,(e,f,g,j)=P/\Sub s' (ofG 84 (kAw [(5,.ptr 1 0),(14,.ptr 2 0),(15,.ptr 3 0)]),[bZ,bZ,.cells (ni1 e f),.cells (ni1 g j)]))) ?_ ?_
 ·refine ihD g22 (λQ g22=>?_) (λQ g22=>?_)
  ·obtain⟨U,u,F,v,G,y,rfl⟩:=bs3 g22;exact gq fol [1,2,5,6,7] [(4,.ptr 2 0),(5,.ptr 3 0),(14,.ptr 4 0),(15,.ptr 5 0)] [.cells (nz1 a),.cells (nz1 b),bZ,bZ,.cells (nz1 F),.cells (nz1 G)] (qbE (cv (qcM 1 u)) (cv (qfx N l U v)) (cv (qbe N m b y)) (wsz 81 4 F rfl rfl) (wsz 81 5 G rfl rfl))<|⟨rfl,_,_,_,_,rfl,(sN [] [some 2,some 3,some 4,some 5] kz (.kb rfl (.same sn) (.kb rfl (.same sn) (.kb rfl (.same sn) (.kb rfl (.same sn) .nil)))))⟩
  cases g22
  exact ag<|⟨rfl,_,_,_,_,rfl,(sN [] [some 2,some 3,some 4,some 5] (.drop (.kp (.kp (.kp (.kp .nil))))) (.kb rfl (.same sn) (.kb rfl (.same sn) (.kb rfl (.same sn) (.kb rfl (.same sn) .nil)))))⟩
 rintro x s' ⟨rfl,e,f,g,j,rfl,hsub⟩;cases h
 exact aq hsub<|sq<|gq fol [2,3] (kAw [(5,.ptr 1 0)]) [.cells (ni1 e f),.cells (ni1 g j),.cells (ni1 e f),.cells (ni1 g j)] (qj (wsz 81 0 ⟨e,f⟩ rfl rfl) (wsz 81 1 ⟨g,j⟩ rfl rfl))<|ah<|gwt
def qb0 (a:qh):Option qh:=
 if a.s<0 then
 (zH a).bind λb=>
 some b
 else
 some a
def qfu (a:qh) {res:qh}(h:qb0 a=some res):qc ZT (.fn 179) [.agg (nz1 a)] [] (.agg (nz1 res)) []:=by
 unfold qb0 at h;refine fW Tryz.func179 rfl<|sg fol (kAo kA6) [.cells (nz1 a),bZ]<|sq<|sh fol (kAo ((2,.ptr 1 0)::(kBo (decide (a.s<0)))))<|ihD h (λd h=>?_) (λd h=>?_)
 ·obtain⟨c,b,rfl⟩:=bs1 h;exact sq<|gq fol [1,2] kA6 [.cells (nz1 a),.cells (nz1 c)] (qj (cv (vR a b)) (wsz 81 1 c rfl rfl))<|ah<|gw1
 cases h
 exact ag<|sq<|gq fol [1] kA6 [.cells (nz1 a),.cells (nz1 a)] (qd (wsz 81 1 a rfl rfl))<|ah<|gw1
def qaa (N:Nat):Nat->Int->(List Int)->Int->(List Int)->Option (Int×(List Int))
 |0,_,_,_,_=>none
 |K+1,e,f,b,c=>
  (zg (⟨b,c⟩:qh)).bind λd=>
  if(!decide (d=0))=true then
  (jS N (⟨e,f⟩:qh) (⟨b,c⟩:qh)).bind λa=>
  qaa N K b c a.2.s a.2.w
  else
  some (e,f)
def qea (N:Nat) (a b:qh):Option qh:=
 (qb0 a).bind λc=>
 (qb0 b).bind λd=>
 (qaa N N c.s c.w d.s d.w).bind λ(e,f)=>
 some (⟨e,f⟩:qh)
def qjM (N:Nat) (a b:qh) {res:qh}(h:qea N a b=some res):qc ZT (.fn 123) [.agg (nz1 a),.agg (nz1 b)] [] (.agg (nz1 res)) []:=by
 unfold qea at h;obtain⟨r,n,t,o,u,g9,h⟩:=bn3 h;refine fW Tryz.func123 rfl<|sg fol (kI []) [.cells (nz1 a),.cells (nz1 b),bZ]<|sq<|gq fol [1,3,4,5] (kI []) [.cells (nz1 r),.cells (nz1 t),bZ] (zO (cv (qfu a n)) (cv (qfu b o)) (wsz 81 0 r rfl rfl) (wsz 81 1 t rfl rfl))<|sq<|aj<|gI (λx s'=>(x= .exit 0/\∃k l,(k,l)=u/\Sub s' (ofG 23 (kAs kBh),[.cells (ni1 k l),bZ]))) ?_ ?_
 ·refine Ua (λM s=>∃(f:Int) (g:List Int) (d:Int) (e:List Int),s=(ofG 23 (kI []),[.cells (ni1 f g),.cells (ni1 d e),bZ])/\qaa N M f g d e=some u) ?_ (m:=N) ⟨_,_,_,_,rfl,g9⟩;rintro M s ⟨f,g,d,e,rfl,g9⟩
  cases M with
  |zero=>cases g9
  |succ M=>
   rw[qaa]at g9;obtain⟨p,i,g9⟩:=bnd g9;refine sq<|sq<|gr fol [1] (kI (kBI (!decide (p=0)))) (qd (cv (xE (⟨d,e⟩:qh) i)))<|ihB g9 (λq g9=>?_) (λq g9=>?_)
   ·obtain⟨c,j,g9⟩:=bnd g9;exact ag<|aj<|sq<|gq fol [2,8,9] (kI [(6,.ptr 4 0)]) [.cells (ni1 f g),.cells (ni1 d e),bZ,.cells (nz1 c.1),.cells (nz1 c.2)] (qA (cv (qd4 N (⟨f,g⟩:qh) (⟨d,e⟩:qh) j)) (hx [.cells (ni1 f g),.cells (ni1 d e),bZ,bZ,bZ] (wsz 81 3 c.1 rfl rfl)) (hx [.cells (ni1 f g),.cells (ni1 d e),bZ,.cells (nz1 c.1),bZ] (wsz 81 4 c.2 rfl rfl)))<|gq fol [2,3] (kI []) [.cells (ni1 d e),.cells (nz1 c.2),bZ,.cells (nz1 c.1),.cells (nz1 c.2)] (qj (wsz 81 0 ⟨d,e⟩ rfl rfl) (hx [.cells (ni1 d e),.cells (ni1 d e),bZ,.cells (nz1 c.1),.cells (nz1 c.2)] (wsz 81 1 c.2 rfl rfl)))<|⟨M,(ofG 23 (kI []),[.cells (ni1 d e),.cells (nz1 c.2),bZ]),aY _,(sN [] [some 0,some 1,some 2] kz (.kb rfl (.same sn) (.kb rfl (.same sn) (.kb rfl (.same sn) .nil)))),_,_,_,_,rfl,g9⟩
   cases g9
   exact aA<|⟨rfl,_,_,rfl,(sN [] [some 0,some 2] (.kp (.drop (.kp .nil))) (.kb rfl (.same sn) (.kb rfl (.same sn) .nil)))⟩
 rintro x s' ⟨rfl,k,l,rfl,hsub⟩;cases h
 exact aq hsub<|sq<|gq fol [1] kBh [.cells (ni1 k l),.cells (ni1 k l)] (qd (wsz 81 1 ⟨k,l⟩ rfl rfl))<|ah<|gw1
def stringslite_CutPrefix (b a:Str):Option (Str×Bool):=
 (stringslite_HasPrefix b a).bind λc=>
 if(!c)=true then
 some (b,false)
 else
 (cut b (a.length:Int) (b.length:Int)).bind λd=>
 some (d,true)
def qen (b a:Str) {res:Str×Bool}(h:stringslite_CutPrefix b a=some res):qc ZT (.fn 180) [.str b,.str a] [] (.tuple [.str res.1,.bool res.2]) []:=by
 unfold stringslite_CutPrefix at h;obtain⟨e,c,h⟩:=bnd h;refine fW Tryz.func180 rfl<|sh fol (kX b a [])<|sq<|sq<|gr fol [2] (kX b a (kBm (!e))) (qd (cv (xX b a c)))<|ihB h (λf h=>?_) (λf h=>?_)
 ·cases h
  exact sh fol [(4,.str b),(5,.bool false)]<|ah<|gwt
 obtain⟨g,d,rfl⟩:=bs1 h;exact ag<|sq<|gr fol [3] [(4,.str g),(5,.bool true)] (qd (wss st9 (some (zl a)) none d))<|ah<|gwt
def strings_CutPrefix (c a:Str):Option (Str×Bool):=
 (stringslite_CutPrefix c a).bind λb=>
 some (b.1,b.2)
def qfW (c a:Str) {res:Str×Bool}(h:strings_CutPrefix c a=some res):qc ZT (.fn 125) [.str c,.str a] [] (.tuple [.str res.1,.bool res.2]) []:=by
 unfold strings_CutPrefix at h;obtain⟨d,b,rfl⟩:=bs1 h;exact fW Tryz.func125 rfl<|sh fol (kX c a [])<|sq<|gr fol [2] ((4,.str d.1)::(kBo d.2)) (qd (cv (qen c a b)))<|ah<|gwt
def vF (a:Str):Option Bool:=
 (if(!(a==[]))=true then
 (qlX a [48,49,50,51,52,53,54,55,56,57]).bind λb=>
 if(b==[])=true then
 (idx a 0).bind λc=>
 if(!decide ((c.toNat:Int)=48))=true then
 some true
 else
 some (a==[48])
 else
 some false
 else
 some false:Option Bool).bind λd=>
 some d
def jX (d:Str) {res:Bool}(h:vF d=some res):qc ZT (.fn 126) [.str d] [] (.bool res) []:=by
 unfold vF at h;obtain⟨i,a,h⟩:=bnd h;refine fW Tryz.func126 rfl<|sh fol (kAm d)<|sq<|aQ (s':=(ofG 19 (kCD i),[])) ?_ ?_
 ·rcases wyB a with⟨e,a⟩|⟨e,a⟩
  ·obtain⟨j,b,a⟩:=bnd a;rcases wyB a with⟨f,a⟩|⟨f,a⟩
   ·obtain⟨k,c,a⟩:=bnd a;rcases wyB a with⟨g,a⟩|⟨g,a⟩
    ·cases a
     exact tr fol [2,4,7,9,11] [(2,.bool true)] (qbE (gw e) (cv (qi2 d [48,49,50,51,52,53,54,55,56,57] b)) (gw f) (wsx st9 c) (gw g))
    cases a
    exact tr fol [2,4,7,9,11] (kCD (d==[48])) (qbE (gw e) (cv (qi2 d [48,49,50,51,52,53,54,55,56,57] b)) (gw f) (wsx st9 c) (gw g))
   cases a
   exact tr fol [2,4,7] kBu (qA (gw e) (cv (qi2 d [48,49,50,51,52,53,54,55,56,57] b)) (gw f))
  cases a
  exact tr fol [2] kBu (qd (gw e))
 obtain rfl:=si h;exact ah<|gw1
def qcS (N:Nat) (a b:qh):Option Int:=
 (if a.w.isEmpty=true then
 some b.w.isEmpty
 else
 some false:Option Bool).bind λc=>
 if c=true then
 if a.s<b.s then
 some (-1)
 else
 if a.s>b.s then
 some 1
 else
 some 0
 else
 (qax N a b).bind λd=>
 (zg d).bind λe=>
 some e
def qjJ (N:Nat) (a b:qh) {res:Int}(h:qcS N a b=some res):qc ZT (.fn 127) [.agg (nz1 a),.agg (nz1 b)] [] (.i res) []:=by
 unfold qcS at h;obtain⟨g,c,h⟩:=bnd h;refine fW Tryz.func127 rfl<|sg fol (kAO []) [.cells (nz1 a),.cells (nz1 b)]<|sq<|sq<|aQ (s':=(ofG 29 (kAO (kBX g)),[.cells (nz1 a),.cells (nz1 b)])) ?_ ?_
 ·rcases wyB c with⟨f,c⟩|⟨f,c⟩
  ·cases c
   exact tr fol [2,3,6] (kAO (kBX b.w.isEmpty)) (qA (wen qbD 6 eU a.w) (gw f) (wen qbD 10 eU b.w))
  cases c
  exact tr fol [2,3] (kAO [(12,.bool false)]) (qj (wen qbD 6 eU a.w) (gw f))
 refine ihB h (λj h=>?_) (λj h=>?_)
 ·refine sq<|aj<|sh fol (kAO (kBI (decide (a.s<b.s))))<|ihD h (λk h=>?_) (λk h=>?_)
  ·cases h
   exact sh fol kB1<|ah<|gw1
  refine sh fol [(19,.bool (decide (a.s>b.s)))]<|ihD h (λl h=>?_) (λl h=>?_)
  ·cases h
   exact sh fol [(4,.i 1)]<|ah<|gw1
  cases h
  exact ag<|sh fol kBr<|ah<|gw1
 obtain⟨m,d,n,e,rfl⟩:=bs2 h;exact ag<|sq<|gr fol [2,3] (kBe n) (qj (cv (qfx N a b d)) (cv (xE m e)))<|ah<|gw1
end
end Go.Av
end
