/-
  Walks of functions: what each computes, as a plain function.
-/
import Derived.Test.YtcgpgmdcfcncpaaGreatDoorAvJnJ
noncomputable section
namespace Go.Av
open Go.Proofs Go.RowKit
abbrev ZT:=Tryz.prog
set_option linter.unusedSectionVars false
set_option linter.unusedVariables false
set_option linter.unusedSimpArgs false
set_option maxRecDepth 100000
theorem fol:Tryz.prog.follows .mixedOrders=true:=by kernel_rfl
structure jy where
 seen:List Int
 from_:List Int
def ql3:Enc jy:=((qd encI).prod (qd encI)).comap fun x=>(x.seen,x.from_)
instance:SE ql3:=⟨nl rfl⟩
structure qB where
 s:Int
 w:List Int
def qkq:Enc qB:=(encI.prod (encN (qa .u64))).comap fun x=>(x.s,x.w)
instance:SE qkq:=⟨nl rfl⟩
structure jm where
 Num:qB
 Den:qB
def qpR:Enc jm:=(qkq.prod qkq).comap fun x=>(x.Num,x.Den)
instance:SE qpR:=⟨nl rfl⟩
structure ky where
 neg:Bool
 w:List Int
def qk2:Enc ky:=(qhH.prod (qd encI)).comap fun x=>(x.neg,x.w)
instance:SE qk2:=⟨nl rfl⟩
structure qb5 where
 Half:Int
 Factors:List (List Int)
def qoJ:Enc qb5:=(encI.prod (qd (qd encI))).comap fun x=>(x.Half,x.Factors)
instance:SE qoJ:=⟨nl rfl⟩
abbrev kA (a:List Int) (x:List Blk):List Blk:= .cells (a.flatMap encI.c)::x
abbrev kB {α3:Type} {α4:Type} (a:List Int) (b:List Int) (c:Int) (d:List α3) (e:List α4) (f:Int) (x:List (Nat×AV)):List (Nat×AV):=(8,vl encI a)::(9,vl encI b)::(10,.i c)::(11,.oslice 0 d.length 1)::(12,.slice 1 0 e.length e.length 1)::(13,.i f)::x
abbrev kC {α0:Type} (a:List α0) (x:List (Nat×AV)):List (Nat×AV):=(5,.slice 0 0 a.length a.length 1)::x
abbrev kD {α0:Type} (a:List α0) (x:List Blk):List Blk:= .cells [.slice 2 0 a.length a.length 1]::x
abbrev kE (a:Int) (b:List Int) (x:List (Nat×AV)):List (Nat×AV):=(0,.i a)::(1,vl encI b)::x
abbrev kF (a:List Int) (b:List Int) (x:List Blk):List Blk:= .cells [vl encI a,vl encI b]::x
abbrev kG {α0:Type} {α2:Type} (a:List α0) (b:Int) (c:List α2) (x:List (Nat×AV)):List (Nat×AV):=(11,.slice 0 0 a.length a.length 1)::(12,.i b)::(13,.slice 1 0 c.length c.length 1)::x
abbrev kH (x:List (Nat×AV)):List (Nat×AV):=(2,.ptr 0 0)::(3,.ptr 1 0)::(4,.ptr 2 0)::x
abbrev kI (a:List Int) (b:List Int) (x:List (Nat×AV)):List (Nat×AV):=(0,vl encI a)::(1,vl encI b)::x
abbrev kJ (a:Int) (b:Int) (c:Int) (d:Int) (x:List (Nat×AV)):List (Nat×AV):=(2,.int .u64 a)::(8,.int .u64 b)::(9,.int .u64 c)::(10,.int .u64 d)::x
abbrev kK (x:List (Nat×AV)):List (Nat×AV):=(4,.ptr 0 0)::(5,.ptr 1 0)::x
abbrev kL (a:Int) (b:List Int) (x:List Blk):List Blk:= .cells [.i a]:: .cells [vl encI b]::x
abbrev kM {α0:Type} (a:List α0) (x:List (Nat×AV)):List (Nat×AV):=(1,.ptr 2 0)::(4,.slice 5 0 a.length a.length 1)::x
abbrev kN (a:List Bool) (x:List Blk):List Blk:= .cells (a.flatMap qhH.c)::x
abbrev kO {α0:Type} {α1:Type} (a:List α0) (b:List α1) (x:List (Nat×AV)):List (Nat×AV):=(1,.ptr 0 0)::(3,.gslice 1 a.length 1)::(4,.slice 2 0 b.length b.length 1)::x
abbrev kP (a:List Int) (x:List (Nat×AV)):List (Nat×AV):=(0,vl encI a)::x
abbrev kQ (x:List Blk):List Blk:= .cells [.i 0,.nilslice,.i 0,.nilslice]::x
abbrev kR {α0:Type} {α1:Type} (a:List α0) (b:List α1) (x:List Blk):List Blk:= .cells [.nilslice,.nilslice]:: .cells [.gslice 5 a.length 1,.gslice 3 b.length 1]:: .dead::x
abbrev kS (a:Int) (b:Int) (c:Int) (x:List (Nat×AV)):List (Nat×AV):=(14,.int .u64 a)::(15,.int .u64 b)::(16,.int .u64 c)::x
abbrev kT {α0:Type} (a:List α0) (x:List (Nat×AV)):List (Nat×AV):=(3,.slice 0 0 a.length a.length 1)::x
abbrev kU (a:Bool) (b:List Int) (x:List Blk):List Blk:= .cells [.bool a,vl encI b]::x
abbrev kV (x:List Blk):List Blk:= .cells [.bool false,.nilslice]::x
abbrev kW (a:Int) (b:Int) (x:List (Nat×AV)):List (Nat×AV):=(5,.i a)::(6,.int .u64 b)::x
abbrev kX (x:List (Nat×AV)):List (Nat×AV):=(2,.ptr 0 0)::x
abbrev kY {α0:Type} (a:List α0) (x:List (Nat×AV)):List (Nat×AV):=(6,.slice 0 0 a.length a.length 1)::x
abbrev kZ (a:Int) (b:Int):List (Nat×AV):=[(13,.i a),(14,.i b)]
abbrev kAA {α0:Type} (a:List α0) (x:List (Nat×AV)):List (Nat×AV):=(1,.ptr 2 0)::(2,.ptr 3 0)::(4,.slice 4 0 a.length a.length 1)::x
abbrev kAB {α0:Type} {α1:Type} (a:List α0) (b:List α1) (x:List Blk):List Blk:= .cells [.nilslice,.nilslice]:: .cells [.gslice 2 a.length 1,.gslice 3 b.length 1]::x
abbrev kAC (a:Int) (b:Int) (x:List (Nat×AV)):List (Nat×AV):=(0,.int .u64 a)::(1,.int .u64 b)::x
abbrev kAD (a:List Int) (b:List Int) (c:List Int) (x:List (Nat×AV)):List (Nat×AV):=(2,vl encI a)::(7,vl encI b)::(9,vl encI c)::x
abbrev kAE {α1:Type} (a:Int) (b:List α1) (c:List Int) (x:List (Nat×AV)):List (Nat×AV):=(3,.i a)::(4,.slice 0 0 b.length b.length 1)::(11,vl encI c)::(12,.i a)::x
abbrev kAF {α0:Type} (a:List α0) (x:List Blk):List Blk:= .cells [.oslice 4 a.length 1]::x
abbrev kAG (a:Int) (x:List Blk):List Blk:= .cells [.i a,.nilslice]::x
abbrev kAH (a:List Int) (b:Int) (c:Int) (x:List (Nat×AV)):List (Nat×AV):=(10,vl encI a)::(11,.i b)::(12,.i c)::x
abbrev kAI (a:Int) (b:Int) (x:List (Nat×AV)):List (Nat×AV):=(11,.int .u64 a)::(12,.int .u64 b)::x
abbrev kAJ (a:Int) (x:List Blk):List Blk:= .cells [.i a]::x
abbrev kAK {α0:Type} (a:List α0) (b:Int) (c:Int) (d:List Int) (e:Int) (x:List (Nat×AV)):List (Nat×AV):=(10,.slice 6 0 a.length a.length 1)::(27,.i b)::(28,.i c)::(55,vl encI d)::(56,.i e)::x
abbrev kAL (a:Int) (b:Int) (x:List (Nat×AV)):List (Nat×AV):=(0,.i a)::(1,.i b)::x
abbrev kAM (a:Int) (b:Int) (x:List (Nat×AV)):List (Nat×AV):=(7,.int .u64 a)::(8,.int .u64 b)::x
abbrev kAN (a:Int) (x:List (Nat×AV)):List (Nat×AV):=(0,.i a)::(3,.ptr 0 0)::x
abbrev kAO {α0:Type} (a:List α0) (x:List (Nat×AV)):List (Nat×AV):=(3,.gslice 0 a.length 1)::(4,.ptr 1 0)::x
abbrev kAP (a:Int) (b:Int) (x:List (Nat×AV)):List (Nat×AV):=(21,.i a)::(22,.i b)::x
abbrev kAQ {α0:Type} (a:List α0) (x:List (Nat×AV)):List (Nat×AV):=(6,.gslice 0 a.length 1)::x
abbrev kAR (a:Int) (b:Int) (x:List (Nat×AV)):List (Nat×AV):=(12,.i a)::(13,.i b)::x
abbrev kAS {α0:Type} (a:List α0) (x:List Blk):List Blk:= .cells [.gslice 1 a.length 1]::x
abbrev kAT {α0:Type} (a:List α0) (x:List Blk):List Blk:= .cells [.nilslice,.slice 2 0 a.length a.length 1]::x
abbrev kAU (a:Int) (x:List (Nat×AV)):List (Nat×AV):=(6,.int .u64 a)::x
abbrev kAV (a:List Str) (x:List Blk):List Blk:= .cells (a.flatMap encS.c)::x
abbrev kAW (x:List Blk):List Blk:= .cells [.nilslice]::x
abbrev kAX (x:List (Nat×AV)):List (Nat×AV):=(1,.ptr 0 0)::x
abbrev kAY {α1:Type} (a:List Int) (b:List α1) (x:List (Nat×AV)):List (Nat×AV):=(3,vl encI a)::(4,.gslice 0 b.length 1)::x
abbrev kAZ {α0:Type} (a:List α0) (b:Int) (c:Int) (x:List (Nat×AV)):List (Nat×AV):=(48,.gslice 3 a.length 1)::(49,.i b)::(50,.i c)::x
abbrev kAa {α0:Type} (a:List α0) (x:List (Nat×AV)):List (Nat×AV):=(4,.slice 5 0 a.length a.length 1)::x
abbrev kAb (a:Int) (b:List Int) (c:Int):List (Nat×AV):=[(22,.i a),(23,vl encI b),(222,.i c),(223,.i a),(284,.bool true)]
abbrev kAc {α0:Type} (a:List α0):List Blk:=[.cells [.gslice 0 a.length 1]]
abbrev kAd (a:Int) (b:Int):List Blk:=[.cells [.i a,.i b]]
abbrev kAe (a:Int) (b:Int):List (Nat×AV):=[(8,.i a),(9,.i b)]
abbrev kAf (a:Int) (x:List (Nat×AV)):List (Nat×AV):=(5,.i a)::(7,.i 0)::(8,.ptr 1 0)::x
abbrev kAg (a:List Int) (b:Int) (x:List (Nat×AV)):List (Nat×AV):=(9,vl encI a)::(10,.i b)::x
abbrev kAh (a:List Int) (b:Int) (c:Int) (x:List (Nat×AV)):List (Nat×AV):=(23,vl encI a)::(24,.i b)::(25,.i c)::x
abbrev kAi (a:List Int) (b:Int) (c:Int) (x:List (Nat×AV)):List (Nat×AV):=(15,vl encI a)::(16,.i b)::(17,.i c)::x
abbrev kAj {α0:Type} (a:List α0) (x:List (Nat×AV)):List (Nat×AV):=(7,.slice 0 0 a.length a.length 1)::x
abbrev kAk {α0:Type} (a:List α0) (x:List Blk):List Blk:= .cells [.slice 0 0 a.length a.length 1]::x
abbrev kAl (a:Int) (b:Int) (x:List (Nat×AV)):List (Nat×AV):=(9,.i a)::(10,.i b)::x
abbrev kAm (a:Int) (b:Int) (x:List (Nat×AV)):List (Nat×AV):=(11,.int .u64 a)::(13,.int .u64 b)::x
abbrev kAn (a:List Int) (x:List Blk):List Blk:= .frozen (a.flatMap encI.c)::x
abbrev kAo (a:Int) (b:Int) (x:List (Nat×AV)):List (Nat×AV):=(7,.i a)::(8,.i b)::x
abbrev kAp {α0:Type} (a:List α0) (x:List Blk):List Blk:= .cells [.nilslice,.nilslice]:: .cells [.nilslice,.gslice 2 a.length 1]::x
abbrev kAq (a:Option (List Int)):List Blk:=[.cells [hsl 4 1 a],.cells ((hof a).flatMap encI.c)]
abbrev kAr (x:List Blk):List Blk:= .cells (([]:List Int).flatMap encI.c)::x
abbrev kAs {α0:Type} (a:List α0) (x:List (Nat×AV)):List (Nat×AV):=(6,.gslice 2 a.length 1)::x
abbrev kAt {α0:Type} (a:List α0) (b:Int) (c:Int) (x:List (Nat×AV)):List (Nat×AV):=(0,.slice 0 0 a.length a.length 1)::(2,.i b)::(3,.i c)::x
abbrev kAu (a:Int) (b:Int) (x:List (Nat×AV)):List (Nat×AV):=(17,.int .u64 a)::(18,.int .u64 b)::x
abbrev kAv (x:List (Nat×AV)):List (Nat×AV):=(3,.ptr 1 0)::(4,.ptr 2 0)::(5,.ptr 3 0)::x
abbrev kAw {α1:Type} (a:Int) (b:List α1) (x:List Blk):List Blk:= .cells [.i a,.gslice 2 b.length 1]::x
abbrev kAx (a:List Int) (b:Int) (c:Int) (x:List (Nat×AV)):List (Nat×AV):=(5,vl encI a)::(6,.i b)::(7,.i c)::x
abbrev kAy (a:Int) (x:List (Nat×AV)):List (Nat×AV):=(7,.int .u64 a)::x
abbrev kAz (a:Str) (b:Str) (x:List (Nat×AV)):List (Nat×AV):=(0,.str a)::(1,.str b)::x
abbrev kA0 (a:Int) (b:Int) (x:List (Nat×AV)):List (Nat×AV):=(222,.i a)::(223,.i b)::x
abbrev kA1 (a:List Int):List AV:=[vl encI a]
abbrev kA2 (a:Int) (b:Int) (x:List (Nat×AV)):List (Nat×AV):=(27,.i a)::(28,.i b)::x
abbrev kA3 (a:Int) (b:Int) (c:Int) (x:List (Nat×AV)):List (Nat×AV):=(5,.i a)::(7,.i b)::(8,.ptr 1 0)::(39,.i a)::(40,.i c)::x
abbrev kA4 {α0:Type} (a:List α0) (x:List Blk):List Blk:= .cells [.oslice 7 a.length 1]::x
abbrev kA5 (a:Int) (b:Int) (c:Int) (x:List (Nat×AV)):List (Nat×AV):=(14,.i a)::(15,.i b)::(16,.i c)::x
abbrev kA6 {α0:Type} (a:List α0) (b:Int) (x:List (Nat×AV)):List (Nat×AV):=(5,.ptr 0 0)::(16,.gslice 1 a.length 1)::(17,.i b)::x
abbrev kA7 (a:Int):List (Nat×AV):=[(5,.i a)]
abbrev kA8 {α0:Type} (a:List α0) (x:List (Nat×AV)):List (Nat×AV):=(0,.gslice 0 a.length 1)::x
abbrev kA9 (x:List (Nat×AV)):List (Nat×AV):=(4,.ptr 0 0)::x
abbrev kBA (a:Str) (b:Int) (x:List (Nat×AV)):List (Nat×AV):=(3,.str a)::(4,.i b)::x
abbrev kBB (a:List Int) (x:List Blk):List Blk:= .cells [vl encI a]::x
abbrev kBC (a:Int) (x:List (Nat×AV)):List (Nat×AV):=(1,.ptr 4 0)::(2,.ptr 5 0)::(4,.i a)::x
abbrev kBD {α0:Type} (a:List α0) (b:Bool) (x:List (Nat×AV)):List (Nat×AV):=(3,.gslice 1 a.length 1)::(4,.bool b)::x
abbrev kBE (a:Int) (b:Int) (x:List (Nat×AV)):List (Nat×AV):=(5,.i a)::(6,.i b)::x
abbrev kBF (a:List Int) (b:Int):List AV:=[vl encI a,.i b]
abbrev kBG (a:List Int) (x:List (Nat×AV)):List (Nat×AV):=(1,vl encI a)::x
abbrev kBH (a:Str) (b:Int) (x:List (Nat×AV)):List (Nat×AV):=(0,.str a)::(3,.i b)::x
abbrev kBI (a:Bool):List (Nat×AV):=[(4,.bool a)]
abbrev kBJ (a:Int) (b:Int):List (Nat×AV):=[(104,.i a),(105,.i b)]
abbrev kBK (x:List (Nat×AV)):List (Nat×AV):=(4,.ptr 2 0)::x
abbrev kBL (a:Int) (b:Int):List (Nat×AV):=[(28,.i a),(29,.i b)]
abbrev kBM (a:Int) (b:Int) (c:Int) (x:List (Nat×AV)):List (Nat×AV):=(17,.int .u64 a)::(156,.i b)::(157,.i c)::x
abbrev kBN (a:Int) (b:Int):List AV:=[.int .u64 a,.int .u64 b]
abbrev kBO (a:Int) (b:Int):List (Nat×AV):=[(96,.i a),(97,.i b)]
abbrev kBP (a:Int) (b:Int) (x:List (Nat×AV)):List (Nat×AV):=(43,.i a)::(44,.i b)::x
abbrev kBQ (a:Int):List (Nat×AV):=[(6,.ptr 3 0),(7,.i a)]
abbrev kBR (a:Int):List (Nat×AV):=[(2,.i a)]
abbrev kBS (x:List (Nat×AV)):List (Nat×AV):=(5,.ptr 1 0)::x
abbrev kBT {α0:Type} (a:List α0) (x:List (Nat×AV)):List (Nat×AV):=(4,.slice 0 0 a.length a.length 1)::x
abbrev kBU (a:Int) (b:Int) (x:List (Nat×AV)):List (Nat×AV):=(14,.int .u64 a)::(15,.int .u64 b)::x
abbrev kBV (a:Int) (b:Int) (c:Int):List Blk:=[.cells [.i a,.i b,.i c]]
abbrev kBW:List (Nat×AV):=[(136,.bool true)]
abbrev kBX:List (Nat×AV):=[(2,.ptr 1 0)]
abbrev kBY (x:List (Nat×AV)):List (Nat×AV):=(1,.ptr 1 0)::x
abbrev kBZ (a:Int):List (Nat×AV):=[(3,.i a)]
abbrev kBa {α0:Type} (a:List α0) (x:List (Nat×AV)):List (Nat×AV):=(5,.gslice 0 a.length 1)::x
abbrev kBb (a:List Int) (b:Int) (x:List (Nat×AV)):List (Nat×AV):=(29,vl encI a)::(31,.i b)::x
abbrev kBc (x:List Blk):List Blk:= .cells [.nilslice,.nilslice]::x
abbrev kBd (a:List Int) (x:List (Nat×AV)):List (Nat×AV):=(7,vl encI a)::x
abbrev kBe (a:Bool):List (Nat×AV):=[(13,.bool a)]
abbrev kBf {α0:Type} (a:List α0):List (Nat×AV):=[(3,.gslice 0 a.length 1)]
abbrev kBg (a:Str) (b:Bool) (x:List (Nat×AV)):List (Nat×AV):=(5,.str a)::(6,.bool b)::x
abbrev kBh:List (Nat×AV):=[(6,.bool false)]
abbrev kBi (a:Int):List (Nat×AV):=[(0,.i a)]
abbrev kBj (a:Bool) (b:List Int) (c:Bool) (d:List Int):List AV:=[.agg [.bool a,vl encI b],.agg [.bool c,vl encI d]]
abbrev kBk (a:List Int) (x:List (Nat×AV)):List (Nat×AV):=(8,vl encI a)::x
abbrev kBl {α0:Type} (a:Option (List α0)) (x:List Blk):List Blk:= .cells [hsl 4 1 a]::x
abbrev kBm (x:List (Nat×AV)):List (Nat×AV):=(3,.ptr 1 0)::x
abbrev kBn (a:Str):List (Nat×AV):=[(0,.str a)]
abbrev kBo {α0:Type} (a:List α0) (x:List (Nat×AV)):List (Nat×AV):=(8,.gslice 0 a.length 1)::x
abbrev kBp (a:List Int):List (Nat×AV):=[(2,vl encI a),(63,.bool true)]
abbrev kBq:List AV:=[.ptr 0 0,.ptr 1 0]
abbrev kBr:List AV:=[.ptr 2 0,.ptr 3 0]
abbrev kBs (a:List Int) (b:List Int) (x:List (Nat×AV)):List (Nat×AV):=(0,.agg [vl encI a,vl encI b])::x
abbrev kBt (a:Bool) (x:List (Nat×AV)):List (Nat×AV):=(3,.bool a)::x
abbrev kBu (a:Int) (x:List (Nat×AV)):List (Nat×AV):=(0,.int .u64 a)::x
abbrev kBv (a:List Int) (b:List Int):List (Nat×AV):=[(4,vl encI a),(5,vl encI b)]
abbrev kBw {α0:Type} (a:List α0) (x:List (Nat×AV)):List (Nat×AV):=(11,.oslice 0 a.length 1)::x
abbrev kBx (a:Int):List (Nat×AV):=[(4,.i a)]
abbrev kBy (a:Bool):List (Nat×AV):=[(15,.bool a)]
abbrev kBz (a:List Int) (b:Int) (c:Int) (x:List (Nat×AV)):List (Nat×AV):=(32,vl encI a)::(33,.i b)::(34,.i c)::x
abbrev kB0 {α0:Type} (a:List α0):List (Nat×AV):=[(2,.slice 0 0 a.length a.length 1)]
abbrev kB1 (a:List Int) (b:List Int) (x:List AV):List AV:= .agg [vl encI a,vl encI b]::x
abbrev kB2 (a:Bool):List (Nat×AV):=[(2,.bool a)]
abbrev kB3 (x:List (Nat×AV)):List (Nat×AV):=(4,.ptr 1 0)::x
abbrev kB4 (x:List (Nat×AV)):List (Nat×AV):=(10,.ptr 1 0)::x
abbrev kB5 (a:Bool):List (Nat×AV):=[(10,.bool a)]
abbrev kB6 (a:Bool):List (Nat×AV):=[(14,.bool a)]
abbrev kB7 (a:Int):List (Nat×AV):=[(1,.i a)]
abbrev kB8:List (Nat×AV):=[(4,.bool true)]
abbrev kB9 (a:Int):List (Nat×AV):=[(12,.i a),(13,.i 0)]
abbrev kCA (a:Int):List (Nat×AV):=[(13,.i a),(14,.i 0)]
abbrev kCB (x:List (Nat×AV)):List (Nat×AV):=(8,.int .u64 0)::x
abbrev nz1 (x:qB):List AV:=ni1 x.s x.w
abbrev nq1 (x:jm):List AV:=ni2 x.Num.s x.Num.w x.Den.s x.Den.w
theorem qo:SlT ZT 22 3 1 8:=⟨by kernel_rfl,by kernel_rfl,by kernel_rfl,by kernel_rfl⟩
theorem ce3:CeT ZT 3:=⟨by kernel_rfl,by kernel_rfl⟩
theorem qrt:SlT ZT 134 25 1 8:=⟨by kernel_rfl,by kernel_rfl,by kernel_rfl,by kernel_rfl⟩
theorem ce25:CeT ZT 25:=⟨by kernel_rfl,by kernel_rfl⟩
noncomputable abbrev qj:Code:=(Tryz.f25.body.getD .skip).x2.x2.x1.x2.x1
theorem qoK:MpT ZT 114 3 4 (.int .i64) (.bool false):=⟨by kernel_rfl,by kernel_rfl,by kernel_rfl⟩
theorem qbV:Tryz.prog.underlying 63=some (.slice 164):=by kernel_rfl
theorem jg:SlT ZT 63 164 1 8:=⟨by kernel_rfl,by kernel_rfl,by kernel_rfl,by kernel_rfl⟩
theorem jr:CeT ZT 164:=⟨by kernel_rfl,by kernel_rfl⟩
theorem st9:Tryz.prog.underlying 9=some .string:=by kernel_rfl
theorem qrE:SlT ZT 197 9 1 16:=⟨by kernel_rfl,by kernel_rfl,by kernel_rfl,by kernel_rfl⟩
theorem ce9:CeT ZT 9:=⟨by kernel_rfl,by kernel_rfl⟩
theorem qiT:SlT ZT 116 4 1 1:=⟨by kernel_rfl,by kernel_rfl,by kernel_rfl,by kernel_rfl⟩
theorem ce4:CeT ZT 4:=⟨by kernel_rfl,by kernel_rfl⟩
noncomputable abbrev qw:Code:=(Tryz.f33.body.getD .skip).x2.x2.x2.x1.x2.x1.x1.x2.x2.x1.x1.x2.x2.x2.x1.x2.x1
theorem qdJ:SlT ZT 39 22 1 24:=⟨by kernel_rfl,by kernel_rfl,by kernel_rfl,by kernel_rfl⟩
theorem qex:CeT ZT 22:=⟨by kernel_rfl,by kernel_rfl⟩
theorem st31:Tryz.prog.underlying 31=some .string:=by kernel_rfl
noncomputable abbrev qg:Code:=(Tryz.f50.body.getD .skip).x2.x2.x1.x2.x1
theorem qei:SlT ZT 90 3 1 8:=⟨by kernel_rfl,by kernel_rfl,by kernel_rfl,by kernel_rfl⟩
theorem qfa:SlT ZT 139 90 1 24:=⟨by kernel_rfl,by kernel_rfl,by kernel_rfl,by kernel_rfl⟩
theorem qnM:CeT ZT 90:=⟨by kernel_rfl,by kernel_rfl⟩
def qbE (n:Int) (least:Int) (most:Int):Option Bool:=
 (if n<least then
 some true
 else
 some (decide (n>most)):Option Bool).bind fun a=>
 some a
theorem qdd (n:Int) (least:Int) (most:Int) {res:Bool} (h:qbE n least most=some res):qb ZT (.fn 21) [.i n,.i least,.i most] [] (.bool res) []:=by
 unfold qbE at h
 refine Ub Tryz.func21 rfl rfl (m:=15) rfl (rs:=[.tmp 6]) rfl (l:=(kAL n least (kBR most))) rfl ?_
 refine sh fol (kAL n least (kBR most)) ?_
 refine sq ?_
 obtain⟨c,a,h⟩:=bnd h
 refine Goes.cut (s':=(ofG 15 [(6,.bool c)],[])) ?_ ?_
 ·rcases wyD a with⟨b,a⟩|⟨b,a⟩
  ·obtain rfl:=si a
   exact tr fol [3] [(6,.bool true)] (ac (gw b) az)
  obtain rfl:=si a
  exact tr fol [3] [(6,.bool (decide (n>most)))] (ac (gw b) az)
 refine Goes.ret ?_
 obtain rfl:=si h
 exact(gw2 [.bool c] (Ua tB))
def zT (n:Int) (w:List Int):Nat->Int->Option (Unit⊕Int)
 |0,_=>none
 |K+1,a=>
  if a<(w.length:Int)then
  ((idx w a).bind fun d=>
  if d=0 then
  some true
  else
  (qbE d (w64 (1-n)) (w64 (n-1))).bind fun b=>
  some b:Option Bool).bind fun c=>
  if c=true then
  some (.inr 3)
  else
  zT n w K (w64 (a+1))
  else
  some (.inl ())
def zO (N:Nat) (n:Int) (w:List Int):Option Int:=
 (qbE n 2 12).bind fun b=>
 if b=true then
 some 3
 else
 if(w.length:Int)=0 then
 some 12
 else
 if(w.length:Int)>24 then
 some 5
 else
 (zT n w N 0).bind (fun
 |(.inl ())=>
 some 0
 |(.inr a)=>
 some a)
theorem jM (N:Nat) (n:Int) (w:List Int) {res:Int} (h:zO N n w=some res):qb ZT (.fn 4) (.i n::(kA1 w)) [] (.i res) []:=by
 unfold zO at h
 refine Ub Tryz.func4 rfl rfl (m:=36) rfl (rs:=[.tmp 4]) rfl (l:=(kE n w [])) rfl ?_
 refine sh fol (kE n w []) ?_
 refine sq ?_
 obtain⟨r,g,h⟩:=bnd h
 refine sq (gr fol [1] (kE n w [(7,.bool r)]) (ac (cv (qdd n 2 12 g)) az) ?_)
 refine ihB h (fun t h=>?_) (fun t h=>?_)
 ·refine sh fol [(4,.i 3)] ?_
  refine Goes.ret ?_
  obtain rfl:=si h
  exact(gw2 [.i 3] (Ua tI))
 refine Goes.skip ?_
 refine sq ?_
 refine sh fol (kE n w (kB5 (decide ((w.length:Int)=0)))) ?_
 refine ihD h (fun u h=>?_) (fun u h=>?_)
 ·refine sh fol [(4,.i 12)] ?_
  refine Goes.ret ?_
  obtain rfl:=si h
  exact(gw2 [.i 12] (Ua tI))
 refine Goes.skip ?_
 refine sq ?_
 refine sh fol (kE n w (kBe (decide ((w.length:Int)>24)))) ?_
 refine ihD h (fun v h=>?_) (fun v h=>?_)
 ·refine sh fol [(4,.i 5)] ?_
  refine Goes.ret ?_
  obtain rfl:=si h
  exact(gw2 [.i 5] (Ua tI))
 refine Goes.skip ?_
 refine sq ?_
 refine sh fol (kE n w [(5,.i 0)]) ?_
 refine Goes.block ?_
 obtain⟨j,c,h⟩:=bnd h
 refine Goes.imp (Q:=fun x s'=>(x= .exit 0/\(.inl ())=j/\Sub s' (ofG 36 [],[]))\/(x= .ret/\ ∃q,(.inr q)=j/\kz ZT [.tmp 4] (.i q) .ret s')) ?_ ?_
 ·refine Uc (fun M s=> ∃(d:Int),s=(ofG 36 (kE n w (kA7 d)),[])/\zT n w M d=some j) ?_ (m:=N) ⟨_,rfl,c⟩
  rintro M s ⟨d,rfl,c⟩
  cases M with
  |zero=>simp only[zT]at c;cases c
  |succ M=>
   rw[zT]at c
   refine sq ?_
   refine sh fol (kE n w [(5,.i d),(17,.bool (decide (d<(w.length:Int))))]) ?_
   refine ihD c (fun y c=>?_) (fun y c=>?_)
   ·refine Goes.skip ?_
    refine sq (Goes.block ?_)
    refine sq ?_
    obtain⟨k,a,c⟩:=bnd c
    refine Goes.cut (s':=(ofG 36 (kE n w [(5,.i d),(35,.bool k)]),[])) ?_ ?_
    ·obtain⟨z,b,a⟩:=bnd a
     rcases wyD a with⟨e,a⟩|⟨e,a⟩
     ·obtain rfl:=si a
      exact tr fol [2,3,5] (kE n w [(5,.i d),(35,.bool true)]) (ac (iv qo encI b) (ac (lv 0 ce3 encI b rfl) (ac (gw e) az)))
     obtain⟨o,f,a⟩:=bnd a
     obtain rfl:=si a
     exact tr fol [2,3,5,8,9,14] (kE n w [(5,.i d),(35,.bool o)]) (ac (iv qo encI b) (ac (lv 0 ce3 encI b rfl) (ac (gw e) (ac (iv qo encI b) (ac (lv 0 ce3 encI b rfl) (ac (cv (qdd z (w64 (1-n)) (w64 (n-1)) f)) az))))))
    refine ihB c (fun p c=>?_) (fun p c=>?_)
    ·refine sh fol [(4,.i 3)] ?_
     refine Goes.ret ?_
     obtain rfl:=si c
     exact Or.inr (⟨rfl,_,rfl,(gw2 [.i 3] (Ua tI))⟩)
    refine Goes.skip ?_
    refine gh fol (kE n w (kA7 (w64 (d+1)))) ?_
    exact⟨M,(ofG 36 (kE n w (kA7 (w64 (d+1)))),[]),Nat.lt_succ_self _,(Sub.refl _),_,rfl,c⟩
   refine Goes.exit ?_
   obtain rfl:=si c
   exact Or.inl (⟨rfl,rfl,(Sub.keep [] rfl rfl)⟩)
 rintro x s' (⟨rfl,rfl,hsub⟩|⟨rfl,A,rfl,hret⟩)
 ·try dsimp only at h
  refine Goes.sub hsub ?_
  refine sh fol [(4,.i 0)] ?_
  refine Goes.ret ?_
  obtain rfl:=si h
  exact(gw2 [.i 0] (Ua tI))
 try dsimp only at h
 obtain rfl:=si h
 exact hret
def zk (n:Int) (colours:List Int):Nat->Int->Option (Unit⊕Int)
 |0,_=>none
 |K+1,a=>
  if a<n then
  (idx colours a).bind fun b=>
  (qbE b 0 7).bind fun c=>
  if c=true then
  some (.inr 3)
  else
  zk n colours K (w64 (a+1))
  else
  some (.inl ())
def yV (N:Nat) (n:Int) (colours:List Int):Option Int:=
 (qbE n 2 12).bind fun b=>
 if b=true then
 some 3
 else
 if(!decide ((colours.length:Int)=n))=true then
 some 2
 else
 (zk n colours N 0).bind (fun
 |(.inl ())=>
 some 0
 |(.inr a)=>
 some a)
theorem qe3 (N:Nat) (n:Int) (colours:List Int) {res:Int} (h:yV N n colours=some res):qb ZT (.fn 5) (.i n::(kA1 colours)) [] (.i res) []:=by
 unfold yV at h
 refine Ub Tryz.func5 rfl rfl (m:=22) rfl (rs:=[.tmp 4]) rfl (l:=(kE n colours [])) rfl ?_
 refine sh fol (kE n colours []) ?_
 refine sq ?_
 obtain⟨j,c,h⟩:=bnd h
 refine sq (gr fol [1] (kE n colours [(7,.bool j)]) (ac (cv (qdd n 2 12 c)) az) ?_)
 refine ihB h (fun k h=>?_) (fun k h=>?_)
 ·refine sh fol [(4,.i 3)] ?_
  refine Goes.ret ?_
  obtain rfl:=si h
  exact(gw2 [.i 3] (Ua tI))
 refine Goes.skip ?_
 refine sq ?_
 refine sh fol (kE n colours [(11,.bool (!decide ((colours.length:Int)=n)))]) ?_
 refine ihB h (fun o h=>?_) (fun o h=>?_)
 ·refine sh fol [(4,.i 2)] ?_
  refine Goes.ret ?_
  obtain rfl:=si h
  exact(gw2 [.i 2] (Ua tI))
 refine Goes.skip ?_
 refine sq ?_
 refine sh fol (kE n colours [(5,.i 0)]) ?_
 refine Goes.block ?_
 obtain⟨e,g5,h⟩:=bnd h
 refine Goes.imp (Q:=fun x s'=>(x= .exit 0/\(.inl ())=e/\Sub s' (ofG 22 [],[]))\/(x= .ret/\ ∃g,(.inr g)=e/\kz ZT [.tmp 4] (.i g) .ret s')) ?_ ?_
 ·refine Uc (fun M s=> ∃(a:Int),s=(ofG 22 (kE n colours (kA7 a)),[])/\zk n colours M a=some e) ?_ (m:=N) ⟨_,rfl,g5⟩
  rintro M s ⟨a,rfl,g5⟩
  cases M with
  |zero=>simp only[zk]at g5;cases g5
  |succ M=>
   rw[zk]at g5
   refine sq ?_
   refine sh fol (kE n colours ((5,.i a)::(kB6 (decide (a<n))))) ?_
   refine ihD g5 (fun p g5=>?_) (fun p g5=>?_)
   ·refine Goes.skip ?_
    refine sq (Goes.block ?_)
    obtain⟨q,b,g5⟩:=bnd g5
    obtain⟨r,d,g5⟩:=bnd g5
    refine sq (gr fol [2,3,4] (kE n colours [(5,.i a),(21,.bool r)]) (ac (iv qo encI b) (ac (lv 0 ce3 encI b rfl) (ac (cv (qdd q 0 7 d)) az))) ?_)
    refine ihB g5 (fun f g5=>?_) (fun f g5=>?_)
    ·refine sh fol [(4,.i 3)] ?_
     refine Goes.ret ?_
     obtain rfl:=si g5
     exact Or.inr (⟨rfl,_,rfl,(gw2 [.i 3] (Ua tI))⟩)
    refine Goes.skip ?_
    refine gh fol (kE n colours (kA7 (w64 (a+1)))) ?_
    exact⟨M,(ofG 22 (kE n colours (kA7 (w64 (a+1)))),[]),Nat.lt_succ_self _,(Sub.refl _),_,rfl,g5⟩
   refine Goes.exit ?_
   obtain rfl:=si g5
   exact Or.inl (⟨rfl,rfl,(Sub.keep [] rfl rfl)⟩)
 rintro x s' (⟨rfl,rfl,hsub⟩|⟨rfl,t,rfl,hret⟩)
 ·try dsimp only at h
  refine Goes.sub hsub ?_
  refine sh fol [(4,.i 0)] ?_
  refine Goes.ret ?_
  obtain rfl:=si h
  exact(gw2 [.i 0] (Ua tI))
 try dsimp only at h
 obtain rfl:=si h
 exact hret
def jv (l:List Int):Nat->Int->Option (Unit⊕Int)
 |0,_=>none
 |K+1,a=>
  if a<(l.length:Int)then
  (idx l a).bind fun b=>
  if(!decide (b=0))=true then
  some (.inr b)
  else
  jv l K (w64 (a+1))
  else
  some (.inl ())
def vo (N:Nat) (l:List Int):Option Int:=
 (jv l N 0).bind (fun
 |(.inl ())=>
 some 0
 |(.inr a)=>
 some a)
theorem xN (N:Nat) (l:List Int) {res:Int} (h:vo N l=some res):qb ZT (.fn 69) [vl encI l] [] (.i res) []:=by
 unfold vo at h
 refine Ub Tryz.func69 rfl rfl (m:=15) rfl (rs:=[.tmp 2]) rfl (l:=(kP l [])) rfl ?_
 refine sh fol (kP l []) ?_
 refine sq ?_
 refine sh fol [(5,vl encI l),(6,.i (l.length:Int)),(7,.i 0)] ?_
 refine Goes.block ?_
 obtain⟨d,g2,h⟩:=bnd h
 refine Goes.imp (Q:=fun x s'=>(x= .exit 0/\(.inl ())=d/\Sub s' (ofG 15 [],[]))\/(x= .ret/\ ∃e,(.inr e)=d/\kz ZT [.tmp 2] (.i e) .ret s')) ?_ ?_
 ·refine Uc (fun M s=> ∃(a:Int),s=(ofG 15 (kAx l (l.length:Int) a []),[])/\jv l M a=some d) ?_ (m:=N) ⟨_,rfl,g2⟩
  rintro M s ⟨a,rfl,g2⟩
  cases M with
  |zero=>simp only[jv]at g2;cases g2
  |succ M=>
   rw[jv]at g2
   refine sh fol (kAx l (l.length:Int) a [(8,.bool (decide (a<(l.length:Int))))]) ?_
   refine sq ?_
   refine ihD g2 (fun f g2=>?_) (fun f g2=>?_)
   ·refine Goes.skip ?_
    refine sq (Goes.block ?_)
    obtain⟨c,b,g2⟩:=bnd g2
    refine sq (gr fol [0,1] ((4,.i c)::(kAx l (l.length:Int) a [])) (ac (iv qrt encI b) (ac (lv 0 ce25 encI b rfl) az)) ?_)
    refine sh fol ((4,.i c)::(kAx l (l.length:Int) a [(12,.bool (!decide (c=0)))])) ?_
    refine ihB g2 (fun g g2=>?_) (fun g g2=>?_)
    ·refine sh fol (kBR c) ?_
     refine Goes.ret ?_
     obtain rfl:=si g2
     exact Or.inr (⟨rfl,_,rfl,(gw2 [.i c] (Ua tI))⟩)
    refine Goes.skip ?_
    refine gh fol (kAx l (l.length:Int) (w64 (a+1)) []) ?_
    exact⟨M,(ofG 15 (kAx l (l.length:Int) (w64 (a+1)) []),[]),Nat.lt_succ_self _,(Sub.refl _),_,rfl,g2⟩
   refine Goes.exit ?_
   obtain rfl:=si g2
   exact Or.inl (⟨rfl,rfl,(Sub.keep [] rfl rfl)⟩)
 rintro x s' (⟨rfl,rfl,hsub⟩|⟨rfl,j,rfl,hret⟩)
 ·try dsimp only at h
  refine Goes.sub hsub ?_
  refine sh fol [(2,.i 0)] ?_
  refine Goes.ret ?_
  obtain rfl:=si h
  exact(gw2 [.i 0] (Ua tI))
 try dsimp only at h
 obtain rfl:=si h
 exact hret
def zb (holds:Bool) (e:Int):Option Int:=
 if holds=true then
 some e
 else
 some 0
theorem zF (holds:Bool) (e:Int) {res:Int} (h:zb holds e=some res):qb ZT (.fn 71) [.bool holds,.i e] [] (.i res) []:=by
 unfold zb at h
 refine Ub Tryz.func71 rfl rfl (m:=7) rfl (rs:=[.tmp 4]) rfl (l:=((0,.bool holds)::(kB7 e))) rfl ?_
 refine sh fol ((0,.bool holds)::(kB7 e)) ?_
 refine sq ?_
 refine sh fol [(1,.i e),(5,.bool holds)] ?_
 refine ihB h (fun a h=>?_) (fun a h=>?_)
 ·refine sh fol (kBx e) ?_
  refine Goes.ret ?_
  obtain rfl:=si h
  exact(gw2 [.i e] (Ua tI))
 refine Goes.skip ?_
 refine sh fol [(4,.i 0)] ?_
 refine Goes.ret ?_
 obtain rfl:=si h
 exact(gw2 [.i 0] (Ua tI))
def jF (n:Int):Option Int:=
 (if n<1 then
 (zb true 3).bind fun a=>
 some a
 else
 (zb (decide (n>12)) 3).bind fun b=>
 some b:Option Int).bind fun c=>
 some c
theorem vH (n:Int) {res:Int} (h:jF n=some res):qb ZT (.fn 70) [.i n] [] (.i res) []:=by
 unfold jF at h
 refine Ub Tryz.func70 rfl rfl (m:=10) rfl (rs:=[.tmp 2]) rfl (l:=(kBi n)) rfl ?_
 refine sh fol (kBi n) ?_
 refine sq ?_
 obtain⟨e,a,h⟩:=bnd h
 refine Goes.cut (s':=(ofG 10 (kBR e),[])) ?_ ?_
 ·rcases wyD a with⟨d,a⟩|⟨d,a⟩
  ·obtain⟨f,b,a⟩:=bnd a
   obtain rfl:=si a
   exact tr fol [2,6] (kBR f) (ac (gw d) (ac (cv (zF true 3 b)) az))
  obtain⟨g,c,a⟩:=bnd a
  obtain rfl:=si a
  exact tr fol [2,6] (kBR g) (ac (gw d) (ac (cv (zF (decide (n>12)) 3 c)) az))
 refine Goes.ret ?_
 obtain rfl:=si h
 exact(gw2 [.i e] (Ua tI))
def qbd (n:Int) (letter:Int):Option Bool:=
 (if letter=0 then
 some true
 else
 if letter<=(w64 (0-n))then
 some true
 else
 some (decide (letter>=n)):Option Bool).bind fun a=>
 some a
theorem qhj (n:Int) (letter:Int) {res:Bool} (h:qbd n letter=some res):qb ZT (.fn 74) [.i n,.i letter] [] (.bool res) []:=by
 unfold qbd at h
 refine Ub Tryz.func74 rfl rfl (m:=18) rfl (rs:=[.tmp 4]) rfl (l:=(kAL n letter [])) rfl ?_
 refine sh fol (kAL n letter []) ?_
 refine sq ?_
 obtain⟨d,a,h⟩:=bnd h
 refine Goes.cut (s':=(ofG 18 (kBI d),[])) ?_ ?_
 ·rcases wyD a with⟨b,a⟩|⟨b,a⟩
  ·obtain rfl:=si a
   exact tr fol [2] kB8 (ac (gw b) az)
  rcases wyD a with⟨c,a⟩|⟨c,a⟩
  ·obtain rfl:=si a
   exact tr fol [2,8] kB8 (ac (gw b) (ac (gw c) az))
  obtain rfl:=si a
  exact tr fol [2,8] (kBI (decide (letter>=n))) (ac (gw b) (ac (gw c) az))
 refine Goes.ret ?_
 obtain rfl:=si h
 exact(gw2 [.bool d] (Ua tB))
def y8 (a:Int) (b:Int):Option Bool:=
 (qbd b a).bind fun c=>
 some c
theorem qd9 (a:Int) (b:Int) {res:Bool} (h:y8 a b=some res):qb ZT (.fn 73) [.i a,.fptr [.i b] 0] [] (.bool res) []:=by
 unfold y8 at h
 refine Ub Tryz.func73 rfl rfl (m:=7) rfl (rs:=[.tmp 3]) rfl (l:=[(0,.i a),(1,.fptr [.i b] 0)]) rfl ?_
 refine sh fol [(0,.i a),(1,.fptr [.i b] 0)] ?_
 obtain⟨d,c,h⟩:=bnd h
 refine sq (gr fol [2] (kBt d []) (ac (cv (qhj b a c)) az) ?_)
 refine Goes.ret ?_
 obtain rfl:=si h
 exact(gw2 [.bool d] (Ua tB))
def qF (a:List Int) (b:Int):Nat->Int->Option (Unit⊕Int)
 |0,_=>none
 |K+1,c=>
  if c<(a.length:Int)then
  (idx a c).bind fun d=>
  (y8 d b).bind fun e=>
  if e=true then
  some (.inr c)
  else
  qF a b K (w64 (c+1))
  else
  some (.inl ())
def vV (N:Nat) (a:List Int) (b:Int):Option Int:=
 (qF a b N 0).bind (fun
 |(.inl ())=>
 some (-1)
 |(.inr c)=>
 some c)
theorem qdC (N:Nat) (a:List Int) (b:Int) {res:Int} (h:vV N a b=some res):qb ZT (.fn 123) [vl encI a,.func (.func 73) [] [.fptr [.i b] 0]] [] (.i res) []:=by
 unfold vV at h
 refine Ub Tryz.func123 rfl rfl (m:=19) rfl (rs:=[.tmp 4]) rfl (l:=(kP a [(1,.func (.func 73) [] [.fptr [.i b] 0])])) rfl ?_
 refine sh fol (kP a [(1,.func (.func 73) [] [.fptr [.i b] 0])]) ?_
 refine sq ?_
 refine sh fol (kP a [(1,.func (.func 73) [] [.fptr [.i b] 0]),(7,.i (a.length:Int)),(8,.i 0)]) ?_
 refine Goes.block ?_
 obtain⟨f,g2,h⟩:=bnd h
 refine Goes.imp (Q:=fun x s'=>(x= .exit 0/\(.inl ())=f/\Sub s' (ofG 19 [],[]))\/(x= .ret/\ ∃j,(.inr j)=f/\kz ZT [.tmp 4] (.i j) .ret s')) ?_ ?_
 ·refine Uc (fun M s=> ∃(c:Int),s=(ofG 19 (kP a ((1,.func (.func 73) [] [.fptr [.i b] 0])::(kAo (a.length:Int) c []))),[])/\qF a b M c=some f) ?_ (m:=N) ⟨_,rfl,g2⟩
  rintro M s ⟨c,rfl,g2⟩
  cases M with
  |zero=>simp only[qF]at g2;cases g2
  |succ M=>
   rw[qF]at g2
   refine sh fol (kP a ((1,.func (.func 73) [] [.fptr [.i b] 0])::(kAo (a.length:Int) c [(9,.bool (decide (c<(a.length:Int))))]))) ?_
   refine sq ?_
   refine ihD g2 (fun n g2=>?_) (fun n g2=>?_)
   ·refine Goes.skip ?_
    refine sq (Goes.block ?_)
    refine sh fol (kP a ((1,.func (.func 73) [] [.fptr [.i b] 0])::(5,.i c)::(kAo (a.length:Int) c []))) ?_
    obtain⟨g,d,g2⟩:=bnd g2
    obtain⟨k,e,g2⟩:=bnd g2
    refine sq (gr fol [3,4,5] (kP a ((1,.func (.func 73) [] [.fptr [.i b] 0])::(5,.i c)::(kAo (a.length:Int) c [(16,.bool k)]))) (ac (iv qo encI d) (ac (lv 0 ce3 encI d rfl) (ac (hs (.call 73 [.i g,.fptr [.i b] 0] [] [] [.i g,.fptr [.i b] 0] (.bool k)) (qgi (FzL.cons (Uh tI) (FzL.cons (Uh (Still.fptr (AllST.cons tI AllST.nil))) FzL.nil)) (qd9 g b e) tB)) az))) ?_)
    refine ihB g2 (fun o g2=>?_) (fun o g2=>?_)
    ·refine sh fol (kBx c) ?_
     refine Goes.ret ?_
     obtain rfl:=si g2
     exact Or.inr (⟨rfl,_,rfl,(gw2 [.i c] (Ua tI))⟩)
    refine Goes.skip ?_
    refine gh fol (kP a ((1,.func (.func 73) [] [.fptr [.i b] 0])::(kAo (a.length:Int) (w64 (c+1)) []))) ?_
    exact⟨M,(ofG 19 (kP a ((1,.func (.func 73) [] [.fptr [.i b] 0])::(kAo (a.length:Int) (w64 (c+1)) []))),[]),Nat.lt_succ_self _,(Sub.refl _),_,rfl,g2⟩
   refine Goes.exit ?_
   obtain rfl:=si g2
   exact Or.inl (⟨rfl,rfl,(Sub.keep [] rfl rfl)⟩)
 rintro x s' (⟨rfl,rfl,hsub⟩|⟨rfl,p,rfl,hret⟩)
 ·try dsimp only at h
  refine Goes.sub hsub ?_
  refine sh fol [(4,.i (-1))] ?_
  refine Goes.ret ?_
  obtain rfl:=si h
  exact(gw2 [.i (-1)] (Ua tI))
 try dsimp only at h
 obtain rfl:=si h
 exact hret
def jR (N:Nat) (a:List Int) (b:Int):Option Bool:=
 (vV N a b).bind fun c=>
 some (decide (c>=0))
theorem qcK (N:Nat) (a:List Int) (b:Int) {res:Bool} (h:jR N a b=some res):qb ZT (.fn 72) [vl encI a,.func (.func 73) [] [.fptr [.i b] 0]] [] (.bool res) []:=by
 unfold jR at h
 refine Ub Tryz.func72 rfl rfl (m:=9) rfl (rs:=[.tmp 4]) rfl (l:=(kP a [(1,.func (.func 73) [] [.fptr [.i b] 0])])) rfl ?_
 refine sh fol (kP a [(1,.func (.func 73) [] [.fptr [.i b] 0])]) ?_
 obtain⟨d,c,h⟩:=bnd h
 refine sq (gr fol [2] (kBI (decide (d>=0))) (ac (hs (.call 123 [vl encI a,.func (.func 73) [] [.fptr [.i b] 0]] [] [] [vl encI a,.func (.func 73) [] [.fptr [.i b] 0]] (.i d)) (qgi (FzL.cons (Uh (ql encI _ (nl rfl))) (FzL.cons (Fz.func FzL.nil (FzL.cons (Uh (Still.fptr (AllST.cons tI AllST.nil))) FzL.nil)) FzL.nil)) (qdC N a b c) tI)) az) ?_)
 refine Goes.ret ?_
 obtain rfl:=si h
 exact(gw2 [.bool (decide (d>=0))] (Ua tB))
def yu (N:Nat) (n:Int) (w:List Int):Option Int:=
 (jF n).bind fun b=>
 (zb (decide ((w.length:Int)>200)) 5).bind fun c=>
 (vo N ([b,c]:List Int)).bind fun a=>
 if(!decide (a=0))=true then
 some a
 else
 (jR N w n).bind fun d=>
 (zb d 3).bind fun e=>
 some e
theorem qby (N:Nat) (n:Int) (w:List Int) {res:Int} (h:yu N n w=some res):qb ZT (.fn 24) (.i n::(kA1 w)) [] (.i res) []:=by
 unfold yu at h
 refine Ub Tryz.func24 rfl rfl (m:=21) rfl (rs:=[.tmp 4]) rfl (l:=(kE n w [])) rfl ?_
 refine sg fol (kBG w (kX [])) (kAJ n []) ?_
 refine sq ?_
 obtain⟨b,c,h⟩:=bnd h
 obtain⟨d,e,h⟩:=bnd h
 obtain⟨a,f,h⟩:=bnd h
 refine sq (gq fol [1,5,7] (kBG w (kX (kA7 a))) (kAJ n (kAd b d)) (ac (cv (vH n c)) (ac (cv (zF (decide ((w.length:Int)>200)) 5 e)) (ac (hs (.call 69 [.slice 1 0 2 2 1] (kAJ n (kAd b d)) [1] [vl encI ([b,d]:List Int)] (.i a)) (qbx (FzL.cons (Fz.lit rfl rfl (Uj (AllST.cons tI (AllST.cons tI AllST.nil)))) FzL.nil) (xN N ([b,d]:List Int) f) tI rfl)) az))) ?_)
 refine sh fol (kBG w (kX ((5,.i a)::(kBy (!decide (a=0)))))) ?_
 refine ihB h (fun p h=>?_) (fun p h=>?_)
 ·refine sh fol (kBx a) ?_
  refine Goes.ret ?_
  obtain rfl:=si h
  exact(gw2 [.i a] (Ua tI))
 refine Goes.skip ?_
 obtain⟨k,g,h⟩:=bnd h
 obtain⟨o,j,h⟩:=bnd h
 refine sq (gr fol [2,3] (kBx o) (ac (hs (.call 72 [vl encI w,.func (.func 73) [] [.ptr 0 0]] (kAJ n (kAd b d)) [0] [vl encI w,.func (.func 73) [] [.fptr [.i n] 0]] (.bool k)) (qbx (FzL.cons (Uh (ql encI _ (nl rfl))) (FzL.cons (Fz.func FzL.nil (FzL.cons (Fz.ptr rfl rfl (FzL.cons (Uh tI) FzL.nil)) FzL.nil)) FzL.nil)) (qcK N w n g) tB rfl)) (ac (cv (zF k 3 j)) az)) ?_)
 refine Goes.ret ?_
 obtain rfl:=si h
 exact(gw2 [.i o] (Ua tI))
def qbF (n:Int):Option Int:=
 some (if(w64 (0-n))>n then(w64 (0-n))else n)
theorem xV (n:Int) {res:Int} (h:qbF n=some res):qb ZT (.fn 57) [.i n] [] (.i res) []:=by
 unfold qbF at h
 refine Ub Tryz.func57 rfl rfl (m:=7) rfl (rs:=[.tmp 2]) rfl (l:=(kBi n)) rfl ?_
 refine sh fol (kBi n) ?_
 refine sh fol (kBR (if(w64 (0-n))>n then(w64 (0-n))else n)) ?_
 refine Goes.ret ?_
 obtain rfl:=si h
 exact(gw2 [.i (if(w64 (0-n))>n then(w64 (0-n))else n)] (Ua tI))
def zU (c:List Int):Nat->(List Int)->Int->Option (List Int)
 |0,_,_=>none
 |K+1,b,a=>
  if a<(c.length:Int)then
  (idx b a).bind fun e=>
  (put b a a).bind fun d=>
  zU c K d (w64 (a+1))
  else
  some b
def jl (N:Nat) (a:Int):Option (List Int):=
 (mk 8 a 0).bind fun b=>
 (zU b N b 0).bind fun c=>
 some c
theorem xx (N:Nat) (d:Int) {o:List Int} (h:jl N d=some o):qb ZT (.fn 75) [.i d] [] (.slice 0 0 o.length o.length 1) (kA o []):=by
 unfold jl at h
 refine Um Tryz.func75 rfl rfl (m:=18) rfl (rs:=[.tmp 2]) rfl (l:=(kBi d)) rfl ?_
 intro B hB
 refine sh fol (kBi d) ?_
 obtain⟨a,n,h⟩:=bnd h
 refine sq (gq fol [1] (kT a []) (kA a []) (ac (hs (.run [] (qR ZT 22 (.i d) (.i d)) [] (.slice 0 0 a.length a.length 1) (kA a []) false) (xW qo (E:=encI) (z:=0) rfl (by kernel_rfl) n rfl)) az) ?_)
 refine sq ?_
 refine sh fol (kT a [(8,.i (a.length:Int)),(9,.i 0)]) ?_
 refine Goes.block ?_
 obtain⟨p,c,h⟩:=bnd h
 refine Goes.imp (Q:=fun x s'=>(x= .exit 0/\ ∃k,k=p/\Sub s' (ofG 18 (kT k []),(kA k [])))) ?_ ?_
 ·refine Uc (fun M s=> ∃(e:List Int) (b:Int),s=(ofG 18 (kT e (kAe (a.length:Int) b)),(kA e []))/\zU a M e b=some p) ?_ (m:=N) ⟨_,_,rfl,c⟩
  rintro M s ⟨e,b,rfl,c⟩
  cases M with
  |zero=>simp only[zU]at c;cases c
  |succ M=>
   rw[zU]at c
   refine sh fol (kT e ((8,.i (a.length:Int))::(9,.i b)::(kB5 (decide (b<(a.length:Int)))))) ?_
   refine sq ?_
   refine ihD c (fun q c=>?_) (fun q c=>?_)
   ·refine Goes.skip ?_
    refine sq (Goes.block ?_)
    refine sh fol (kT e ((4,.i b)::(kAe (a.length:Int) b))) ?_
    obtain⟨r,f,c⟩:=bnd c
    obtain⟨g,j,c⟩:=bnd c
    refine gq fol [3,4] (kT e (kAe (a.length:Int) b)) (kA g []) (ac (hs (.done (.opt (qc ZT 22 (.slice 0 0 e.length e.length 1) (.i b))) (.ptr 0 ((b:Int).toNat*1+0))) (zI qo f)) (ac (hs (.run [0] (qm ZT 3 (.ptr 0 ((b:Int).toNat*1+0)) (.i b)) (kA e []) .undef (kA g []) true) (zY (E:=encI) (l:=e) (y:=b) rfl (show _=some 1 by kernel_rfl) rfl f rfl rfl rfl rfl rfl j rfl)) az)) ?_
    refine Goes.sub (show Sub (ofG 18 (kT e (kAe (a.length:Int) b)),(kA g [])) (ofG 18 (kT g (kAe (a.length:Int) b)),(kA g []))from(Sub.norm [] [some 0] (by rw[hB];rfl) rfl (.keep (.sliceE rfl (qH j)) (.keep (.same nI) (.keep (.same nI) .nil))) (.ks .nil))) ?_
    refine gh fol (kT g (kAe (a.length:Int) (w64 (b+1)))) ?_
    exact⟨M,(ofG 18 (kT g (kAe (a.length:Int) (w64 (b+1)))),(kA g [])),Nat.lt_succ_self _,(Sub.refl _),_,_,rfl,c⟩
   refine Goes.exit ?_
   obtain rfl:=si c
   exact⟨rfl,_,rfl,(Sub.keep [3] rfl rfl)⟩
 rintro x s' ⟨rfl,k,rfl,hsub⟩
 refine Goes.sub hsub ?_
 refine sh fol (kB0 k) ?_
 refine Goes.ret ?_
 obtain rfl:=si h
 exact(gh2 [.slice 0 0 k.length k.length 1] (qbQ.refl _ _))
def qbD (a:Int) (b:List Int):Option Unit:=
 some ()
theorem qe2 (a:Int) (b:List Int) (h:qbD a b=some ()):qb ZT (.fn 76) (.i a::(kA1 b)) [] (.func (.func 124) [] kBq) (kL a b []):=by
 unfold qbD at h
 refine Um Tryz.func76 rfl rfl (m:=6) rfl (rs:=[.tmp 4]) rfl (l:=(kE a b [])) rfl ?_
 intro B hB
 refine sg fol (kX (kBm [])) (kL a b []) ?_
 refine sh fol [(4,.func (.func 124) [] kBq)] ?_
 refine Goes.ret ?_
 exact(gh2 [.func (.func 124) [] kBq] (qbQ.refl _ _))
def qcu (a:List Int) (e:Int) (b:Int) (c:Int):Option (List Int):=
 (idx a b).bind fun f=>
 (put a b (w64 (f+1))).bind fun d=>
 (idx d c).bind fun g=>
 (put d c (w64 (g-1))).bind fun h=>
 some h
theorem qg4 (c:List Int) (k:Int) (a:Int) (b:Int) {o:List Int} (h:qcu c k a b=some o):qb ZT (.rd 0) [.i k,.agg [.i a,.i b]] (.loop .ready none (ofG 30 [(5,.ptr 1 0)]) qj.xp qj.x1 qj.x2::(kD c (kA c []))) (.bool true) (.loop .ready none (ofG 30 [(5,.ptr 1 0)]) qj.xp qj.x1 qj.x2::(kD o (kA o []))):=by
 unfold qcu at h
 refine Goes.round (m:=30) (l0:=(kBS [])) (l:=(kBS [(13,.i k),(14,.agg [.i a,.i b])])) rfl rfl rfl ?_
 intro B hB
 refine Up ?_
 refine Goes.rg fol (kBS [(7,.ptr 3 0)]) (.loop .ready none (ofG 30 [(5,.ptr 1 0)]) qj.xp qj.x1 qj.x2::(kD c (kA c (kAd a b)))) ?_
 refine⟨_,Sub.refl _,?_⟩
 refine⟨_,_,_,_,_,rfl,?_⟩
 refine Up ?_
 refine Goes.block ?_
 obtain⟨x2,e,h⟩:=bnd h
 obtain⟨d,g,h⟩:=bnd h
 refine sq (gq fol [3,4,6,7] (kBS [(7,.ptr 3 0)]) (.loop .busy none (ofG 30 [(5,.ptr 1 0)]) qj.xp qj.x1 qj.x2::(kD c (kA d (kAd a b)))) (ac (hs (.done (.opt (qc ZT 22 (.slice 2 0 c.length c.length 1) (.i a))) (.ptr 2 ((a:Int).toNat*1+0))) (zI qo e)) (ac (hs (.run [2] (qV ZT 3 (.ptr 2 ((a:Int).toNat*1+0))) (.loop .busy none (ofG 30 [(5,.ptr 1 0)]) qj.xp qj.x1 qj.x2::(kD c (kA c (kAd a b)))) (.i x2) (.loop .busy none (ofG 30 [(5,.ptr 1 0)]) qj.xp qj.x1 qj.x2::(kD c (kA c (kAd a b)))) false) (yE ce3 (E:=encI) (l:=c) rfl rfl e (nl rfl) rfl)) (ac (hs (.done (.opt (qc ZT 22 (.slice 2 0 c.length c.length 1) (.i a))) (.ptr 2 ((a:Int).toNat*1+0))) (zI qo e)) (ac (hs (.run [2] (qm ZT 3 (.ptr 2 ((a:Int).toNat*1+0)) (.i (w64 (x2+1)))) (.loop .busy none (ofG 30 [(5,.ptr 1 0)]) qj.xp qj.x1 qj.x2::(kD c (kA c (kAd a b)))) .undef (.loop .busy none (ofG 30 [(5,.ptr 1 0)]) qj.xp qj.x1 qj.x2::(kD c (kA d (kAd a b)))) true) (zY (E:=encI) (l:=c) (y:=w64 (x2+1)) rfl (show _=some 1 by kernel_rfl) rfl e rfl rfl rfl rfl rfl g rfl)) az)))) ?_)
 refine Goes.sub (show Sub (ofG 30 (kBS [(7,.ptr 3 0)]),(.loop .busy none (ofG 30 [(5,.ptr 1 0)]) qj.xp qj.x1 qj.x2::(kD c (kA d (kAd a b))))) (ofG 30 (kBS [(7,.ptr 3 0)]),(.loop .busy none (ofG 30 [(5,.ptr 1 0)]) qj.xp qj.x1 qj.x2::(kD d (kA d (kAd a b)))))from(Sub.norm [] [some 0,some 1,some 2,some 3] (by rw[hB];rfl) rfl (.kp (.kp .nil)) (.kb rfl (.loop rfl (.kp .nil)) (.kb rfl (.cells (rc (.sliceE rfl (qH g)) rn)) (.ks (.kb rfl (.same sn) .nil)))))) ?_
 obtain⟨p,f,h⟩:=bnd h
 obtain⟨n,j,h⟩:=bnd h
 refine gq fol [3,4,6,7] [] (.loop .busy none (ofG 30 [(5,.ptr 1 0)]) qj.xp qj.x1 qj.x2::(kD d (kA n (kAd a b)))) (ac (hs (.done (.opt (qc ZT 22 (.slice 2 0 d.length d.length 1) (.i b))) (.ptr 2 ((b:Int).toNat*1+0))) (zI qo f)) (ac (hs (.run [2] (qV ZT 3 (.ptr 2 ((b:Int).toNat*1+0))) (.loop .busy none (ofG 30 [(5,.ptr 1 0)]) qj.xp qj.x1 qj.x2::(kD d (kA d (kAd a b)))) (.i p) (.loop .busy none (ofG 30 [(5,.ptr 1 0)]) qj.xp qj.x1 qj.x2::(kD d (kA d (kAd a b)))) false) (yE ce3 (E:=encI) (l:=d) rfl rfl f (nl rfl) rfl)) (ac (hs (.done (.opt (qc ZT 22 (.slice 2 0 d.length d.length 1) (.i b))) (.ptr 2 ((b:Int).toNat*1+0))) (zI qo f)) (ac (hs (.run [2] (qm ZT 3 (.ptr 2 ((b:Int).toNat*1+0)) (.i (w64 (p-1)))) (.loop .busy none (ofG 30 [(5,.ptr 1 0)]) qj.xp qj.x1 qj.x2::(kD d (kA d (kAd a b)))) .undef (.loop .busy none (ofG 30 [(5,.ptr 1 0)]) qj.xp qj.x1 qj.x2::(kD d (kA n (kAd a b)))) true) (zY (E:=encI) (l:=d) (y:=w64 (p-1)) rfl (show _=some 1 by kernel_rfl) rfl f rfl rfl rfl rfl rfl j rfl)) az)))) ?_
 obtain rfl:=si h
 exact⟨_,(show Sub (ofG 30 [],(.loop .busy none (ofG 30 [(5,.ptr 1 0)]) qj.xp qj.x1 qj.x2::(kD d (kA n (kAd a b))))) (ofG 30 [],(.loop .busy none (ofG 30 [(5,.ptr 1 0)]) qj.xp qj.x1 qj.x2::(kD n (kA n []))))from(Sub.norm [] [some 0,some 1,some 2] (by rw[hB];rfl) rfl .nil (.kb rfl (.loop rfl (.kp .nil)) (.kb rfl (.cells (rc (.sliceE rfl (qH j)) rn)) (.ks .nil))))),⟨_,_,rfl,(qbQ.refl _ _)⟩⟩
def ze (b:List Int):Nat->(List Int)->(List Int)->Int->Option (List Int)
 |0,_,_,_=>none
 |K+1,k,g,h=>
  if h<(b.length:Int)then
  (idx b h).bind fun c=>
  (qbF c).bind fun a=>
  (idx g (w64 (a-1))).bind fun d=>
  (idx g (w64 ((w64 (a-1))+1))).bind fun e=>
  (qcu k c d e).bind fun i=>
  (put g (w64 (a-1)) e).bind fun f=>
  (idx f (w64 ((w64 (a-1))+1))).bind fun l=>
  (put f (w64 ((w64 (a-1))+1)) d).bind fun j=>
  ze b K i j (w64 (h+1))
  else
  some k
def yZ (N:Nat) (a:List Int) (b:Int) (c:List Int):Option (List Int):=
 (jl N b).bind fun d=>
 (ze c N a d 0).bind fun e=>
 some e
theorem qd5 (N:Nat) (o:List Int) (d:Int) (a:List Int) {K:List Int} (h:yZ N o d a=some K):qb ZT (.fn 124) [.yld 0,.ptr 3 0,.ptr 4 0] (.loop .ready none (ofG 30 [(5,.ptr 1 0)]) qj.xp qj.x1 qj.x2::(kD o (kA o (kL d a [])))) (.tuple []) (.loop .ready none (ofG 30 [(5,.ptr 1 0)]) qj.xp qj.x1 qj.x2::(kD K (kA K (kL d a [])))):=by
 unfold yZ at h
 refine Um Tryz.func124 rfl rfl (m:=50) rfl (rs:=[]) rfl (l:=[(0,.yld 0),(1,.ptr 3 0),(2,.ptr 4 0)]) rfl ?_
 intro B hB
 refine Up ?_
 obtain⟨H,I,h⟩:=bnd h
 refine sq (gq fol [1] ((0,.yld 0)::(2,.ptr 4 0)::(kAa H [])) (.loop .ready none (ofG 30 [(5,.ptr 1 0)]) qj.xp qj.x1 qj.x2::(kD o (kA o (kL d a (kA H []))))) (ac (hs (.callH 75 [.i d] (.loop .ready none (ofG 30 [(5,.ptr 1 0)]) qj.xp qj.x1 qj.x2::(kD o (kA o (kL d a [])))) [] (.slice 5 0 H.length H.length 1) (.loop .ready none (ofG 30 [(5,.ptr 1 0)]) qj.xp qj.x1 qj.x2::(kD o (kA o (kL d a (kA H [])))))) (vv [] [none,none,none,none,none,some 0] (xx N d I) .nil rfl rfl (.old rfl rfl (.old rfl rfl (.old rfl rfl (.old rfl rfl (.old rfl rfl (.new rfl rfl (.same fa) rfl .nil)))))) (rc (.same nI) rn) (.slice rfl) rfl)) az) ?_)
 refine sh fol ((0,.yld 0)::(kAa H [(10,vl encI a),(11,.i (a.length:Int)),(12,.i 0)])) ?_
 refine Goes.block ?_
 obtain⟨L,k,h⟩:=bnd h
 refine Goes.imp (Q:=fun x s'=>(x= .exit 0/\ ∃J,J=L/\Sub s' (ofG 50 [],(.loop .ready none (ofG 30 [(5,.ptr 1 0)]) qj.xp qj.x1 qj.x2::(kD J (kA J (kL d a []))))))) ?_ ?_
 ·refine Uc (fun M s=> ∃(q:List Int) (g:List Int) (r:Int),s=(ofG 50 ((0,.yld 0)::(kAa g (kAH a (a.length:Int) r []))),(.loop .ready none (ofG 30 [(5,.ptr 1 0)]) qj.xp qj.x1 qj.x2::(kD q (kA q (kL d a (kA g []))))))/\ze a M q g r=some L) ?_ (m:=N) ⟨_,_,_,rfl,k⟩
  rintro M s ⟨q,g,r,rfl,k⟩
  cases M with
  |zero=>simp only[ze]at k;cases k
  |succ M=>
   rw[ze]at k
   refine sh fol ((0,.yld 0)::(kAa g (kAH a (a.length:Int) r (kBe (decide (r<(a.length:Int))))))) ?_
   refine sq ?_
   refine ihD k (fun O k=>?_) (fun O k=>?_)
   ·refine Goes.skip ?_
    refine sq (Goes.block ?_)
    obtain⟨v,w,k⟩:=bnd k
    refine sq (gr fol [0,1] ((0,.yld 0)::(kAa g ((6,.i v)::(kAH a (a.length:Int) r [])))) (ac (iv qo encI w) (ac (lv 0 ce3 encI w rfl) az)) ?_)
    obtain⟨f,C,k⟩:=bnd k
    refine sq (gr fol [1] ((0,.yld 0)::(kAa g ((6,.i v)::(7,.i (w64 (f-1)))::(kAH a (a.length:Int) r [])))) (ac (cv (xV v C)) az) ?_)
    refine sq ?_
    obtain⟨t,j,k⟩:=bnd k
    obtain⟨u,n,k⟩:=bnd k
    obtain⟨e,D,k⟩:=bnd k
    refine sq (gq fol [4,5,9,10,12] ((0,.yld 0)::(kAa g ((7,.i (w64 (f-1)))::(kAH a (a.length:Int) r [(32,.bool false)])))) (.loop .ready none (ofG 30 [(5,.ptr 1 0)]) qj.xp qj.x1 qj.x2::(kD e (kA e (kL d a (kA g []))))) (ac (hs (.done (.opt (qc ZT 22 (.slice 5 0 g.length g.length 1) (.i (w64 (f-1))))) (.ptr 5 ((w64 (f-1):Int).toNat*1+0))) (zI qo j)) (ac (hs (.run [5] (qV ZT 3 (.ptr 5 ((w64 (f-1):Int).toNat*1+0))) (.loop .ready none (ofG 30 [(5,.ptr 1 0)]) qj.xp qj.x1 qj.x2::(kD q (kA q (kL d a (kA g []))))) (.i t) (.loop .ready none (ofG 30 [(5,.ptr 1 0)]) qj.xp qj.x1 qj.x2::(kD q (kA q (kL d a (kA g []))))) false) (yE ce3 (E:=encI) (l:=g) rfl rfl j (nl rfl) rfl)) (ac (hs (.done (.opt (qc ZT 22 (.slice 5 0 g.length g.length 1) (.i (w64 ((w64 (f-1))+1))))) (.ptr 5 ((w64 ((w64 (f-1))+1):Int).toNat*1+0))) (zI qo n)) (ac (hs (.run [5] (qV ZT 3 (.ptr 5 ((w64 ((w64 (f-1))+1):Int).toNat*1+0))) (.loop .ready none (ofG 30 [(5,.ptr 1 0)]) qj.xp qj.x1 qj.x2::(kD q (kA q (kL d a (kA g []))))) (.i u) (.loop .ready none (ofG 30 [(5,.ptr 1 0)]) qj.xp qj.x1 qj.x2::(kD q (kA q (kL d a (kA g []))))) false) (yE ce3 (E:=encI) (l:=g) rfl rfl n (nl rfl) rfl)) (ac (hs (.callH (.rd 0) [.i v,.agg [.i t,.i u]] (.loop .ready none (ofG 30 [(5,.ptr 1 0)]) qj.xp qj.x1 qj.x2::(kD q (kA q (kL d a (kA g []))))) [0,1,2] (.bool true) (.loop .ready none (ofG 30 [(5,.ptr 1 0)]) qj.xp qj.x1 qj.x2::(kD e (kA e (kL d a (kA g [])))))) (qmz [some 0,some 1,some 2] [some 0,some 1,some 2,none,none,none] (qg4 q v t u D) rfl (.kb rfl (.loop rfl (.kp .nil)) (.kb rfl (.cells (rc (.slice rfl) rn)) (.ks .nil))) rfl rfl (.back rfl rfl (.loop rfl (.kp .nil)) rfl (.back rfl rfl (.cells (rc (.slice rfl) rn)) rfl (.back rfl rfl (.same fa) rfl (.old rfl rfl (.old rfl rfl (.old rfl rfl .nil)))))) (rc (.same nI) (rc (.same (qy.agg sn)) rn)) (.same nB) rfl)) az))))) ?_)
    refine Goes.ifB (b:=false) (by kernel_rfl) (fun c=>(by cases c)) (fun _=>?_)
    refine Goes.skip ?_
    obtain⟨F,z,k⟩:=bnd k
    obtain⟨P,G,k⟩:=bnd k
    obtain⟨p,A,k⟩:=bnd k
    refine gq fol [8,9,12,13,14,15,16,17] ((0,.yld 0)::(kAa g (kAH a (a.length:Int) r []))) (.loop .ready none (ofG 30 [(5,.ptr 1 0)]) qj.xp qj.x1 qj.x2::(kD e (kA e (kL d a (kA p []))))) (ac (hs (.done (.opt (qc ZT 22 (.slice 5 0 g.length g.length 1) (.i (w64 ((w64 (f-1))+1))))) (.ptr 5 ((w64 ((w64 (f-1))+1):Int).toNat*1+0))) (zI qo n)) (ac (hs (.run [5] (qV ZT 3 (.ptr 5 ((w64 ((w64 (f-1))+1):Int).toNat*1+0))) (.loop .ready none (ofG 30 [(5,.ptr 1 0)]) qj.xp qj.x1 qj.x2::(kD e (kA e (kL d a (kA g []))))) (.i u) (.loop .ready none (ofG 30 [(5,.ptr 1 0)]) qj.xp qj.x1 qj.x2::(kD e (kA e (kL d a (kA g []))))) false) (yE ce3 (E:=encI) (l:=g) rfl rfl n (nl rfl) rfl)) (ac (hs (.done (.opt (qc ZT 22 (.slice 5 0 g.length g.length 1) (.i (w64 (f-1))))) (.ptr 5 ((w64 (f-1):Int).toNat*1+0))) (zI qo j)) (ac (hs (.run [5] (qV ZT 3 (.ptr 5 ((w64 (f-1):Int).toNat*1+0))) (.loop .ready none (ofG 30 [(5,.ptr 1 0)]) qj.xp qj.x1 qj.x2::(kD e (kA e (kL d a (kA g []))))) (.i t) (.loop .ready none (ofG 30 [(5,.ptr 1 0)]) qj.xp qj.x1 qj.x2::(kD e (kA e (kL d a (kA g []))))) false) (yE ce3 (E:=encI) (l:=g) rfl rfl j (nl rfl) rfl)) (ac (hs (.done (.opt (qc ZT 22 (.slice 5 0 g.length g.length 1) (.i (w64 (f-1))))) (.ptr 5 ((w64 (f-1):Int).toNat*1+0))) (zI qo j)) (ac (hs (.run [5] (qm ZT 3 (.ptr 5 ((w64 (f-1):Int).toNat*1+0)) (.i u)) (.loop .ready none (ofG 30 [(5,.ptr 1 0)]) qj.xp qj.x1 qj.x2::(kD e (kA e (kL d a (kA g []))))) .undef (.loop .ready none (ofG 30 [(5,.ptr 1 0)]) qj.xp qj.x1 qj.x2::(kD e (kA e (kL d a (kA F []))))) true) (zY (E:=encI) (l:=g) (y:=u) rfl (show _=some 1 by kernel_rfl) rfl j rfl rfl rfl rfl rfl z rfl)) (ac (hs (.done (.opt (qc ZT 22 (.slice 5 0 g.length g.length 1) (.i (w64 ((w64 (f-1))+1))))) (.ptr 5 ((w64 ((w64 (f-1))+1):Int).toNat*1+0))) (zI qo n)) (ac (hs (.run [5] (qm ZT 3 (.ptr 5 ((w64 ((w64 (f-1))+1):Int).toNat*1+0)) (.i t)) (.loop .ready none (ofG 30 [(5,.ptr 1 0)]) qj.xp qj.x1 qj.x2::(kD e (kA e (kL d a (kA F []))))) .undef (.loop .ready none (ofG 30 [(5,.ptr 1 0)]) qj.xp qj.x1 qj.x2::(kD e (kA e (kL d a (kA p []))))) true) (zY (E:=encI) (l:=F) (y:=t) rfl (show _=some 1 by kernel_rfl) rfl G rfl rfl rfl rfl rfl A rfl)) az)))))))) ?_
    refine Goes.sub (show Sub (ofG 50 ((0,.yld 0)::(kAa g (kAH a (a.length:Int) r []))),(.loop .ready none (ofG 30 [(5,.ptr 1 0)]) qj.xp qj.x1 qj.x2::(kD e (kA e (kL d a (kA p [])))))) (ofG 50 ((0,.yld 0)::(kAa p (kAH a (a.length:Int) r []))),(.loop .ready none (ofG 30 [(5,.ptr 1 0)]) qj.xp qj.x1 qj.x2::(kD e (kA e (kL d a (kA p []))))))from(Sub.norm [] [some 0,some 1,some 2,some 3,some 4,some 5] (by rw[hB];rfl) rfl (.keep (.yld rfl) (.keep (.sliceE rfl ((qH z).trans (qH A))) (.keep (.same (qf encI _)) (.keep (.same nI) (.keep (.same nI) .nil))))) (.kb rfl (.loop rfl (.kp .nil)) (.kb rfl (.cells (rc (.slice rfl) rn)) (.ks (.kb rfl (.same sn) (.kb rfl (.same sn) (.ks .nil)))))))) ?_
    refine gh fol ((0,.yld 0)::(kAa p (kAH a (a.length:Int) (w64 (r+1)) []))) ?_
    exact⟨M,(ofG 50 ((0,.yld 0)::(kAa p (kAH a (a.length:Int) (w64 (r+1)) []))),(.loop .ready none (ofG 30 [(5,.ptr 1 0)]) qj.xp qj.x1 qj.x2::(kD e (kA e (kL d a (kA p [])))))),Nat.lt_succ_self _,(Sub.refl _),_,_,_,rfl,k⟩
   refine Goes.exit ?_
   obtain rfl:=si k
   exact⟨rfl,_,rfl,(Sub.norm [] [some 0,some 1,some 2,some 3,some 4] (by rw[hB];rfl) rfl .nil (.kb rfl (.loop rfl (.kp .nil)) (.kb rfl (.cells (rc (.slice rfl) rn)) (.ks (.kb rfl (.same sn) (.kb rfl (.same sn) .nil))))))⟩
 rintro x s' ⟨rfl,J,rfl,hsub⟩
 obtain rfl:=si h
 exact⟨_,hsub,(gh2 [] (qbQ.refl _ _))⟩
def qdq (N:Nat) (n:Int) (w:List Int):Option (List Int):=
 (jl N n).bind fun a=>
 (qbD n w).bind fun _=>
 (yZ N a n w).bind fun b=>
 some b
theorem qji (N:Nat) (n:Int) (w:List Int) {res:List Int} (h:qdq N n w=some res):qb ZT (.fn 25) (.i n::(kA1 w)) [] (vl encI res) []:=by
 unfold qdq at h
 refine Ub Tryz.func25 rfl rfl (m:=30) rfl (rs:=[.tmp 4]) rfl (l:=(kE n w [])) rfl ?_
 refine sh fol (kE n w []) ?_
 obtain⟨b,c,h⟩:=bnd h
 refine sq (gq fol [1] (kE n w (kBS [])) (kA b (kAk b [])) (ac (hs (.callH 75 [.i n] [] [] (.slice 0 0 b.length b.length 1) (kA b [])) (vv [] [some 0] (xx N n c) .nil rfl rfl (.new rfl rfl (.same fa) rfl .nil) (rc (.same nI) rn) (.slice rfl) rfl)) az) ?_)
 refine sq ?_
 obtain⟨_,d,h⟩:=bnd h
 refine sq (gq fol [2] (kBS [(12,.func (.func 124) [] [.ptr 2 0,.ptr 3 0])]) (kA b (kAk b (kL n w []))) (ac (hs (.callH 76 (.i n::(kA1 w)) (kA b (kAk b [])) [] (.func (.func 124) [] kBr) (kA b (kAk b (kL n w [])))) (vv [] [none,none,some 0,some 1] (qe2 n w d) .nil rfl rfl (.old rfl rfl (.old rfl rfl (.new rfl rfl (.cells (rc (.same nI) rn)) rfl (.new rfl rfl (.cells (rc (.same (qf encI _)) rn)) rfl .nil)))) (rc (.same nI) (rc (.same (qf encI _)) rn)) (.funcL (sn) (rc (.ptr rfl) (rc (.ptr rfl) rn))) rfl)) az) ?_)
 refine Goes.block ?_
 obtain⟨a,e,h⟩:=bnd h
 refine Goes.range fol rfl (gf:=124) (first:=[]) (captured:=kBr) (v:= .tuple []) (A2:=(kA a (kAk a (kL n w [.loop .ready none (ofG 30 [(5,.ptr 1 0)]) qj.xp qj.x1 qj.x2])))) (s':=(ofG 30 (kBS [(12,.func (.func 124) [] [.ptr 2 0,.ptr 3 0])]),(kA a (kAk a (kL n w [.loop .exhausted none (ofG 30 [(5,.ptr 1 0)]) qj.xp qj.x1 qj.x2]))))) (x:= .normal) (by kernel_rfl) (by kernel_rfl) (qid (show(Obl.callH 124 (.yld 4::kBr) (kA b (kAk b (kL n w [.loop .ready none (ofG 30 [(5,.ptr 1 0),(12,.func (.func 124) [] [.ptr 2 0,.ptr 3 0])]) qj.xp qj.x1 qj.x2]))) [4,1,0,2,3] (.tuple []) (kA a (kAk a (kL n w [.loop .ready none (ofG 30 [(5,.ptr 1 0)]) qj.xp qj.x1 qj.x2])))).Holds ZT from vv [some 4,some 1,some 0,some 2,some 3] [some 2,some 1,some 3,some 4,some 0] (qd5 N b n w e) (.kb rfl (.loop rfl (.kp (.drop .nil))) (.kb rfl (.cells (rc (.slice rfl) rn)) (.ks (.kb rfl (.cells (rc (.same nI) rn)) (.kb rfl (.cells (rc (.same (qf encI _)) rn)) .nil))))) rfl rfl (.back rfl rfl (.same fa) rfl (.back rfl rfl (.cells (rc (.slice rfl) rn)) rfl (.back rfl rfl (.cells (rc (.same nI) rn)) rfl (.back rfl rfl (.cells (rc (.same (qf encI _)) rn)) rfl (.back rfl rfl (.loop rfl (.kp .nil)) rfl .nil))))) (rc (.yld rfl) (rc (.ptr rfl) (rc (.ptr rfl) rn))) (.same (qy.tuple sn)) rfl)) (by kernel_rfl) ?_
 refine Goes.sub (show Sub (ofG 30 (kBS [(12,.func (.func 124) [] [.ptr 2 0,.ptr 3 0])]),(kA a (kAk a (kL n w [.loop .exhausted none (ofG 30 [(5,.ptr 1 0)]) qj.xp qj.x1 qj.x2])))) (ofG 30 [(5,.ptr 0 0),(12,.func (.func 124) [] [.ptr 2 0,.ptr 3 0])],(.cells [.slice 1 0 a.length a.length 1]::(kA a (kL n w []))))from(Sub.norm [] [some 1,some 0,some 2,some 3] rfl rfl (.kp (.keep (.funcL (sn) (rc (.ptr rfl) (rc (.ptr rfl) rn))) .nil)) (.kb rfl (.cells (rc (.slice rfl) rn)) (.ks (.kb rfl (.same sn) (.kb rfl (.same sn) .nil)))))) ?_
 refine sh fol [(4,.slice 1 0 a.length a.length 1)] ?_
 refine Goes.ret ?_
 obtain rfl:=si h
 exact(gw2 [.slice 1 0 a.length a.length 1] (Ux (U0 (E:=encI) rfl rfl (nl rfl))))
def qck (N:Nat) (n:Int) (w:List Int):Option ((List Int)×Int):=
 (yu N n w).bind fun a=>
 if(!decide (a=0))=true then
 some ([],a)
 else
 (qdq N n w).bind fun b=>
 some (b,0)
theorem qf5 (N:Nat) (n:Int) (w:List Int) {res:(List Int)×Int} (h:qck N n w=some res):qb ZT (.fn 7) (.i n::(kA1 w)) [] (.tuple (kBF res.1 res.2)) []:=by
 unfold qck at h
 refine Ub Tryz.func7 rfl rfl (m:=16) rfl (rs:=[.tmp 4,.tmp 5]) rfl (l:=(kE n w [])) rfl ?_
 refine sh fol (kE n w []) ?_
 refine sq ?_
 obtain⟨a,b,h⟩:=bnd h
 refine sq (gr fol [2] (kE n w [(6,.i a)]) (ac (cv (qby N n w b)) az) ?_)
 refine sh fol (kE n w [(6,.i a),(11,.bool (!decide (a=0)))]) ?_
 refine ihB h (fun e h=>?_) (fun e h=>?_)
 ·refine sh fol ((4,.nilslice)::(kA7 a)) ?_
  refine Goes.ret ?_
  obtain rfl:=si h
  exact(gw2 [.nilslice,.i a] (FzW.tuple (qh.cons (FzW.nilv (E:=encI)) (qh.cons (Ua tI) qh.nil))))
 refine Goes.skip ?_
 obtain⟨d,c,h⟩:=bnd h
 refine sq (gr fol [2] [(4,vl encI d),(5,.i 0)] (ac (cv (qji N n w c)) az) ?_)
 refine Goes.ret ?_
 obtain rfl:=si h
 exact(gw2 [vl encI d,.i 0] (FzW.tuple (qh.cons (Ua (ql encI _ (nl rfl))) (qh.cons (Ua tI) qh.nil))))
def vL (l:List Int):Nat->Int->Option (Unit⊕Int)
 |0,_=>none
 |K+1,a=>
  if a<(l.length:Int)then
  (idx l a).bind fun b=>
  if(!decide (b=0))=true then
  some (.inr b)
  else
  vL l K (w64 (a+1))
  else
  some (.inl ())
def vP (N:Nat) (l:List Int):Option Int:=
 (vL l N 0).bind (fun
 |(.inl ())=>
 some 0
 |(.inr a)=>
 some a)
theorem xC (N:Nat) (l:List Int) {res:Int} (h:vP N l=some res):qb ZT (.fn 48) [vl encI l] [] (.i res) []:=by
 unfold vP at h
 refine Ub Tryz.func48 rfl rfl (m:=15) rfl (rs:=[.tmp 2]) rfl (l:=(kP l [])) rfl ?_
 refine sh fol (kP l []) ?_
 refine sq ?_
 refine sh fol [(5,vl encI l),(6,.i (l.length:Int)),(7,.i 0)] ?_
 refine Goes.block ?_
 obtain⟨d,g2,h⟩:=bnd h
 refine Goes.imp (Q:=fun x s'=>(x= .exit 0/\(.inl ())=d/\Sub s' (ofG 15 [],[]))\/(x= .ret/\ ∃e,(.inr e)=d/\kz ZT [.tmp 2] (.i e) .ret s')) ?_ ?_
 ·refine Uc (fun M s=> ∃(a:Int),s=(ofG 15 (kAx l (l.length:Int) a []),[])/\vL l M a=some d) ?_ (m:=N) ⟨_,rfl,g2⟩
  rintro M s ⟨a,rfl,g2⟩
  cases M with
  |zero=>simp only[vL]at g2;cases g2
  |succ M=>
   rw[vL]at g2
   refine sh fol (kAx l (l.length:Int) a [(8,.bool (decide (a<(l.length:Int))))]) ?_
   refine sq ?_
   refine ihD g2 (fun f g2=>?_) (fun f g2=>?_)
   ·refine Goes.skip ?_
    refine sq (Goes.block ?_)
    obtain⟨c,b,g2⟩:=bnd g2
    refine sq (gr fol [0,1] ((4,.i c)::(kAx l (l.length:Int) a [])) (ac (iv qrt encI b) (ac (lv 0 ce25 encI b rfl) az)) ?_)
    refine sh fol ((4,.i c)::(kAx l (l.length:Int) a [(12,.bool (!decide (c=0)))])) ?_
    refine ihB g2 (fun g g2=>?_) (fun g g2=>?_)
    ·refine sh fol (kBR c) ?_
     refine Goes.ret ?_
     obtain rfl:=si g2
     exact Or.inr (⟨rfl,_,rfl,(gw2 [.i c] (Ua tI))⟩)
    refine Goes.skip ?_
    refine gh fol (kAx l (l.length:Int) (w64 (a+1)) []) ?_
    exact⟨M,(ofG 15 (kAx l (l.length:Int) (w64 (a+1)) []),[]),Nat.lt_succ_self _,(Sub.refl _),_,rfl,g2⟩
   refine Goes.exit ?_
   obtain rfl:=si g2
   exact Or.inl (⟨rfl,rfl,(Sub.keep [] rfl rfl)⟩)
 rintro x s' (⟨rfl,rfl,hsub⟩|⟨rfl,j,rfl,hret⟩)
 ·try dsimp only at h
  refine Goes.sub hsub ?_
  refine sh fol [(2,.i 0)] ?_
  refine Goes.ret ?_
  obtain rfl:=si h
  exact(gw2 [.i 0] (Ua tI))
 try dsimp only at h
 obtain rfl:=si h
 exact hret
def jC (holds:Bool) (e:Int):Option Int:=
 if holds=true then
 some e
 else
 some 0
theorem yw (holds:Bool) (e:Int) {res:Int} (h:jC holds e=some res):qb ZT (.fn 80) [.bool holds,.i e] [] (.i res) []:=by
 unfold jC at h
 refine Ub Tryz.func80 rfl rfl (m:=7) rfl (rs:=[.tmp 4]) rfl (l:=((0,.bool holds)::(kB7 e))) rfl ?_
 refine sh fol ((0,.bool holds)::(kB7 e)) ?_
 refine sq ?_
 refine sh fol [(1,.i e),(5,.bool holds)] ?_
 refine ihB h (fun a h=>?_) (fun a h=>?_)
 ·refine sh fol (kBx e) ?_
  refine Goes.ret ?_
  obtain rfl:=si h
  exact(gw2 [.i e] (Ua tI))
 refine Goes.skip ?_
 refine sh fol [(4,.i 0)] ?_
 refine Goes.ret ?_
 obtain rfl:=si h
 exact(gw2 [.i 0] (Ua tI))
def yT (n:Int) (low:Int) (high:Int):Option Int:=
 (if n<low then
 (jC true 3).bind fun a=>
 some a
 else
 (jC (decide (n>high)) 3).bind fun b=>
 some b:Option Int).bind fun c=>
 some c
theorem qcb (n:Int) (low:Int) (high:Int) {res:Int} (h:yT n low high=some res):qb ZT (.fn 99) [.i n,.i low,.i high] [] (.i res) []:=by
 unfold yT at h
 refine Ub Tryz.func99 rfl rfl (m:=16) rfl (rs:=[.tmp 6]) rfl (l:=(kAL n low (kBR high))) rfl ?_
 refine sh fol (kAL n low (kBR high)) ?_
 refine sq ?_
 obtain⟨e,a,h⟩:=bnd h
 refine Goes.cut (s':=(ofG 16 [(6,.i e)],[])) ?_ ?_
 ·rcases wyD a with⟨d,a⟩|⟨d,a⟩
  ·obtain⟨f,b,a⟩:=bnd a
   obtain rfl:=si a
   exact tr fol [3,8] [(6,.i f)] (ac (gw d) (ac (cv (yw true 3 b)) az))
  obtain⟨g,c,a⟩:=bnd a
  obtain rfl:=si a
  exact tr fol [3,8] [(6,.i g)] (ac (gw d) (ac (cv (yw (decide (n>high)) 3 c)) az))
 refine Goes.ret ?_
 obtain rfl:=si h
 exact(gw2 [.i e] (Ua tI))
def jK (n:Int):Option Int:=
 (yT n 2 12).bind fun a=>
 some a
theorem qbL (n:Int) {res:Int} (h:jK n=some res):qb ZT (.fn 79) [.i n] [] (.i res) []:=by
 unfold jK at h
 refine Ub Tryz.func79 rfl rfl (m:=5) rfl (rs:=[.tmp 2]) rfl (l:=(kBi n)) rfl ?_
 refine sh fol (kBi n) ?_
 obtain⟨b,a,h⟩:=bnd h
 refine sq (gr fol [1] (kBR b) (ac (cv (qcb n 2 12 a)) az) ?_)
 refine Goes.ret ?_
 obtain rfl:=si h
 exact(gw2 [.i b] (Ua tI))
def vB (a:Int) (b:Int):Option Bool:=
 (if a=0 then
 some true
 else
 if a<=(w64 (0-b))then
 some true
 else
 some (decide (a>=b)):Option Bool).bind fun c=>
 some c
theorem qcN (b:Int) (c:Int) {res:Bool} (h:vB b c=some res):qb ZT (.fn 78) [.i b,.fptr [.i c] 0] [] (.bool res) []:=by
 unfold vB at h
 refine Ub Tryz.func78 rfl rfl (m:=17) rfl (rs:=[.tmp 3]) rfl (l:=[(0,.i b),(1,.fptr [.i c] 0)]) rfl ?_
 refine sh fol [(0,.i b),(1,.fptr [.i c] 0)] ?_
 refine sq ?_
 obtain⟨f,a,h⟩:=bnd h
 refine Goes.cut (s':=(ofG 17 (kBt f []),[])) ?_ ?_
 ·rcases wyD a with⟨d,a⟩|⟨d,a⟩
  ·obtain rfl:=si a
   exact tr fol [2] [(3,.bool true)] (ac (gw d) az)
  rcases wyD a with⟨e,a⟩|⟨e,a⟩
  ·obtain rfl:=si a
   exact tr fol [2,8] [(3,.bool true)] (ac (gw d) (ac (gw e) az))
  obtain rfl:=si a
  exact tr fol [2,8] (kBt (decide (b>=c)) []) (ac (gw d) (ac (gw e) az))
 refine Goes.ret ?_
 obtain rfl:=si h
 exact(gw2 [.bool f] (Ua tB))
def qY (a:List Int) (b:Int):Nat->Int->Option (Unit⊕Int)
 |0,_=>none
 |K+1,c=>
  if c<(a.length:Int)then
  (idx a c).bind fun d=>
  (vB d b).bind fun e=>
  if e=true then
  some (.inr c)
  else
  qY a b K (w64 (c+1))
  else
  some (.inl ())
def yc (N:Nat) (a:List Int) (b:Int):Option Int:=
 (qY a b N 0).bind (fun
 |(.inl ())=>
 some (-1)
 |(.inr c)=>
 some c)
theorem qdz (N:Nat) (a:List Int) (b:Int) {res:Int} (h:yc N a b=some res):qb ZT (.fn 123) [vl encI a,.func (.func 78) [] [.fptr [.i b] 0]] [] (.i res) []:=by
 unfold yc at h
 refine Ub Tryz.func123 rfl rfl (m:=19) rfl (rs:=[.tmp 4]) rfl (l:=(kP a [(1,.func (.func 78) [] [.fptr [.i b] 0])])) rfl ?_
 refine sh fol (kP a [(1,.func (.func 78) [] [.fptr [.i b] 0])]) ?_
 refine sq ?_
 refine sh fol (kP a [(1,.func (.func 78) [] [.fptr [.i b] 0]),(7,.i (a.length:Int)),(8,.i 0)]) ?_
 refine Goes.block ?_
 obtain⟨f,g2,h⟩:=bnd h
 refine Goes.imp (Q:=fun x s'=>(x= .exit 0/\(.inl ())=f/\Sub s' (ofG 19 [],[]))\/(x= .ret/\ ∃j,(.inr j)=f/\kz ZT [.tmp 4] (.i j) .ret s')) ?_ ?_
 ·refine Uc (fun M s=> ∃(c:Int),s=(ofG 19 (kP a ((1,.func (.func 78) [] [.fptr [.i b] 0])::(kAo (a.length:Int) c []))),[])/\qY a b M c=some f) ?_ (m:=N) ⟨_,rfl,g2⟩
  rintro M s ⟨c,rfl,g2⟩
  cases M with
  |zero=>simp only[qY]at g2;cases g2
  |succ M=>
   rw[qY]at g2
   refine sh fol (kP a ((1,.func (.func 78) [] [.fptr [.i b] 0])::(kAo (a.length:Int) c [(9,.bool (decide (c<(a.length:Int))))]))) ?_
   refine sq ?_
   refine ihD g2 (fun n g2=>?_) (fun n g2=>?_)
   ·refine Goes.skip ?_
    refine sq (Goes.block ?_)
    refine sh fol (kP a ((1,.func (.func 78) [] [.fptr [.i b] 0])::(5,.i c)::(kAo (a.length:Int) c []))) ?_
    obtain⟨g,d,g2⟩:=bnd g2
    obtain⟨k,e,g2⟩:=bnd g2
    refine sq (gr fol [3,4,5] (kP a ((1,.func (.func 78) [] [.fptr [.i b] 0])::(5,.i c)::(kAo (a.length:Int) c [(16,.bool k)]))) (ac (iv qo encI d) (ac (lv 0 ce3 encI d rfl) (ac (hs (.call 78 [.i g,.fptr [.i b] 0] [] [] [.i g,.fptr [.i b] 0] (.bool k)) (qgi (FzL.cons (Uh tI) (FzL.cons (Uh (Still.fptr (AllST.cons tI AllST.nil))) FzL.nil)) (qcN g b e) tB)) az))) ?_)
    refine ihB g2 (fun o g2=>?_) (fun o g2=>?_)
    ·refine sh fol (kBx c) ?_
     refine Goes.ret ?_
     obtain rfl:=si g2
     exact Or.inr (⟨rfl,_,rfl,(gw2 [.i c] (Ua tI))⟩)
    refine Goes.skip ?_
    refine gh fol (kP a ((1,.func (.func 78) [] [.fptr [.i b] 0])::(kAo (a.length:Int) (w64 (c+1)) []))) ?_
    exact⟨M,(ofG 19 (kP a ((1,.func (.func 78) [] [.fptr [.i b] 0])::(kAo (a.length:Int) (w64 (c+1)) []))),[]),Nat.lt_succ_self _,(Sub.refl _),_,rfl,g2⟩
   refine Goes.exit ?_
   obtain rfl:=si g2
   exact Or.inl (⟨rfl,rfl,(Sub.keep [] rfl rfl)⟩)
 rintro x s' (⟨rfl,rfl,hsub⟩|⟨rfl,p,rfl,hret⟩)
 ·try dsimp only at h
  refine Goes.sub hsub ?_
  refine sh fol [(4,.i (-1))] ?_
  refine Goes.ret ?_
  obtain rfl:=si h
  exact(gw2 [.i (-1)] (Ua tI))
 try dsimp only at h
 obtain rfl:=si h
 exact hret
def jQ (N:Nat) (a:List Int) (b:Int):Option Bool:=
 (yc N a b).bind fun c=>
 some (decide (c>=0))
theorem qcJ (N:Nat) (a:List Int) (b:Int) {res:Bool} (h:jQ N a b=some res):qb ZT (.fn 72) [vl encI a,.func (.func 78) [] [.fptr [.i b] 0]] [] (.bool res) []:=by
 unfold jQ at h
 refine Ub Tryz.func72 rfl rfl (m:=9) rfl (rs:=[.tmp 4]) rfl (l:=(kP a [(1,.func (.func 78) [] [.fptr [.i b] 0])])) rfl ?_
 refine sh fol (kP a [(1,.func (.func 78) [] [.fptr [.i b] 0])]) ?_
 obtain⟨d,c,h⟩:=bnd h
 refine sq (gr fol [2] (kBI (decide (d>=0))) (ac (hs (.call 123 [vl encI a,.func (.func 78) [] [.fptr [.i b] 0]] [] [] [vl encI a,.func (.func 78) [] [.fptr [.i b] 0]] (.i d)) (qgi (FzL.cons (Uh (ql encI _ (nl rfl))) (FzL.cons (Fz.func FzL.nil (FzL.cons (Uh (Still.fptr (AllST.cons tI AllST.nil))) FzL.nil)) FzL.nil)) (qdz N a b c) tI)) az) ?_)
 refine Goes.ret ?_
 obtain rfl:=si h
 exact(gw2 [.bool (decide (d>=0))] (Ua tB))
def zJ (N:Nat) (n:Int) (w:List Int):Option Int:=
 (jQ N w n).bind fun a=>
 (jK n).bind fun b=>
 (jC (decide ((w.length:Int)=0)) 12).bind fun c=>
 (jC (decide ((w.length:Int)>24)) 5).bind fun d=>
 (jC a 3).bind fun e=>
 (vP N ([b,c,d,e]:List Int)).bind fun f=>
 some f
theorem yD (N:Nat) (n:Int) (w:List Int) {res:Int} (h:zJ N n w=some res):qb ZT (.fn 29) (.i n::(kA1 w)) [] (.i res) []:=by
 unfold zJ at h
 refine Ub Tryz.func29 rfl rfl (m:=23) rfl (rs:=[.tmp 4]) rfl (l:=(kE n w [])) rfl ?_
 refine sg fol (kBG w (kX [])) (kAJ n []) ?_
 obtain⟨p,a,h⟩:=bnd h
 refine sq (gr fol [2] (kBG w (kX [(5,.bool p)])) (ac (hs (.call 72 [vl encI w,.func (.func 78) [] [.ptr 0 0]] (kAJ n []) [0] [vl encI w,.func (.func 78) [] [.fptr [.i n] 0]] (.bool p)) (qbx (FzL.cons (Uh (ql encI _ (nl rfl))) (FzL.cons (Fz.func FzL.nil (FzL.cons (Fz.ptr rfl rfl (FzL.cons (Uh tI) FzL.nil)) FzL.nil)) FzL.nil)) (qcJ N w n a) tB rfl)) az) ?_)
 obtain⟨g,b,h⟩:=bnd h
 obtain⟨j,c,h⟩:=bnd h
 obtain⟨k,d,h⟩:=bnd h
 obtain⟨o,e,h⟩:=bnd h
 obtain⟨q,f,h⟩:=bnd h
 refine sq (gq fol [1,5,9,11,13] (kBx q) (kAJ n [.cells [.i g,.i j,.i k,.i o]]) (ac (cv (qbL n b)) (ac (cv (yw (decide ((w.length:Int)=0)) 12 c)) (ac (cv (yw (decide ((w.length:Int)>24)) 5 d)) (ac (cv (yw p 3 e)) (ac (hs (.call 48 [.slice 1 0 4 4 1] (kAJ n [.cells [.i g,.i j,.i k,.i o]]) [1] [vl encI ([g,j,k,o]:List Int)] (.i q)) (qbx (FzL.cons (Fz.lit rfl rfl (Uj (AllST.cons tI (AllST.cons tI (AllST.cons tI (AllST.cons tI AllST.nil)))))) FzL.nil) (xC N ([g,j,k,o]:List Int) f) tI rfl)) az))))) ?_)
 refine Goes.ret ?_
 obtain rfl:=si h
 exact(gw2 [.i q] (Ua tI))
def qa5 (c:Int):Option Bool:=
 (if c>=0 then
 some (decide (c<8))
 else
 some false:Option Bool).bind fun a=>
 some a
theorem qfU (c:Int) {res:Bool} (h:qa5 c=some res):qb ZT (.fn 162) [.i c] [] (.bool res) []:=by
 unfold qa5 at h
 refine Ub Tryz.func162 rfl rfl (m:=9) rfl (rs:=[.tmp 2]) rfl (l:=(kBi c)) rfl ?_
 refine sh fol (kBi c) ?_
 refine sq ?_
 obtain⟨d,a,h⟩:=bnd h
 refine Goes.cut (s':=(ofG 9 (kB2 d),[])) ?_ ?_
 ·rcases wyD a with⟨b,a⟩|⟨b,a⟩
  ·obtain rfl:=si a
   exact tr fol [2] (kB2 (decide (c<8))) (ac (gw b) az)
  obtain rfl:=si a
  exact tr fol [2] [(2,.bool false)] (ac (gw b) az)
 refine Goes.ret ?_
 obtain rfl:=si h
 exact(gw2 [.bool d] (Ua tB))
def xB (c:Int):Option Bool:=
 (qa5 c).bind fun a=>
 some (!a)
theorem qeI (c:Int) {res:Bool} (h:xB c=some res):qb ZT (.fn 161) [.i c] [] (.bool res) []:=by
 unfold xB at h
 refine Ub Tryz.func161 rfl rfl (m:=6) rfl (rs:=[.tmp 2]) rfl (l:=(kBi c)) rfl ?_
 refine sh fol (kBi c) ?_
 obtain⟨b,a,h⟩:=bnd h
 refine sq (gr fol [1] (kB2 (!b)) (ac (cv (qfU c a)) az) ?_)
 refine Goes.ret ?_
 obtain rfl:=si h
 exact(gw2 [.bool (!b)] (Ua tB))
def qX (a:List Int):Nat->Int->Option (Unit⊕Int)
 |0,_=>none
 |K+1,b=>
  if b<(a.length:Int)then
  (idx a b).bind fun c=>
  (xB c).bind fun d=>
  if d=true then
  some (.inr b)
  else
  qX a K (w64 (b+1))
  else
  some (.inl ())
def vY (N:Nat) (a:List Int):Option Int:=
 (qX a N 0).bind (fun
 |(.inl ())=>
 some (-1)
 |(.inr b)=>
 some b)
theorem qdD (N:Nat) (a:List Int) {res:Int} (h:vY N a=some res):qb ZT (.fn 123) [vl encI a,.func (.func 161) [] []] [] (.i res) []:=by
 unfold vY at h
 refine Ub Tryz.func123 rfl rfl (m:=19) rfl (rs:=[.tmp 4]) rfl (l:=(kP a [(1,.func (.func 161) [] [])])) rfl ?_
 refine sh fol (kP a [(1,.func (.func 161) [] [])]) ?_
 refine sq ?_
 refine sh fol (kP a [(1,.func (.func 161) [] []),(7,.i (a.length:Int)),(8,.i 0)]) ?_
 refine Goes.block ?_
 obtain⟨e,g2,h⟩:=bnd h
 refine Goes.imp (Q:=fun x s'=>(x= .exit 0/\(.inl ())=e/\Sub s' (ofG 19 [],[]))\/(x= .ret/\ ∃f,(.inr f)=e/\kz ZT [.tmp 4] (.i f) .ret s')) ?_ ?_
 ·refine Uc (fun M s=> ∃(b:Int),s=(ofG 19 (kP a ((1,.func (.func 161) [] [])::(kAo (a.length:Int) b []))),[])/\qX a M b=some e) ?_ (m:=N) ⟨_,rfl,g2⟩
  rintro M s ⟨b,rfl,g2⟩
  cases M with
  |zero=>simp only[qX]at g2;cases g2
  |succ M=>
   rw[qX]at g2
   refine sh fol (kP a ((1,.func (.func 161) [] [])::(kAo (a.length:Int) b [(9,.bool (decide (b<(a.length:Int))))]))) ?_
   refine sq ?_
   refine ihD g2 (fun g g2=>?_) (fun g g2=>?_)
   ·refine Goes.skip ?_
    refine sq (Goes.block ?_)
    refine sh fol (kP a ((1,.func (.func 161) [] [])::(5,.i b)::(kAo (a.length:Int) b []))) ?_
    obtain⟨j,c,g2⟩:=bnd g2
    obtain⟨k,d,g2⟩:=bnd g2
    refine sq (gr fol [3,4,5] (kP a ((1,.func (.func 161) [] [])::(5,.i b)::(kAo (a.length:Int) b [(16,.bool k)]))) (ac (iv qo encI c) (ac (lv 0 ce3 encI c rfl) (ac (cv (qeI j d)) az))) ?_)
    refine ihB g2 (fun n g2=>?_) (fun n g2=>?_)
    ·refine sh fol (kBx b) ?_
     refine Goes.ret ?_
     obtain rfl:=si g2
     exact Or.inr (⟨rfl,_,rfl,(gw2 [.i b] (Ua tI))⟩)
    refine Goes.skip ?_
    refine gh fol (kP a ((1,.func (.func 161) [] [])::(kAo (a.length:Int) (w64 (b+1)) []))) ?_
    exact⟨M,(ofG 19 (kP a ((1,.func (.func 161) [] [])::(kAo (a.length:Int) (w64 (b+1)) []))),[]),Nat.lt_succ_self _,(Sub.refl _),_,rfl,g2⟩
   refine Goes.exit ?_
   obtain rfl:=si g2
   exact Or.inl (⟨rfl,rfl,(Sub.keep [] rfl rfl)⟩)
 rintro x s' (⟨rfl,rfl,hsub⟩|⟨rfl,o,rfl,hret⟩)
 ·try dsimp only at h
  refine Goes.sub hsub ?_
  refine sh fol [(4,.i (-1))] ?_
  refine Goes.ret ?_
  obtain rfl:=si h
  exact(gw2 [.i (-1)] (Ua tI))
 try dsimp only at h
 obtain rfl:=si h
 exact hret
def jP (N:Nat) (a:List Int):Option Bool:=
 (vY N a).bind fun b=>
 some (decide (b>=0))
theorem qcC (N:Nat) (a:List Int) {res:Bool} (h:jP N a=some res):qb ZT (.fn 72) [vl encI a,.func (.func 161) [] []] [] (.bool res) []:=by
 unfold jP at h
 refine Ub Tryz.func72 rfl rfl (m:=9) rfl (rs:=[.tmp 4]) rfl (l:=(kP a [(1,.func (.func 161) [] [])])) rfl ?_
 refine sh fol (kP a [(1,.func (.func 161) [] [])]) ?_
 obtain⟨c,b,h⟩:=bnd h
 refine sq (gr fol [2] (kBI (decide (c>=0))) (ac (hs (.call 123 [vl encI a,.func (.func 161) [] []] [] [] [vl encI a,.func (.func 161) [] []] (.i c)) (qgi (FzL.cons (Uh (ql encI _ (nl rfl))) (FzL.cons (Fz.func FzL.nil FzL.nil) FzL.nil)) (qdD N a b) tI)) az) ?_)
 refine Goes.ret ?_
 obtain rfl:=si h
 exact(gw2 [.bool (decide (c>=0))] (Ua tB))
def qaZ (N:Nat) (l:List Int):Option Bool:=
 (jP N l).bind fun a=>
 some a
theorem qfR (N:Nat) (l:List Int) {res:Bool} (h:qaZ N l=some res):qb ZT (.fn 125) [vl encI l] [] (.bool res) []:=by
 unfold qaZ at h
 refine Ub Tryz.func125 rfl rfl (m:=5) rfl (rs:=[.tmp 2]) rfl (l:=(kP l [])) rfl ?_
 refine sh fol (kP l []) ?_
 obtain⟨b,a,h⟩:=bnd h
 refine sq (gr fol [1] (kB2 b) (ac (hs (.call 72 [vl encI l,.func (.func 161) [] []] [] [] [vl encI l,.func (.func 161) [] []] (.bool b)) (qgi (FzL.cons (Uh (ql encI _ (nl rfl))) (FzL.cons (Fz.func FzL.nil FzL.nil) FzL.nil)) (qcC N l a) tB)) az) ?_)
 refine Goes.ret ?_
 obtain rfl:=si h
 exact(gw2 [.bool b] (Ua tB))
def xu (N:Nat) (n:Int) (colours:List Int):Option Int:=
 (jK n).bind fun a=>
 (jC (!decide ((colours.length:Int)=n)) 2).bind fun b=>
 (qaZ N colours).bind fun c=>
 (jC c 3).bind fun d=>
 (vP N ([a,b,d]:List Int)).bind fun e=>
 some e
theorem qem (N:Nat) (n:Int) (colours:List Int) {res:Int} (h:xu N n colours=some res):qb ZT (.fn 77) (.i n::(kA1 colours)) [] (.i res) []:=by
 unfold xu at h
 refine Ub Tryz.func77 rfl rfl (m:=17) rfl (rs:=[.tmp 4]) rfl (l:=(kE n colours [])) rfl ?_
 refine sh fol (kE n colours []) ?_
 obtain⟨f,a,h⟩:=bnd h
 obtain⟨g,b,h⟩:=bnd h
 obtain⟨o,c,h⟩:=bnd h
 obtain⟨j,d,h⟩:=bnd h
 obtain⟨k,e,h⟩:=bnd h
 refine sq (gq fol [1,6,8,9,11] (kBx k) (kBV f g j) (ac (cv (qbL n a)) (ac (cv (yw (!decide ((colours.length:Int)=n)) 2 b)) (ac (cv (qfR N colours c)) (ac (cv (yw o 3 d)) (ac (hs (.call 48 [.slice 0 0 3 3 1] (kBV f g j) [0] [vl encI ([f,g,j]:List Int)] (.i k)) (qbx (FzL.cons (Fz.lit rfl rfl (Uj (AllST.cons tI (AllST.cons tI (AllST.cons tI AllST.nil))))) FzL.nil) (xC N ([f,g,j]:List Int) e) tI rfl)) az))))) ?_)
 refine Goes.ret ?_
 obtain rfl:=si h
 exact(gw2 [.i k] (Ua tI))
def yB (N:Nat) (n:Int) (w:List Int) (colours:List Int):Option Int:=
 (zJ N n w).bind fun a=>
 (xu N n colours).bind fun b=>
 (vP N ([a,b]:List Int)).bind fun c=>
 some c
theorem qes (N:Nat) (n:Int) (w:List Int) (colours:List Int) {res:Int} (h:yB N n w colours=some res):qb ZT (.fn 26) (.i n::vl encI w::(kA1 colours)) [] (.i res) []:=by
 unfold yB at h
 refine Ub Tryz.func26 rfl rfl (m:=15) rfl (rs:=[.tmp 6]) rfl (l:=(kE n w [(2,vl encI colours)])) rfl ?_
 refine sh fol (kE n w [(2,vl encI colours)]) ?_
 obtain⟨d,a,h⟩:=bnd h
 obtain⟨e,b,h⟩:=bnd h
 obtain⟨f,c,h⟩:=bnd h
 refine sq (gq fol [2,5,7] [(6,.i f)] (kAd d e) (ac (cv (yD N n w a)) (ac (cv (qem N n colours b)) (ac (hs (.call 48 [.slice 0 0 2 2 1] (kAd d e) [0] [vl encI ([d,e]:List Int)] (.i f)) (qbx (FzL.cons (Fz.lit rfl rfl (Uj (AllST.cons tI (AllST.cons tI AllST.nil)))) FzL.nil) (xC N ([d,e]:List Int) c) tI rfl)) az))) ?_)
 refine Goes.ret ?_
 obtain rfl:=si h
 exact(gw2 [.i f] (Ua tI))
def yo (n:Int):Nat->(List Int)->Int->Option (List Int)
 |0,_,_=>none
 |K+1,b,a=>
  if a<n then
  (app 8 b [a]).bind fun c=>
  yo n K c (w64 (a+1))
  else
  some b
def yh (w:List Int):Nat->(List Int)->(List Int)->Int->Option ((List Int)×(List Int))
 |0,_,_,_=>none
 |K+1,l,c,e=>
  if e<(w.length:Int)then
  (idx w e).bind fun b=>
  ((if b<0 then
  some (w64 (0-b),1)
  else
  some (b,0):Option (Int×Int))).bind fun(a,f)=>
  (idx c (w64 ((w64 (a-1))+f))).bind fun g=>
  (app 8 l [g]).bind fun h=>
  (idx c a).bind fun i=>
  (idx c (w64 (a-1))).bind fun j=>
  (put c (w64 (a-1)) i).bind fun d=>
  (idx d a).bind fun m=>
  (put d a j).bind fun k=>
  yh w K h k (w64 (e+1))
  else
  some (l,c)
def xw (N:Nat) (n:Int) (w:List Int):Option jy:=
 (yo n N ([]:List Int) 0).bind fun c=>
 (yh w N ([]:List Int) c 0).bind fun(a,b)=>
 some (⟨a,b⟩:jy)
theorem qbs (N:Nat) (n:Int) (w:List Int) {res:jy} (h:xw N n w=some res):qb ZT (.fn 27) (.i n::(kA1 w)) [] (.agg (vl encI res.seen::(kA1 res.from_))) []:=by
 unfold xw at h
 refine Ub Tryz.func27 rfl rfl (m:=69) rfl (rs:=[.cell 4 58]) rfl (l:=(kE n w [])) rfl ?_
 refine sg fol (kE n w (kA9 [])) (kBc []) ?_
 refine sg fol (kE n w (kK [])) (kBc (kBc [])) ?_
 refine sq ?_
 refine sh fol (kBG w (kK (kB9 n))) ?_
 refine Goes.block ?_
 obtain⟨W,g4,h⟩:=bnd h
 refine Goes.imp (Q:=fun x s'=>(x= .exit 0/\ ∃K,K=W/\Sub s' (ofG 69 (kBG w (kK [])),(kAp K (kA K []))))) ?_ ?_
 ·refine Goes.sub (s':=(ofG 69 (kBG w (kK (kB9 n))),(kBc (.cells [.nilslice,.gslice 2 ([]:List Int).length 1]::(kAr []))))) (Sub.norm [] [some 0,some 1,none] rfl rfl (.keep (.same (qf encI _)) (.kp (.kp (.keep (.same nI) (.keep (.same nI) .nil))))) (.kb rfl (.same sn) (.kb rfl (.cells (rc (.same (qy.nilslice)) (rc (.nil) rn))) (.fresh .nil)))) ?_
  refine Uc (fun M s=> ∃(D:List Int) (t:Int),s=(ofG 69 (kBG w (kK (kAR n t []))),(kAp D (kA D [])))/\yo n M D t=some W) ?_ (m:=N) ⟨_,_,rfl,g4⟩
  rintro M s ⟨D,t,rfl,g4⟩
  cases M with
  |zero=>simp only[yo]at g4;cases g4
  |succ M=>
   rw[yo]at g4
   refine sh fol (kBG w (kK (kAR n t (kB6 (decide (t<n)))))) ?_
   refine sq ?_
   refine ihD g4 (fun X g4=>?_) (fun X g4=>?_)
   ·refine Goes.skip ?_
    refine sq (Goes.block ?_)
    refine sh fol (kBG w (kK ((6,.i t)::(kAR n t [])))) ?_
    obtain⟨L,O,g4⟩:=bnd g4
    refine gq fol [4] (kBG w (kK (kAR n t []))) (kBc (.cells [.nilslice,.gslice 4 L.length 1]:: .dead::(kAJ t (kA L [])))) (ac (hs (.run [2,3] (ja ZT [22,22] (.gslice 2 D.length 1) (.slice 3 0 1 1 1)) (kAp D (kA D (kAJ t []))) (.gslice 4 L.length 1) (kAp D (.dead::(kAJ t (kA L [])))) true) (yF qo (E:=encI) rfl (qcB (E:=encI) (ys:=[t]) rfl rfl rfl rfl) (qdX (E:=encI) (l:=D) rfl rfl rfl O rfl))) az) ?_
    refine gh fol (kBG w (kK (kAR n (w64 (t+1)) []))) ?_
    exact⟨M,(ofG 69 (kBG w (kK (kAR n (w64 (t+1)) []))),(kAp L (kA L []))),Nat.lt_succ_self _,(Sub.norm [] [some 0,some 1,some 4] rfl rfl (.keep (.same (qf encI _)) (.kp (.kp (.keep (.same nI) (.keep (.same nI) .nil))))) (.kb rfl (.same sn) (.kb rfl (.cells (rc (.same (qy.nilslice)) (rc (.gslice rfl) rn))) (.ks .nil)))),_,_,rfl,g4⟩
   refine Goes.exit ?_
   obtain rfl:=si g4
   exact⟨rfl,_,rfl,(Sub.keep [1,4,5] rfl rfl)⟩
 rintro x s' ⟨rfl,K,rfl,hsub⟩
 refine Goes.sub hsub ?_
 refine sq ?_
 refine sh fol (kK [(23,vl encI w),(24,.i (w.length:Int)),(25,.i 0)]) ?_
 refine Goes.block ?_
 obtain⟨P,a,h⟩:=bnd h
 refine Goes.imp (Q:=fun x s'=>(x= .exit 2/\ ∃g j,(g,j)=P/\Sub s' (ofG 69 (kK []),(kAB g j (kA g (kA j [])))))) ?_ ?_
 ·refine Goes.sub (s':=(ofG 69 (kK [(23,vl encI w),(24,.i (w.length:Int)),(25,.i 0)]),(kBc (.cells [.gslice 2 ([]:List Int).length 1,.gslice 3 K.length 1]::(kAr (kA K [])))))) (Sub.norm [] [some 0,some 1,none,some 2] rfl rfl (.kp (.kp (.keep (.same (qf encI _)) (.keep (.same nI) (.keep (.same nI) .nil))))) (.kb rfl (.same sn) (.kb rfl (.cells (rc (.nil) (rc (.gslice rfl) rn))) (.fresh (.ks .nil))))) ?_
  refine Uc (fun M s=> ∃(o:List Int) (c:List Int) (k:Int),s=(ofG 69 (kK (kAh w (w.length:Int) k [])),(kAB o c (kA o (kA c []))))/\yh w M o c k=some P) ?_ (m:=N) ⟨_,_,_,rfl,a⟩
  rintro M s ⟨o,c,k,rfl,a⟩
  cases M with
  |zero=>simp only[yh]at a;cases a
  |succ M=>
   rw[yh]at a
   refine sh fol (kK (kAh w (w.length:Int) k [(26,.bool (decide (k<(w.length:Int))))])) ?_
   refine sq ?_
   refine ihD a (fun T a=>?_) (fun T a=>?_)
   ·refine Goes.skip ?_
    refine sq (Goes.block ?_)
    obtain⟨p,v,a⟩:=bnd a
    refine sq (gr fol [0,1] (kK ((8,.i p)::(kAh w (w.length:Int) k []))) (ac (iv qo encI v) (ac (lv 0 ce3 encI v rfl) az)) ?_)
    refine sh fol (kK ((8,.i p)::(9,.i p)::(10,.i 0)::(kAh w (w.length:Int) k []))) ?_
    refine sq ?_
    refine sh fol (kK ((8,.i p)::(9,.i p)::(10,.i 0)::(kAh w (w.length:Int) k [(31,.bool (decide (p<0)))]))) ?_
    obtain⟨U,z,a⟩:=bnd a
    refine Goes.imp (Q:=fun x s'=>(x= .normal/\ ∃d u,(d,u)=U/\Sub s' (ofG 69 (kK (kAl d u (kAh w (w.length:Int) k []))),(kAB o c (kA o (kA c [])))))) ?_ ?_
    ·refine ihD z (fun V z=>?_) (fun V z=>?_)
     ·refine gh fol (kK ((9,.i (w64 (0-p)))::(10,.i 1)::(kAh w (w.length:Int) k []))) ?_
      obtain rfl:=si z
      exact⟨rfl,_,_,rfl,(Sub.refl _)⟩
     refine Goes.skip ?_
     obtain rfl:=si z
     exact⟨rfl,_,_,rfl,(Sub.keep [4,5,9,10,23,24,25] rfl rfl)⟩
    rintro x s' ⟨rfl,d,u,rfl,hsub⟩
    try dsimp only at a
    refine Goes.sub hsub ?_
    obtain⟨e,A,a⟩:=bnd a
    obtain⟨b,F,a⟩:=bnd a
    refine sq (gq fol [8,9,11] (kK ((9,.i d)::(kAh w (w.length:Int) k []))) (kR b c (kA c (kAJ e (kA b [])))) (ac (hs (.done (.opt (qc ZT 22 (.gslice 3 c.length 1) (.i (w64 ((w64 (d-1))+u))))) (.ptr 3 ((w64 ((w64 (d-1))+u):Int).toNat*1+0))) (qaP qo A)) (ac (hs (.run [3] (qV ZT 3 (.ptr 3 ((w64 ((w64 (d-1))+u):Int).toNat*1+0))) (kAB o c (kA o (kA c []))) (.i e) (kAB o c (kA o (kA c []))) false) (yE ce3 (E:=encI) (l:=c) rfl rfl A (nl rfl) rfl)) (ac (hs (.run [2,4] (ja ZT [22,22] (.gslice 2 o.length 1) (.slice 4 0 1 1 1)) (kAB o c (kA o (kA c (kAJ e [])))) (.gslice 5 b.length 1) (kAB o c (.dead::(kA c (kAJ e (kA b []))))) true) (yF qo (E:=encI) rfl (qcB (E:=encI) (ys:=[e]) rfl rfl rfl rfl) (qdX (E:=encI) (l:=o) rfl rfl rfl F rfl))) az))) ?_)
    obtain⟨G,q,a⟩:=bnd a
    obtain⟨H,f,a⟩:=bnd a
    obtain⟨I,B,a⟩:=bnd a
    obtain⟨Y,J,a⟩:=bnd a
    obtain⟨r,C,a⟩:=bnd a
    refine gq fol [10,11,16,17,18,19,20,21] (kK (kAh w (w.length:Int) k [])) (kR b c (kA r (kAJ e (kA b [])))) (ac (hs (.done (.opt (qc ZT 22 (.gslice 3 c.length 1) (.i d))) (.ptr 3 ((d:Int).toNat*1+0))) (qaP qo q)) (ac (hs (.run [3] (qV ZT 3 (.ptr 3 ((d:Int).toNat*1+0))) (kR b c (kA c (kAJ e (kA b [])))) (.i G) (kR b c (kA c (kAJ e (kA b [])))) false) (yE ce3 (E:=encI) (l:=c) rfl rfl q (nl rfl) rfl)) (ac (hs (.done (.opt (qc ZT 22 (.gslice 3 c.length 1) (.i (w64 (d-1))))) (.ptr 3 ((w64 (d-1):Int).toNat*1+0))) (qaP qo f)) (ac (hs (.run [3] (qV ZT 3 (.ptr 3 ((w64 (d-1):Int).toNat*1+0))) (kR b c (kA c (kAJ e (kA b [])))) (.i H) (kR b c (kA c (kAJ e (kA b [])))) false) (yE ce3 (E:=encI) (l:=c) rfl rfl f (nl rfl) rfl)) (ac (hs (.done (.opt (qc ZT 22 (.gslice 3 c.length 1) (.i (w64 (d-1))))) (.ptr 3 ((w64 (d-1):Int).toNat*1+0))) (qaP qo f)) (ac (hs (.run [3] (qm ZT 3 (.ptr 3 ((w64 (d-1):Int).toNat*1+0)) (.i G)) (kR b c (kA c (kAJ e (kA b [])))) .undef (kR b c (kA I (kAJ e (kA b [])))) true) (zY (E:=encI) (l:=c) (y:=G) rfl (show _=some 1 by kernel_rfl) rfl f rfl rfl rfl rfl rfl B rfl)) (ac (hs (.done (.opt (qc ZT 22 (.gslice 3 c.length 1) (.i d))) (.ptr 3 ((d:Int).toNat*1+0))) (qaP qo q)) (ac (hs (.run [3] (qm ZT 3 (.ptr 3 ((d:Int).toNat*1+0)) (.i H)) (kR b c (kA I (kAJ e (kA b [])))) .undef (kR b c (kA r (kAJ e (kA b [])))) true) (zY (E:=encI) (l:=I) (y:=H) rfl (show _=some 1 by kernel_rfl) rfl J rfl rfl rfl rfl rfl C rfl)) az)))))))) ?_
    refine Goes.sub (show Sub (ofG 69 (kK (kAh w (w.length:Int) k [])),(kR b c (kA r (kAJ e (kA b []))))) (ofG 69 (kK (kAh w (w.length:Int) k [])),(kAB b r (kA b (kA r []))))from(Sub.norm [] [some 0,some 1,some 5,some 3] rfl rfl (.kp (.kp (.keep (.same (qf encI _)) (.keep (.same nI) (.keep (.same nI) .nil))))) (.kb rfl (.same sn) (.kb rfl (.cells (rc (.gslice rfl) (rc (.gsliceE rfl ((qH B).trans (qH C))) rn))) (.ks (.ks .nil)))))) ?_
    refine gh fol (kK (kAh w (w.length:Int) (w64 (k+1)) [])) ?_
    exact⟨M,(ofG 69 (kK (kAh w (w.length:Int) (w64 (k+1)) [])),(kAB b r (kA b (kA r [])))),Nat.lt_succ_self _,(Sub.refl _),_,_,_,rfl,a⟩
   refine Goes.exit ?_
   obtain rfl:=si a
   exact⟨rfl,_,_,rfl,(Sub.keep [4,5] rfl rfl)⟩
 rintro x s' ⟨rfl,g,j,rfl,hsub⟩
 try dsimp only at h
 refine Goes.sub hsub ?_
 refine sg fol (kA9 []) (.cells [.gslice 2 g.length 1,.gslice 3 j.length 1]:: .cells [.gslice 2 g.length 1,.gslice 3 j.length 1]::(kA g (kA j []))) ?_
 refine Goes.ret ?_
 obtain rfl:=si h
 exact(gw2 [.agg [.gslice 2 g.length 1,.gslice 3 j.length 1]] (FzW.agg (qh.cons (Ux (Fz.gs (E:=encI) rfl rfl (nl rfl))) (qh.cons (Ux (Fz.gs (E:=encI) rfl rfl (nl rfl))) qh.nil))))
def zq (b:jy) (colours:List Int):Nat->(List Int)->Int->Option (List Int)
 |0,_,_=>none
 |K+1,c,a=>
  if a<(b.from_.length:Int)then
  (idx b.from_ a).bind fun e=>
  (idx colours e).bind fun f=>
  (idx c a).bind fun g=>
  (put c a f).bind fun d=>
  zq b colours K d (w64 (a+1))
  else
  some c
def zW (N:Nat) (a:jy) (colours:List Int):Option (List Int):=
 (mk 8 (colours.length:Int) 0).bind fun b=>
 (zq a colours N b 0).bind fun c=>
 some c
theorem qbO (N:Nat) (a:jy) (colours:List Int) {res:List Int} (h:zW N a colours=some res):qb ZT (.fn 28) (kB1 a.seen a.from_ (kA1 colours)) [] (vl encI res) []:=by
 unfold zW at h
 refine Ub Tryz.func28 rfl rfl (m:=28) rfl (rs:=[.tmp 4]) rfl (l:=(kBs a.seen a.from_ (kBG colours []))) rfl ?_
 refine sg fol (kBG colours (kX [])) (kF a.seen a.from_ []) ?_
 obtain⟨f,o,h⟩:=bnd h
 refine sq (gq fol [2] (kBG colours (kX [(5,.slice 1 0 f.length f.length 1)])) (kF a.seen a.from_ (kA f [])) (ac (hs (.run [] (qR ZT 22 (.i (colours.length:Int)) (.i (colours.length:Int))) (kF a.seen a.from_ []) (.slice 1 0 f.length f.length 1) (kF a.seen a.from_ (kA f [])) false) (xW qo (E:=encI) (z:=0) rfl (by kernel_rfl) o rfl)) az) ?_)
 refine sq ?_
 refine sh fol (kBG colours ((5,.slice 1 0 f.length f.length 1)::(12,vl encI a.from_)::(kCA (a.from_.length:Int)))) ?_
 refine Goes.block ?_
 obtain⟨p,g5,h⟩:=bnd h
 refine Goes.imp (Q:=fun x s'=>(x= .exit 0/\ ∃n,n=p/\Sub s' (ofG 28 (kC n []),(kA n [])))) ?_ ?_
 ·refine Goes.sub (s':=(ofG 28 (kBG colours (kC f ((12,vl encI a.from_)::(kCA (a.from_.length:Int))))),(kA f []))) (Sub.norm [] [some 1] rfl rfl (.keep (.same (qf encI _)) (.keep (.slice rfl) (.keep (.same (qf encI _)) (.keep (.same nI) (.keep (.same nI) .nil))))) (.ks .nil)) ?_
  refine Uc (fun M s=> ∃(d:List Int) (c:Int),s=(ofG 28 (kBG colours (kC d ((12,vl encI a.from_)::(kZ (a.from_.length:Int) c)))),(kA d []))/\zq a colours M d c=some p) ?_ (m:=N) ⟨_,_,rfl,g5⟩
  rintro M s ⟨d,c,rfl,g5⟩
  cases M with
  |zero=>simp only[zq]at g5;cases g5
  |succ M=>
   rw[zq]at g5
   refine sh fol (kBG colours (kC d ((12,vl encI a.from_)::(13,.i (a.from_.length:Int))::(14,.i c)::(kBy (decide (c<(a.from_.length:Int))))))) ?_
   refine sq ?_
   refine ihD g5 (fun r g5=>?_) (fun r g5=>?_)
   ·refine Goes.skip ?_
    refine sq (Goes.block ?_)
    obtain⟨t,g,g5⟩:=bnd g5
    refine sq (gr fol [1,2] (kBG colours (kC d ((6,.i c)::(7,.i t)::(12,vl encI a.from_)::(kZ (a.from_.length:Int) c)))) (ac (iv qo encI g) (ac (lv 0 ce3 encI g rfl) az)) ?_)
    obtain⟨q,j,g5⟩:=bnd g5
    obtain⟨u,k,g5⟩:=bnd g5
    obtain⟨b,e,g5⟩:=bnd g5
    refine gq fol [4,5,6,7] (kBG colours (kC d ((12,vl encI a.from_)::(kZ (a.from_.length:Int) c)))) (kA b []) (ac (iv qo encI j) (ac (lv 0 ce3 encI j rfl) (ac (hs (.done (.opt (qc ZT 22 (.slice 0 0 d.length d.length 1) (.i c))) (.ptr 0 ((c:Int).toNat*1+0))) (zI qo k)) (ac (hs (.run [0] (qm ZT 3 (.ptr 0 ((c:Int).toNat*1+0)) (.i q)) (kA d []) .undef (kA b []) true) (zY (E:=encI) (l:=d) (y:=q) rfl (show _=some 1 by kernel_rfl) rfl k rfl rfl rfl rfl rfl e rfl)) az)))) ?_
    refine Goes.sub (show Sub (ofG 28 (kBG colours (kC d ((12,vl encI a.from_)::(kZ (a.from_.length:Int) c)))),(kA b [])) (ofG 28 (kBG colours (kC b ((12,vl encI a.from_)::(kZ (a.from_.length:Int) c)))),(kA b []))from(Sub.norm [] [some 0] rfl rfl (.keep (.same (qf encI _)) (.keep (.sliceE rfl (qH e)) (.keep (.same (qf encI _)) (.keep (.same nI) (.keep (.same nI) .nil))))) (.ks .nil))) ?_
    refine gh fol (kBG colours (kC b ((12,vl encI a.from_)::(kZ (a.from_.length:Int) (w64 (c+1)))))) ?_
    exact⟨M,(ofG 28 (kBG colours (kC b ((12,vl encI a.from_)::(kZ (a.from_.length:Int) (w64 (c+1)))))),(kA b [])),Nat.lt_succ_self _,(Sub.refl _),_,_,rfl,g5⟩
   refine Goes.exit ?_
   obtain rfl:=si g5
   exact⟨rfl,_,rfl,(Sub.keep [5] rfl rfl)⟩
 rintro x s' ⟨rfl,n,rfl,hsub⟩
 refine Goes.sub hsub ?_
 refine sh fol (kBT n []) ?_
 refine Goes.ret ?_
 obtain rfl:=si h
 exact(gw2 [.slice 0 0 n.length n.length 1] (Ux (U0 (E:=encI) rfl rfl (nl rfl))))
def qbe (N:Nat) (n:Int) (w:List Int) (colours:List Int):Option ((List Int)×Int):=
 (yB N n w colours).bind fun a=>
 if(!decide (a=0))=true then
 some ([],a)
 else
 (xw N n w).bind fun b=>
 (zW N b colours).bind fun c=>
 some (c,0)
theorem qhk (N:Nat) (n:Int) (w:List Int) (colours:List Int) {res:(List Int)×Int} (h:qbe N n w colours=some res):qb ZT (.fn 8) (.i n::vl encI w::(kA1 colours)) [] (.tuple (kBF res.1 res.2)) []:=by
 unfold qbe at h
 refine Ub Tryz.func8 rfl rfl (m:=21) rfl (rs:=[.tmp 6,.tmp 7]) rfl (l:=(kE n w [(2,vl encI colours)])) rfl ?_
 refine sh fol (kE n w [(2,vl encI colours)]) ?_
 refine sq ?_
 obtain⟨a,b,h⟩:=bnd h
 refine sq (gr fol [3] (kE n w [(2,vl encI colours),(8,.i a)]) (ac (cv (qes N n w colours b)) az) ?_)
 refine sh fol (kE n w ((2,vl encI colours)::(8,.i a)::(kB6 (!decide (a=0))))) ?_
 refine ihB h (fun f h=>?_) (fun f h=>?_)
 ·refine sh fol [(6,.nilslice),(7,.i a)] ?_
  refine Goes.ret ?_
  obtain rfl:=si h
  exact(gw2 [.nilslice,.i a] (FzW.tuple (qh.cons (FzW.nilv (E:=encI)) (qh.cons (Ua tI) qh.nil))))
 refine Goes.skip ?_
 obtain⟨g,c,h⟩:=bnd h
 obtain⟨e,d,h⟩:=bnd h
 refine sq (gr fol [2,4] [(6,vl encI e),(7,.i 0)] (ac (cv (qbs N n w c)) (ac (cv (qbO N g colours d)) az)) ?_)
 refine Goes.ret ?_
 obtain rfl:=si h
 exact(gw2 [vl encI e,.i 0] (FzW.tuple (qh.cons (Ua (ql encI _ (nl rfl))) (qh.cons (Ua tI) qh.nil))))
def jX:Nat->Int->Int->Option Int
 |0,_,_=>none
 |K+1,b,a=>
  if(!decide (a=0))=true then
  (qjj .i64 b a).bind fun c=>
  jX K a c
  else
  some b
def yY (N:Nat) (a:Int) (b:Int):Option Int:=
 (jX N a b).bind fun c=>
 (qfV .i64 a c).bind fun d=>
 some (w64 (d*b))
theorem qd0 (N:Nat) (a:Int) (b:Int) {res:Int} (h:yY N a b=some res):qb ZT (.fn 81) [.i a,.i b] [] (.i res) []:=by
 unfold yY at h
 refine Ub Tryz.func81 rfl rfl (m:=20) rfl (rs:=[.tmp 4]) rfl (l:=(kAL a b [])) rfl ?_
 refine sh fol (kAL a b []) ?_
 refine sh fol (kAL a b (kBE a b [])) ?_
 refine sq (Goes.block ?_)
 obtain⟨n,g4,h⟩:=bnd h
 refine Goes.imp (Q:=fun x s'=>(x= .exit 0/\ ∃g,g=n/\Sub s' (ofG 20 (kAL a b (kA7 g)),[]))) ?_ ?_
 ·refine Uc (fun M s=> ∃(d:Int) (c:Int),s=(ofG 20 (kAL a b (kBE d c [])),[])/\jX M d c=some n) ?_ (m:=N) ⟨_,_,rfl,g4⟩
  rintro M s ⟨d,c,rfl,g4⟩
  cases M with
  |zero=>simp only[jX]at g4;cases g4
  |succ M=>
   rw[jX]at g4
   refine sq ?_
   refine sh fol (kAL a b (kBE d c (kB5 (!decide (c=0))))) ?_
   refine ihB g4 (fun o g4=>?_) (fun o g4=>?_)
   ·refine Goes.skip ?_
    refine Goes.block ?_
    obtain⟨j,e,g4⟩:=bnd g4
    refine gr fol [3] (kAL a b (kBE c j [])) (ac (hs (.done (.opt (zx ZT .rem 3 (.tmp 12) (.tmp 13) (.i d) (.i c))) (.i j)) (qfP e)) az) ?_
    exact⟨M,(ofG 20 (kAL a b (kBE c j [])),[]),Nat.lt_succ_self _,(Sub.refl _),_,_,rfl,g4⟩
   refine Goes.exit ?_
   obtain rfl:=si g4
   exact⟨rfl,_,rfl,(Sub.keep [0,1,5] rfl rfl)⟩
 rintro x s' ⟨rfl,g,rfl,hsub⟩
 refine Goes.sub hsub ?_
 obtain⟨k,f,h⟩:=bnd h
 refine sq (gr fol [2] (kBx (w64 (k*b))) (ac (hs (.done (.opt (zx ZT .quo 3 (.tmp 15) (.tmp 16) (.i a) (.i g))) (.i k)) (qbY f)) az) ?_)
 refine Goes.ret ?_
 obtain rfl:=si h
 exact(gw2 [.i (w64 (k*b))] (Ua tI))
def zo (a:jy) (p:Int):Nat->Int->Int->Option Int
 |0,_,_=>none
 |K+1,b,c=>
  if(!decide (c=p))=true then
  (idx a.from_ c).bind fun d=>
  zo a p K (w64 (b+1)) d
  else
  some b
def zS (N:Nat) (a:jy) (p:Int):Option Int:=
 (idx a.from_ p).bind fun b=>
 (zo a p N 1 b).bind fun c=>
 some c
theorem xE (N:Nat) (a:jy) (p:Int) {res:Int} (h:zS N a p=some res):qb ZT (.fn 82) (kB1 a.seen a.from_ [.i p]) [] (.i res) []:=by
 unfold zS at h
 refine Ub Tryz.func82 rfl rfl (m:=23) rfl (rs:=[.tmp 4]) rfl (l:=(kBs a.seen a.from_ (kB7 p))) rfl ?_
 refine sg fol ((1,.i p)::(kX [])) (kF a.seen a.from_ []) ?_
 refine sh fol ((1,.i p)::(kX [(5,.i 1)])) ?_
 refine sq ?_
 obtain⟨k,b,h⟩:=bnd h
 refine sq (gr fol [3,4] ((1,.i p)::(kX [(5,.i 1),(6,.i k)])) (ac (iv qo encI b) (ac (lv 0 ce3 encI b rfl) az)) ?_)
 refine Goes.block ?_
 obtain⟨g,g5,h⟩:=bnd h
 refine Goes.imp (Q:=fun x s'=>(x= .exit 0/\ ∃f,f=g/\Sub s' (ofG 23 (kA7 f),[]))) ?_ ?_
 ·refine Uc (fun M s=> ∃(d:Int) (e:Int),s=(ofG 23 ((1,.i p)::(kX (kBE d e []))),(kF a.seen a.from_ []))/\zo a p M d e=some g) ?_ (m:=N) ⟨_,_,rfl,g5⟩
  rintro M s ⟨d,e,rfl,g5⟩
  cases M with
  |zero=>simp only[zo]at g5;cases g5
  |succ M=>
   rw[zo]at g5
   refine sq ?_
   refine sh fol ((1,.i p)::(kX (kBE d e (kB6 (!decide (e=p)))))) ?_
   refine ihB g5 (fun n g5=>?_) (fun n g5=>?_)
   ·refine Goes.skip ?_
    refine sq (Goes.block ?_)
    refine gh fol ((1,.i p)::(kX (kBE (w64 (d+1)) e []))) ?_
    obtain⟨j,c,g5⟩:=bnd g5
    refine gr fol [3,4] ((1,.i p)::(kX (kBE (w64 (d+1)) j []))) (ac (iv qo encI c) (ac (lv 0 ce3 encI c rfl) az)) ?_
    exact⟨M,(ofG 23 ((1,.i p)::(kX (kBE (w64 (d+1)) j []))),(kF a.seen a.from_ [])),Nat.lt_succ_self _,(Sub.refl _),_,_,rfl,g5⟩
   refine Goes.exit ?_
   obtain rfl:=si g5
   exact⟨rfl,_,rfl,(Sub.norm [] [] rfl rfl (.drop (.drop (.keep (.same nI) .nil))) .nil)⟩
 rintro x s' ⟨rfl,f,rfl,hsub⟩
 refine Goes.sub hsub ?_
 refine sh fol (kBx f) ?_
 refine Goes.ret ?_
 obtain rfl:=si h
 exact(gw2 [.i f] (Ua tI))
def zh (N:Nat) (a:jy):Nat->Int->Int->Option Int
 |0,_,_=>none
 |K+1,c,b=>
  if b<(a.seen.length:Int)then
  (idx a.seen b).bind fun d=>
  (zS N a d).bind fun e=>
  (yY N c e).bind fun f=>
  zh N a K f (w64 (b+1))
  else
  some c
def y7 (N:Nat) (a:jy):Option Int:=
 (zh N a N 1 0).bind fun b=>
 some b
theorem qec (N:Nat) (a:jy) {res:Int} (h:y7 N a=some res):qb ZT (.fn 30) [.agg (vl encI a.seen::(kA1 a.from_))] [] (.i res) []:=by
 unfold y7 at h
 refine Ub Tryz.func30 rfl rfl (m:=20) rfl (rs:=[.tmp 2]) rfl (l:=(kBs a.seen a.from_ [])) rfl ?_
 refine sg fol (kAX []) (kF a.seen a.from_ []) ?_
 refine sh fol (kAX [(3,.i 1)]) ?_
 refine sq ?_
 refine sh fol (kAX ((3,.i 1)::(kBd a.seen [(8,.i (a.seen.length:Int)),(9,.i 0)]))) ?_
 refine Goes.block ?_
 obtain⟨k,g4,h⟩:=bnd h
 refine Goes.imp (Q:=fun x s'=>(x= .exit 0/\ ∃e,e=k/\Sub s' (ofG 20 (kBZ e),[]))) ?_ ?_
 ·refine Uc (fun M s=> ∃(d:Int) (b:Int),s=(ofG 20 (kAX ((3,.i d)::(kBd a.seen (kAe (a.seen.length:Int) b)))),(kF a.seen a.from_ []))/\zh N a M d b=some k) ?_ (m:=N) ⟨_,_,rfl,g4⟩
  rintro M s ⟨d,b,rfl,g4⟩
  cases M with
  |zero=>simp only[zh]at g4;cases g4
  |succ M=>
   rw[zh]at g4
   refine sh fol (kAX ((3,.i d)::(kBd a.seen ((8,.i (a.seen.length:Int))::(9,.i b)::(kB5 (decide (b<(a.seen.length:Int)))))))) ?_
   refine sq ?_
   refine ihD g4 (fun o g4=>?_) (fun o g4=>?_)
   ·refine Goes.skip ?_
    refine sq (Goes.block ?_)
    obtain⟨n,c,g4⟩:=bnd g4
    refine sq (gr fol [0,1] (kAX ((3,.i d)::(5,.i n)::(kBd a.seen (kAe (a.seen.length:Int) b)))) (ac (iv qo encI c) (ac (lv 0 ce3 encI c rfl) az)) ?_)
    obtain⟨p,f,g4⟩:=bnd g4
    obtain⟨j,g,g4⟩:=bnd g4
    refine gr fol [3,4] (kAX ((3,.i j)::(kBd a.seen (kAe (a.seen.length:Int) b)))) (ac (cv (xE N a n f)) (ac (cv (qd0 N d p g)) az)) ?_
    refine gh fol (kAX ((3,.i j)::(kBd a.seen (kAe (a.seen.length:Int) (w64 (b+1)))))) ?_
    exact⟨M,(ofG 20 (kAX ((3,.i j)::(kBd a.seen (kAe (a.seen.length:Int) (w64 (b+1)))))),(kF a.seen a.from_ [])),Nat.lt_succ_self _,(Sub.refl _),_,_,rfl,g4⟩
   refine Goes.exit ?_
   obtain rfl:=si g4
   exact⟨rfl,_,rfl,(Sub.norm [] [] rfl rfl (.drop (.keep (.same nI) .nil)) .nil)⟩
 rintro x s' ⟨rfl,e,rfl,hsub⟩
 refine Goes.sub hsub ?_
 refine sh fol (kBR e) ?_
 refine Goes.ret ?_
 obtain rfl:=si h
 exact(gw2 [.i e] (Ua tI))
def qaJ (N:Nat) (n:Int) (w:List Int):Option (Int×Int):=
 (zJ N n w).bind fun a=>
 if(!decide (a=0))=true then
 some (0,a)
 else
 (xw N n w).bind fun b=>
 (y7 N b).bind fun c=>
 some (c,0)
theorem qgB (N:Nat) (n:Int) (w:List Int) {res:Int×Int} (h:qaJ N n w=some res):qb ZT (.fn 9) (.i n::(kA1 w)) [] (.tuple [.i res.1,.i res.2]) []:=by
 unfold qaJ at h
 refine Ub Tryz.func9 rfl rfl (m:=17) rfl (rs:=[.tmp 4,.tmp 5]) rfl (l:=(kE n w [])) rfl ?_
 refine sh fol (kE n w []) ?_
 refine sq ?_
 obtain⟨a,b,h⟩:=bnd h
 refine sq (gr fol [2] (kE n w [(6,.i a)]) (ac (cv (yD N n w b)) az) ?_)
 refine sh fol (kE n w [(6,.i a),(11,.bool (!decide (a=0)))]) ?_
 refine ihB h (fun f h=>?_) (fun f h=>?_)
 ·refine sh fol ((4,.i 0)::(kA7 a)) ?_
  refine Goes.ret ?_
  obtain rfl:=si h
  exact(gw2 [.i 0,.i a] (FzW.tuple (qh.cons (Ua tI) (qh.cons (Ua tI) qh.nil))))
 refine Goes.skip ?_
 obtain⟨g,c,h⟩:=bnd h
 obtain⟨e,d,h⟩:=bnd h
 refine sq (gr fol [2,3] [(4,.i e),(5,.i 0)] (ac (cv (qbs N n w c)) (ac (cv (qec N g d)) az)) ?_)
 refine Goes.ret ?_
 obtain rfl:=si h
 exact(gw2 [.i e,.i 0] (FzW.tuple (qh.cons (Ua tI) (qh.cons (Ua tI) qh.nil))))
def zl (p:List Int):Nat->(List (Int×Bool))->Int->Option (Unit⊕Int)
 |0,_,_=>none
 |K+1,e,b=>
  if b<(p.length:Int)then
  (idx p b).bind fun a=>
  (if a<0 then
  some true
  else
  if a>=(p.length:Int)then
  some true
  else
  some ((qcT e a).getD false):Option Bool).bind fun c=>
  if c=true then
  some (.inr 15)
  else
  (some (qfW e a true)).bind fun d=>
  zl p K d (w64 (b+1))
  else
  some (.inl ())
def jL (N:Nat) (p:List Int):Option Int:=
 if(p.length:Int)>256 then
 some 5
 else
 (zl p N ([]:List (Int×Bool)) 0).bind (fun
 |(.inl ())=>
 some 0
 |(.inr a)=>
 some a)
theorem qcW (N:Nat) (p:List Int) {res:Int} (h:jL N p=some res):qb ZT (.fn 31) [vl encI p] [] (.i res) []:=by
 unfold jL at h
 refine Ub Tryz.func31 rfl rfl (m:=32) rfl (rs:=[.tmp 2]) rfl (l:=(kP p [])) rfl ?_
 refine sh fol (kP p []) ?_
 refine sq ?_
 refine sh fol (kP p [(8,.bool (decide ((p.length:Int)>256)))]) ?_
 refine ihD h (fun u h=>?_) (fun u h=>?_)
 ·refine sh fol [(2,.i 5)] ?_
  refine Goes.ret ?_
  obtain rfl:=si h
  exact(gw2 [.i 5] (Ua tI))
 refine Goes.skip ?_
 refine sg fol (kP p [(3,.map 0)]) [mpB (AV.int .i64) fO ([]:List (Int×Bool))] ?_
 refine sq ?_
 refine sh fol (kP p [(3,.map 0),(10,vl encI p),(11,.i (p.length:Int)),(12,.i 0)]) ?_
 refine Goes.block ?_
 obtain⟨n,g4,h⟩:=bnd h
 refine Goes.imp (Q:=fun x s'=>(x= .exit 0/\(.inl ())=n/\Sub s' (ofG 32 [],[]))\/(x= .ret/\ ∃t,(.inr t)=n/\kz ZT [.tmp 2] (.i t) .ret s')) ?_ ?_
 ·refine Uc (fun M s=> ∃(d:List (Int×Bool)) (b:Int),s=(ofG 32 (kP p ((3,.map 0)::(kAH p (p.length:Int) b []))),[mpB (AV.int .i64) fO d])/\zl p M d b=some n) ?_ (m:=N) ⟨_,_,rfl,g4⟩
  rintro M s ⟨d,b,rfl,g4⟩
  cases M with
  |zero=>simp only[zl]at g4;cases g4
  |succ M=>
   rw[zl]at g4
   refine sh fol (kP p ((3,.map 0)::(kAH p (p.length:Int) b (kBe (decide (b<(p.length:Int))))))) ?_
   refine sq ?_
   refine ihD g4 (fun v g4=>?_) (fun v g4=>?_)
   ·refine Goes.skip ?_
    refine sq (Goes.block ?_)
    obtain⟨c,e,g4⟩:=bnd g4
    refine sq (gr fol [0,1] (kP p ((3,.map 0)::(5,.i c)::(kAH p (p.length:Int) b []))) (ac (iv qo encI e) (ac (lv 0 ce3 encI e rfl) az)) ?_)
    refine sq ?_
    refine sq ?_
    obtain⟨o,a,g4⟩:=bnd g4
    refine Goes.cut (s':=(ofG 32 (kP p ((3,.map 0)::(5,.i c)::(kAH p (p.length:Int) b [(28,.bool o)]))),[mpB (AV.int .i64) fO d])) ?_ ?_
    ·rcases wyD a with⟨k,a⟩|⟨k,a⟩
     ·obtain rfl:=si a
      exact tr fol [2] (kP p ((3,.map 0)::(5,.i c)::(kAH p (p.length:Int) b [(28,.bool true)]))) (ac (gw k) az)
     rcases wyD a with⟨q,a⟩|⟨q,a⟩
     ·obtain rfl:=si a
      exact tr fol [2,8] (kP p ((3,.map 0)::(5,.i c)::(kAH p (p.length:Int) b [(28,.bool true)]))) (ac (gw k) (ac (gw q) az))
     obtain rfl:=si a
     exact tr fol [2,8,11] (kP p ((3,.map 0)::(5,.i c)::(kAH p (p.length:Int) b [(28,.bool ((qcT d c).getD false))]))) (ac (gw k) (ac (gw q) (ac (hs (.run [0] (qde ZT 114 (.map 0) (.i c) false) [mpB (AV.int .i64) fO d] (.bool ((qcT d c).getD false)) [mpB (AV.int .i64) fO d] false) (qo4 (z:=false) (f:=fO) qoK keyI rfl c)) az)))
    refine ihB g4 (fun r g4=>?_) (fun r g4=>?_)
    ·refine sh fol [(2,.i 15)] ?_
     refine Goes.ret ?_
     obtain rfl:=si g4
     exact Or.inr (⟨rfl,_,rfl,(gw2 [.i 15] (Ua tI))⟩)
    refine Goes.skip ?_
    obtain⟨g,j,g4⟩:=bnd g4
    refine gq fol [2] (kP p ((3,.map 0)::(kAH p (p.length:Int) b []))) [mpB (AV.int .i64) fO g] (ac (hs (.run [0] (qbv ZT 114 (.map 0) (.i c) (.bool true)) [mpB (AV.int .i64) fO d] .undef [mpB (AV.int .i64) fO g] true) (upm qoK keyI fO rfl c true j rfl)) az) ?_
    refine gh fol (kP p ((3,.map 0)::(kAH p (p.length:Int) (w64 (b+1)) []))) ?_
    exact⟨M,(ofG 32 (kP p ((3,.map 0)::(kAH p (p.length:Int) (w64 (b+1)) []))),[mpB (AV.int .i64) fO g]),Nat.lt_succ_self _,(Sub.refl _),_,_,rfl,g4⟩
   refine Goes.exit ?_
   obtain rfl:=si g4
   exact Or.inl (⟨rfl,rfl,(Sub.norm [] [] rfl rfl .nil .nil)⟩)
 rintro x s' (⟨rfl,rfl,hsub⟩|⟨rfl,w,rfl,hret⟩)
 ·try dsimp only at h
  refine Goes.sub hsub ?_
  refine sh fol [(2,.i 0)] ?_
  refine Goes.ret ?_
  obtain rfl:=si h
  exact(gw2 [.i 0] (Ua tI))
 try dsimp only at h
 obtain rfl:=si h
 exact hret
def qip (n:Int):Option qB:=
 some (⟨n,[]⟩:qB)
theorem qg5 (n:Int) {res:qB} (h:qip n=some res):qb ZT (.fn 83) [.i n] [] (.agg (nz1 res)) []:=by
 unfold qip at h
 refine Ub Tryz.func83 rfl rfl (m:=5) rfl (rs:=[.cell 2 65]) rfl (l:=(kBi n)) rfl ?_
 refine sg fol ((0,.i n)::(kX [])) [bZ] ?_
 refine sg fol (kX []) (kAG n []) ?_
 refine Goes.ret ?_
 obtain rfl:=si h
 exact(gw2 [.agg [.i n,.nilslice]] (FzW.agg (qh.cons (Ua tI) (qh.cons (FzW.nv0 (E:=(qa .u64))) qh.nil))))
def qcq (n:qB):Option jm:=
 (qip 1).bind fun a=>
 some (⟨n,a⟩:jm)
theorem qgJ (n:qB) {res:jm} (h:qcq n=some res):qb ZT (.fn 34) [.agg (nz1 n)] [] (.agg (nq1 res)) []:=by
 unfold qcq at h
 refine Ub Tryz.func34 rfl rfl (m:=6) rfl (rs:=[.cell 2 67]) rfl (l:=[(0,.agg (nz1 n))]) rfl ?_
 refine sg fol (kAX kBX) (.cells (nz1 n)::(kQ [])) ?_
 obtain⟨a,b,h⟩:=bnd h
 refine sq (gq fol [1,3] kBX [.cells (nz1 n),.cells (ni2 n.s n.w a.s a.w)] (ac (cv (qg5 1 b)) (ac (hs (.run [1] (qm ZT 67 (.ptr 1 0) (.agg (ni2 n.s n.w a.s a.w))) (.cells (nz1 n)::(kQ [])) .undef [.cells (nz1 n),.cells (ni2 n.s n.w a.s a.w)] true) (jW (n:=4) (by kernel_rfl) rfl rfl rfl rfl (cac rfl (cac nvc (cac rfl (cac nvc can)))) rfl)) az)) ?_)
 refine Goes.ret ?_
 obtain rfl:=si h
 exact(gw2 [.agg (ni2 n.s n.w a.s a.w)] (FzW.agg (qh.cons (Ua tI) (qh.cons (Ua (qQ (qa .u64) _ (nl rfl))) (qh.cons (Ua tI) (qh.cons (Ua (qQ (qa .u64) _ (nl rfl))) qh.nil))))))
def qf3 (n:Int):Option jm:=
 (qip n).bind fun a=>
 (qcq a).bind fun b=>
 some b
theorem qkD (n:Int) {res:jm} (h:qf3 n=some res):qb ZT (.fn 32) [.i n] [] (.agg (nq1 res)) []:=by
 unfold qf3 at h
 refine Ub Tryz.func32 rfl rfl (m:=6) rfl (rs:=[.cell 2 67]) rfl (l:=(kBi n)) rfl ?_
 refine sg fol ((0,.i n)::(kX [])) (kQ []) ?_
 obtain⟨d,a,h⟩:=bnd h
 obtain⟨c,b,h⟩:=bnd h
 refine sq (gq fol [1,2,3] (kX []) [.cells (nq1 c)] (ac (cv (qg5 n a)) (ac (cv (qgJ d b)) (ac (hs (.run [0] (qm ZT 67 (.ptr 0 0) (.agg (nq1 c))) (kQ []) .undef [.cells (nq1 c)] true) (jW (n:=4) (by kernel_rfl) rfl rfl rfl rfl (cac rfl (cac nvc (cac rfl (cac nvc can)))) rfl)) az))) ?_)
 refine Goes.ret ?_
 obtain rfl:=si h
 exact(gw2 [.agg (nq1 c)] (FzW.agg (qh.cons (Ua tI) (qh.cons (Ua (qQ (qa .u64) _ (nl rfl))) (qh.cons (Ua tI) (qh.cons (Ua (qQ (qa .u64) _ (nl rfl))) qh.nil))))))
def qaX (a:qB):Option Int:=
 some (if(if a.s<1 then a.s else 1)>(-1)then(if a.s<1 then a.s else 1)else(-1))
theorem qbu (a:qB) {res:Int} (h:qaX a=some res):qb ZT (.fn 127) [.agg (nz1 a)] [] (.i res) []:=by
 unfold qaX at h
 refine Ub Tryz.func127 rfl rfl (m:=7) rfl (rs:=[.tmp 2]) rfl (l:=[(0,.agg (nz1 a))]) rfl ?_
 refine sg fol (kAX []) [.cells (nz1 a)] ?_
 refine sh fol (kBR (if(if a.s<1 then a.s else 1)>(-1)then(if a.s<1 then a.s else 1)else(-1))) ?_
 refine Goes.ret ?_
 obtain rfl:=si h
 exact(gw2 [.i (if(if a.s<1 then a.s else 1)>(-1)then(if a.s<1 then a.s else 1)else(-1))] (Ua tI))
def qfp (n:Int):Option Int:=
 if n<0 then
 some (IntKind.wrap .u64 (w64 (0-n)))
 else
 some (IntKind.wrap .u64 n)
theorem qfF (n:Int) {res:Int} (h:qfp n=some res):qb ZT (.fn 132) [.i n] [] (.int .u64 res) []:=by
 unfold qfp at h
 refine Ub Tryz.func132 rfl rfl (m:=10) rfl (rs:=[.tmp 2]) rfl (l:=(kBi n)) rfl ?_
 refine sh fol (kBi n) ?_
 refine sq ?_
 refine sh fol ((0,.i n)::(kBI (decide (n<0)))) ?_
 refine ihD h (fun a h=>?_) (fun a h=>?_)
 ·refine sh fol [(2,.int .u64 (IntKind.wrap .u64 (w64 (0-n))))] ?_
  refine Goes.ret ?_
  obtain rfl:=si h
  exact(gw2 [.int .u64 (IntKind.wrap .u64 (w64 (0-n)))] (Ua tI))
 refine Goes.skip ?_
 refine sh fol [(2,.int .u64 (IntKind.wrap .u64 n))] ?_
 refine Goes.ret ?_
 obtain rfl:=si h
 exact(gw2 [.int .u64 (IntKind.wrap .u64 n)] (Ua tI))
def jw (a:qB):Option (Bool×(List Int)):=
 if(!a.w.isEmpty)=true then
 some (decide (a.s<0),a.w)
 else
 if a.s=0 then
 some (false,[])
 else
 (qfp a.s).bind fun b=>
 some (decide (a.s<0),[b])
theorem zZ (a:qB) {res:Bool×(List Int)} (h:jw a=some res):qb ZT (.fn 133) [.agg (nz1 a)] [] (.tuple [.bool res.1,vl (qa .u64) res.2]) []:=by
 unfold jw at h
 refine Ub Tryz.func133 rfl rfl (m:=24) rfl (rs:=[.tmp 2,.tmp 3]) rfl (l:=[(0,.agg (nz1 a))]) rfl ?_
 refine sg fol (kAX []) [.cells (nz1 a)] ?_
 refine sq (Goes.block ?_)
 refine sq (gr fol [2] (kAX (kBI (!a.w.isEmpty))) (ac (hs (.done (.opt (zx ZT .neq 63 (.tmp 6) (.const (.slice none 0 0)) (nvl (qa .u64) a.w) .nilslice)) (.bool (!a.w.isEmpty))) (ne_nv qbV)) az) ?_)
 refine ihB h (fun c h=>?_) (fun c h=>?_)
 ·refine sh fol [(2,.bool (decide (a.s<0))),(3,nvl (qa .u64) a.w)] ?_
  refine Goes.ret ?_
  obtain rfl:=si h
  exact(gw2 [.bool (decide (a.s<0)),nvl (qa .u64) a.w] (FzW.tuple (qh.cons (Ua tB) (qh.cons (FzW.nvL (E:=(qa .u64)) (nl rfl)) qh.nil))))
 refine sh fol (kAX (kBe (decide (a.s=0)))) ?_
 refine ihD h (fun d h=>?_) (fun d h=>?_)
 ·refine sh fol [(2,.bool false),(3,.nilslice)] ?_
  refine Goes.ret ?_
  obtain rfl:=si h
  exact(gw2 [.bool false,.nilslice] (FzW.tuple (qh.cons (Ua tB) (qh.cons (FzW.nilv (E:=(qa .u64))) qh.nil))))
 refine Goes.skip ?_
 obtain⟨e,b,h⟩:=bnd h
 refine sq (gq fol [5] [(2,.bool (decide (a.s<0))),(3,.slice 1 0 1 1 1)] [.cells (nz1 a),.cells [.int .u64 e]] (ac (cv (qfF a.s b)) az) ?_)
 refine Goes.ret ?_
 obtain rfl:=si h
 exact(gw2 [.bool (decide (a.s<0)),.slice 1 0 1 1 1] (FzW.tuple (qh.cons (Ua tB) (qh.cons (Ux (Fz.lit rfl rfl (Uj (AllST.cons tI AllST.nil)))) qh.nil))))
def qb3 (neg:Bool) (w:List Int):Option qB:=
 if(w.length:Int)=0 then
 some (⟨0,[]⟩:qB)
 else
 (if(w.length:Int)=1 then
 (idx w 0).bind fun d=>
 if d<=9223372036854775807 then
 some neg
 else
 some false
 else
 some false:Option Bool).bind fun e=>
 if e=true then
 (idx w 0).bind fun f=>
 some (⟨w64 (0-(w64 f)),[]⟩:qB)
 else
 (if(w.length:Int)=1 then
 (idx w 0).bind fun a=>
 some (decide (a<=9223372036854775807))
 else
 some false:Option Bool).bind fun b=>
 if b=true then
 (idx w 0).bind fun c=>
 some (⟨w64 c,[]⟩:qB)
 else
 if neg=true then
 some (⟨(-1),w⟩:qB)
 else
 some (⟨1,w⟩:qB)
theorem qaV (neg:Bool) (w:List Int) {res:qB} (h:qb3 neg w=some res):qb ZT (.fn 134) [.bool neg,vl (qa .u64) w] [] (.agg (nz1 res)) []:=by
 unfold qb3 at h
 refine Ub Tryz.func134 rfl rfl (m:=50) rfl (rs:=[.cell 4 65]) rfl (l:=[(0,.bool neg),(1,vl (qa .u64) w)]) rfl ?_
 refine sg fol ((0,.bool neg)::(1,vl (qa .u64) w)::(kA9 [])) [bZ] ?_
 refine sq (Goes.block ?_)
 refine sh fol ((0,.bool neg)::(1,vl (qa .u64) w)::(kA9 [(5,.bool (decide ((w.length:Int)=0)))])) ?_
 refine ihD h (fun t h=>?_) (fun t h=>?_)
 ·refine sh fol (kA9 []) ?_
  refine Goes.ret ?_
  obtain rfl:=si h
  exact(gw2 [.agg [.i 0,.nilslice]] (FzW.agg (qh.cons (Ua tI) (qh.cons (FzW.nv0 (E:=(qa .u64))) qh.nil))))
 refine sq ?_
 obtain⟨u,a,h⟩:=bnd h
 refine Goes.cut (s':=(ofG 50 ((0,.bool neg)::(1,vl (qa .u64) w)::(kA9 (kB5 u))),[bZ])) ?_ ?_
 ·rcases wyD a with⟨j,a⟩|⟨j,a⟩
  ·obtain⟨x,c,a⟩:=bnd a
   rcases wyD a with⟨k,a⟩|⟨k,a⟩
   ·obtain rfl:=si a
    exact tr fol [3,5,6,9] ((0,.bool neg)::(1,vl (qa .u64) w)::(kA9 (kB5 neg))) (ac (gw j) (ac (iv jg (qa .u64) c) (ac (lv 0 jr (qa .u64) c rfl) (ac (gw k) az))))
   obtain rfl:=si a
   exact tr fol [3,5,6,9] ((0,.bool neg)::(1,vl (qa .u64) w)::(kA9 [(10,.bool false)])) (ac (gw j) (ac (iv jg (qa .u64) c) (ac (lv 0 jr (qa .u64) c rfl) (ac (gw k) az))))
  obtain rfl:=si a
  exact tr fol [3] ((0,.bool neg)::(1,vl (qa .u64) w)::(kA9 [(10,.bool false)])) (ac (gw j) az)
 refine ihB h (fun v h=>?_) (fun v h=>?_)
 ·obtain⟨s,f,h⟩:=bnd h
  refine sq (gq fol [1,2] (kA9 []) (kAG (w64 (0-(w64 s))) []) (ac (iv jg (qa .u64) f) (ac (lv 0 jr (qa .u64) f rfl) az)) ?_)
  refine Goes.ret ?_
  obtain rfl:=si h
  exact(gw2 [.agg [.i (w64 (0-(w64 s))),.nilslice]] (FzW.agg (qh.cons (Ua tI) (qh.cons (FzW.nv0 (E:=(qa .u64))) qh.nil))))
 refine sq ?_
 obtain⟨n,b,h⟩:=bnd h
 refine Goes.cut (s':=(ofG 50 ((0,.bool neg)::(1,vl (qa .u64) w)::(kA9 [(29,.bool n)])),[bZ])) ?_ ?_
 ·rcases wyD b with⟨o,b⟩|⟨o,b⟩
  ·obtain⟨p,d,b⟩:=bnd b
   obtain rfl:=si b
   exact tr fol [3,5,6] ((0,.bool neg)::(1,vl (qa .u64) w)::(kA9 [(29,.bool (decide (p<=9223372036854775807)))])) (ac (gw o) (ac (iv jg (qa .u64) d) (ac (lv 0 jr (qa .u64) d rfl) az)))
  obtain rfl:=si b
  exact tr fol [3] ((0,.bool neg)::(1,vl (qa .u64) w)::(kA9 [(29,.bool false)])) (ac (gw o) az)
 refine ihB h (fun q h=>?_) (fun q h=>?_)
 ·obtain⟨g,e,h⟩:=bnd h
  refine sq (gq fol [1,2] (kA9 []) (kAG (w64 g) []) (ac (iv jg (qa .u64) e) (ac (lv 0 jr (qa .u64) e rfl) az)) ?_)
  refine Goes.ret ?_
  obtain rfl:=si h
  exact(gw2 [.agg [.i (w64 g),.nilslice]] (FzW.agg (qh.cons (Ua tI) (qh.cons (FzW.nv0 (E:=(qa .u64))) qh.nil))))
 refine sh fol ((1,vl (qa .u64) w)::(kA9 [(44,.bool neg)])) ?_
 refine ihB h (fun r h=>?_) (fun r h=>?_)
 ·refine sg fol (kA9 []) [.cells [.i (-1),vl (qa .u64) w]] ?_
  refine Goes.ret ?_
  obtain rfl:=si h
  exact(gw2 [.agg [.i (-1),vl (qa .u64) w]] (FzW.agg (qh.cons (Ua tI) (qh.cons (FzW.Lnv (E:=(qa .u64)) (by first|omega|(simp only[decide_eq_false_iff_not,decide_eq_true_eq]at*;omega)) (nl rfl)) qh.nil))))
 refine Goes.skip ?_
 refine sg fol (kA9 []) [.cells [.i 1,vl (qa .u64) w]] ?_
 refine Goes.ret ?_
 obtain rfl:=si h
 exact(gw2 [.agg [.i 1,vl (qa .u64) w]] (FzW.agg (qh.cons (Ua tI) (qh.cons (FzW.Lnv (E:=(qa .u64)) (by first|omega|(simp only[decide_eq_false_iff_not,decide_eq_true_eq]at*;omega)) (nl rfl)) qh.nil))))
def xQ (a:qB):Option qB:=
 (if a.w.isEmpty=true then
 some (!decide (a.s=(-9223372036854775808)))
 else
 some false:Option Bool).bind fun c=>
 if c=true then
 some (⟨w64 (0-a.s),[]⟩:qB)
 else
 (jw a).bind fun b=>
 (qb3 (!b.1) b.2).bind fun d=>
 some d
theorem xI (a:qB) {res:qB} (h:xQ a=some res):qb ZT (.fn 128) [.agg (nz1 a)] [] (.agg (nz1 res)) []:=by
 unfold xQ at h
 refine Ub Tryz.func128 rfl rfl (m:=26) rfl (rs:=[.cell 2 65]) rfl (l:=[(0,.agg (nz1 a))]) rfl ?_
 refine sg fol (kAX kBX) [.cells (nz1 a),bZ] ?_
 refine sq ?_
 refine sq ?_
 obtain⟨j,b,h⟩:=bnd h
 refine Goes.cut (s':=(ofG 26 (kAX [(2,.ptr 1 0),(12,.bool j)]),[.cells (nz1 a),bZ])) ?_ ?_
 ·rcases wyB b with⟨g,b⟩|⟨g,b⟩
  ·obtain rfl:=si b
   exact tr fol [2,3] (kAX [(2,.ptr 1 0),(12,.bool (!decide (a.s=(-9223372036854775808))))]) (ac (hs (.done (.opt (zx ZT .eql 63 (.tmp 6) (.const (.slice none 0 0)) (nvl (qa .u64) a.w) .nilslice)) (.bool a.w.isEmpty)) (qch qbV)) (ac (gw g) az))
  obtain rfl:=si b
  exact tr fol [2,3] (kAX [(2,.ptr 1 0),(12,.bool false)]) (ac (hs (.done (.opt (zx ZT .eql 63 (.tmp 6) (.const (.slice none 0 0)) (nvl (qa .u64) a.w) .nilslice)) (.bool a.w.isEmpty)) (qch qbV)) (ac (gw g) az))
 refine ihB h (fun k h=>?_) (fun k h=>?_)
 ·refine sg fol kBX (.cells (nz1 a)::(kAG (w64 (0-a.s)) [])) ?_
  refine Goes.ret ?_
  obtain rfl:=si h
  exact(gw2 [.agg [.i (w64 (0-a.s)),.nilslice]] (FzW.agg (qh.cons (Ua tI) (qh.cons (FzW.nv0 (E:=(qa .u64))) qh.nil))))
 refine Goes.skip ?_
 obtain⟨e,c,h⟩:=bnd h
 refine sq (gr fol [1] ((2,.ptr 1 0)::(kBt e.1 [(4,vl (qa .u64) e.2)])) (ac (cv (zZ a c)) az) ?_)
 obtain⟨f,d,h⟩:=bnd h
 refine sq (gq fol [3,4] kBX [.cells (nz1 a),.cells (nz1 f)] (ac (cv (qaV (!e.1) e.2 d)) (ac (hs (.run [1] (qm ZT 65 (.ptr 1 0) (.agg (nz1 f))) [.cells (nz1 a),bZ] .undef [.cells (nz1 a),.cells (nz1 f)] true) (jW (n:=2) (by kernel_rfl) rfl rfl rfl rfl (cac rfl (cac nvc can)) rfl)) az)) ?_)
 refine Goes.ret ?_
 obtain rfl:=si h
 exact(gw2 [.agg (nz1 f)] (FzW.agg (qh.cons (Ua tI) (qh.cons (Ua (qQ (qa .u64) _ (nl rfl))) qh.nil))))
def qdP (a:qB):Option qB:=
 if a.s<0 then
 (xQ a).bind fun b=>
 some b
 else
 some a
theorem qfc (a:qB) {res:qB} (h:qdP a=some res):qb ZT (.fn 163) [.agg (nz1 a)] [] (.agg (nz1 res)) []:=by
 unfold qdP at h
 refine Ub Tryz.func163 rfl rfl (m:=9) rfl (rs:=[.cell 2 65]) rfl (l:=[(0,.agg (nz1 a))]) rfl ?_
 refine sg fol (kAX kBX) [.cells (nz1 a),bZ] ?_
 refine sq ?_
 refine sh fol (kAX [(2,.ptr 1 0),(5,.bool (decide (a.s<0)))]) ?_
 refine ihD h (fun d h=>?_) (fun d h=>?_)
 ·obtain⟨c,b,h⟩:=bnd h
  refine sq (gq fol [1,2] kBX [.cells (nz1 a),.cells (nz1 c)] (ac (cv (xI a b)) (ac (hs (.run [1] (qm ZT 65 (.ptr 1 0) (.agg (nz1 c))) [.cells (nz1 a),bZ] .undef [.cells (nz1 a),.cells (nz1 c)] true) (jW (n:=2) (by kernel_rfl) rfl rfl rfl rfl (cac rfl (cac nvc can)) rfl)) az)) ?_)
  refine Goes.ret ?_
  obtain rfl:=si h
  exact(gw2 [.agg (nz1 c)] (FzW.agg (qh.cons (Ua tI) (qh.cons (Ua (qQ (qa .u64) _ (nl rfl))) qh.nil))))
 refine Goes.skip ?_
 refine sq (gq fol [1] kBX [.cells (nz1 a),.cells (nz1 a)] (ac (hs (.run [1] (qm ZT 65 (.ptr 1 0) (.agg (nz1 a))) [.cells (nz1 a),bZ] .undef [.cells (nz1 a),.cells (nz1 a)] true) (jW (n:=2) (by kernel_rfl) rfl rfl rfl rfl (cac rfl (cac nvc can)) rfl)) az) ?_)
 refine Goes.ret ?_
 obtain rfl:=si h
 exact(gw2 [.agg (nz1 a)] (FzW.agg (qh.cons (Ua tI) (qh.cons (Ua (qQ (qa .u64) _ (nl rfl))) qh.nil))))
def qcz (w:List Int):Nat->Int->Option Int
 |0,_=>none
 |K+1,a=>
  (if a>0 then
  (idx w (w64 (a-1))).bind fun b=>
  some (decide (b=0))
  else
  some false:Option Bool).bind fun c=>
  if c=true then
  qcz w K (w64 (a-1))
  else
  some a
def qbm (N:Nat) (w:List Int):Option (List Int):=
 (qcz w N (w.length:Int)).bind fun a=>
 (cut w 0 a).bind fun b=>
 some b
theorem xR (N:Nat) (w:List Int) {res:List Int} (h:qbm N w=some res):qb ZT (.fn 166) [vl (qa .u64) w] [] (vl (qa .u64) res) []:=by
 unfold qbm at h
 refine Ub Tryz.func166 rfl rfl (m:=21) rfl (rs:=[.tmp 2]) rfl (l:=[(0,vl (qa .u64) w)]) rfl ?_
 refine sh fol [(0,vl (qa .u64) w)] ?_
 refine sh fol ((0,vl (qa .u64) w)::(kBZ (w.length:Int))) ?_
 refine sq (Goes.block ?_)
 obtain⟨j,g3,h⟩:=bnd h
 refine Goes.imp (Q:=fun x s'=>(x= .exit 0/\ ∃d,d=j/\Sub s' (ofG 21 ((0,vl (qa .u64) w)::(kBZ d)),[]))) ?_ ?_
 ·refine Uc (fun M s=> ∃(b:Int),s=(ofG 21 ((0,vl (qa .u64) w)::(kBZ b)),[])/\qcz w M b=some j) ?_ (m:=N) ⟨_,rfl,g3⟩
  rintro M s ⟨b,rfl,g3⟩
  cases M with
  |zero=>simp only[qcz]at g3;cases g3
  |succ M=>
   rw[qcz]at g3
   refine sq ?_
   refine sq ?_
   obtain⟨k,a,g3⟩:=bnd g3
   refine Goes.cut (s':=(ofG 21 ((0,vl (qa .u64) w)::(3,.i b)::(kBy k)),[])) ?_ ?_
   ·rcases wyD a with⟨f,a⟩|⟨f,a⟩
    ·obtain⟨n,c,a⟩:=bnd a
     obtain rfl:=si a
     exact tr fol [2,6,7] ((0,vl (qa .u64) w)::(3,.i b)::(kBy (decide (n=0)))) (ac (gw f) (ac (iv jg (qa .u64) c) (ac (lv 0 jr (qa .u64) c rfl) az)))
    obtain rfl:=si a
    exact tr fol [2] [(0,vl (qa .u64) w),(3,.i b),(15,.bool false)] (ac (gw f) az)
   refine ihB g3 (fun o g3=>?_) (fun o g3=>?_)
   ·refine Goes.skip ?_
    refine Goes.block ?_
    refine gh fol ((0,vl (qa .u64) w)::(kBZ (w64 (b-1)))) ?_
    exact⟨M,(ofG 21 ((0,vl (qa .u64) w)::(kBZ (w64 (b-1)))),[]),Nat.lt_succ_self _,(Sub.refl _),_,rfl,g3⟩
   refine Goes.exit ?_
   obtain rfl:=si g3
   exact⟨rfl,_,rfl,(Sub.keep [0,3] rfl rfl)⟩
 rintro x s' ⟨rfl,d,rfl,hsub⟩
 refine Goes.sub hsub ?_
 obtain⟨g,e,h⟩:=bnd h
 refine sq (gr fol [2] [(2,vl (qa .u64) g)] (ac (hs (.done (.opt (zi ZT 63 (vl (qa .u64) w) none (some (.i d)) none)) (vl (qa .u64) g)) (qkU jg (E:=(qa .u64)) rfl none (some d) e)) az) ?_)
 refine Goes.ret ?_
 obtain rfl:=si h
 exact(gw2 [vl (qa .u64) g] (Ua (ql (qa .u64) _ (nl rfl))))
def yA (a:List Int) (b:List Int):Nat->Int->Option (Unit⊕Int)
 |0,_=>none
 |K+1,c=>
  if c>=0 then
  (idx a c).bind fun d=>
  (idx b c).bind fun e=>
  if(!decide (d=e))=true then
  if d<e then
  some (.inr (-1))
  else
  some (.inr 1)
  else
  yA a b K (w64 (c-1))
  else
  some (.inl ())
def qa1 (N:Nat) (a:List Int) (b:List Int):Option Int:=
 if(!decide ((a.length:Int)=(b.length:Int)))=true then
 if(a.length:Int)<(b.length:Int)then
 some (-1)
 else
 some 1
 else
 (yA a b N (w64 ((a.length:Int)-1))).bind (fun
 |(.inl ())=>
 some 0
 |(.inr c)=>
 some c)
theorem qcV (N:Nat) (a:List Int) (b:List Int) {res:Int} (h:qa1 N a b=some res):qb ZT (.fn 184) [vl (qa .u64) a,vl (qa .u64) b] [] (.i res) []:=by
 unfold qa1 at h
 refine Ub Tryz.func184 rfl rfl (m:=41) rfl (rs:=[.tmp 4]) rfl (l:=[(0,vl (qa .u64) a),(1,vl (qa .u64) b)]) rfl ?_
 refine sh fol [(0,vl (qa .u64) a),(1,vl (qa .u64) b)] ?_
 refine sq ?_
 refine sh fol ((0,vl (qa .u64) a)::(1,vl (qa .u64) b)::(kB5 (!decide ((a.length:Int)=(b.length:Int))))) ?_
 refine ihB h (fun o h=>?_) (fun o h=>?_)
 ·refine sq ?_
  refine sh fol (kBy (decide ((a.length:Int)<(b.length:Int)))) ?_
  refine ihD h (fun p h=>?_) (fun p h=>?_)
  ·refine sh fol [(4,.i (-1))] ?_
   refine Goes.ret ?_
   obtain rfl:=si h
   exact(gw2 [.i (-1)] (Ua tI))
  refine Goes.skip ?_
  refine sh fol [(4,.i 1)] ?_
  refine Goes.ret ?_
  obtain rfl:=si h
  exact(gw2 [.i 1] (Ua tI))
 refine Goes.skip ?_
 refine sq ?_
 refine sh fol ((0,vl (qa .u64) a)::(1,vl (qa .u64) b)::(kA7 (w64 ((a.length:Int)-1)))) ?_
 refine Goes.block ?_
 obtain⟨f,g4,h⟩:=bnd h
 refine Goes.imp (Q:=fun x s'=>(x= .exit 0/\(.inl ())=f/\Sub s' (ofG 41 [],[]))\/(x= .ret/\ ∃j,(.inr j)=f/\kz ZT [.tmp 4] (.i j) .ret s')) ?_ ?_
 ·refine Uc (fun M s=> ∃(e:Int),s=(ofG 41 ((0,vl (qa .u64) a)::(1,vl (qa .u64) b)::(kA7 e)),[])/\yA a b M e=some f) ?_ (m:=N) ⟨_,rfl,g4⟩
  rintro M s ⟨e,rfl,g4⟩
  cases M with
  |zero=>simp only[yA]at g4;cases g4
  |succ M=>
   rw[yA]at g4
   refine sq ?_
   refine sh fol [(0,vl (qa .u64) a),(1,vl (qa .u64) b),(5,.i e),(20,.bool (decide (e>=0)))] ?_
   refine ihD g4 (fun q g4=>?_) (fun q g4=>?_)
   ·refine Goes.skip ?_
    refine sq (Goes.block ?_)
    obtain⟨k,c,g4⟩:=bnd g4
    obtain⟨n,d,g4⟩:=bnd g4
    refine sq (gr fol [2,3,6,7] [(0,vl (qa .u64) a),(1,vl (qa .u64) b),(5,.i e),(31,.bool (!decide (k=n)))] (ac (iv jg (qa .u64) c) (ac (lv 0 jr (qa .u64) c rfl) (ac (iv jg (qa .u64) d) (ac (lv 0 jr (qa .u64) d rfl) az)))) ?_)
    refine ihB g4 (fun r g4=>?_) (fun r g4=>?_)
    ·refine sq ?_
     refine sq (gr fol [2,3,6,7] [(40,.bool (decide (k<n)))] (ac (iv jg (qa .u64) c) (ac (lv 0 jr (qa .u64) c rfl) (ac (iv jg (qa .u64) d) (ac (lv 0 jr (qa .u64) d rfl) az)))) ?_)
     refine ihD g4 (fun g g4=>?_) (fun g g4=>?_)
     ·refine sh fol [(4,.i (-1))] ?_
      refine Goes.ret ?_
      obtain rfl:=si g4
      exact Or.inr (⟨rfl,_,rfl,(gw2 [.i (-1)] (Ua tI))⟩)
     refine Goes.skip ?_
     refine sh fol [(4,.i 1)] ?_
     refine Goes.ret ?_
     obtain rfl:=si g4
     exact Or.inr (⟨rfl,_,rfl,(gw2 [.i 1] (Ua tI))⟩)
    refine Goes.skip ?_
    refine gh fol ((0,vl (qa .u64) a)::(1,vl (qa .u64) b)::(kA7 (w64 (e-1)))) ?_
    exact⟨M,(ofG 41 ((0,vl (qa .u64) a)::(1,vl (qa .u64) b)::(kA7 (w64 (e-1)))),[]),Nat.lt_succ_self _,(Sub.refl _),_,rfl,g4⟩
   refine Goes.exit ?_
   obtain rfl:=si g4
   exact Or.inl (⟨rfl,rfl,(Sub.keep [] rfl rfl)⟩)
 rintro x s' (⟨rfl,rfl,hsub⟩|⟨rfl,t,rfl,hret⟩)
 ·try dsimp only at h
  refine Goes.sub hsub ?_
  refine sh fol [(4,.i 0)] ?_
  refine Goes.ret ?_
  obtain rfl:=si h
  exact(gw2 [.i 0] (Ua tI))
 try dsimp only at h
 obtain rfl:=si h
 exact hret
def bits_Len64 (a:Int):Option Int:=
 ((if a>=4294967296 then
 some (qp .u64 a 32,32)
 else
 some (a,0):Option (Int×Int))).bind fun(b,f)=>
 ((if b>=65536 then
 some (qp .u64 b 16,w64 (f+16))
 else
 some (b,f):Option (Int×Int))).bind fun(c,g)=>
 ((if c>=256 then
 some (qp .u64 c 8,w64 (g+8))
 else
 some (c,g):Option (Int×Int))).bind fun(h,d)=>
 (idx ([0,1,2,2,3,3,3,3,4,4,4,4,4,4,4,4,5,5,5,5,5,5,5,5,5,5,5,5,5,5,5,5,6,6,6,6,6,6,6,6,6,6,6,6,6,6,6,6,6,6,6,6,6,6,6,6,6,6,6,6,6,6,6,6,7,7,7,7,7,7,7,7,7,7,7,7,7,7,7,7,7,7,7,7,7,7,7,7,7,7,7,7,7,7,7,7,7,7,7,7,7,7,7,7,7,7,7,7,7,7,7,7,7,7,7,7,7,7,7,7,7,7,7,7,7,7,7,7,8,8,8,8,8,8,8,8,8,8,8,8,8,8,8,8,8,8,8,8,8,8,8,8,8,8,8,8,8,8,8,8,8,8,8,8,8,8,8,8,8,8,8,8,8,8,8,8,8,8,8,8,8,8,8,8,8,8,8,8,8,8,8,8,8,8,8,8,8,8,8,8,8,8,8,8,8,8,8,8,8,8,8,8,8,8,8,8,8,8,8,8,8,8,8,8,8,8,8,8,8,8,8,8,8,8,8,8,8,8,8,8,8,8,8,8,8,8,8,8,8,8,8,8,8,8,8,8]:Str) (IntKind.wrap .u8 h)).bind fun e=>
 some (w64 (d+(w64 (e.toNat:Int))))
theorem qf4 (c:Int) {res:Int} (h:bits_Len64 c=some res):qb ZT (.fn 181) [.int .u64 c] [] (.i res) []:=by
 unfold bits_Len64 at h
 refine Ub Tryz.func181 rfl rfl (m:=25) rfl (rs:=[.tmp 2]) rfl (l:=(kBu c [])) rfl ?_
 refine sh fol (kBu c [(2,.i 0)]) ?_
 refine sq ?_
 refine sh fol (kBu c ((2,.i 0)::(kBI (decide (c>=4294967296))))) ?_
 obtain⟨r,g3,h⟩:=bnd h
 refine Goes.imp (Q:=fun x s'=>(x= .normal/\ ∃d j,(d,j)=r/\Sub s' (ofG 25 (kBu d (kBR j)),[]))) ?_ ?_
 ·refine ihD g3 (fun s g3=>?_) (fun s g3=>?_)
  ·refine sh fol (kBu (qp .u64 c 32) []) ?_
   refine gh fol (kBu (qp .u64 c 32) [(2,.i 32)]) ?_
   obtain rfl:=si g3
   exact⟨rfl,_,_,rfl,(Sub.refl _)⟩
  refine Goes.skip ?_
  obtain rfl:=si g3
  exact⟨rfl,_,_,rfl,(Sub.keep [0,2] rfl rfl)⟩
 rintro x s' ⟨rfl,d,j,rfl,hsub⟩
 try dsimp only at h
 refine Goes.sub hsub ?_
 refine sq ?_
 refine sh fol (kBu d [(2,.i j),(8,.bool (decide (d>=65536)))]) ?_
 obtain⟨t,n,h⟩:=bnd h
 refine Goes.imp (Q:=fun x s'=>(x= .normal/\ ∃e k,(e,k)=t/\Sub s' (ofG 25 (kBu e (kBR k)),[]))) ?_ ?_
 ·refine ihD n (fun u n=>?_) (fun u n=>?_)
  ·refine sh fol (kBu (qp .u64 d 16) (kBR j)) ?_
   refine gh fol (kBu (qp .u64 d 16) (kBR (w64 (j+16)))) ?_
   obtain rfl:=si n
   exact⟨rfl,_,_,rfl,(Sub.refl _)⟩
  refine Goes.skip ?_
  obtain rfl:=si n
  exact⟨rfl,_,_,rfl,(Sub.keep [0,2] rfl rfl)⟩
 rintro x s' ⟨rfl,e,k,rfl,hsub⟩
 try dsimp only at h
 refine Goes.sub hsub ?_
 refine sq ?_
 refine sh fol (kBu e ((2,.i k)::(kB6 (decide (e>=256))))) ?_
 obtain⟨p,a,h⟩:=bnd h
 refine Goes.imp (Q:=fun x s'=>(x= .normal/\ ∃o b,(o,b)=p/\Sub s' (ofG 25 (kBu o (kBR b)),[]))) ?_ ?_
 ·refine ihD a (fun q a=>?_) (fun q a=>?_)
  ·refine sh fol (kBu (qp .u64 e 8) (kBR k)) ?_
   refine gh fol (kBu (qp .u64 e 8) (kBR (w64 (k+8)))) ?_
   obtain rfl:=si a
   exact⟨rfl,_,_,rfl,(Sub.refl _)⟩
  refine Goes.skip ?_
  obtain rfl:=si a
  exact⟨rfl,_,_,rfl,(Sub.keep [0,2] rfl rfl)⟩
 rintro x s' ⟨rfl,o,b,rfl,hsub⟩
 try dsimp only at h
 refine Goes.sub hsub ?_
 obtain⟨f,g,h⟩:=bnd h
 refine sq (gr fol [3] (kBR (w64 (b+(w64 (f.toNat:Int))))) (ac (hs (.done (.opt (qax ZT 9 (.str [0,1,2,2,3,3,3,3,4,4,4,4,4,4,4,4,5,5,5,5,5,5,5,5,5,5,5,5,5,5,5,5,6,6,6,6,6,6,6,6,6,6,6,6,6,6,6,6,6,6,6,6,6,6,6,6,6,6,6,6,6,6,6,6,7,7,7,7,7,7,7,7,7,7,7,7,7,7,7,7,7,7,7,7,7,7,7,7,7,7,7,7,7,7,7,7,7,7,7,7,7,7,7,7,7,7,7,7,7,7,7,7,7,7,7,7,7,7,7,7,7,7,7,7,7,7,7,7,8,8,8,8,8,8,8,8,8,8,8,8,8,8,8,8,8,8,8,8,8,8,8,8,8,8,8,8,8,8,8,8,8,8,8,8,8,8,8,8,8,8,8,8,8,8,8,8,8,8,8,8,8,8,8,8,8,8,8,8,8,8,8,8,8,8,8,8,8,8,8,8,8,8,8,8,8,8,8,8,8,8,8,8,8,8,8,8,8,8,8,8,8,8,8,8,8,8,8,8,8,8,8,8,8,8,8,8,8,8,8,8,8,8,8,8,8,8,8,8,8,8,8,8,8,8,8,8]) (.int .u8 (IntKind.wrap .u8 o)))) (.int .u8 (f.toNat:Int))) (qcR st9 g)) az) ?_)
 refine Goes.ret ?_
 obtain rfl:=si h
 exact(gw2 [.i (w64 (b+(w64 (f.toNat:Int))))] (Ua tI))
def bits_LeadingZeros64 (a:Int):Option Int:=
 (bits_Len64 a).bind fun b=>
 some (w64 (64-b))
theorem qbT (a:Int) {res:Int} (h:bits_LeadingZeros64 a=some res):qb ZT (.fn 186) [.int .u64 a] [] (.i res) []:=by
 unfold bits_LeadingZeros64 at h
 refine Ub Tryz.func186 rfl rfl (m:=6) rfl (rs:=[.tmp 2]) rfl (l:=(kBu a [])) rfl ?_
 refine sh fol (kBu a []) ?_
 obtain⟨c,b,h⟩:=bnd h
 refine sq (gr fol [1] (kBR (w64 (64-c))) (ac (cv (qf4 a b)) az) ?_)
 refine Goes.ret ?_
 obtain rfl:=si h
 exact(gw2 [.i (w64 (64-c))] (Ua tI))
def qbo (d:Int) (c:Int):Nat->Int->Int->Option Int
 |0,_,_=>none
 |K+1,a,b=>
  (if a>=4294967296 then
  some true
  else
  some (decide ((IntKind.wrap .u64 (a*(qz .u64 d 4294967295)))>(IntKind.wrap .u64 ((IntKind.wrap .u64 (4294967296*b))+(qp .u64 c 32))))):Option Bool).bind fun e=>
  if e=true then
  if(IntKind.wrap .u64 (b+(qp .u64 d 32)))>=4294967296 then
  some (IntKind.wrap .u64 (a-1))
  else
  qbo d c K (IntKind.wrap .u64 (a-1)) (IntKind.wrap .u64 (b+(qp .u64 d 32)))
  else
  some a
def qbp (d:Int) (c:Int):Nat->Int->Int->Option Int
 |0,_,_=>none
 |K+1,b,a=>
  (if a>=4294967296 then
  some true
  else
  some (decide ((IntKind.wrap .u64 (a*(qz .u64 d 4294967295)))>(IntKind.wrap .u64 ((IntKind.wrap .u64 (4294967296*b))+(qz .u64 c 4294967295))))):Option Bool).bind fun e=>
  if e=true then
  if(IntKind.wrap .u64 (b+(qp .u64 d 32)))>=4294967296 then
  some (IntKind.wrap .u64 (a-1))
  else
  qbp d c K (IntKind.wrap .u64 (b+(qp .u64 d 32))) (IntKind.wrap .u64 (a-1))
  else
  some a
def qeM (N:Nat) (hi:Int) (lo:Int) (y:Int):Option (Int×Int):=
 ((if y=0 then
 none
 else
 some ():Option Unit)).bind fun _=>
 ((if y<=hi then
 none
 else
 some ():Option Unit)).bind fun _=>
 if hi=0 then
 (qfV .u64 lo y).bind fun k=>
 (qjj .u64 lo y).bind fun l=>
 some (k,l)
 else
 (bits_LeadingZeros64 y).bind fun f=>
 (qmk .u64 y (IntKind.wrap .u64 f)).bind fun d=>
 (qmk .u64 hi (IntKind.wrap .u64 f)).bind fun b=>
 (qnP .u64 lo (IntKind.wrap .u64 (64-(IntKind.wrap .u64 f)))).bind fun c=>
 (qmk .u64 lo (IntKind.wrap .u64 f)).bind fun a=>
 (qfV .u64 (orI .u64 b c) (qp .u64 d 32)).bind fun g=>
 (qbo d a N g (IntKind.wrap .u64 ((orI .u64 b c)-(IntKind.wrap .u64 (g*(qp .u64 d 32)))))).bind fun e=>
 (qfV .u64 (IntKind.wrap .u64 ((IntKind.wrap .u64 ((IntKind.wrap .u64 ((orI .u64 b c)*4294967296))+(qp .u64 a 32)))-(IntKind.wrap .u64 (e*d)))) (qp .u64 d 32)).bind fun h=>
 (qbp d a N (IntKind.wrap .u64 ((IntKind.wrap .u64 ((IntKind.wrap .u64 ((IntKind.wrap .u64 ((orI .u64 b c)*4294967296))+(qp .u64 a 32)))-(IntKind.wrap .u64 (e*d))))-(IntKind.wrap .u64 (h*(qp .u64 d 32))))) h).bind fun i=>
 (qnP .u64 (IntKind.wrap .u64 ((IntKind.wrap .u64 ((IntKind.wrap .u64 ((IntKind.wrap .u64 ((IntKind.wrap .u64 ((IntKind.wrap .u64 ((orI .u64 b c)*4294967296))+(qp .u64 a 32)))-(IntKind.wrap .u64 (e*d))))*4294967296))+(qz .u64 a 4294967295)))-(IntKind.wrap .u64 (i*d)))) (IntKind.wrap .u64 f)).bind fun j=>
 some (IntKind.wrap .u64 ((IntKind.wrap .u64 (e*4294967296))+i),j)
theorem qf2 (N:Nat) (hi:Int) (lo:Int) (y:Int) {res:Int×Int} (h:qeM N hi lo y=some res):qb ZT (.fn 185) (.int .u64 hi::(kBN lo y)) [] (.tuple (kBN res.1 res.2)) []:=by
 unfold qeM at h
 refine Ub Tryz.func185 rfl rfl (m:=135) rfl (rs:=[.tmp 6,.tmp 7]) rfl (l:=(kAC hi lo [(2,.int .u64 y)])) rfl ?_
 refine sh fol (kAC hi lo [(2,.int .u64 y)]) ?_
 refine sq ?_
 refine sh fol (kAC hi lo [(2,.int .u64 y),(20,.bool (decide (y=0)))]) ?_
 obtain⟨Z,g1,h⟩:=bnd h
 refine Goes.imp (Q:=fun x s'=>(x= .normal/\()=Z/\Sub s' (ofG 135 (kAC hi lo [(2,.int .u64 y)]),[]))) ?_ ?_
 ·refine ihD g1 (fun c2 g1=>?_) (fun c2 g1=>?_)
  ·cases g1
  refine Goes.skip ?_
  obtain rfl:=si g1
  exact⟨rfl,rfl,(Sub.keep [0,1,2] rfl rfl)⟩
 rintro x s' ⟨rfl,rfl,hsub⟩
 refine Goes.sub hsub ?_
 refine sq ?_
 refine sh fol (kAC hi lo [(2,.int .u64 y),(24,.bool (decide (y<=hi)))]) ?_
 obtain⟨r3,g3,h⟩:=bnd h
 refine Goes.imp (Q:=fun x s'=>(x= .normal/\()=r3/\Sub s' (ofG 135 (kAC hi lo [(2,.int .u64 y)]),[]))) ?_ ?_
 ·refine ihD g3 (fun c4 g3=>?_) (fun c4 g3=>?_)
  ·cases g3
  refine Goes.skip ?_
  obtain rfl:=si g3
  exact⟨rfl,rfl,(Sub.keep [0,1,2] rfl rfl)⟩
 rintro x s' ⟨rfl,rfl,hsub⟩
 refine Goes.sub hsub ?_
 refine sq ?_
 refine sh fol (kAC hi lo [(2,.int .u64 y),(27,.bool (decide (hi=0)))]) ?_
 refine ihD h (fun c5 h=>?_) (fun c5 h=>?_)
 ·obtain⟨O,G,h⟩:=bnd h
  obtain⟨P,H,h⟩:=bnd h
  refine sq (gr fol [2,5] (kAU O (kAy P [])) (ac (hs (.done (.opt (zx ZT .quo 164 (.tmp 28) (.tmp 29) (.int .u64 lo) (.int .u64 y))) (.int .u64 O)) (qbY G)) (ac (hs (.done (.opt (zx ZT .rem 164 (.tmp 31) (.tmp 32) (.int .u64 lo) (.int .u64 y))) (.int .u64 P)) (qfP H)) az)) ?_)
  refine Goes.ret ?_
  obtain rfl:=si h
  exact(gw2 (kBN O P) (FzW.tuple (qh.cons (Ua tI) (qh.cons (Ua tI) qh.nil))))
 refine Goes.skip ?_
 obtain⟨f,I,h⟩:=bnd h
 refine sq (gr fol [1] (kAC hi lo [(2,.int .u64 y),(8,.int .u64 (IntKind.wrap .u64 f))]) (ac (cv (qbT y I)) az) ?_)
 obtain⟨b,J,h⟩:=bnd h
 refine sq (gr fol [2] (kAC hi lo [(2,.int .u64 b),(8,.int .u64 (IntKind.wrap .u64 f))]) (ac (hs (.done (.opt (zx ZT .shl 164 (.tmp 37) (.tmp 38) (.int .u64 y) (.int .u64 (IntKind.wrap .u64 f)))) (.int .u64 b)) (qgU J)) az) ?_)
 refine sh fol (kAC hi lo [(2,.int .u64 b),(8,.int .u64 (IntKind.wrap .u64 f)),(9,.int .u64 (qp .u64 b 32))]) ?_
 refine sh fol (kAC hi lo (kJ b (IntKind.wrap .u64 f) (qp .u64 b 32) (qz .u64 b 4294967295) [])) ?_
 obtain⟨c,v,h⟩:=bnd h
 obtain⟨d,w,h⟩:=bnd h
 refine sq (gr fol [2,6] ((1,.int .u64 lo)::(kJ b (IntKind.wrap .u64 f) (qp .u64 b 32) (qz .u64 b 4294967295) [(11,.int .u64 (orI .u64 c d))])) (ac (hs (.done (.opt (zx ZT .shl 164 (.tmp 44) (.tmp 45) (.int .u64 hi) (.int .u64 (IntKind.wrap .u64 f)))) (.int .u64 c)) (qgU v)) (ac (hs (.done (.opt (zx ZT .shr 164 (.tmp 47) (.tmp 49) (.int .u64 lo) (.int .u64 (IntKind.wrap .u64 (64-(IntKind.wrap .u64 f)))))) (.int .u64 d)) (qh1 w)) az)) ?_)
 obtain⟨a,z,h⟩:=bnd h
 refine sq (gr fol [2] (kJ b (IntKind.wrap .u64 f) (qp .u64 b 32) (qz .u64 b 4294967295) (kAI (orI .u64 c d) a [])) (ac (hs (.done (.opt (zx ZT .shl 164 (.tmp 52) (.tmp 53) (.int .u64 lo) (.int .u64 (IntKind.wrap .u64 f)))) (.int .u64 a)) (qgU z)) az) ?_)
 refine sh fol (kJ b (IntKind.wrap .u64 f) (qp .u64 b 32) (qz .u64 b 4294967295) (kAI (orI .u64 c d) a [(13,.int .u64 (qp .u64 a 32))])) ?_
 refine sh fol (kJ b (IntKind.wrap .u64 f) (qp .u64 b 32) (qz .u64 b 4294967295) (kAm (orI .u64 c d) (qp .u64 a 32) [(14,.int .u64 (qz .u64 a 4294967295))])) ?_
 obtain⟨t,A,h⟩:=bnd h
 refine sq (gr fol [2] (kJ b (IntKind.wrap .u64 f) (qp .u64 b 32) (qz .u64 b 4294967295) (kAm (orI .u64 c d) (qp .u64 a 32) (kBU (qz .u64 a 4294967295) t []))) (ac (hs (.done (.opt (zx ZT .quo 164 (.tmp 59) (.tmp 60) (.int .u64 (orI .u64 c d)) (.int .u64 (qp .u64 b 32)))) (.int .u64 t)) (qbY A)) az) ?_)
 refine sh fol (kJ b (IntKind.wrap .u64 f) (qp .u64 b 32) (qz .u64 b 4294967295) (kAm (orI .u64 c d) (qp .u64 a 32) (kS (qz .u64 a 4294967295) t (IntKind.wrap .u64 ((orI .u64 c d)-(IntKind.wrap .u64 (t*(qp .u64 b 32))))) []))) ?_
 refine sq (Goes.block ?_)
 obtain⟨K,g,h⟩:=bnd h
 refine Goes.imp (Q:=fun x s'=>(x= .exit 0/\ ∃e,e=K/\Sub s' (ofG 135 (kJ b (IntKind.wrap .u64 f) (qp .u64 b 32) (qz .u64 b 4294967295) (kAm (orI .u64 c d) (qp .u64 a 32) (kBU (qz .u64 a 4294967295) e []))),[]))) ?_ ?_
 ·refine Uc (fun M s=> ∃(n:Int) (j:Int),s=(ofG 135 (kJ b (IntKind.wrap .u64 f) (qp .u64 b 32) (qz .u64 b 4294967295) (kAm (orI .u64 c d) (qp .u64 a 32) (kS (qz .u64 a 4294967295) n j []))),[])/\qbo b a M n j=some K) ?_ (m:=N) ⟨_,_,rfl,g⟩
  rintro M s ⟨n,j,rfl,g⟩
  cases M with
  |zero=>simp only[qbo]at g;cases g
  |succ M=>
   rw[qbo]at g
   refine sq ?_
   refine sq ?_
   obtain⟨T,o,g⟩:=bnd g
   refine Goes.cut (s':=(ofG 135 (kJ b (IntKind.wrap .u64 f) (qp .u64 b 32) (qz .u64 b 4294967295) (kAm (orI .u64 c d) (qp .u64 a 32) (kS (qz .u64 a 4294967295) n j [(78,.bool T)]))),[])) ?_ ?_
   ·rcases wyD o with⟨B,o⟩|⟨B,o⟩
    ·obtain rfl:=si o
     exact tr fol [2] (kJ b (IntKind.wrap .u64 f) (qp .u64 b 32) (qz .u64 b 4294967295) (kAm (orI .u64 c d) (qp .u64 a 32) (kS (qz .u64 a 4294967295) n j [(78,.bool true)]))) (ac (gw B) az)
    obtain rfl:=si o
    exact tr fol [2] (kJ b (IntKind.wrap .u64 f) (qp .u64 b 32) (qz .u64 b 4294967295) (kAm (orI .u64 c d) (qp .u64 a 32) (kS (qz .u64 a 4294967295) n j [(78,.bool (decide ((IntKind.wrap .u64 (n*(qz .u64 b 4294967295)))>(IntKind.wrap .u64 ((IntKind.wrap .u64 (4294967296*j))+(qp .u64 a 32))))))]))) (ac (gw B) az)
   refine ihB g (fun U g=>?_) (fun U g=>?_)
   ·refine Goes.skip ?_
    refine Goes.block ?_
    refine sh fol (kJ b (IntKind.wrap .u64 f) (qp .u64 b 32) (qz .u64 b 4294967295) (kAm (orI .u64 c d) (qp .u64 a 32) (kS (qz .u64 a 4294967295) (IntKind.wrap .u64 (n-1)) j []))) ?_
    refine sh fol (kJ b (IntKind.wrap .u64 f) (qp .u64 b 32) (qz .u64 b 4294967295) (kAm (orI .u64 c d) (qp .u64 a 32) (kS (qz .u64 a 4294967295) (IntKind.wrap .u64 (n-1)) (IntKind.wrap .u64 (j+(qp .u64 b 32))) []))) ?_
    refine sh fol (kJ b (IntKind.wrap .u64 f) (qp .u64 b 32) (qz .u64 b 4294967295) (kAm (orI .u64 c d) (qp .u64 a 32) (kS (qz .u64 a 4294967295) (IntKind.wrap .u64 (n-1)) (IntKind.wrap .u64 (j+(qp .u64 b 32))) [(85,.bool (decide ((IntKind.wrap .u64 (j+(qp .u64 b 32)))>=4294967296)))]))) ?_
    refine ihD g (fun V g=>?_) (fun V g=>?_)
    ·refine Goes.exit ?_
     obtain rfl:=si g
     exact⟨rfl,_,rfl,(Sub.keep [2,8,9,10,11,13,14,15] rfl rfl)⟩
    refine Goes.skip ?_
    exact⟨M,(ofG 135 (kJ b (IntKind.wrap .u64 f) (qp .u64 b 32) (qz .u64 b 4294967295) (kAm (orI .u64 c d) (qp .u64 a 32) (kS (qz .u64 a 4294967295) (IntKind.wrap .u64 (n-1)) (IntKind.wrap .u64 (j+(qp .u64 b 32))) []))),[]),Nat.lt_succ_self _,(Sub.keep [2,8,9,10,11,13,14,15,16] rfl rfl),_,_,rfl,g⟩
   refine Goes.exit ?_
   obtain rfl:=si g
   exact⟨rfl,_,rfl,(Sub.keep [2,8,9,10,11,13,14,15] rfl rfl)⟩
 rintro x s' ⟨rfl,e,rfl,hsub⟩
 refine Goes.sub hsub ?_
 refine sh fol (kJ b (IntKind.wrap .u64 f) (qp .u64 b 32) (qz .u64 b 4294967295) (kBU (qz .u64 a 4294967295) e [(17,.int .u64 (IntKind.wrap .u64 ((IntKind.wrap .u64 ((IntKind.wrap .u64 ((orI .u64 c d)*4294967296))+(qp .u64 a 32)))-(IntKind.wrap .u64 (e*b)))))])) ?_
 obtain⟨u,C,h⟩:=bnd h
 refine sq (gr fol [2] (kJ b (IntKind.wrap .u64 f) (qp .u64 b 32) (qz .u64 b 4294967295) (kBU (qz .u64 a 4294967295) e (kAu (IntKind.wrap .u64 ((IntKind.wrap .u64 ((IntKind.wrap .u64 ((orI .u64 c d)*4294967296))+(qp .u64 a 32)))-(IntKind.wrap .u64 (e*b)))) u []))) (ac (hs (.done (.opt (zx ZT .quo 164 (.tmp 94) (.tmp 95) (.int .u64 (IntKind.wrap .u64 ((IntKind.wrap .u64 ((IntKind.wrap .u64 ((orI .u64 c d)*4294967296))+(qp .u64 a 32)))-(IntKind.wrap .u64 (e*b))))) (.int .u64 (qp .u64 b 32)))) (.int .u64 u)) (qbY C)) az) ?_)
 refine sh fol (kJ b (IntKind.wrap .u64 f) (qp .u64 b 32) (qz .u64 b 4294967295) (kS (qz .u64 a 4294967295) e (IntKind.wrap .u64 ((IntKind.wrap .u64 ((IntKind.wrap .u64 ((IntKind.wrap .u64 ((orI .u64 c d)*4294967296))+(qp .u64 a 32)))-(IntKind.wrap .u64 (e*b))))-(IntKind.wrap .u64 (u*(qp .u64 b 32))))) (kAu (IntKind.wrap .u64 ((IntKind.wrap .u64 ((IntKind.wrap .u64 ((orI .u64 c d)*4294967296))+(qp .u64 a 32)))-(IntKind.wrap .u64 (e*b)))) u []))) ?_
 refine sq (Goes.block ?_)
 obtain⟨L,i,h⟩:=bnd h
 refine Goes.imp (Q:=fun x s'=>(x= .exit 2/\ ∃r,r=L/\Sub s' (ofG 135 ((2,.int .u64 b)::(8,.int .u64 (IntKind.wrap .u64 f))::(kBU (qz .u64 a 4294967295) e (kAu (IntKind.wrap .u64 ((IntKind.wrap .u64 ((IntKind.wrap .u64 ((orI .u64 c d)*4294967296))+(qp .u64 a 32)))-(IntKind.wrap .u64 (e*b)))) r []))),[]))) ?_ ?_
 ·refine Uc (fun M s=> ∃(k:Int) (p:Int),s=(ofG 135 (kJ b (IntKind.wrap .u64 f) (qp .u64 b 32) (qz .u64 b 4294967295) (kS (qz .u64 a 4294967295) e k (kAu (IntKind.wrap .u64 ((IntKind.wrap .u64 ((IntKind.wrap .u64 ((orI .u64 c d)*4294967296))+(qp .u64 a 32)))-(IntKind.wrap .u64 (e*b)))) p []))),[])/\qbp b a M k p=some L) ?_ (m:=N) ⟨_,_,rfl,i⟩
  rintro M s ⟨k,p,rfl,i⟩
  cases M with
  |zero=>simp only[qbp]at i;cases i
  |succ M=>
   rw[qbp]at i
   refine sq ?_
   refine sq ?_
   obtain⟨W,q,i⟩:=bnd i
   refine Goes.cut (s':=(ofG 135 (kJ b (IntKind.wrap .u64 f) (qp .u64 b 32) (qz .u64 b 4294967295) (kS (qz .u64 a 4294967295) e k (kAu (IntKind.wrap .u64 ((IntKind.wrap .u64 ((IntKind.wrap .u64 ((orI .u64 c d)*4294967296))+(qp .u64 a 32)))-(IntKind.wrap .u64 (e*b)))) p [(113,.bool W)]))),[])) ?_ ?_
   ·rcases wyD q with⟨D,q⟩|⟨D,q⟩
    ·obtain rfl:=si q
     exact tr fol [2] (kJ b (IntKind.wrap .u64 f) (qp .u64 b 32) (qz .u64 b 4294967295) (kS (qz .u64 a 4294967295) e k (kAu (IntKind.wrap .u64 ((IntKind.wrap .u64 ((IntKind.wrap .u64 ((orI .u64 c d)*4294967296))+(qp .u64 a 32)))-(IntKind.wrap .u64 (e*b)))) p [(113,.bool true)]))) (ac (gw D) az)
    obtain rfl:=si q
    exact tr fol [2] (kJ b (IntKind.wrap .u64 f) (qp .u64 b 32) (qz .u64 b 4294967295) (kS (qz .u64 a 4294967295) e k (kAu (IntKind.wrap .u64 ((IntKind.wrap .u64 ((IntKind.wrap .u64 ((orI .u64 c d)*4294967296))+(qp .u64 a 32)))-(IntKind.wrap .u64 (e*b)))) p [(113,.bool (decide ((IntKind.wrap .u64 (p*(qz .u64 b 4294967295)))>(IntKind.wrap .u64 ((IntKind.wrap .u64 (4294967296*k))+(qz .u64 a 4294967295))))))]))) (ac (gw D) az)
   refine ihB i (fun X i=>?_) (fun X i=>?_)
   ·refine Goes.skip ?_
    refine Goes.block ?_
    refine sh fol (kJ b (IntKind.wrap .u64 f) (qp .u64 b 32) (qz .u64 b 4294967295) (kS (qz .u64 a 4294967295) e k (kAu (IntKind.wrap .u64 ((IntKind.wrap .u64 ((IntKind.wrap .u64 ((orI .u64 c d)*4294967296))+(qp .u64 a 32)))-(IntKind.wrap .u64 (e*b)))) (IntKind.wrap .u64 (p-1)) []))) ?_
    refine sh fol (kJ b (IntKind.wrap .u64 f) (qp .u64 b 32) (qz .u64 b 4294967295) (kS (qz .u64 a 4294967295) e (IntKind.wrap .u64 (k+(qp .u64 b 32))) (kAu (IntKind.wrap .u64 ((IntKind.wrap .u64 ((IntKind.wrap .u64 ((orI .u64 c d)*4294967296))+(qp .u64 a 32)))-(IntKind.wrap .u64 (e*b)))) (IntKind.wrap .u64 (p-1)) []))) ?_
    refine sh fol (kJ b (IntKind.wrap .u64 f) (qp .u64 b 32) (qz .u64 b 4294967295) (kS (qz .u64 a 4294967295) e (IntKind.wrap .u64 (k+(qp .u64 b 32))) (kAu (IntKind.wrap .u64 ((IntKind.wrap .u64 ((IntKind.wrap .u64 ((orI .u64 c d)*4294967296))+(qp .u64 a 32)))-(IntKind.wrap .u64 (e*b)))) (IntKind.wrap .u64 (p-1)) [(120,.bool (decide ((IntKind.wrap .u64 (k+(qp .u64 b 32)))>=4294967296)))]))) ?_
    refine ihD i (fun Y i=>?_) (fun Y i=>?_)
    ·refine Goes.exit ?_
     obtain rfl:=si i
     exact⟨rfl,_,rfl,(Sub.keep [2,8,14,15,17,18] rfl rfl)⟩
    refine Goes.skip ?_
    exact⟨M,(ofG 135 (kJ b (IntKind.wrap .u64 f) (qp .u64 b 32) (qz .u64 b 4294967295) (kS (qz .u64 a 4294967295) e (IntKind.wrap .u64 (k+(qp .u64 b 32))) (kAu (IntKind.wrap .u64 ((IntKind.wrap .u64 ((IntKind.wrap .u64 ((orI .u64 c d)*4294967296))+(qp .u64 a 32)))-(IntKind.wrap .u64 (e*b)))) (IntKind.wrap .u64 (p-1)) []))),[]),Nat.lt_succ_self _,(Sub.keep [2,8,9,10,14,15,16,17,18] rfl rfl),_,_,rfl,i⟩
   refine Goes.exit ?_
   obtain rfl:=si i
   exact⟨rfl,_,rfl,(Sub.keep [2,8,14,15,17,18] rfl rfl)⟩
 rintro x s' ⟨rfl,r,rfl,hsub⟩
 refine Goes.sub hsub ?_
 obtain⟨E,F,h⟩:=bnd h
 refine sq (gr fol [13] (kAU (IntKind.wrap .u64 ((IntKind.wrap .u64 (e*4294967296))+r)) (kAy E [])) (ac (hs (.done (.opt (zx ZT .shr 164 (.tmp 132) (.tmp 133) (.int .u64 (IntKind.wrap .u64 ((IntKind.wrap .u64 ((IntKind.wrap .u64 ((IntKind.wrap .u64 ((IntKind.wrap .u64 ((IntKind.wrap .u64 ((orI .u64 c d)*4294967296))+(qp .u64 a 32)))-(IntKind.wrap .u64 (e*b))))*4294967296))+(qz .u64 a 4294967295)))-(IntKind.wrap .u64 (r*b))))) (.int .u64 (IntKind.wrap .u64 f)))) (.int .u64 E)) (qh1 F)) az) ?_)
 refine Goes.ret ?_
 obtain rfl:=si h
 exact(gw2 (kBN (IntKind.wrap .u64 ((IntKind.wrap .u64 (e*4294967296))+r)) E) (FzW.tuple (qh.cons (Ua tI) (qh.cons (Ua tI) qh.nil))))
def bits_Mul64 (a:Int) (y:Int):Option (Int×Int):=
 some (IntKind.wrap .u64 ((IntKind.wrap .u64 ((IntKind.wrap .u64 ((qp .u64 a 32)*(qp .u64 y 32)))+(qp .u64 (IntKind.wrap .u64 ((IntKind.wrap .u64 ((qp .u64 a 32)*(qz .u64 y 4294967295)))+(qp .u64 (IntKind.wrap .u64 ((qz .u64 a 4294967295)*(qz .u64 y 4294967295))) 32))) 32)))+(qp .u64 (IntKind.wrap .u64 ((qz .u64 (IntKind.wrap .u64 ((IntKind.wrap .u64 ((qp .u64 a 32)*(qz .u64 y 4294967295)))+(qp .u64 (IntKind.wrap .u64 ((qz .u64 a 4294967295)*(qz .u64 y 4294967295))) 32))) 4294967295)+(IntKind.wrap .u64 ((qz .u64 a 4294967295)*(qp .u64 y 32))))) 32)),IntKind.wrap .u64 (a*y))
theorem qbn (a:Int) (y:Int) {res:Int×Int} (h:bits_Mul64 a y=some res):qb ZT (.fn 131) (kBN a y) [] (.tuple (kBN res.1 res.2)) []:=by
 unfold bits_Mul64 at h
 refine Ub Tryz.func131 rfl rfl (m:=51) rfl (rs:=[.tmp 4,.tmp 5]) rfl (l:=(kAC a y [])) rfl ?_
 refine sh fol (kAC a y []) ?_
 refine sh fol (kAC a y (kAU (qz .u64 a 4294967295) [])) ?_
 refine sh fol (kAC a y (kAU (qz .u64 a 4294967295) (kAy (qp .u64 a 32) []))) ?_
 refine sh fol (kAC a y (kAU (qz .u64 a 4294967295) (kAM (qp .u64 a 32) (qz .u64 y 4294967295) []))) ?_
 refine sh fol (kAC a y (kAU (qz .u64 a 4294967295) (kAM (qp .u64 a 32) (qz .u64 y 4294967295) [(9,.int .u64 (qp .u64 y 32))]))) ?_
 refine sh fol (kAC a y (kAU (qz .u64 a 4294967295) (kAM (qp .u64 a 32) (qz .u64 y 4294967295) [(9,.int .u64 (qp .u64 y 32)),(10,.int .u64 (IntKind.wrap .u64 ((qz .u64 a 4294967295)*(qz .u64 y 4294967295))))]))) ?_
 refine sh fol (kAC a y (kAU (qz .u64 a 4294967295) (kAy (qp .u64 a 32) [(9,.int .u64 (qp .u64 y 32)),(11,.int .u64 (IntKind.wrap .u64 ((IntKind.wrap .u64 ((qp .u64 a 32)*(qz .u64 y 4294967295)))+(qp .u64 (IntKind.wrap .u64 ((qz .u64 a 4294967295)*(qz .u64 y 4294967295))) 32))))]))) ?_
 refine sh fol (kAC a y (kAU (qz .u64 a 4294967295) (kAy (qp .u64 a 32) ((9,.int .u64 (qp .u64 y 32))::(kAI (IntKind.wrap .u64 ((IntKind.wrap .u64 ((qp .u64 a 32)*(qz .u64 y 4294967295)))+(qp .u64 (IntKind.wrap .u64 ((qz .u64 a 4294967295)*(qz .u64 y 4294967295))) 32))) (qz .u64 (IntKind.wrap .u64 ((IntKind.wrap .u64 ((qp .u64 a 32)*(qz .u64 y 4294967295)))+(qp .u64 (IntKind.wrap .u64 ((qz .u64 a 4294967295)*(qz .u64 y 4294967295))) 32))) 4294967295) []))))) ?_
 refine sh fol (kAC a y (kAU (qz .u64 a 4294967295) (kAy (qp .u64 a 32) [(9,.int .u64 (qp .u64 y 32)),(12,.int .u64 (qz .u64 (IntKind.wrap .u64 ((IntKind.wrap .u64 ((qp .u64 a 32)*(qz .u64 y 4294967295)))+(qp .u64 (IntKind.wrap .u64 ((qz .u64 a 4294967295)*(qz .u64 y 4294967295))) 32))) 4294967295)),(13,.int .u64 (qp .u64 (IntKind.wrap .u64 ((IntKind.wrap .u64 ((qp .u64 a 32)*(qz .u64 y 4294967295)))+(qp .u64 (IntKind.wrap .u64 ((qz .u64 a 4294967295)*(qz .u64 y 4294967295))) 32))) 32))]))) ?_
 refine sh fol (kAC a y (kAy (qp .u64 a 32) [(9,.int .u64 (qp .u64 y 32)),(12,.int .u64 (IntKind.wrap .u64 ((qz .u64 (IntKind.wrap .u64 ((IntKind.wrap .u64 ((qp .u64 a 32)*(qz .u64 y 4294967295)))+(qp .u64 (IntKind.wrap .u64 ((qz .u64 a 4294967295)*(qz .u64 y 4294967295))) 32))) 4294967295)+(IntKind.wrap .u64 ((qz .u64 a 4294967295)*(qp .u64 y 32)))))),(13,.int .u64 (qp .u64 (IntKind.wrap .u64 ((IntKind.wrap .u64 ((qp .u64 a 32)*(qz .u64 y 4294967295)))+(qp .u64 (IntKind.wrap .u64 ((qz .u64 a 4294967295)*(qz .u64 y 4294967295))) 32))) 32))])) ?_
 refine sh fol (kAC a y [(4,.int .u64 (IntKind.wrap .u64 ((IntKind.wrap .u64 ((IntKind.wrap .u64 ((qp .u64 a 32)*(qp .u64 y 32)))+(qp .u64 (IntKind.wrap .u64 ((IntKind.wrap .u64 ((qp .u64 a 32)*(qz .u64 y 4294967295)))+(qp .u64 (IntKind.wrap .u64 ((qz .u64 a 4294967295)*(qz .u64 y 4294967295))) 32))) 32)))+(qp .u64 (IntKind.wrap .u64 ((qz .u64 (IntKind.wrap .u64 ((IntKind.wrap .u64 ((qp .u64 a 32)*(qz .u64 y 4294967295)))+(qp .u64 (IntKind.wrap .u64 ((qz .u64 a 4294967295)*(qz .u64 y 4294967295))) 32))) 4294967295)+(IntKind.wrap .u64 ((qz .u64 a 4294967295)*(qp .u64 y 32))))) 32))))]) ?_
 refine sh fol [(4,.int .u64 (IntKind.wrap .u64 ((IntKind.wrap .u64 ((IntKind.wrap .u64 ((qp .u64 a 32)*(qp .u64 y 32)))+(qp .u64 (IntKind.wrap .u64 ((IntKind.wrap .u64 ((qp .u64 a 32)*(qz .u64 y 4294967295)))+(qp .u64 (IntKind.wrap .u64 ((qz .u64 a 4294967295)*(qz .u64 y 4294967295))) 32))) 32)))+(qp .u64 (IntKind.wrap .u64 ((qz .u64 (IntKind.wrap .u64 ((IntKind.wrap .u64 ((qp .u64 a 32)*(qz .u64 y 4294967295)))+(qp .u64 (IntKind.wrap .u64 ((qz .u64 a 4294967295)*(qz .u64 y 4294967295))) 32))) 4294967295)+(IntKind.wrap .u64 ((qz .u64 a 4294967295)*(qp .u64 y 32))))) 32)))),(5,.int .u64 (IntKind.wrap .u64 (a*y)))] ?_
 refine Goes.ret ?_
 obtain rfl:=si h
 exact(gw2 (kBN (IntKind.wrap .u64 ((IntKind.wrap .u64 ((IntKind.wrap .u64 ((qp .u64 a 32)*(qp .u64 y 32)))+(qp .u64 (IntKind.wrap .u64 ((IntKind.wrap .u64 ((qp .u64 a 32)*(qz .u64 y 4294967295)))+(qp .u64 (IntKind.wrap .u64 ((qz .u64 a 4294967295)*(qz .u64 y 4294967295))) 32))) 32)))+(qp .u64 (IntKind.wrap .u64 ((qz .u64 (IntKind.wrap .u64 ((IntKind.wrap .u64 ((qp .u64 a 32)*(qz .u64 y 4294967295)))+(qp .u64 (IntKind.wrap .u64 ((qz .u64 a 4294967295)*(qz .u64 y 4294967295))) 32))) 4294967295)+(IntKind.wrap .u64 ((qz .u64 a 4294967295)*(qp .u64 y 32))))) 32))) (IntKind.wrap .u64 (a*y))) (FzW.tuple (qh.cons (Ua tI) (qh.cons (Ua tI) qh.nil))))
end Go.Av
