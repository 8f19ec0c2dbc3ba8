/-
  Walks of functions: what each computes, as a plain function.
-/
import Derived.Test.YtbpkolibdibmeaaGreatAvJnA1
noncomputable section
namespace Go.Av
open Go.Proofs Go.RowKit
abbrev ZU:=zJ .u64
abbrev ZT:=Tryz.prog
set_option linter.unusedSectionVars false
set_option linter.unusedVariables false
set_option linter.unusedSimpArgs false
set_option maxRecDepth 100000
theorem fol:Tryz.prog.follows .mixedOrders=true:=by kernel_rfl
structure qbZ where
 Half:Int
 Factors:List (List Int)
def qtn:Enc qbZ:=(encI.prod (qg (qg encI))).comap fun x=>(x.Half,x.Factors)
instance:SE qtn:=⟨nl rfl⟩
structure qx where
 Kind:Str
 At:Int
 Letter:Int
def qy:Enc qx:=(encS.prod (encI.prod encI)).comap fun x=>(x.Kind,x.At,x.Letter)
instance:SE qy:=⟨nl rfl⟩
structure ko where
 s:Int
 w:List Int
def qkM:Enc ko:=(encI.prod (qlQ ZU)).comap fun x=>(x.s,x.w)
instance:SE qkM:=⟨nl rfl⟩
structure qo where
 Num:ko
 Den:ko
def qb:Enc qo:=(qkM.prod qkM).comap fun x=>(x.Num,x.Den)
instance:SE qb:=⟨nl rfl⟩
instance:SE (qg qb):=⟨nl rfl⟩
abbrev kA (a:List Int) (x:List Blk):List Blk:= .cells (a.flatMap encI.c)::x
abbrev kB {α0:Type} (a:List α0) (x:List Blk):List Blk:= .cells [.slice 2 0 a.length a.length 1]::x
abbrev kC (a:Int) (b:List Int) (x:List (Nat×AV)):List (Nat×AV):=(0,.i a)::(1,vl encI b)::x
abbrev kD (a:List Int) (x:List Blk):List Blk:= .cells [vl encI a]::x
abbrev kE {α0:Type} (a:List α0) (x:List (Nat×AV)):List (Nat×AV):=(5,.ptr 0 0)::(7,.slice 1 0 a.length a.length 1)::x
abbrev kF (a:Str) (b:Int) (c:Int) (x:List Blk):List Blk:= .cells [.str a,.i b,.i c]::x
abbrev kG (x:List (Nat×AV)):List (Nat×AV):=(2,.ptr 0 0)::(3,.ptr 1 0)::(4,.ptr 2 0)::x
abbrev kH (x:List Blk):List Blk:= .cells [.i 0,.nilslice,.i 0,.nilslice]::x
abbrev kI (a:Option (List qx)) (x:List Blk):List Blk:= .cells ((hof a).flatMap qy.c)::x
abbrev kJ (a:List qx):List Blk:=[.cells (a.flatMap qy.c)]
abbrev kK {α3:Type} (a:List Int) (b:Int) (c:Int) (d:List α3) (e:Int) (f:Int) (x:List (Nat×AV)):List (Nat×AV):=(39,vl encI a)::(40,.i b)::(41,.i c)::(51,.slice 1 0 d.length d.length 1)::(52,.i e)::(53,.i f)::x
abbrev kL (x:List Blk):List Blk:= .cells [.i 0,.nilslice,.i 0,.nilslice,.i 0,.nilslice,.i 0,.nilslice,.i 0,.nilslice,.i 0,.nilslice,.i 0,.nilslice,.i 0,.nilslice]::x
abbrev kM (a:Int) (x:List (Nat×AV)):List (Nat×AV):=(0,.i a)::(4,.ptr 0 0)::(5,.ptr 1 0)::x
abbrev kN (a:List Int) (x:List (Nat×AV)):List (Nat×AV):=(1,vl encI a)::(5,.ptr 0 0)::(8,.ptr 1 0)::x
abbrev kO (a:List qo) (x:List Blk):List Blk:= .cells (a.flatMap qb.c)::x
abbrev kP (a:Int) (b:Int) (c:Int) (d:Int) (x:List Blk):List Blk:= .cells [.i a,.i b,.i c,.i d]::x
abbrev kQ (a:Int) (x:List (Nat×AV)):List (Nat×AV):=(21,.slice 0 0 5 5 2)::(22,.i 5)::(23,.i a)::x
abbrev kR (a:List Int) (b:List Int) (x:List (Nat×AV)):List (Nat×AV):=(0,vl encI a)::(1,vl encI b)::x
abbrev kS {α0:Type} (a:List α0) (b:List Int) (c:Int) (d:Int) (x:List (Nat×AV)):List (Nat×AV):=(4,.slice 5 0 a.length a.length 1)::(10,vl encI b)::(11,.i c)::(12,.i d)::x
abbrev kT (a:Int) (b:Int) (x:List (Nat×AV)):List (Nat×AV):=(0,.ptr 0 0)::(7,.i a)::(8,.i b)::x
abbrev kU {α0:Type} (a:List α0) (x:List Blk):List Blk:= .cells [.slice 1 0 a.length a.length 1]::x
abbrev kV {α0:Type} (a:List α0) (x:List (Nat×AV)):List (Nat×AV):=(3,.slice 0 0 a.length a.length 1)::x
abbrev kW (a:Int) (b:Int) (x:List Blk):List Blk:= .cells [.i a,.i b]::x
abbrev kX {α2:Type} (a:Int) (b:List Int) (c:List α2) (x:List Blk):List Blk:= .cells [.i a,vl encI b,.oslice 1 c.length 3]::x
abbrev kY {α1:Type} (a:Int) (b:List α1) (c:List Int) (x:List (Nat×AV)):List (Nat×AV):=(3,.i a)::(4,.slice 0 0 b.length b.length 1)::(11,vl encI c)::(12,.i a)::x
abbrev kZ {α1:Type} (a:List Int) (b:List α1) (c:Int) (x:List (Nat×AV)):List (Nat×AV):=(1,vl encI a)::(5,.gslice 0 b.length 1)::(7,.i c)::x
abbrev kAA (a:Int) (x:List Blk):List Blk:= .cells [.i a]::x
abbrev kAB {α2:Type} (a:Int) (b:List Int) (c:List α2) (x:List Blk):List Blk:= .cells [.i a,vl encI b,.oslice 3 c.length 3]:: .dead::x
abbrev kAC (a:List Int) (x:List (Nat×AV)):List (Nat×AV):=(0,vl encI a)::x
abbrev kAD (a:Int) (x:List Blk):List Blk:= .cells [.i a,.nilslice]::x
abbrev kAE (x:List (Nat×AV)):List (Nat×AV):=(4,.ptr 1 0)::(5,.ptr 2 0)::(9,.ptr 3 0)::x
abbrev kAF (a:List qx) (b:List qx) (c:List Int) (d:Int) (e:Int) (x:List (Nat×AV)):List (Nat×AV):=(2,vl qy a)::(8,vl qy b)::(10,.ptr 0 0)::(11,vl encI c)::(14,.i d)::(15,.i e)::x
abbrev kAG (a:Int) (b:Int) (x:List (Nat×AV)):List (Nat×AV):=(11,.i a)::(12,.i b)::x
abbrev kAH (a:Int) (b:Int):List (Nat×AV):=[(16,.i a),(17,.i b)]
abbrev kAI {α0:Type} (a:List α0) (x:List Blk):List Blk:= .cells [.gslice 1 a.length 1]::x
abbrev kAJ {α0:Type} (a:List α0) (x:List Blk):List Blk:= .cells [.slice 0 0 a.length a.length 1]::x
abbrev kAK (x:List Blk):List Blk:= .cells [.ptr 4 0]::x
abbrev kAL (a:List Int) (b:List Int) (x:List (Nat×AV)):List (Nat×AV):=(9,vl encI a)::(10,vl encI b)::x
abbrev kAM (a:Int) (b:Int) (x:List (Nat×AV)):List (Nat×AV):=(12,.i a)::(13,.i b)::x
abbrev kAN {α0:Type} (a:List α0) (b:Int) (c:Int) (x:List (Nat×AV)):List (Nat×AV):=(48,.gslice 3 a.length 1)::(49,.i b)::(50,.i c)::x
abbrev kAO (x:List (Nat×AV)):List (Nat×AV):=(5,.ptr 0 0)::x
abbrev kAP {α0:Type} (a:List α0):List Blk:=[.cells [.gslice 0 a.length 1]]
abbrev kAQ (a:List Int) (b:Bool) (c:List qx) (d:Int) (e:Str) (x:List (Nat×AV)):List (Nat×AV):=(2,vl encI a)::(7,.bool b)::(10,vl qy c)::(11,.i d)::(12,.str e)::x
abbrev kAR (a:Int) (b:Int) (x:List (Nat×AV)):List (Nat×AV):=(0,.int .u64 a)::(1,.int .u64 b)::x
abbrev kAS {α0:Type} (a:List α0) (x:List (Nat×AV)):List (Nat×AV):=(7,.slice 1 0 a.length a.length 4)::x
abbrev kAT {α2:Type} (a:Int) (b:List Int) (c:Option (List α2)) (x:List Blk):List Blk:= .cells [.i a,vl encI b,hsl 1 3 c]::x
abbrev kAU {α2:Type} (a:Int) (b:List Int) (c:Option (List α2)) (x:List Blk):List Blk:= .cells [.i a,vl encI b,hsl 2 3 c]::x
abbrev kAV {α2:Type} (a:Int) (b:List Int) (c:List α2) (x:List Blk):List Blk:= .cells [.i a,vl encI b,.oslice 2 c.length 3]:: .dead::x
abbrev kAW (a:Str) (b:Int) (c:Int):List AV:=[.agg [.str a,.i b,.i c]]
abbrev kAX (x:List (Nat×AV)):List (Nat×AV):=(0,.ptr 0 0)::x
abbrev kAY {α0:Type} (a:List α0) (x:List (Nat×AV)):List (Nat×AV):=(4,.slice 5 0 a.length a.length 1)::x
abbrev kAZ (a:Int):List (Nat×AV):=[(5,.ptr 1 0),(7,.i a),(8,.ptr 3 0)]
abbrev kAa {α0:Type} (a:List α0) (b:Int) (c:Int) (x:List (Nat×AV)):List (Nat×AV):=(0,.slice 0 0 a.length a.length 1)::(2,.i b)::(3,.i c)::x
abbrev kAb (x:List (Nat×AV)):List (Nat×AV):=(4,.ptr 0 0)::(5,.ptr 1 0)::x
abbrev kAc {α1:Type} (a:Int) (b:List α1) (x:List Blk):List Blk:= .cells [.i a,.gslice 2 b.length 1]::x
abbrev kAd {α0:Type} (a:List α0) (x:List (Nat×AV)):List (Nat×AV):=(6,.gslice 2 a.length 1)::x
abbrev kAe (a:List qx) (b:List qx) (x:List (Nat×AV)):List (Nat×AV):=(2,vl qy a)::(8,vl qy b)::x
abbrev kAf (a:Int) (b:Int):List (Nat×AV):=[(20,.i a),(21,.i b)]
abbrev kAg:List (Nat×AV):=[(6,.bool false)]
abbrev kAh (a:Int) (x:List (Nat×AV)):List (Nat×AV):=(11,.i a)::(12,.ptr 2 0)::x
abbrev kAi (a:Int) (b:Bool):List (Nat×AV):=[(5,.i a),(7,.i 5),(8,.i a),(16,.bool b)]
abbrev kAj (x:List (Nat×AV)):List (Nat×AV):=(2,.ptr 0 0)::(3,.ptr 1 0)::x
abbrev kAk (x:List (Nat×AV)):List (Nat×AV):=(1,.ptr 0 0)::(2,.ptr 1 0)::x
abbrev kAl (a:List qx) (b:Int) (c:Int) (x:List (Nat×AV)):List (Nat×AV):=(17,vl qy a)::(18,.i b)::(19,.i c)::x
abbrev kAm (x:List (Nat×AV)):List (Nat×AV):=(6,.nilslice)::x
abbrev kAn (x:List (Nat×AV)):List (Nat×AV):=(8,.ptr 1 0)::(9,.bool true)::x
abbrev kAo {α0:Type} (a:List α0) (x:List (Nat×AV)):List (Nat×AV):=(5,.gslice 0 a.length 1)::x
abbrev kAp (a:List Int) (x:List (Nat×AV)):List (Nat×AV):=(2,vl encI a)::x
abbrev kAq (a:Int) (b:Int) (x:List (Nat×AV)):List (Nat×AV):=(9,.i a)::(10,.i b)::x
abbrev kAr:List AV:=[.ptr 2 0,.ptr 3 0]
abbrev kAs:List (Nat×AV):=[(4,.bool false)]
abbrev kAt (a:List Int) (b:List Int):List AV:=[vl encI a,vl encI b]
abbrev kAu (a:List Int) (b:Int) (c:Int) (x:List (Nat×AV)):List (Nat×AV):=(39,vl encI a)::(40,.i b)::(41,.i c)::x
abbrev kAv (a:List Int) (b:Int) (c:Int):List (Nat×AV):=[(9,vl encI a),(10,.i b),(11,.i c)]
abbrev kAw (x:List Blk):List Blk:= .cells [.i 0,.nilfunc,.nilfunc]::x
abbrev kAx (a:Int):List (Nat×AV):=[(8,.i a)]
abbrev kAy (x:List (Nat×AV)):List (Nat×AV):=(0,.slice 0 0 1 1 4)::x
abbrev kAz:List AV:=[.str [105,110,115,101,114,116],.str [99,97,110,99,101,108],.str [115,119,97,112],.str [116,117,114,110]]
abbrev kA0 (a:Option (List Int)):List Blk:=[.cells ((hof a).flatMap encI.c)]
abbrev kA1 (a:Bool):List (Nat×AV):=[(4,.bool a)]
abbrev kA2 (x:List (Nat×AV)):List (Nat×AV):=(1,.ptr 1 0)::x
abbrev kA3 (a:Int) (b:Int):List AV:=[.agg [.str [105,110,115,101,114,116],.i a,.i b]]
abbrev kA4 (a:Int) (x:List (Nat×AV)):List (Nat×AV):=(6,.int .u64 a)::x
abbrev kA5 {α1:Type} (a:Int) (b:List α1) (x:List Blk):List Blk:= .cells [.i a,.gslice 3 b.length 1,.nilslice]::x
abbrev kA6 (a:Int) (b:Int):List (Nat×AV):=[(14,.i a),(15,.i b)]
abbrev kA7:List (Nat×AV):=[(4,.ptr 2 0)]
abbrev kA8 (a:List Int) (x:List Blk):List Blk:= .frozen (a.flatMap encI.c)::x
abbrev kA9 (a:Str) (b:Int) (c:Int):List (Nat×AV):=[(1,.agg [.str a,.i b,.i c])]
abbrev kBA (a:Bool):List (Nat×AV):=[(10,.bool a)]
abbrev kBB:List (Nat×AV):=[(4,.bool true)]
abbrev kBC {α0:Type} (a:List α0) (x:List (Nat×AV)):List (Nat×AV):=(8,.gslice 0 a.length 1)::x
abbrev kBD (x:List (Nat×AV)):List (Nat×AV):=(5,.ptr 1 0)::x
abbrev kBE:List (Nat×AV):=[(2,.ptr 0 0)]
abbrev kBF {α0:Type} (a:List α0) (b:Int) (x:List (Nat×AV)):List (Nat×AV):=(3,.oslice 0 a.length 1)::(4,.i b)::x
abbrev kBG (a:List qo) (x:List (Nat×AV)):List (Nat×AV):=(1,vl qb a)::x
abbrev kBH:List (Nat×AV):=[(7,.i 0)]
abbrev kBI (a:Int):List (Nat×AV):=[(11,.i a)]
abbrev kBJ (a:Int) (b:Int) (x:List (Nat×AV)):List (Nat×AV):=(6,.i a)::(7,.i b)::x
abbrev kBK:List AV:=[.nilslice,.i 18]
abbrev kBL {α0:Type} (a:List α0) (x:List (Nat×AV)):List (Nat×AV):=(14,.gslice 3 a.length 4)::(15,.ptr 4 0)::(16,.ptr 5 0)::x
abbrev kBM (a:Int):List (Nat×AV):=[(1,.i a)]
abbrev kBN {α0:Type} (a:List α0):List (Nat×AV):=[(2,.slice 0 0 a.length a.length 1)]
abbrev kBO (x:List Blk):List Blk:= .cells [.ptr 1 0]::x
abbrev kBP (a:List Int) (x:List (Nat×AV)):List (Nat×AV):=(1,vl encI a)::x
abbrev kBQ:List AV:=[.ptr 3 0,.ptr 1 0,.ptr 2 0]
abbrev kBR (a:Bool):List (Nat×AV):=[(14,.bool a)]
abbrev kBS:List (Nat×AV):=[(3,.ptr 2 0)]
abbrev kBT (a:Int) (x:List (Nat×AV)):List (Nat×AV):=(1,.ptr 6 0)::(3,.i a)::x
abbrev kBU (a:List qx) (x:List (Nat×AV)):List (Nat×AV):=(2,vl qy a)::x
abbrev kBV {α2:Type} (a:Int) (b:List Int) (c:List α2) (x:List Blk):List Blk:= .cells [.i a,vl encI b,.oslice 6 c.length 3]:: .dead::x
abbrev kBW {α2:Type} (a:Int) (b:List Int) (c:List α2) (x:List Blk):List Blk:= .cells [.i a,vl encI b,.oslice 4 c.length 3]:: .dead::x
abbrev kBX (x:List (Nat×AV)):List (Nat×AV):=(3,.ptr 0 0)::(4,.ptr 1 0)::(5,.ptr 2 0)::x
abbrev kBY (a:Int) (b:Int):List Blk:=[.cells [.str [105,110,115,101,114,116],.i a,.i b]]
abbrev kBZ (a:Bool):List (Nat×AV):=[(18,.bool a)]
abbrev kBa (a:Bool):List (Nat×AV):=[(13,.bool a)]
abbrev kBb (a:List Int) (x:List (Nat×AV)):List (Nat×AV):=(15,vl encI a)::x
abbrev kBc {α2:Type} (a:Int) (b:List Int) (c:Option (List α2)) (x:List Blk):List Blk:= .cells [.i a,vl encI b,hsl 7 3 c]:: .dead::x
abbrev kBd:List AV:=[.bool true]
abbrev kBe (a:Int):List (Nat×AV):=[(0,.i a)]
abbrev kBf (a:Int):List (Nat×AV):=[(4,.i a)]
abbrev kBg (a:Int):List (Nat×AV):=[(9,.i a)]
abbrev kBh (a:List qx) (x:List Blk):List Blk:= .cells (a.flatMap qy.c)::x
abbrev kBi (x:List (Nat×AV)):List (Nat×AV):=(4,.ptr 2 0)::(5,.ptr 3 0)::x
abbrev kBj (x:List (Nat×AV)):List (Nat×AV):=(10,.ptr 4 0)::x
abbrev kBk (a:List Int) (b:Int):List AV:=[vl encI a,.i b]
abbrev kBl (a:Int) (b:Int) (c:Int) (x:List (Nat×AV)):List (Nat×AV):=(0,.i a)::(1,.i b)::(2,.i c)::x
abbrev kBm (a:Bool):List (Nat×AV):=[(3,.bool a)]
abbrev kBn (a:Int) (b:Int):List AV:=[.int .u64 a,.int .u64 b]
abbrev kBo (a:Int):List (Nat×AV):=[(16,.i a),(17,.i 0)]
abbrev kBp:List (Nat×AV):=[(92,.bool true)]
abbrev kBq (x:List Blk):List Blk:= .cells [.slice 1 0 1 1 1]::x
abbrev kBr:List (Nat×AV):=[(2,.ptr 1 0)]
abbrev kBs (a:List qo) (x:List (Nat×AV)):List (Nat×AV):=(15,vl qb a)::x
abbrev nz1 (x:ko):List AV:=ni1 x.s x.w
abbrev nq1 (x:qo):List AV:=ni2 x.Num.s x.Num.w x.Den.s x.Den.w
abbrev nq4 (x y z w:qo):List AV:=[.i x.Num.s,nvl ZU x.Num.w,.i x.Den.s,nvl ZU x.Den.w,.i y.Num.s,nvl ZU y.Num.w,.i y.Den.s,nvl ZU y.Den.w,.i z.Num.s,nvl ZU z.Num.w,.i z.Den.s,nvl ZU z.Den.w,.i w.Num.s,nvl ZU w.Num.w,.i w.Den.s,nvl ZU w.Den.w]
abbrev nb4 (a:(qo×qo)×(qo×qo)):List AV:=nq4 a.1.1 a.1.2 a.2.1 a.2.2
theorem zO:SlT ZT 22 3 1 8:=⟨by kernel_rfl,by kernel_rfl,by kernel_rfl,by kernel_rfl⟩
theorem ce3:CeT ZT 3:=⟨by kernel_rfl,by kernel_rfl⟩
theorem qfR:SlT ZT 26 22 1 24:=⟨by kernel_rfl,by kernel_rfl,by kernel_rfl,by kernel_rfl⟩
theorem qme:CeT ZT 22:=⟨by kernel_rfl,by kernel_rfl⟩
theorem sl83:SlT ZT 83 28 1 8:=⟨by kernel_rfl,by kernel_rfl,by kernel_rfl,by kernel_rfl⟩
theorem ce28:CeT ZT 28:=⟨by kernel_rfl,by kernel_rfl⟩
theorem qbN:SlT ZT 118 3 1 8:=⟨by kernel_rfl,by kernel_rfl,by kernel_rfl,by kernel_rfl⟩
theorem qeZ:SlT ZT 117 118 1 24:=⟨by kernel_rfl,by kernel_rfl,by kernel_rfl,by kernel_rfl⟩
theorem qkg:CeT ZT 118:=⟨by kernel_rfl,by kernel_rfl⟩
theorem ql5:MapT ZT 130 9 128 (.agg [.i 0,.nilfunc,.nilfunc]):=⟨by kernel_rfl,by kernel_rfl,by kernel_rfl⟩
noncomputable abbrev zP:Code:=(Tryz.f9.body.getD .skip).x2.x2.x2.x2.x1.x2.x1
theorem qpT:SlT ZT 31 60 3 32:=⟨by kernel_rfl,by kernel_rfl,by kernel_rfl,by kernel_rfl⟩
noncomputable abbrev qm:Code:=(Tryz.f42.body.getD .skip).x2.x2.x1.x2.x1
noncomputable abbrev qf:Code:=(Tryz.f53.body.getD .skip).x2.x2.x2.x1.x2.x1
theorem qbH:Tryz.prog.underlying 89=some (.slice 145):=by kernel_rfl
theorem qqt:SlT ZT 87 96 1 24:=⟨by kernel_rfl,by kernel_rfl,by kernel_rfl,by kernel_rfl⟩
theorem qid:SlT ZT 96 93 4 64:=⟨by kernel_rfl,by kernel_rfl,by kernel_rfl,by kernel_rfl⟩
theorem ce96:CeT ZT 96:=⟨by kernel_rfl,by kernel_rfl⟩
theorem ag93:AgT ZT 93 4:=⟨by kernel_rfl,by kernel_rfl⟩
theorem ag60:AgT ZT 60 3:=⟨by kernel_rfl,by kernel_rfl⟩
abbrev fm1:AV:= .fmap kAz [.agg [.i 0,.func (.func 103) [] [],.func (.func 104) [] []],.agg [.i 2,.func (.func 105) [] [],.func (.func 106) [] []],.agg [.i 2,.func (.func 107) [] [],.func (.func 108) [] []],.agg [.i 3,.func (.func 109) [] [],.func (.func 110) [] []]]
instance:SC 12 fm1:=⟨Still.fmap SX.h (AllST.cons SC.h (AllST.cons SC.h (AllST.cons SC.h (AllST.cons SC.h AllST.nil))))⟩
def qbg (n:Int) (c:Int):Option Bool:=
 (if(!decide (c=0))=true then
 if c>(w64 (0-n))then
 some (decide (c<n))
 else
 some false
 else
 some false:Option Bool).bind fun a=>
 some a
theorem qbx (n:Int) (c:Int) {res:Bool} (h:qbg n c=some res):qc ZT (.fn 37) [.i n,.i c] [] (.bool res) []:=by
 unfold qbg at h;refine Ub Tryz.func37 rfl rfl (m:=18) rfl (rs:=[.tmp 4]) rfl (l:=((0,.i n)::(kBM c))) rfl ?_;refine sh fol ((0,.i n)::(kBM c)) ?_;refine sq ?_;obtain⟨e,a,h⟩:=bnd h;refine Goes.cut (s':=(ofG 18 (kA1 e),[])) ?_ ?_
 ·rcases wyB a with⟨b,a⟩|⟨b,a⟩
  ·rcases wyD a with⟨d,a⟩|⟨d,a⟩
   ·obtain rfl:=si a;exact tr fol [2,8] (kA1 (decide (c<n))) (ac (gw b) (ac (gw d) az))
   obtain rfl:=si a;exact tr fol [2,8] kAs (ac (gw b) (ac (gw d) az))
  obtain rfl:=si a;exact tr fol [2] kAs (ac (gw b) az)
 refine Goes.ret ?_;obtain rfl:=si h;exact(gw2 [.bool e] (Ua tB))
def jO (n:Int) (w:List Int):Nat->Int->Option (Unit⊕Int)
 |0,_=>none
 |K+1,a=>
  if a<(w.length:Int)then
  (idx w a).bind fun b=>
  (qbg n b).bind fun c=>
  if(!c)=true then
  some (.inr 3)
  else
  jO n w K (w64 (a+1))
  else
  some (.inl ())
def qaI (N:Nat) (n:Int) (w:List Int):Option Int:=
 (if n<1 then
 some true
 else
 some (decide (n>12)):Option Bool).bind fun b=>
 if b=true then
 some 3
 else
 if(w.length:Int)>200 then
 some 5
 else
 (jO n w N 0).bind (fun
 |(.inl ())=>
 some 0
 |(.inr a)=>
 some a)
theorem qgi (N:Nat) (n:Int) (w:List Int) {res:Int} (h:qaI N n w=some res):qc ZT (.fn 14) [.i n,vl encI w] [] (.i res) []:=by
 unfold qaI at h;refine Ub Tryz.func14 rfl rfl (m:=28) rfl (rs:=[.tmp 4]) rfl (l:=(kC n w [])) rfl ?_;refine sh fol (kC n w []) ?_;refine sq ?_;refine sq ?_;obtain⟨p,a,h⟩:=bnd h;refine Goes.cut (s':=(ofG 28 (kC n w [(11,.bool p)]),[])) ?_ ?_
 ·rcases wyD a with⟨e,a⟩|⟨e,a⟩
  ·obtain rfl:=si a;exact tr fol [2] (kC n w [(11,.bool true)]) (ac (gw e) az)
  obtain rfl:=si a;exact tr fol [2] (kC n w [(11,.bool (decide (n>12)))]) (ac (gw e) az)
 refine ihB h (fun q h=>?_) (fun q h=>?_)
 ·refine sh fol [(4,.i 3)] ?_;refine Goes.ret ?_;obtain rfl:=si h;exact(gw2 [.i 3] (Ua tI))
 refine Goes.skip ?_;refine sq ?_;refine sh fol (kC n w (kBR (decide ((w.length:Int)>200)))) ?_;refine ihD h (fun r h=>?_) (fun r h=>?_)
 ·refine sh fol [(4,.i 5)] ?_;refine Goes.ret ?_;obtain rfl:=si h;exact(gw2 [.i 5] (Ua tI))
 refine Goes.skip ?_;refine sq ?_;refine sh fol (kC n w [(5,.i 0)]) ?_;refine Goes.block ?_;obtain⟨f,g7,h⟩:=bnd h;refine Goes.imp (Q:=fun x s'=>(x= .exit 0/\(.inl ())=f/\Sub s' (ofG 28 [],[]))\/(x= .ret/\ ∃o,(.inr o)=f/\jw ZT [.tmp 4] (.i o) .ret s')) ?_ ?_
 ·refine Ue (fun M s=> ∃(c:Int),s=(ofG 28 (kC n w [(5,.i c)]),[])/\jO n w M c=some f) ?_ (m:=N) ⟨_,rfl,g7⟩;rintro M s ⟨c,rfl,g7⟩
  cases M with
  |zero=>simp only[jO]at g7;cases g7
  |succ M=>
   rw[jO]at g7;refine sq ?_;refine sh fol (kC n w ((5,.i c)::(kBZ (decide (c<(w.length:Int)))))) ?_;refine ihD g7 (fun t g7=>?_) (fun t g7=>?_)
   ·refine Goes.skip ?_;refine sq (Goes.block ?_);obtain⟨g,b,g7⟩:=bnd g7;obtain⟨j,d,g7⟩:=bnd g7;refine sq (gr fol [3,4,5] (kC n w [(5,.i c),(27,.bool (!j))]) (ac (iv zO encI b) (ac (lv 0 ce3 encI b rfl) (ac (cv (qbx n g d)) az))) ?_);refine ihB g7 (fun k g7=>?_) (fun k g7=>?_)
    ·refine sh fol [(4,.i 3)] ?_;refine Goes.ret ?_;obtain rfl:=si g7;exact Or.inr (⟨rfl,_,rfl,(gw2 [.i 3] (Ua tI))⟩)
    refine Goes.skip ?_;refine gh fol (kC n w [(5,.i (w64 (c+1)))]) ?_;exact⟨M,(ofG 28 (kC n w [(5,.i (w64 (c+1)))]),[]),Nat.lt_succ_self _,(Sub.refl _),_,rfl,g7⟩
   refine Goes.exit ?_;obtain rfl:=si g7;exact Or.inl (⟨rfl,rfl,(Sub.keep [] rfl rfl)⟩)
 rintro x s' (⟨rfl,rfl,hsub⟩|⟨rfl,u,rfl,hret⟩)
 ·try dsimp only at h
  refine Goes.sub hsub ?_;refine sh fol [(4,.i 0)] ?_;refine Goes.ret ?_;obtain rfl:=si h;exact(gw2 [.i 0] (Ua tI))
 try dsimp only at h
 obtain rfl:=si h;exact hret
def qbL (N:Nat) (n:Int) (w:List Int) (strands:Int) (letters:Int):Option Bool:=
 (if n<=strands then
 if(w.length:Int)<=letters then
 (qaI N n w).bind fun a=>
 some (decide (a=0))
 else
 some false
 else
 some false:Option Bool).bind fun b=>
 some b
theorem qek (N:Nat) (n:Int) (w:List Int) (strands:Int) (letters:Int) {res:Bool} (h:qbL N n w strands letters=some res):qc ZT (.fn 4) [.i n,vl encI w,.i strands,.i letters] [] (.bool res) []:=by
 unfold qbL at h;refine Ub Tryz.func4 rfl rfl (m:=24) rfl (rs:=[.tmp 8]) rfl (l:=(kC n w [(2,.i strands),(3,.i letters)])) rfl ?_;refine sh fol (kC n w [(2,.i strands),(3,.i letters)]) ?_;refine sq ?_;obtain⟨e,a,h⟩:=bnd h;refine Goes.cut (s':=(ofG 24 [(8,.bool e)],[])) ?_ ?_
 ·rcases wyD a with⟨c,a⟩|⟨c,a⟩
  ·rcases wyD a with⟨d,a⟩|⟨d,a⟩
   ·obtain⟨f,b,a⟩:=bnd a;obtain rfl:=si a;exact tr fol [3,9,12] [(8,.bool (decide (f=0)))] (ac (gw c) (ac (gw d) (ac (cv (qgi N n w b)) az)))
   obtain rfl:=si a;exact tr fol [3,9] [(8,.bool false)] (ac (gw c) (ac (gw d) az))
  obtain rfl:=si a;exact tr fol [3] [(8,.bool false)] (ac (gw c) az)
 refine Goes.ret ?_;obtain rfl:=si h;exact(gw2 [.bool e] (Ua tB))
def vE (a:List Int) (b:List Int):Nat->Int->Option (Unit⊕Bool)
 |0,_=>none
 |K+1,c=>
  if c<(a.length:Int)then
  (idx a c).bind fun d=>
  (idx b c).bind fun e=>
  if(!decide (d=e))=true then
  some (.inr false)
  else
  vE a b K (w64 (c+1))
  else
  some (.inl ())
def qa7 (N:Nat) (a:List Int) (b:List Int):Option Bool:=
 if(!decide ((a.length:Int)=(b.length:Int)))=true then
 some false
 else
 (vE a b N 0).bind (fun
 |(.inl ())=>
 some true
 |(.inr c)=>
 some c)
theorem qgV (N:Nat) (a:List Int) (b:List Int) {res:Bool} (h:qa7 N a b=some res):qc ZT (.fn 17) (kAt a b) [] (.bool res) []:=by
 unfold qa7 at h;refine Ub Tryz.func17 rfl rfl (m:=26) rfl (rs:=[.tmp 4]) rfl (l:=(kR a b [])) rfl ?_;refine sh fol (kR a b []) ?_;refine sq ?_;refine sh fol (kR a b (kBA (!decide ((a.length:Int)=(b.length:Int))))) ?_;refine ihB h (fun j h=>?_) (fun j h=>?_)
 ·refine sh fol kAs ?_;refine Goes.ret ?_;obtain rfl:=si h;exact(gw2 [.bool false] (Ua tB))
 refine Goes.skip ?_;refine sq ?_;refine sh fol (kR a b [(5,.i 0)]) ?_;refine Goes.block ?_;obtain⟨f,g3,h⟩:=bnd h;refine Goes.imp (Q:=fun x s'=>(x= .exit 0/\(.inl ())=f/\Sub s' (ofG 26 [],[]))\/(x= .ret/\ ∃g,(.inr g)=f/\jw ZT [.tmp 4] (.bool g) .ret s')) ?_ ?_
 ·refine Ue (fun M s=> ∃(c:Int),s=(ofG 26 (kR a b [(5,.i c)]),[])/\vE a b M c=some f) ?_ (m:=N) ⟨_,rfl,g3⟩;rintro M s ⟨c,rfl,g3⟩
  cases M with
  |zero=>simp only[vE]at g3;cases g3
  |succ M=>
   rw[vE]at g3;refine sq ?_;refine sh fol (kR a b ((5,.i c)::(kBR (decide (c<(a.length:Int)))))) ?_;refine ihD g3 (fun k g3=>?_) (fun k g3=>?_)
   ·refine Goes.skip ?_;refine sq (Goes.block ?_);obtain⟨n,d,g3⟩:=bnd g3;obtain⟨o,e,g3⟩:=bnd g3;refine sq (gr fol [2,3,6,7] (kR a b [(5,.i c),(25,.bool (!decide (n=o)))]) (ac (iv zO encI d) (ac (lv 0 ce3 encI d rfl) (ac (iv zO encI e) (ac (lv 0 ce3 encI e rfl) az)))) ?_);refine ihB g3 (fun p g3=>?_) (fun p g3=>?_)
    ·refine sh fol kAs ?_;refine Goes.ret ?_;obtain rfl:=si g3;exact Or.inr (⟨rfl,_,rfl,(gw2 [.bool false] (Ua tB))⟩)
    refine Goes.skip ?_;refine gh fol (kR a b [(5,.i (w64 (c+1)))]) ?_;exact⟨M,(ofG 26 (kR a b [(5,.i (w64 (c+1)))]),[]),Nat.lt_succ_self _,(Sub.refl _),_,rfl,g3⟩
   refine Goes.exit ?_;obtain rfl:=si g3;exact Or.inl (⟨rfl,rfl,(Sub.keep [] rfl rfl)⟩)
 rintro x s' (⟨rfl,rfl,hsub⟩|⟨rfl,q,rfl,hret⟩)
 ·try dsimp only at h
  refine Goes.sub hsub ?_;refine sh fol kBB ?_;refine Goes.ret ?_;obtain rfl:=si h;exact(gw2 [.bool true] (Ua tB))
 try dsimp only at h
 obtain rfl:=si h;exact hret
def jR (N:Nat) (a:List (List Int)) (b:List (List Int)):Nat->Int->Option (Unit⊕Bool)
 |0,_=>none
 |K+1,c=>
  if c<(a.length:Int)then
  (idx a c).bind fun d=>
  (idx b c).bind fun e=>
  (qa7 N d e).bind fun f=>
  if(!f)=true then
  some (.inr false)
  else
  jR N a b K (w64 (c+1))
  else
  some (.inl ())
def xC (N:Nat) (a:List (List Int)) (b:List (List Int)):Option Bool:=
 if(!decide ((a.length:Int)=(b.length:Int)))=true then
 some false
 else
 (jR N a b N 0).bind (fun
 |(.inl ())=>
 some true
 |(.inr c)=>
 some c)
theorem qgp (N:Nat) (a:List (List Int)) (b:List (List Int)) {res:Bool} (h:xC N a b=some res):qc ZT (.fn 6) [vl (qg encI) a,vl (qg encI) b] [] (.bool res) []:=by
 unfold xC at h;refine Ub Tryz.func6 rfl rfl (m:=27) rfl (rs:=[.tmp 4]) rfl (l:=[(0,vl (qg encI) a),(1,vl (qg encI) b)]) rfl ?_;refine sh fol [(0,vl (qg encI) a),(1,vl (qg encI) b)] ?_;refine sq ?_;refine sh fol ((0,vl (qg encI) a)::(1,vl (qg encI) b)::(kBA (!decide ((a.length:Int)=(b.length:Int))))) ?_;refine ihB h (fun k h=>?_) (fun k h=>?_)
 ·refine sh fol kAs ?_;refine Goes.ret ?_;obtain rfl:=si h;exact(gw2 [.bool false] (Ua tB))
 refine Goes.skip ?_;refine sq ?_;refine sh fol [(0,vl (qg encI) a),(1,vl (qg encI) b),(5,.i 0)] ?_;refine Goes.block ?_;obtain⟨g,g3,h⟩:=bnd h;refine Goes.imp (Q:=fun x s'=>(x= .exit 0/\(.inl ())=g/\Sub s' (ofG 27 [],[]))\/(x= .ret/\ ∃j,(.inr j)=g/\jw ZT [.tmp 4] (.bool j) .ret s')) ?_ ?_
 ·refine Ue (fun M s=> ∃(c:Int),s=(ofG 27 [(0,vl (qg encI) a),(1,vl (qg encI) b),(5,.i c)],[])/\jR N a b M c=some g) ?_ (m:=N) ⟨_,rfl,g3⟩;rintro M s ⟨c,rfl,g3⟩
  cases M with
  |zero=>simp only[jR]at g3;cases g3
  |succ M=>
   rw[jR]at g3;refine sq ?_;refine sh fol ((0,vl (qg encI) a)::(1,vl (qg encI) b)::(5,.i c)::(kBR (decide (c<(a.length:Int))))) ?_;refine ihD g3 (fun n g3=>?_) (fun n g3=>?_)
   ·refine Goes.skip ?_;refine sq (Goes.block ?_);obtain⟨o,d,g3⟩:=bnd g3;obtain⟨p,e,g3⟩:=bnd g3;obtain⟨q,f,g3⟩:=bnd g3;refine sq (gr fol [2,3,6,7,8] [(0,vl (qg encI) a),(1,vl (qg encI) b),(5,.i c),(26,.bool (!q))] (ac (iv qfR (qg encI) d) (ac (lv 0 qme (qg encI) d rfl) (ac (iv qfR (qg encI) e) (ac (lv 0 qme (qg encI) e rfl) (ac (cv (qgV N o p f)) az))))) ?_);refine ihB g3 (fun r g3=>?_) (fun r g3=>?_)
    ·refine sh fol kAs ?_;refine Goes.ret ?_;obtain rfl:=si g3;exact Or.inr (⟨rfl,_,rfl,(gw2 [.bool false] (Ua tB))⟩)
    refine Goes.skip ?_;refine gh fol [(0,vl (qg encI) a),(1,vl (qg encI) b),(5,.i (w64 (c+1)))] ?_;exact⟨M,(ofG 27 [(0,vl (qg encI) a),(1,vl (qg encI) b),(5,.i (w64 (c+1)))],[]),Nat.lt_succ_self _,(Sub.refl _),_,rfl,g3⟩
   refine Goes.exit ?_;obtain rfl:=si g3;exact Or.inl (⟨rfl,rfl,(Sub.keep [] rfl rfl)⟩)
 rintro x s' (⟨rfl,rfl,hsub⟩|⟨rfl,t,rfl,hret⟩)
 ·try dsimp only at h
  refine Goes.sub hsub ?_;refine sh fol kBB ?_;refine Goes.ret ?_;obtain rfl:=si h;exact(gw2 [.bool true] (Ua tB))
 try dsimp only at h
 obtain rfl:=si h;exact hret
def jN (c:Int):Option Int:=
 some (if(w64 (0-c))>c then(w64 (0-c))else c)
theorem ja (c:Int) {res:Int} (h:jN c=some res):qc ZT (.fn 18) [.i c] [] (.i res) []:=by
 unfold jN at h;refine Ub Tryz.func18 rfl rfl (m:=7) rfl (rs:=[.tmp 2]) rfl (l:=(kBe c)) rfl ?_;refine sh fol (kBe c) ?_;refine sh fol [(2,.i (if(w64 (0-c))>c then(w64 (0-c))else c))] ?_;refine Goes.ret ?_;obtain rfl:=si h;exact(gw2 [.i (if(w64 (0-c))>c then(w64 (0-c))else c)] (Ua tI))
def jJ (a:List Int) (b:List Int):Option (List Int):=
 (app 8 ([]:List Int) a).bind fun c=>
 (app 8 c b).bind fun d=>
 some d
theorem xE (a:List Int) (b:List Int) {res:List Int} (h:jJ a b=some res):qc ZT (.fn 20) (kAt a b) [] (vl encI res) []:=by
 unfold jJ at h;refine Ub Tryz.func20 rfl rfl (m:=10) rfl (rs:=[.tmp 4]) rfl (l:=(kR a b [])) rfl ?_;refine sh fol (kR a b []) ?_;obtain⟨c,d,h⟩:=bnd h;obtain⟨e,f,h⟩:=bnd h;refine sq (gq fol [2,4] [(4,.oslice 2 e.length 1)] (.dead:: .dead::(kA e [])) (ac (hs (.run [0] (vM ZT [22,22] (.slice 0 0 0 0 1) (vl encI a)) [.cells []] (.oslice 1 c.length 1) (.dead::(kA c [])) true) (qcl zO (E:=encI) rfl (quT (E:=encI) rfl _) (dst_z (E:=encI) rfl rfl rfl d rfl))) (ac (hs (.run [1] (vM ZT [22,22] (.oslice 1 c.length 1) (vl encI b)) (.dead::(kA c [])) (.oslice 2 e.length 1) (.dead:: .dead::(kA e [])) true) (qcl zO (E:=encI) rfl (quT (E:=encI) rfl _) (qoC (E:=encI) (l:=c) rfl rfl rfl f rfl))) az)) ?_);refine Goes.ret ?_;obtain rfl:=si h;exact(gw2 [.oslice 2 e.length 1] (Us (Fz.os (E:=encI) rfl rfl (nl rfl))))
def vT (w:List Int):Nat->(List Int)->Int->Option (List Int)
 |0,_,_=>none
 |K+1,b,a=>
  if a>=0 then
  (idx w a).bind fun c=>
  (app 8 b [w64 (0-c)]).bind fun d=>
  vT w K d (w64 (a-1))
  else
  some b
def qaK (N:Nat) (w:List Int):Option (List Int):=
 (vT w N ([]:List Int) (w64 ((w.length:Int)-1))).bind fun a=>
 some a
theorem qd6 (N:Nat) (w:List Int) {res:List Int} (h:qaK N w=some res):qc ZT (.fn 21) [vl encI w] [] (vl encI res) []:=by
 unfold qaK at h;refine Ub Tryz.func21 rfl rfl (m:=21) rfl (rs:=[.tmp 2]) rfl (l:=(kAC w [])) rfl ?_;refine sh fol (kAC w []) ?_;refine sh fol (kAC w [(3,.nilslice)]) ?_;refine sq ?_;refine sh fol (kAC w ((3,.nilslice)::(kBf (w64 ((w.length:Int)-1))))) ?_;refine Goes.block ?_;obtain⟨k,g4,h⟩:=bnd h;refine Goes.imp (Q:=fun x s'=>(x= .exit 0/\ ∃f,f=k/\Sub s' (ofG 21 [(3,.gslice 0 f.length 1)],(kA f [])))) ?_ ?_
 ·refine Goes.sub (s':=(ofG 21 (kAC w ((3,.gslice 0 ([]:List Int).length 1)::(kBf (w64 ((w.length:Int)-1))))),[.cells (([]:List Int).flatMap encI.c)])) (Uc [] [none] rfl rfl (.keep (.same (qa encI _)) (.keep .nil (.keep (.same nI) .nil))) (.fresh .nil)) ?_;refine Ue (fun M s=> ∃(a:List Int) (b:Int),s=(ofG 21 (kAC w ((3,.gslice 0 a.length 1)::(kBf b))),(kA a []))/\vT w M a b=some k) ?_ (m:=N) ⟨_,_,rfl,g4⟩;rintro M s ⟨a,b,rfl,g4⟩
  cases M with
  |zero=>simp only[vT]at g4;cases g4
  |succ M=>
   rw[vT]at g4;refine sq ?_;refine sh fol (kAC w [(3,.gslice 0 a.length 1),(4,.i b),(9,.bool (decide (b>=0)))]) ?_;refine ihD g4 (fun n g4=>?_) (fun n g4=>?_)
   ·refine Goes.skip ?_;refine sq (Goes.block ?_);obtain⟨j,d,g4⟩:=bnd g4;obtain⟨e,g,g4⟩:=bnd g4;refine gq fol [3,4,7] (kAC w ((3,.gslice 2 e.length 1)::(kBf b))) (.dead::(kAA (w64 (0-j)) (kA e []))) (ac (iv zO encI d) (ac (lv 0 ce3 encI d rfl) (ac (hs (.run [0,1] (vM ZT [22,22] (.gslice 0 a.length 1) (.slice 1 0 1 1 1)) (kA a (kAA (w64 (0-j)) [])) (.gslice 2 e.length 1) (.dead::(kAA (w64 (0-j)) (kA e []))) true) (qcl zO (E:=encI) rfl (qgQ (E:=encI) (ys:=[w64 (0-j)]) rfl rfl rfl rfl) (qlX (E:=encI) (l:=a) rfl rfl rfl g rfl))) az))) ?_;refine gh fol (kAC w ((3,.gslice 2 e.length 1)::(kBf (w64 (b-1))))) ?_;exact⟨M,(ofG 21 (kAC w ((3,.gslice 0 e.length 1)::(kBf (w64 (b-1))))),(kA e [])),Nat.lt_succ_self _,(Uc [] [some 2] rfl rfl (.keep (.same (qa encI _)) (.keep (.gslice rfl) (.keep (.same nI) .nil))) (.ks .nil)),_,_,rfl,g4⟩
   refine Goes.exit ?_;obtain rfl:=si g4;exact⟨rfl,_,rfl,(Sub.keep [3] rfl rfl)⟩
 rintro x s' ⟨rfl,f,rfl,hsub⟩;refine Goes.sub hsub ?_;refine sh fol [(2,.gslice 0 f.length 1)] ?_;refine Goes.ret ?_;obtain rfl:=si h;exact(gw2 [.gslice 0 f.length 1] (Us (Fz.gs (E:=encI) rfl rfl (nl rfl))))
def jS (a:List Int):Nat->(Option (List Int))->Int->Option (Option (List Int))
 |0,_,_=>none
 |K+1,q,b=>
  if b<(a.length:Int)then
  ((((match q with
  |none=>
  if 0>0 then
  (idx ([]:List Int) (w64 (0-1))).bind fun g=>
  (idx a b).bind fun h=>
  some ((none:Option (List Int)),decide (g=(w64 (0-h))))
  else
  some ((none:Option (List Int)),false)
  |some c=>
  if(c.length:Int)>0 then
  (idx c (w64 ((c.length:Int)-1))).bind fun i=>
  (idx a b).bind fun j=>
  some ((some c),decide (i=(w64 (0-j))))
  else
  some ((some c),false)):Option ((Option (List Int))×Bool)).bind fun(d,k)=>
  if k=true then
  ((match d with
  |none=>
  (cut ([]:List Int) 0 (w64 (0-1))).bind fun r=>
  some (none:Option (List Int))
  |some e=>
  (cut e 0 (w64 ((e.length:Int)-1))).bind fun l=>
  some (some l)):Option (Option (List Int))).bind fun m=>
  some m
  else
  ((idx a b).bind fun f=>
  (match d with
  |none=>
  some ([f]:List Int)
  |some n=>
  (app 8 n [f]).bind fun o=>
  some o):Option (List Int)).bind fun p=>
  some (some p):Option (Option (List Int)))).bind fun s=>
  jS a K s (w64 (b+1))
  else
  some q
def xD (N:Nat) (a:List Int):Option (List Int):=
 (jS a N (none:Option (List Int)) 0).bind fun b=>
 some (hof b)
theorem qdr (N:Nat) (b:List Int) {V:List Int} (h:xD N b=some V):qc ZT (.fn 19) [vl encI b] [] (vl encI V) []:=by
 unfold xD at h;refine Ui Tryz.func19 rfl rfl (m:=41) rfl (rs:=[.tmp 2]) rfl (l:=(kAC b [])) rfl ?_;intro B hB;refine sh fol (kAC b []) ?_;refine sh fol (kAC b [(3,.nilslice)]) ?_;refine sq ?_;refine sh fol (kAC b [(3,.nilslice),(4,.i 0)]) ?_;refine Goes.block ?_;obtain⟨X,g5,h⟩:=bnd h;refine Goes.imp (Q:=fun x s'=>(x= .exit 0/\ ∃G,G=X/\Sub s' (ofG 41 [(3,hsl 0 1 G)],(kA0 G)))) ?_ ?_
 ·refine Goes.sub (s':=(ofG 41 (kAC b [(3,hsl 0 1 (none:Option (List Int))),(4,.i 0)]),[.cells ((hof (none:Option (List Int))).flatMap encI.c)])) (Uc [] [none] (by rw[hB];rfl) rfl (.keep (.same (qa encI _)) (.keep jD.hs0 (.keep (.same nI) .nil))) (.fresh .nil)) ?_;refine Ue (fun M s=> ∃(H:Option (List Int)) (f:Int),s=(ofG 41 (kAC b ((3,hsl 0 1 H)::(kBf f))),(kA0 H))/\jS b M H f=some X) ?_ (m:=N) ⟨_,_,rfl,g5⟩;rintro M s ⟨H,f,rfl,g5⟩
  cases M with
  |zero=>simp only[jS]at g5;cases g5
  |succ M=>
   unfold jS at g5;refine sq ?_;refine sh fol (kAC b [(3,hsl 0 1 H),(4,.i f),(8,.bool (decide (f<(b.length:Int))))]) ?_;refine ihD g5 (fun c6 g5=>?_) (fun c6 g5=>?_)
   ·refine Goes.skip ?_;refine sq ?_;obtain⟨Y,g8,g5⟩:=bnd g5;refine Goes.imp (Q:=fun x s'=>(x= .normal/\ ∃w,w=Y/\Sub s' (ofG 41 (kAC b ((3,hsl 0 1 w)::(kBf f))),(kA0 w)))) ?_ ?_
    ·refine Goes.block ?_;refine sq ?_;obtain⟨⟨t,L⟩,a,g8⟩:=bnd g8;refine Goes.cutS (s':=(ofG 41 (kAC b [(3,hsl 0 1 t),(4,.i f),(27,.bool L)]),(kA0 t))) ?_ ?_
     ·rcases H with _|k
      ·try dsimp only at a
       rcases wyD a with⟨y,a⟩|⟨y,a⟩
       ·obtain⟨O,n,a⟩:=bnd a;obtain⟨P,o,a⟩:=bnd a;simp only[ZI,ZP]at a;obtain⟨rfl,rfl⟩:=a;exact jf.sub (jf.rq fol [3,8,9,12,13] (kAC b [(3,.nilslice),(4,.i f),(27,.bool (decide (O=(w64 (0-P)))))]) [.cells ((hof (none:Option (List Int))).flatMap encI.c)] (ac (gw y) (ac (hs (.done (.opt (qd ZT 22 (.nilslice) (.i (w64 (0-1))))) (.fptr (([]:List Int).flatMap encI.c) ((w64 (0-1):Int).toNat*1+0))) (qvK n)) (ac (lv 0 ce3 encI n rfl) (ac (iv zO encI o) (ac (lv 0 ce3 encI o rfl) az)))))) (Uc [] [none] (by rw[hB];rfl) rfl (.keep (.same (qa encI _)) (.keep jD.hs0 (.keep (.same nI) (.keep (.same nB) .nil)))) (.fresh .nil))
       simp only[ZI,ZP]at a;obtain⟨rfl,rfl⟩:=a;exact jf.sub (jf.rq fol [3] (kAC b [(3,.nilslice),(4,.i f),(27,.bool false)]) [.cells ((hof (none:Option (List Int))).flatMap encI.c)] (ac (gw y) az)) (Uc [] [none] (by rw[hB];rfl) rfl (.keep (.same (qa encI _)) (.keep jD.hs0 (.keep (.same nI) (.keep (.same nB) .nil)))) (.fresh .nil))
      try dsimp only at a
      rcases wyD a with⟨z,a⟩|⟨z,a⟩
      ·obtain⟨I,p,a⟩:=bnd a;obtain⟨T,q,a⟩:=bnd a;simp only[ZI,ZP]at a;obtain⟨rfl,rfl⟩:=a;exact jf.sub (jf.rq fol [3,8,9,12,13] (kAC b (kBF k f [(27,.bool (decide (I=(w64 (0-T)))))])) (kA k []) (ac (gw z) (ac (hs (.done (.opt (qd ZT 22 (.oslice 0 k.length 1) (.i (w64 ((k.length:Int)-1))))) (.ptr 0 ((w64 ((k.length:Int)-1):Int).toNat*1+0))) (ix_os zO p)) (ac (hs (.run [0] (zV ZT 3 (.ptr 0 ((w64 ((k.length:Int)-1):Int).toNat*1+0))) (kA k []) (.i I) (kA k []) false) (qcK ce3 (E:=encI) (l:=k) rfl rfl p (nl rfl) rfl)) (ac (iv zO encI q) (ac (lv 0 ce3 encI q rfl) az)))))) (Uc [] [some 0] (by rw[hB];rfl) rfl (.keep (.same (qa encI _)) (.keep (jD.hs1 rfl) (.keep (.same nI) (.keep (.same nB) .nil)))) (.ks .nil))
      simp only[ZI,ZP]at a;obtain⟨rfl,rfl⟩:=a;exact jf.sub (jf.rq fol [3] (kAC b (kBF k f [(27,.bool false)])) (kA k []) (ac (gw z) az)) (Uc [] [some 0] (by rw[hB];rfl) rfl (.keep (.same (qa encI _)) (.keep (jD.hs1 rfl) (.keep (.same nI) (.keep (.same nB) .nil)))) (.ks .nil))
     intro _ hsub
     try dsimp only at g8
     refine Goes.sub hsub ?_;refine ihB g8 (fun U g8=>?_) (fun U g8=>?_)
     ·obtain⟨J,d,g8⟩:=bnd g8;refine Goes.cutS (s':=(ofG 41 (kAC b ((3,hsl 0 1 J)::(kBf f))),(kA0 J))) ?_ ?_
      ·rcases t with _|A
       ·try dsimp only at d
        obtain⟨Z,C,d⟩:=bnd d;obtain rfl:=si d;exact jf.sub (jf.rq fol [4] (kAC b ((3,.nilslice)::(kBf f))) [.cells ((hof (none:Option (List Int))).flatMap encI.c)] (ac (hs (.done (.opt (yM ZT 22 .nilslice none (some (.i (w64 (0-1)))) none)) .nilslice) (qwg (α:=Int) zO none (some (w64 (0-1))) C)) az)) (Uc [] [none] (by rw[hB];rfl) rfl (.keep (.same (qa encI _)) (.keep jD.hs0 (.keep (.same nI) .nil))) (.fresh .nil))
       try dsimp only at d
       obtain⟨u,r,d⟩:=bnd d;obtain rfl:=si d;exact jf.sub (jf.rq fol [4] (kAC b (kBF u f [])) (kA A []) (ac (hs (.done (.opt (yM ZT 22 (.oslice 0 A.length 1) none (some (.i (w64 ((A.length:Int)-1)))) none)) (.oslice 0 u.length 1)) (sh_os zO r)) az)) ((show Sub _ (ofG 41 (kAC b (kBF u f [])),(kA u []))from(Uc [] [some 0] (by rw[hB];rfl) rfl (.keep (.same (qa encI _)) (.keep (.oslice rfl) (.keep (.same nI) .nil))) (.kb rfl (yj.cut r) .nil))).trans (Uc [] [some 0] (by rw[hB];rfl) rfl (.keep (.same (qa encI _)) (.keep (jD.hs1 rfl) (.keep (.same nI) .nil))) (.ks .nil)))
      intro _ hsub;obtain rfl:=si g8;exact⟨rfl,_,rfl,(hsub.trans (Sub.refl _))⟩
     obtain⟨K,e,g8⟩:=bnd g8;refine Goes.cutS (s':=(ofG 41 (kAC b (kBF K f [])),(kA K []))) ?_ ?_
     ·obtain⟨j,g,e⟩:=bnd e;rcases t with _|D
      ·try dsimp only at e
       obtain rfl:=si e;exact jf.sub (jf.rq fol [3,4] (kAC b ((3,.oslice 2 1 1)::(kBf f))) (.cells ((hof (none:Option (List Int))).flatMap encI.c)::(kAA j (kAA j []))) (ac (iv zO encI g) (ac (lv 0 ce3 encI g rfl) az))) (Uc [] [some 2] (by rw[hB];rfl) rfl (.keep (.same (qa encI _)) (.keep (jD.osliceE rfl rfl) (.keep (.same nI) .nil))) (.ks .nil))
      try dsimp only at e
      obtain⟨v,F,e⟩:=bnd e;obtain rfl:=si e;exact jf.sub (jf.rq fol [3,4,6] (kAC b ((3,.oslice 2 v.length 1)::(kBf f))) (.dead::(kAA j (kA v []))) (ac (iv zO encI g) (ac (lv 0 ce3 encI g rfl) (ac (hs (.run [0,1] (vM ZT [22,22] (.oslice 0 D.length 1) (.slice 1 0 1 1 1)) (kA D (kAA j [])) (.oslice 2 v.length 1) (.dead::(kAA j (kA v []))) true) (qcl zO (E:=encI) rfl (qgQ (E:=encI) (ys:=[j]) rfl rfl rfl rfl) (qoC (E:=encI) (l:=D) rfl rfl rfl F rfl))) az)))) (Uc [] [some 2] (by rw[hB];rfl) rfl (.keep (.same (qa encI _)) (.keep (.oslice rfl) (.keep (.same nI) .nil))) (.ks .nil))
     intro _ hsub;obtain rfl:=si g8;exact⟨rfl,_,rfl,(hsub.trans (Uc [] [some 0] (by rw[hB];rfl) rfl (.keep (.same (qa encI _)) (.keep (jD.hs1 rfl) (.keep (.same nI) .nil))) (.ks .nil)))⟩
    rintro x s' ⟨rfl,w,rfl,hsub⟩;refine Goes.sub hsub ?_;refine gh fol (kAC b ((3,hsl 0 1 w)::(kBf (w64 (f+1))))) ?_;exact⟨M,(ofG 41 (kAC b ((3,hsl 0 1 w)::(kBf (w64 (f+1))))),(kA0 w)),Nat.lt_succ_self _,(Sub.refl _),_,_,rfl,g5⟩
   refine Goes.exit ?_;obtain rfl:=si g5;exact⟨rfl,_,rfl,(Sub.keep [3] rfl rfl)⟩
 rintro x s' ⟨rfl,G,rfl,hsub⟩;refine Goes.sub hsub ?_;refine sh fol [(2,hsl 0 1 G)] ?_;refine Goes.ret ?_;obtain rfl:=si h;exact(gh2 [hsl 0 1 G] (Uc [0] [] (by rw[hB];rfl) rfl (.keep (jD.hsL (E:=encI) rfl rfl (nl rfl)) .nil) .nil))
def xQ (n:Int):Nat->(List (List Int))->Int->Option (List (List Int))
 |0,_,_=>none
 |K+1,b,a=>
  if a<=n then
  (app 24 b [([a]:List Int)]).bind fun c=>
  xQ n K c (w64 (a+1))
  else
  some b
def xR (N:Nat) (w:List Int):Nat->(List (List Int))->Int->Option (List (List Int))
 |0,_,_=>none
 |K+1,d,h=>
  if h<(w.length:Int)then
  (((idx w h).bind fun e=>
  (jN e).bind fun a=>
  (idx d (w64 (a-1))).bind fun b=>
  (idx d a).bind fun c=>
  if e>0 then
  (jJ b c).bind fun i=>
  (qaK N b).bind fun j=>
  (jJ i j).bind fun k=>
  (xD N k).bind fun l=>
  (put d (w64 (a-1)) l).bind fun f=>
  (idx f a).bind fun t=>
  (put f a b).bind fun m=>
  some m
  else
  (qaK N c).bind fun n=>
  (jJ n b).bind fun o=>
  (jJ o c).bind fun p=>
  (xD N p).bind fun q=>
  (put d (w64 (a-1)) c).bind fun g=>
  (idx g a).bind fun u=>
  (put g a q).bind fun r=>
  some r:Option (List (List Int)))).bind fun s=>
  xR N w K s (w64 (h+1))
  else
  some d
def qb6 (N:Nat) (n:Int) (w:List Int):Option (List (List Int)):=
 (xQ n N ([]:List (List Int)) 1).bind fun a=>
 (xR N w N a 0).bind fun b=>
 some b
theorem qfY (N:Nat) (n:Int) (w:List Int) {res:List (List Int)} (h:qb6 N n w=some res):qc ZT (.fn 7) [.i n,vl encI w] [] (vl (qg encI) res) []:=by
 unfold qb6 at h;refine Ub Tryz.func7 rfl rfl (m:=77) rfl (rs:=[.tmp 4]) rfl (l:=(kC n w [])) rfl ?_;refine sh fol (kC n w []) ?_;refine sh fol (kC n w [(5,.nilslice)]) ?_;refine sq ?_;refine sh fol (kC n w [(5,.nilslice),(6,.i 1)]) ?_;refine Goes.block ?_;obtain⟨r4,g4,h⟩:=bnd h;refine Goes.imp (Q:=fun x s'=>(x= .exit 0/\ ∃l3,l3=r4/\Sub s' (ofG 77 (kBP w (kAo l3 [])),[.cells (l3.flatMap (qg encI).c)]))) ?_ ?_
 ·refine Goes.sub (s':=(ofG 77 (kC n w [(5,.gslice 0 ([]:List (List Int)).length 1),(6,.i 1)]),[.cells (([]:List (List Int)).flatMap (qg encI).c)])) (Uc [] [none] rfl rfl (.keep (.same nI) (.keep (.same (qa encI _)) (.keep .nil (.keep (.same nI) .nil)))) (.fresh .nil)) ?_;refine Ue (fun M s=> ∃(v:List (List Int)) (p:Int),s=(ofG 77 (kC n w (kAo v [(6,.i p)])),[.cells (v.flatMap (qg encI).c)])/\xQ n M v p=some r4) ?_ (m:=N) ⟨_,_,rfl,g4⟩;rintro M s ⟨v,p,rfl,g4⟩
  cases M with
  |zero=>simp only[xQ]at g4;cases g4
  |succ M=>
   rw[xQ]at g4;refine sq ?_;refine sh fol (kC n w (kAo v ((6,.i p)::(kBa (decide (p<=n)))))) ?_;refine ihD g4 (fun c5 g4=>?_) (fun c5 g4=>?_)
   ·refine Goes.skip ?_;refine sq (Goes.block ?_);obtain⟨C,B,g4⟩:=bnd g4;refine gq fol [4] (kC n w [(5,.gslice 3 C.length 1),(6,.i p)]) (.dead::(kAA p (kBq [.cells ((v).flatMap ((qg encI)).c++[.slice 1 0 1 1 1])]))) (ac (hs (.run [0,2] (vM ZT [26,26] (.gslice 0 v.length 1) (.slice 2 0 1 1 1)) (.cells (v.flatMap (qg encI).c)::(kAA p (kBq []))) (.gslice 3 C.length 1) (.dead::(kAA p (kBq [.cells ((v).flatMap ((qg encI)).c++[.slice 1 0 1 1 1])]))) true) (qt2 qfR (E:=(qg encI)) (l:=v) (x:=([p]:List Int)) rfl rfl rfl rfl rfl rfl rfl B rfl)) az) ?_;refine Goes.sub (show Sub _ (ofG 77 (kC n w (kAo C [(6,.i p)])),[.cells (C.flatMap (qg encI).c)])from(Uc [1] [some 3] rfl rfl (.keep (.same nI) (.keep (.same (qa encI _)) (.keep (.gslice rfl) (.keep (.same nI) .nil)))) (.kb rfl (yj.my (E:=(qg encI)) B (rc (.frz (Fz.lit rfl rfl (Uh (AllST.cons tI AllST.nil))) (qa encI _)) rn)) .nil))) ?_;refine gh fol (kC n w (kAo C [(6,.i (w64 (p+1)))])) ?_;exact⟨M,(ofG 77 (kC n w (kAo C [(6,.i (w64 (p+1)))])),[.cells (C.flatMap (qg encI).c)]),Nat.lt_succ_self _,(Sub.refl _),_,_,rfl,g4⟩
   refine Goes.exit ?_;obtain rfl:=si g4;exact⟨rfl,_,rfl,(Sub.keep [1,5] rfl rfl)⟩
 rintro x s' ⟨rfl,l3,rfl,hsub⟩;refine Goes.sub hsub ?_;refine sq ?_;refine sh fol (kBP w (kAo l3 kBH)) ?_;refine Goes.block ?_;obtain⟨r10,g10,h⟩:=bnd h;refine Goes.imp (Q:=fun x s'=>(x= .exit 2/\ ∃Z,Z=r10/\Sub s' (ofG 77 (kAo Z []),[.cells (Z.flatMap (qg encI).c)]))) ?_ ?_
 ·refine Ue (fun M s=> ∃(b:List (List Int)) (k:Int),s=(ofG 77 (kZ w b k []),[.cells (b.flatMap (qg encI).c)])/\xR N w M b k=some r10) ?_ (m:=N) ⟨_,_,rfl,g10⟩;rintro M s ⟨b,k,rfl,g10⟩
  cases M with
  |zero=>simp only[xR]at g10;cases g10
  |succ M=>
   rw[xR]at g10;refine sq ?_;refine sh fol (kZ w b k [(24,.bool (decide (k<(w.length:Int))))]) ?_;refine ihD g10 (fun c11 g10=>?_) (fun c11 g10=>?_)
   ·refine Goes.skip ?_;refine sq ?_;obtain⟨r13,g13,g10⟩:=bnd g10;refine Goes.imp (Q:=fun x s'=>(x= .normal/\ ∃o,o=r13/\Sub s' (ofG 77 (kZ w o k []),[.cells (o.flatMap (qg encI).c)]))) ?_ ?_
    ·refine Goes.block ?_;obtain⟨x14,e,g13⟩:=bnd g13;obtain⟨a,D,g13⟩:=bnd g13;refine sq (gr fol [2,3,4] (kZ w b k (kAx a)) (ac (iv zO encI e) (ac (lv 0 ce3 encI e rfl) (ac (cv (ja x14 D)) az))) ?_);obtain⟨g,d,g13⟩:=bnd g13;obtain⟨j,f,g13⟩:=bnd g13;refine sq (gr fol [3,4,7,8] (kZ w b k ((8,.i a)::(kAL g j []))) (ac (hs (.done (.opt (qd ZT 26 (.gslice 0 b.length 1) (.i (w64 (a-1))))) (.ptr 0 ((w64 (a-1):Int).toNat*1+0))) (qac qfR d)) (ac (hs (.run [0] (zV ZT 22 (.ptr 0 ((w64 (a-1):Int).toNat*1+0))) [.cells (b.flatMap (qg encI).c)] (vl encI g) [.cells (b.flatMap (qg encI).c)] false) (qcK qme (E:=(qg encI)) (l:=b) rfl rfl d (nl rfl) rfl)) (ac (hs (.done (.opt (qd ZT 26 (.gslice 0 b.length 1) (.i a))) (.ptr 0 ((a:Int).toNat*1+0))) (qac qfR f)) (ac (hs (.run [0] (zV ZT 22 (.ptr 0 ((a:Int).toNat*1+0))) [.cells (b.flatMap (qg encI).c)] (vl encI j) [.cells (b.flatMap (qg encI).c)] false) (qcK qme (E:=(qg encI)) (l:=b) rfl rfl f (nl rfl) rfl)) az)))) ?_);refine sq (gr fol [2,3] (kZ w b k ((8,.i a)::(kAL g j [(45,.bool (decide (x14>0)))]))) (ac (iv zO encI e) (ac (lv 0 ce3 encI e rfl) az)) ?_);refine ihD g13 (fun c18 g13=>?_) (fun c18 g13=>?_)
     ·obtain⟨r19,F,g13⟩:=bnd g13;obtain⟨r20,G,g13⟩:=bnd g13;obtain⟨r21,H,g13⟩:=bnd g13;obtain⟨I,J,g13⟩:=bnd g13;obtain⟨K,q,g13⟩:=bnd g13;obtain⟨x25,L,g13⟩:=bnd g13;obtain⟨z,r,g13⟩:=bnd g13;refine gq fol [7,9,10,11,13,14,15,16] (kZ w b k []) [.cells (z.flatMap (qg encI).c)] (ac (cv (xE g j F)) (ac (cv (qd6 N g G)) (ac (cv (xE r19 r20 H)) (ac (hs (.callH 19 [vl encI r21] [.cells (b.flatMap (qg encI).c)] [] (vl encI I) [.cells (b.flatMap (qg encI).c)]) (zH [] [none] (qdr N r21 J) .nil rfl rfl (.old rfl rfl .nil) (rc (.same (qa encI _)) rn) (.same (qa encI _)) rfl)) (ac (hs (.done (.opt (qd ZT 26 (.gslice 0 b.length 1) (.i (w64 (a-1))))) (.ptr 0 ((w64 (a-1):Int).toNat*1+0))) (qac qfR d)) (ac (hs (.run [0] (qI ZT 22 (.ptr 0 ((w64 (a-1):Int).toNat*1+0)) (vl encI I)) [.cells (b.flatMap (qg encI).c)] .undef [.cells (K.flatMap (qg encI).c)] true) (qaU (E:=(qg encI)) (l:=b) (y:=I) rfl (show _=some 1 by kernel_rfl) rfl d rfl rfl rfl rfl rfl q rfl)) (ac (hs (.done (.opt (qd ZT 26 (.gslice 0 b.length 1) (.i a))) (.ptr 0 ((a:Int).toNat*1+0))) (qac qfR f)) (ac (hs (.run [0] (qI ZT 22 (.ptr 0 ((a:Int).toNat*1+0)) (vl encI g)) [.cells (K.flatMap (qg encI).c)] .undef [.cells (z.flatMap (qg encI).c)] true) (qaU (E:=(qg encI)) (l:=K) (y:=g) rfl (show _=some 1 by kernel_rfl) rfl L rfl rfl rfl rfl rfl r rfl)) az)))))))) ?_;obtain rfl:=si g13;exact⟨rfl,_,rfl,((show Sub _ (ofG 77 (kZ w z k []),[.cells (z.flatMap (qg encI).c)])from(Uc [] [some 0] rfl rfl (.keep (.same (qa encI _)) (.keep (.gsliceE rfl ((jM q).trans (jM r))) (.keep (.same nI) .nil))) (.ks .nil))).trans (Sub.refl _))⟩
     obtain⟨r27,O,g13⟩:=bnd g13;obtain⟨r28,P,g13⟩:=bnd g13;obtain⟨r29,T,g13⟩:=bnd g13;obtain⟨U,V,g13⟩:=bnd g13;obtain⟨X,t,g13⟩:=bnd g13;obtain⟨x33,Y,g13⟩:=bnd g13;obtain⟨A,u,g13⟩:=bnd g13;refine gq fol [7,9,11,12,13,14,15,16] (kZ w b k []) [.cells (A.flatMap (qg encI).c)] (ac (cv (qd6 N j O)) (ac (cv (xE r27 g P)) (ac (cv (xE r28 j T)) (ac (hs (.callH 19 [vl encI r29] [.cells (b.flatMap (qg encI).c)] [] (vl encI U) [.cells (b.flatMap (qg encI).c)]) (zH [] [none] (qdr N r29 V) .nil rfl rfl (.old rfl rfl .nil) (rc (.same (qa encI _)) rn) (.same (qa encI _)) rfl)) (ac (hs (.done (.opt (qd ZT 26 (.gslice 0 b.length 1) (.i (w64 (a-1))))) (.ptr 0 ((w64 (a-1):Int).toNat*1+0))) (qac qfR d)) (ac (hs (.run [0] (qI ZT 22 (.ptr 0 ((w64 (a-1):Int).toNat*1+0)) (vl encI j)) [.cells (b.flatMap (qg encI).c)] .undef [.cells (X.flatMap (qg encI).c)] true) (qaU (E:=(qg encI)) (l:=b) (y:=j) rfl (show _=some 1 by kernel_rfl) rfl d rfl rfl rfl rfl rfl t rfl)) (ac (hs (.done (.opt (qd ZT 26 (.gslice 0 b.length 1) (.i a))) (.ptr 0 ((a:Int).toNat*1+0))) (qac qfR f)) (ac (hs (.run [0] (qI ZT 22 (.ptr 0 ((a:Int).toNat*1+0)) (vl encI U)) [.cells (X.flatMap (qg encI).c)] .undef [.cells (A.flatMap (qg encI).c)] true) (qaU (E:=(qg encI)) (l:=X) (y:=U) rfl (show _=some 1 by kernel_rfl) rfl Y rfl rfl rfl rfl rfl u rfl)) az)))))))) ?_;obtain rfl:=si g13;exact⟨rfl,_,rfl,((show Sub _ (ofG 77 (kZ w A k []),[.cells (A.flatMap (qg encI).c)])from(Uc [] [some 0] rfl rfl (.keep (.same (qa encI _)) (.keep (.gsliceE rfl ((jM t).trans (jM u))) (.keep (.same nI) .nil))) (.ks .nil))).trans (Sub.refl _))⟩
    rintro x s' ⟨rfl,o,rfl,hsub⟩;refine Goes.sub hsub ?_;refine gh fol (kZ w o (w64 (k+1)) []) ?_;exact⟨M,(ofG 77 (kZ w o (w64 (k+1)) []),[.cells (o.flatMap (qg encI).c)]),Nat.lt_succ_self _,(Sub.refl _),_,_,rfl,g10⟩
   refine Goes.exit ?_;obtain rfl:=si g10;exact⟨rfl,_,rfl,(Sub.keep [5] rfl rfl)⟩
 rintro x s' ⟨rfl,Z,rfl,hsub⟩;refine Goes.sub hsub ?_;refine sh fol [(4,.gslice 0 Z.length 1)] ?_;refine Goes.ret ?_;obtain rfl:=si h;exact(gw2 [.gslice 0 Z.length 1] (Us (Fz.gs (E:=(qg encI)) rfl rfl (nl rfl))))
def jC (l:List Int):Nat->Int->Option (Unit⊕Int)
 |0,_=>none
 |K+1,a=>
  if a<(l.length:Int)then
  (idx l a).bind fun b=>
  if(!decide (b=0))=true then
  some (.inr b)
  else
  jC l K (w64 (a+1))
  else
  some (.inl ())
def qO (N:Nat) (l:List Int):Option Int:=
 (jC l N 0).bind (fun
 |(.inl ())=>
 some 0
 |(.inr a)=>
 some a)
theorem zy (N:Nat) (l:List Int) {res:Int} (h:qO N l=some res):qc ZT (.fn 24) [vl encI l] [] (.i res) []:=by
 unfold qO at h;refine Ub Tryz.func24 rfl rfl (m:=15) rfl (rs:=[.tmp 2]) rfl (l:=(kAC l [])) rfl ?_;refine sh fol (kAC l []) ?_;refine sq ?_;refine sh fol ((5,vl encI l)::(6,.i (l.length:Int))::kBH) ?_;refine Goes.block ?_;obtain⟨d,g2,h⟩:=bnd h;refine Goes.imp (Q:=fun x s'=>(x= .exit 0/\(.inl ())=d/\Sub s' (ofG 15 [],[]))\/(x= .ret/\ ∃e,(.inr e)=d/\jw ZT [.tmp 2] (.i e) .ret s')) ?_ ?_
 ·refine Ue (fun M s=> ∃(a:Int),s=(ofG 15 ((5,vl encI l)::(kBJ (l.length:Int) a [])),[])/\jC l M a=some d) ?_ (m:=N) ⟨_,rfl,g2⟩;rintro M s ⟨a,rfl,g2⟩
  cases M with
  |zero=>simp only[jC]at g2;cases g2
  |succ M=>
   rw[jC]at g2;refine sh fol ((5,vl encI l)::(kBJ (l.length:Int) a [(8,.bool (decide (a<(l.length:Int))))])) ?_;refine sq ?_;refine ihD g2 (fun f g2=>?_) (fun f g2=>?_)
   ·refine Goes.skip ?_;refine sq (Goes.block ?_);obtain⟨c,b,g2⟩:=bnd g2;refine sq (gr fol [0,1] ((4,.i c)::(5,vl encI l)::(kBJ (l.length:Int) a [])) (ac (iv sl83 encI b) (ac (lv 0 ce28 encI b rfl) az)) ?_);refine sh fol ((4,.i c)::(5,vl encI l)::(kBJ (l.length:Int) a [(12,.bool (!decide (c=0)))])) ?_;refine ihB g2 (fun c6 g2=>?_) (fun c6 g2=>?_)
    ·refine sh fol [(2,.i c)] ?_;refine Goes.ret ?_;obtain rfl:=si g2;exact Or.inr (⟨rfl,_,rfl,(gw2 [.i c] (Ua tI))⟩)
    refine Goes.skip ?_;refine gh fol ((5,vl encI l)::(kBJ (l.length:Int) (w64 (a+1)) [])) ?_;exact⟨M,(ofG 15 ((5,vl encI l)::(kBJ (l.length:Int) (w64 (a+1)) [])),[]),Nat.lt_succ_self _,(Sub.refl _),_,rfl,g2⟩
   refine Goes.exit ?_;obtain rfl:=si g2;exact Or.inl (⟨rfl,rfl,(Sub.keep [] rfl rfl)⟩)
 rintro x s' (⟨rfl,rfl,hsub⟩|⟨rfl,g,rfl,hret⟩)
 ·try dsimp only at h
  refine Goes.sub hsub ?_;refine sh fol [(2,.i 0)] ?_;refine Goes.ret ?_;obtain rfl:=si h;exact(gw2 [.i 0] (Ua tI))
 try dsimp only at h
 obtain rfl:=si h;exact hret
def qB (holds:Bool) (e:Int):Option Int:=
 if holds=true then
 some e
 else
 some 0
theorem qh (holds:Bool) (e:Int) {res:Int} (h:qB holds e=some res):qc ZT (.fn 25) [.bool holds,.i e] [] (.i res) []:=by
 unfold qB at h;refine Ub Tryz.func25 rfl rfl (m:=7) rfl (rs:=[.tmp 4]) rfl (l:=((0,.bool holds)::(kBM e))) rfl ?_;refine sh fol ((0,.bool holds)::(kBM e)) ?_;refine sq ?_;refine sh fol [(1,.i e),(5,.bool holds)] ?_;refine ihB h (fun a h=>?_) (fun a h=>?_)
 ·refine sh fol (kBf e) ?_;refine Goes.ret ?_;obtain rfl:=si h;exact(gw2 [.i e] (Ua tI))
 refine Goes.skip ?_;refine sh fol [(4,.i 0)] ?_;refine Goes.ret ?_;obtain rfl:=si h;exact(gw2 [.i 0] (Ua tI))
def qaC (n:Int):Option Int:=
 (if n<1 then
 (qB true 3).bind fun a=>
 some a
 else
 (qB (decide (n>12)) 3).bind fun b=>
 some b:Option Int).bind fun c=>
 some c
theorem qeQ (n:Int) {res:Int} (h:qaC n=some res):qc ZT (.fn 64) [.i n] [] (.i res) []:=by
 unfold qaC at h;refine Ub Tryz.func64 rfl rfl (m:=10) rfl (rs:=[.tmp 2]) rfl (l:=(kBe n)) rfl ?_;refine sh fol (kBe n) ?_;refine sq ?_;obtain⟨e,a,h⟩:=bnd h;refine Goes.cut (s':=(ofG 10 [(2,.i e)],[])) ?_ ?_
 ·rcases wyD a with⟨d,a⟩|⟨d,a⟩
  ·obtain⟨f,b,a⟩:=bnd a;obtain rfl:=si a;exact tr fol [2,6] [(2,.i f)] (ac (gw d) (ac (cv (qh true 3 b)) az))
  obtain⟨g,c,a⟩:=bnd a;obtain rfl:=si a;exact tr fol [2,6] [(2,.i g)] (ac (gw d) (ac (cv (qh (decide (n>12)) 3 c)) az))
 refine Goes.ret ?_;obtain rfl:=si h;exact(gw2 [.i e] (Ua tI))
def qaL (n:Int) (letter:Int):Option Bool:=
 (if letter=0 then
 some true
 else
 if letter<=(w64 (0-n))then
 some true
 else
 some (decide (letter>=n)):Option Bool).bind fun a=>
 some a
theorem qcd (n:Int) (letter:Int) {res:Bool} (h:qaL n letter=some res):qc ZT (.fn 67) [.i n,.i letter] [] (.bool res) []:=by
 unfold qaL at h;refine Ub Tryz.func67 rfl rfl (m:=18) rfl (rs:=[.tmp 4]) rfl (l:=((0,.i n)::(kBM letter))) rfl ?_;refine sh fol ((0,.i n)::(kBM letter)) ?_;refine sq ?_;obtain⟨d,a,h⟩:=bnd h;refine Goes.cut (s':=(ofG 18 (kA1 d),[])) ?_ ?_
 ·rcases wyD a with⟨b,a⟩|⟨b,a⟩
  ·obtain rfl:=si a;exact tr fol [2] kBB (ac (gw b) az)
  rcases wyD a with⟨c,a⟩|⟨c,a⟩
  ·obtain rfl:=si a;exact tr fol [2,8] kBB (ac (gw b) (ac (gw c) az))
  obtain rfl:=si a;exact tr fol [2,8] (kA1 (decide (letter>=n))) (ac (gw b) (ac (gw c) az))
 refine Goes.ret ?_;obtain rfl:=si h;exact(gw2 [.bool d] (Ua tB))
def xw (a:Int) (b:Int):Option Bool:=
 (qaL b a).bind fun c=>
 some c
theorem qdN (a:Int) (b:Int) {res:Bool} (h:xw a b=some res):qc ZT (.fn 66) [.i a,.fptr [.i b] 0] [] (.bool res) []:=by
 unfold xw at h;refine Ub Tryz.func66 rfl rfl (m:=7) rfl (rs:=[.tmp 3]) rfl (l:=[(0,.i a),(1,.fptr [.i b] 0)]) rfl ?_;refine sh fol [(0,.i a),(1,.fptr [.i b] 0)] ?_;obtain⟨d,c,h⟩:=bnd h;refine sq (gr fol [2] (kBm d) (ac (cv (qcd b a c)) az) ?_);refine Goes.ret ?_;obtain rfl:=si h;exact(gw2 [.bool d] (Ua tB))
def kg (a:List Int) (b:Int):Nat->Int->Option (Unit⊕Int)
 |0,_=>none
 |K+1,c=>
  if c<(a.length:Int)then
  (idx a c).bind fun d=>
  (xw d b).bind fun e=>
  if e=true then
  some (.inr c)
  else
  kg a b K (w64 (c+1))
  else
  some (.inl ())
def yx (N:Nat) (a:List Int) (b:Int):Option Int:=
 (kg a b N 0).bind (fun
 |(.inl ())=>
 some (-1)
 |(.inr c)=>
 some c)
theorem qdh (N:Nat) (a:List Int) (b:Int) {res:Int} (h:yx N a b=some res):qc ZT (.fn 93) [vl encI a,.func (.func 66) [] [.fptr [.i b] 0]] [] (.i res) []:=by
 unfold yx at h;refine Ub Tryz.func93 rfl rfl (m:=19) rfl (rs:=[.tmp 4]) rfl (l:=(kAC a [(1,.func (.func 66) [] [.fptr [.i b] 0])])) rfl ?_;refine sh fol (kAC a [(1,.func (.func 66) [] [.fptr [.i b] 0])]) ?_;refine sq ?_;refine sh fol (kAC a [(1,.func (.func 66) [] [.fptr [.i b] 0]),(7,.i (a.length:Int)),(8,.i 0)]) ?_;refine Goes.block ?_;obtain⟨f,g2,h⟩:=bnd h;refine Goes.imp (Q:=fun x s'=>(x= .exit 0/\(.inl ())=f/\Sub s' (ofG 19 [],[]))\/(x= .ret/\ ∃j,(.inr j)=f/\jw ZT [.tmp 4] (.i j) .ret s')) ?_ ?_
 ·refine Ue (fun M s=> ∃(c:Int),s=(ofG 19 (kAC a ((1,.func (.func 66) [] [.fptr [.i b] 0])::(7,.i (a.length:Int))::(kAx c))),[])/\kg a b M c=some f) ?_ (m:=N) ⟨_,rfl,g2⟩;rintro M s ⟨c,rfl,g2⟩
  cases M with
  |zero=>simp only[kg]at g2;cases g2
  |succ M=>
   rw[kg]at g2;refine sh fol (kAC a [(1,.func (.func 66) [] [.fptr [.i b] 0]),(7,.i (a.length:Int)),(8,.i c),(9,.bool (decide (c<(a.length:Int))))]) ?_;refine sq ?_;refine ihD g2 (fun n g2=>?_) (fun n g2=>?_)
   ·refine Goes.skip ?_;refine sq (Goes.block ?_);refine sh fol (kAC a ((1,.func (.func 66) [] [.fptr [.i b] 0])::(5,.i c)::(7,.i (a.length:Int))::(kAx c))) ?_;obtain⟨g,d,g2⟩:=bnd g2;obtain⟨k,e,g2⟩:=bnd g2;refine sq (gr fol [3,4,5] (kAC a [(1,.func (.func 66) [] [.fptr [.i b] 0]),(5,.i c),(7,.i (a.length:Int)),(8,.i c),(16,.bool k)]) (ac (iv zO encI d) (ac (lv 0 ce3 encI d rfl) (ac (hs (.call 66 [.i g,.fptr [.i b] 0] [] [] [.i g,.fptr [.i b] 0] (.bool k)) (qdv (FzL.cons (Ud tI) (FzL.cons (Ud (Still.fptr (AllST.cons tI AllST.nil))) FzL.nil)) (qdN g b e) tB)) az))) ?_);refine ihB g2 (fun o g2=>?_) (fun o g2=>?_)
    ·refine sh fol (kBf c) ?_;refine Goes.ret ?_;obtain rfl:=si g2;exact Or.inr (⟨rfl,_,rfl,(gw2 [.i c] (Ua tI))⟩)
    refine Goes.skip ?_;refine gh fol (kAC a ((1,.func (.func 66) [] [.fptr [.i b] 0])::(7,.i (a.length:Int))::(kAx (w64 (c+1))))) ?_;exact⟨M,(ofG 19 (kAC a ((1,.func (.func 66) [] [.fptr [.i b] 0])::(7,.i (a.length:Int))::(kAx (w64 (c+1))))),[]),Nat.lt_succ_self _,(Sub.refl _),_,rfl,g2⟩
   refine Goes.exit ?_;obtain rfl:=si g2;exact Or.inl (⟨rfl,rfl,(Sub.keep [] rfl rfl)⟩)
 rintro x s' (⟨rfl,rfl,hsub⟩|⟨rfl,p,rfl,hret⟩)
 ·try dsimp only at h
  refine Goes.sub hsub ?_;refine sh fol [(4,.i (-1))] ?_;refine Goes.ret ?_;obtain rfl:=si h;exact(gw2 [.i (-1)] (Ua tI))
 try dsimp only at h
 obtain rfl:=si h;exact hret
def ve (N:Nat) (a:List Int) (b:Int):Option Bool:=
 (yx N a b).bind fun c=>
 some (decide (c>=0))
theorem qcq (N:Nat) (a:List Int) (b:Int) {res:Bool} (h:ve N a b=some res):qc ZT (.fn 65) [vl encI a,.func (.func 66) [] [.fptr [.i b] 0]] [] (.bool res) []:=by
 unfold ve at h;refine Ub Tryz.func65 rfl rfl (m:=9) rfl (rs:=[.tmp 4]) rfl (l:=(kAC a [(1,.func (.func 66) [] [.fptr [.i b] 0])])) rfl ?_;refine sh fol (kAC a [(1,.func (.func 66) [] [.fptr [.i b] 0])]) ?_;obtain⟨d,c,h⟩:=bnd h;refine sq (gr fol [2] (kA1 (decide (d>=0))) (ac (hs (.call 93 [vl encI a,.func (.func 66) [] [.fptr [.i b] 0]] [] [] [vl encI a,.func (.func 66) [] [.fptr [.i b] 0]] (.i d)) (qdv (FzL.cons (Ud (qC encI _ (nl rfl))) (FzL.cons (Fz.func FzL.nil (FzL.cons (Ud (Still.fptr (AllST.cons tI AllST.nil))) FzL.nil)) FzL.nil)) (qdh N a b c) tI)) az) ?_);refine Goes.ret ?_;obtain rfl:=si h;exact(gw2 [.bool (decide (d>=0))] (Ua tB))
def xH (N:Nat) (n:Int) (w:List Int):Option Int:=
 (qaC n).bind fun b=>
 (qB (decide ((w.length:Int)>200)) 5).bind fun c=>
 (qO N ([b,c]:List Int)).bind fun a=>
 if(!decide (a=0))=true then
 some a
 else
 (ve N w n).bind fun d=>
 (qB d 3).bind fun e=>
 some e
theorem qdz (N:Nat) (n:Int) (w:List Int) {res:Int} (h:xH N n w=some res):qc ZT (.fn 38) [.i n,vl encI w] [] (.i res) []:=by
 unfold xH at h;refine Ub Tryz.func38 rfl rfl (m:=21) rfl (rs:=[.tmp 4]) rfl (l:=(kC n w [])) rfl ?_;refine sg fol (kBP w kBE) (kAA n []) ?_;refine sq ?_;obtain⟨b,c,h⟩:=bnd h;obtain⟨d,e,h⟩:=bnd h;obtain⟨a,f,h⟩:=bnd h;refine sq (gq fol [1,5,7] (kBP w [(2,.ptr 0 0),(5,.i a)]) (kAA n (kW b d [])) (ac (cv (qeQ n c)) (ac (cv (qh (decide ((w.length:Int)>200)) 5 e)) (ac (hs (.call 24 [.slice 1 0 2 2 1] (kAA n (kW b d [])) [1] [vl encI ([b,d]:List Int)] (.i a)) (vZ (FzL.cons (Fz.lit rfl rfl (Uh (AllST.cons tI (AllST.cons tI AllST.nil)))) FzL.nil) (zy N ([b,d]:List Int) f) tI rfl)) az))) ?_);refine sh fol (kBP w [(2,.ptr 0 0),(5,.i a),(15,.bool (!decide (a=0)))]) ?_;refine ihB h (fun p h=>?_) (fun p h=>?_)
 ·refine sh fol (kBf a) ?_;refine Goes.ret ?_;obtain rfl:=si h;exact(gw2 [.i a] (Ua tI))
 refine Goes.skip ?_;obtain⟨k,g,h⟩:=bnd h;obtain⟨o,j,h⟩:=bnd h;refine sq (gr fol [2,3] (kBf o) (ac (hs (.call 65 [vl encI w,.func (.func 66) [] [.ptr 0 0]] (kAA n (kW b d [])) [0] [vl encI w,.func (.func 66) [] [.fptr [.i n] 0]] (.bool k)) (vZ (FzL.cons (Ud (qC encI _ (nl rfl))) (FzL.cons (Fz.func FzL.nil (FzL.cons (Fz.ptr rfl rfl (FzL.cons (Ud tI) FzL.nil)) FzL.nil)) FzL.nil)) (qcq N w n g) tB rfl)) (ac (cv (qh k 3 j)) az)) ?_);refine Goes.ret ?_;obtain rfl:=si h;exact(gw2 [.i o] (Ua tI))
def jK (N:Nat) (n:Int) (a:List Int) (b:List Int):Option Int:=
 (xH N n a).bind fun c=>
 (xH N n b).bind fun d=>
 (qO N ([c,d]:List Int)).bind fun e=>
 some e
theorem xq (N:Nat) (n:Int) (a:List Int) (b:List Int) {res:Int} (h:jK N n a b=some res):qc ZT (.fn 22) (.i n::(kAt a b)) [] (.i res) []:=by
 unfold jK at h;refine Ub Tryz.func22 rfl rfl (m:=15) rfl (rs:=[.tmp 6]) rfl (l:=(kC n a (kAp b []))) rfl ?_;refine sh fol (kC n a (kAp b [])) ?_;obtain⟨f,c,h⟩:=bnd h;obtain⟨g,d,h⟩:=bnd h;obtain⟨j,e,h⟩:=bnd h;refine sq (gq fol [2,5,7] [(6,.i j)] (kW f g []) (ac (cv (qdz N n a c)) (ac (cv (qdz N n b d)) (ac (hs (.call 24 [.slice 0 0 2 2 1] (kW f g []) [0] [vl encI ([f,g]:List Int)] (.i j)) (vZ (FzL.cons (Fz.lit rfl rfl (Uh (AllST.cons tI (AllST.cons tI AllST.nil)))) FzL.nil) (zy N ([f,g]:List Int) e) tI rfl)) az))) ?_);refine Goes.ret ?_;obtain rfl:=si h;exact(gw2 [.i j] (Ua tI))
def qX (n:Int):Option Int:=
 some (if(w64 (0-n))>n then(w64 (0-n))else n)
theorem qp (n:Int) {res:Int} (h:qX n=some res):qc ZT (.fn 47) [.i n] [] (.i res) []:=by
 unfold qX at h;refine Ub Tryz.func47 rfl rfl (m:=7) rfl (rs:=[.tmp 2]) rfl (l:=(kBe n)) rfl ?_;refine sh fol (kBe n) ?_;refine sh fol [(2,.i (if(w64 (0-n))>n then(w64 (0-n))else n))] ?_;refine Goes.ret ?_;obtain rfl:=si h;exact(gw2 [.i (if(w64 (0-n))>n then(w64 (0-n))else n)] (Ua tI))
def ji (p:List Int) (i:Int):Option (List Int):=
 (qjT p).bind fun _=>
 (idx p (w64 (i+1))).bind fun b=>
 (idx p i).bind fun c=>
 (put p i b).bind fun a=>
 (idx a (w64 (i+1))).bind fun e=>
 (put a (w64 (i+1)) c).bind fun d=>
 some d
theorem qab (p:List Int) (i:Int) {res:List Int} (h:ji p i=some res):qc ZT (.fn 74) (kBk p i) [] (vl encI res) []:=by
 unfold ji at h;refine Ub Tryz.func74 rfl rfl (m:=25) rfl (rs:=[.tmp 4]) rfl (l:=(kAC p (kBM i))) rfl ?_;refine sh fol (kAC p (kBM i)) ?_;obtain⟨_,f,h⟩:=bnd h;refine sq (gq fol [1] ((1,.i i)::(kAo p [])) (kA p []) (ac (hs (.callH 97 [vl encI p] [] [] (.gslice 0 p.length 1) (kA p [])) (zH [] [some 0] (qqw p f) .nil rfl rfl (.new rfl rfl (.same fa) rfl .nil) (rc (.same (qa encI _)) rn) (.gslice rfl) rfl)) az) ?_);obtain⟨j,b,h⟩:=bnd h;obtain⟨k,a,h⟩:=bnd h;obtain⟨n,c,h⟩:=bnd h;obtain⟨o,g,h⟩:=bnd h;obtain⟨e,d,h⟩:=bnd h;refine sq (gq fol [8,9,12,13,14,15,16,17] (kAo p []) (kA e []) (ac (hs (.done (.opt (qd ZT 118 (.gslice 0 p.length 1) (.i (w64 (i+1))))) (.ptr 0 ((w64 (i+1):Int).toNat*1+0))) (qac qbN b)) (ac (hs (.run [0] (zV ZT 3 (.ptr 0 ((w64 (i+1):Int).toNat*1+0))) (kA p []) (.i j) (kA p []) false) (qcK ce3 (E:=encI) (l:=p) rfl rfl b (nl rfl) rfl)) (ac (hs (.done (.opt (qd ZT 118 (.gslice 0 p.length 1) (.i i))) (.ptr 0 ((i:Int).toNat*1+0))) (qac qbN a)) (ac (hs (.run [0] (zV ZT 3 (.ptr 0 ((i:Int).toNat*1+0))) (kA p []) (.i k) (kA p []) false) (qcK ce3 (E:=encI) (l:=p) rfl rfl a (nl rfl) rfl)) (ac (hs (.done (.opt (qd ZT 118 (.gslice 0 p.length 1) (.i i))) (.ptr 0 ((i:Int).toNat*1+0))) (qac qbN a)) (ac (hs (.run [0] (qI ZT 3 (.ptr 0 ((i:Int).toNat*1+0)) (.i j)) (kA p []) .undef (kA n []) true) (qaU (E:=encI) (l:=p) (y:=j) rfl (show _=some 1 by kernel_rfl) rfl a rfl rfl rfl rfl rfl c rfl)) (ac (hs (.done (.opt (qd ZT 118 (.gslice 0 p.length 1) (.i (w64 (i+1))))) (.ptr 0 ((w64 (i+1):Int).toNat*1+0))) (qac qbN b)) (ac (hs (.run [0] (qI ZT 3 (.ptr 0 ((w64 (i+1):Int).toNat*1+0)) (.i k)) (kA n []) .undef (kA e []) true) (qaU (E:=encI) (l:=n) (y:=k) rfl (show _=some 1 by kernel_rfl) rfl g rfl rfl rfl rfl rfl d rfl)) az)))))))) ?_);refine Goes.sub (show Sub _ (ofG 25 (kAo e []),(kA e []))from(Uc [] [some 0] rfl rfl (.keep (.gsliceE rfl ((jM c).trans (jM d))) .nil) (.ks .nil))) ?_;refine sh fol [(4,.gslice 0 e.length 1)] ?_;refine Goes.ret ?_;obtain rfl:=si h;exact(gw2 [.gslice 0 e.length 1] (Us (Fz.gs (E:=encI) rfl rfl (nl rfl))))
def zL (p:List Int):Nat->(List Int)->Int->Option (List Int)
 |0,_,_=>none
 |K+1,b,a=>
  if a<(p.length:Int)then
  (idx p a).bind fun c=>
  (idx b (w64 ((w64 ((p.length:Int)-1))-a))).bind fun e=>
  (put b (w64 ((w64 ((p.length:Int)-1))-a)) (w64 ((w64 ((p.length:Int)-1))-c))).bind fun d=>
  zL p K d (w64 (a+1))
  else
  some b
def yc (N:Nat) (p:List Int):Option (List Int):=
 (mk 8 (p.length:Int) 0).bind fun a=>
 (zL p N a 0).bind fun b=>
 some b
theorem qef (N:Nat) (p:List Int) {res:List Int} (h:yc N p=some res):qc ZT (.fn 76) [vl encI p] [] (vl encI res) []:=by
 unfold yc at h;refine Ub Tryz.func76 rfl rfl (m:=30) rfl (rs:=[.tmp 2]) rfl (l:=(kAC p [])) rfl ?_;refine sh fol (kAC p []) ?_;refine sh fol (kAC p [(3,.i (p.length:Int))]) ?_;obtain⟨g,k,h⟩:=bnd h;refine sq (gq fol [1] (kAC p [(3,.i (p.length:Int)),(4,.slice 0 0 g.length g.length 1)]) (kA g []) (ac (hs (.run [] (yD ZT 118 (.i (p.length:Int)) (.i (p.length:Int))) [] (.slice 0 0 g.length g.length 1) (kA g []) false) (qgr qbN (E:=encI) (z:=0) rfl (by kernel_rfl) k rfl)) az) ?_);refine sq ?_;refine sh fol (kY (p.length:Int) g p [(13,.i 0)]) ?_;refine Goes.block ?_;obtain⟨o,g5,h⟩:=bnd h;refine Goes.imp (Q:=fun x s'=>(x= .exit 0/\ ∃c,c=o/\Sub s' (ofG 30 [(4,.slice 0 0 c.length c.length 1)],(kA c [])))) ?_ ?_
 ·refine Ue (fun M s=> ∃(b:List Int) (a:Int),s=(ofG 30 (kY (p.length:Int) b p [(13,.i a)]),(kA b []))/\zL p M b a=some o) ?_ (m:=N) ⟨_,_,rfl,g5⟩;rintro M s ⟨b,a,rfl,g5⟩
  cases M with
  |zero=>simp only[zL]at g5;cases g5
  |succ M=>
   rw[zL]at g5;refine sh fol (kY (p.length:Int) b p ((13,.i a)::(kBR (decide (a<(p.length:Int)))))) ?_;refine sq ?_;refine ihD g5 (fun c6 g5=>?_) (fun c6 g5=>?_)
   ·refine Goes.skip ?_;refine sq (Goes.block ?_);obtain⟨n,d,g5⟩:=bnd g5;refine sq (gr fol [1,2] ((3,.i (p.length:Int))::(4,.slice 0 0 b.length b.length 1)::(5,.i a)::(6,.i n)::(11,vl encI p)::(kAM (p.length:Int) a [])) (ac (iv qbN encI d) (ac (lv 0 ce3 encI d rfl) az)) ?_);obtain⟨q,e,g5⟩:=bnd g5;obtain⟨j,f,g5⟩:=bnd g5;refine gq fol [9,10] (kY (p.length:Int) b p [(13,.i a)]) (kA j []) (ac (hs (.done (.opt (qd ZT 118 (.slice 0 0 b.length b.length 1) (.i (w64 ((w64 ((p.length:Int)-1))-a))))) (.ptr 0 ((w64 ((w64 ((p.length:Int)-1))-a):Int).toNat*1+0))) (xN qbN e)) (ac (hs (.run [0] (qI ZT 3 (.ptr 0 ((w64 ((w64 ((p.length:Int)-1))-a):Int).toNat*1+0)) (.i (w64 ((w64 ((p.length:Int)-1))-n)))) (kA b []) .undef (kA j []) true) (qaU (E:=encI) (l:=b) (y:=w64 ((w64 ((p.length:Int)-1))-n)) rfl (show _=some 1 by kernel_rfl) rfl e rfl rfl rfl rfl rfl f rfl)) az)) ?_;refine Goes.sub (show Sub _ (ofG 30 (kY (p.length:Int) j p [(13,.i a)]),(kA j []))from(Uc [] [some 0] rfl rfl (.keep (.same nI) (.keep (.sliceE rfl (jM f)) (.keep (.same (qa encI _)) (.keep (.same nI) (.keep (.same nI) .nil))))) (.ks .nil))) ?_;refine gh fol (kY (p.length:Int) j p [(13,.i (w64 (a+1)))]) ?_;exact⟨M,(ofG 30 (kY (p.length:Int) j p [(13,.i (w64 (a+1)))]),(kA j [])),Nat.lt_succ_self _,(Sub.refl _),_,_,rfl,g5⟩
   refine Goes.exit ?_;obtain rfl:=si g5;exact⟨rfl,_,rfl,(Sub.keep [4] rfl rfl)⟩
 rintro x s' ⟨rfl,c,rfl,hsub⟩;refine Goes.sub hsub ?_;refine sh fol (kBN c) ?_;refine Goes.ret ?_;obtain rfl:=si h;exact(gw2 [.slice 0 0 c.length c.length 1] (Us (Fz.sl (E:=encI) rfl rfl (nl rfl))))
def jg (c:List Int):Nat->(List Int)->Int->Option (List Int)
 |0,_,_=>none
 |K+1,b,a=>
  if a<(c.length:Int)then
  (idx b a).bind fun e=>
  (put b a a).bind fun d=>
  jg c K d (w64 (a+1))
  else
  some b
def jd (N:Nat) (a:Int):Option (List Int):=
 (mk 8 a 0).bind fun b=>
 (jg b N b 0).bind fun c=>
 some c
theorem vY (N:Nat) (c:Int) {n:List Int} (h:jd N c=some n):qc ZT (.fn 72) [.i c] [] (.slice 0 0 n.length n.length 1) (kA n []):=by
 unfold jd at h;refine Ui Tryz.func72 rfl rfl (m:=18) rfl (rs:=[.tmp 2]) rfl (l:=(kBe c)) rfl ?_;intro B hB;refine sh fol (kBe c) ?_;obtain⟨a,k,h⟩:=bnd h;refine sq (gq fol [1] (kV a []) (kA a []) (ac (hs (.run [] (yD ZT 22 (.i c) (.i c)) [] (.slice 0 0 a.length a.length 1) (kA a []) false) (qgr zO (E:=encI) (z:=0) rfl (by kernel_rfl) k rfl)) az) ?_);refine sq ?_;refine sh fol (kV a [(8,.i (a.length:Int)),(9,.i 0)]) ?_;refine Goes.block ?_;obtain⟨o,g6,h⟩:=bnd h;refine Goes.imp (Q:=fun x s'=>(x= .exit 0/\ ∃g,g=o/\Sub s' (ofG 18 (kV g []),(kA g [])))) ?_ ?_
 ·refine Ue (fun M s=> ∃(d:List Int) (b:Int),s=(ofG 18 (kV d ((8,.i (a.length:Int))::(kBg b))),(kA d []))/\jg a M d b=some o) ?_ (m:=N) ⟨_,_,rfl,g6⟩;rintro M s ⟨d,b,rfl,g6⟩
  cases M with
  |zero=>simp only[jg]at g6;cases g6
  |succ M=>
   rw[jg]at g6;refine sh fol (kV d ((8,.i (a.length:Int))::(9,.i b)::(kBA (decide (b<(a.length:Int)))))) ?_;refine sq ?_;refine ihD g6 (fun p g6=>?_) (fun p g6=>?_)
   ·refine Goes.skip ?_;refine sq (Goes.block ?_);refine sh fol (kV d ((4,.i b)::(8,.i (a.length:Int))::(kBg b))) ?_;obtain⟨q,e,g6⟩:=bnd g6;obtain⟨j,f,g6⟩:=bnd g6;refine gq fol [3,4] (kV d ((8,.i (a.length:Int))::(kBg b))) (kA j []) (ac (hs (.done (.opt (qd ZT 22 (.slice 0 0 d.length d.length 1) (.i b))) (.ptr 0 ((b:Int).toNat*1+0))) (xN zO e)) (ac (hs (.run [0] (qI ZT 3 (.ptr 0 ((b:Int).toNat*1+0)) (.i b)) (kA d []) .undef (kA j []) true) (qaU (E:=encI) (l:=d) (y:=b) rfl (show _=some 1 by kernel_rfl) rfl e rfl rfl rfl rfl rfl f rfl)) az)) ?_;refine Goes.sub (show Sub _ (ofG 18 (kV j ((8,.i (a.length:Int))::(kBg b))),(kA j []))from(Uc [] [some 0] (by rw[hB];rfl) rfl (.keep (.sliceE rfl (jM f)) (.keep (.same nI) (.keep (.same nI) .nil))) (.ks .nil))) ?_;refine gh fol (kV j ((8,.i (a.length:Int))::(kBg (w64 (b+1))))) ?_;exact⟨M,(ofG 18 (kV j ((8,.i (a.length:Int))::(kBg (w64 (b+1))))),(kA j [])),Nat.lt_succ_self _,(Sub.refl _),_,_,rfl,g6⟩
   refine Goes.exit ?_;obtain rfl:=si g6;exact⟨rfl,_,rfl,(Sub.keep [3] rfl rfl)⟩
 rintro x s' ⟨rfl,g,rfl,hsub⟩;refine Goes.sub hsub ?_;refine sh fol (kBN g) ?_;refine Goes.ret ?_;obtain rfl:=si h;exact(gh2 [.slice 0 0 g.length g.length 1] (qcE.refl _ _))
def zF:Nat->(List Int)->Int->Int->Option (List Int)
 |0,_,_,_=>none
 |K+1,c,d,a=>
  if d<a then
  (idx c a).bind fun f=>
  (idx c d).bind fun g=>
  (put c d f).bind fun b=>
  (idx b a).bind fun h=>
  (put b a g).bind fun e=>
  zF K e (w64 (d+1)) (w64 (a-1))
  else
  some c
def vP (N:Nat) (a:List Int):Option (List Int):=
 (zF N a 0 (w64 ((a.length:Int)-1))).bind fun b=>
 some b
theorem qdM (N:Nat) (b:List Int) {t:List Int} (h:vP N b=some t):qc ZT (.fn 98) [.slice 0 0 b.length b.length 1] (kA b []) (.tuple []) (kA t []):=by
 unfold vP at h;refine Ui Tryz.func98 rfl rfl (m:=28) rfl (rs:=[]) rfl (l:=[(0,.slice 0 0 b.length b.length 1)]) rfl ?_;intro B hB;refine Ul ?_;refine sh fol [(0,.slice 0 0 b.length b.length 1),(2,.i 0),(3,.i (w64 ((b.length:Int)-1)))] ?_;refine Goes.block ?_;obtain⟨u,g6,h⟩:=bnd h;refine Goes.imp (Q:=fun x s'=>(x= .exit 0/\ ∃p,p=u/\Sub s' (ofG 28 [],(kA p [])))) ?_ ?_
 ·refine Ue (fun M s=> ∃(a:List Int) (c:Int) (d:Int),s=(ofG 28 (kAa a c d []),(kA a []))/\zF M a c d=some u) ?_ (m:=N) ⟨_,_,_,rfl,g6⟩;rintro M s ⟨a,c,d,rfl,g6⟩
  cases M with
  |zero=>simp only[zF]at g6;cases g6
  |succ M=>
   rw[zF]at g6;refine sq ?_;refine sh fol (kAa a c d [(9,.bool (decide (c<d)))]) ?_;refine ihD g6 (fun v g6=>?_) (fun v g6=>?_)
   ·refine Goes.skip ?_;refine sq (Goes.block ?_);obtain⟨q,g,g6⟩:=bnd g6;obtain⟨r,f,g6⟩:=bnd g6;obtain⟨n,j,g6⟩:=bnd g6;obtain⟨w,o,g6⟩:=bnd g6;obtain⟨e,k,g6⟩:=bnd g6;refine gq fol [6,7,10,11,12,13,14,15] (kAa a c d []) (kA e []) (ac (hs (.done (.opt (qd ZT 118 (.slice 0 0 a.length a.length 1) (.i d))) (.ptr 0 ((d:Int).toNat*1+0))) (xN qbN g)) (ac (hs (.run [0] (zV ZT 3 (.ptr 0 ((d:Int).toNat*1+0))) (kA a []) (.i q) (kA a []) false) (qcK ce3 (E:=encI) (l:=a) rfl rfl g (nl rfl) rfl)) (ac (hs (.done (.opt (qd ZT 118 (.slice 0 0 a.length a.length 1) (.i c))) (.ptr 0 ((c:Int).toNat*1+0))) (xN qbN f)) (ac (hs (.run [0] (zV ZT 3 (.ptr 0 ((c:Int).toNat*1+0))) (kA a []) (.i r) (kA a []) false) (qcK ce3 (E:=encI) (l:=a) rfl rfl f (nl rfl) rfl)) (ac (hs (.done (.opt (qd ZT 118 (.slice 0 0 a.length a.length 1) (.i c))) (.ptr 0 ((c:Int).toNat*1+0))) (xN qbN f)) (ac (hs (.run [0] (qI ZT 3 (.ptr 0 ((c:Int).toNat*1+0)) (.i q)) (kA a []) .undef (kA n []) true) (qaU (E:=encI) (l:=a) (y:=q) rfl (show _=some 1 by kernel_rfl) rfl f rfl rfl rfl rfl rfl j rfl)) (ac (hs (.done (.opt (qd ZT 118 (.slice 0 0 a.length a.length 1) (.i d))) (.ptr 0 ((d:Int).toNat*1+0))) (xN qbN g)) (ac (hs (.run [0] (qI ZT 3 (.ptr 0 ((d:Int).toNat*1+0)) (.i r)) (kA n []) .undef (kA e []) true) (qaU (E:=encI) (l:=n) (y:=r) rfl (show _=some 1 by kernel_rfl) rfl o rfl rfl rfl rfl rfl k rfl)) az)))))))) ?_;refine Goes.sub (show Sub _ (ofG 28 (kAa e c d []),(kA e []))from(Uc [] [some 0] (by rw[hB];rfl) rfl (.keep (.sliceE rfl ((jM j).trans (jM k))) (.keep (.same nI) (.keep (.same nI) .nil))) (.ks .nil))) ?_;refine gh fol (kAa e (w64 (c+1)) (w64 (d-1)) []) ?_;exact⟨M,(ofG 28 (kAa e (w64 (c+1)) (w64 (d-1)) []),(kA e [])),Nat.lt_succ_self _,(Sub.refl _),_,_,_,rfl,g6⟩
   refine Goes.exit ?_;obtain rfl:=si g6;exact⟨rfl,_,rfl,(Sub.keep [] rfl rfl)⟩
 rintro x s' ⟨rfl,p,rfl,hsub⟩;obtain rfl:=si h;exact⟨_,hsub,(gh2 [] (qcE.refl _ _))⟩
def qca (N:Nat) (n:Int):Option (List Int):=
 (jd N n).bind fun a=>
 (vP N a).bind fun b=>
 ((if a.length=b.length then some ()else none:Option Unit)).bind fun c=>
 some b
theorem qf0 (N:Nat) (n:Int) {res:List Int} (h:qca N n=some res):qc ZT (.fn 77) [.i n] [] (vl encI res) []:=by
 unfold qca at h;refine Ub Tryz.func77 rfl rfl (m:=9) rfl (rs:=[.tmp 2]) rfl (l:=(kBe n)) rfl ?_;refine sh fol (kBe n) ?_;obtain⟨a,c,h⟩:=bnd h;refine sq (gq fol [1] (kV a []) (kA a []) (ac (hs (.callH 72 [.i n] [] [] (.slice 0 0 a.length a.length 1) (kA a [])) (zH [] [some 0] (vY N n c) .nil rfl rfl (.new rfl rfl (.same fa) rfl .nil) (rc (.same nI) rn) (.slice rfl) rfl)) az) ?_);obtain⟨b,d,h⟩:=bnd h;obtain⟨f,e,h⟩:=bnd h;refine sq (gq fol [1] (kV a []) (kA b []) (ac (hs (.callH 98 [.slice 0 0 a.length a.length 1] (kA a []) [0] (.tuple []) (kA b [])) (zH [some 0] [some 0] (qdM N a d) (.ks .nil) rfl rfl (.back rfl rfl (.same fa) rfl .nil) (rc (.slice rfl) rn) (.same (qH.tuple sn)) rfl)) az) ?_);refine Goes.sub (show Sub _ (ofG 9 (kV b []),(kA b []))from(Uc [] [some 0] rfl rfl (.keep (.sliceE rfl (qpb e)) .nil) (.ks .nil))) ?_;refine sh fol (kBN b) ?_;refine Goes.ret ?_;obtain rfl:=si h;exact(gw2 [.slice 0 0 b.length b.length 1] (Us (Fz.sl (E:=encI) rfl rfl (nl rfl))))
def jc (p:List Int):Nat->(List Int)->Int->Option (List Int)
 |0,_,_=>none
 |K+1,b,a=>
  if a<(p.length:Int)then
  (idx p a).bind fun c=>
  (idx b c).bind fun e=>
  (put b c a).bind fun d=>
  jc p K d (w64 (a+1))
  else
  some b
def jQ (N:Nat) (p:List Int):Option (List Int):=
 (mk 8 (p.length:Int) 0).bind fun a=>
 (jc p N a 0).bind fun b=>
 some b
theorem qaP (N:Nat) (p:List Int) {res:List Int} (h:jQ N p=some res):qc ZT (.fn 99) [vl encI p] [] (vl encI res) []:=by
 unfold jQ at h;refine Ub Tryz.func99 rfl rfl (m:=22) rfl (rs:=[.tmp 2]) rfl (l:=(kAC p [])) rfl ?_;refine sh fol (kAC p []) ?_;obtain⟨j,k,h⟩:=bnd h;refine sq (gq fol [2] (kAC p (kV j [])) (kA j []) (ac (hs (.run [] (yD ZT 118 (.i (p.length:Int)) (.i (p.length:Int))) [] (.slice 0 0 j.length j.length 1) (kA j []) false) (qgr qbN (E:=encI) (z:=0) rfl (by kernel_rfl) k rfl)) az) ?_);refine sq ?_;refine sh fol (kV j [(9,vl encI p),(10,.i (p.length:Int)),(11,.i 0)]) ?_;refine Goes.block ?_;obtain⟨o,g5,h⟩:=bnd h;refine Goes.imp (Q:=fun x s'=>(x= .exit 0/\ ∃f,f=o/\Sub s' (ofG 22 (kV f []),(kA f [])))) ?_ ?_
 ·refine Ue (fun M s=> ∃(b:List Int) (a:Int),s=(ofG 22 (kV b (kAv p (p.length:Int) a)),(kA b []))/\jc p M b a=some o) ?_ (m:=N) ⟨_,_,rfl,g5⟩;rintro M s ⟨b,a,rfl,g5⟩
  cases M with
  |zero=>simp only[jc]at g5;cases g5
  |succ M=>
   rw[jc]at g5;refine sh fol (kV b [(9,vl encI p),(10,.i (p.length:Int)),(11,.i a),(12,.bool (decide (a<(p.length:Int))))]) ?_;refine sq ?_;refine ihD g5 (fun c6 g5=>?_) (fun c6 g5=>?_)
   ·refine Goes.skip ?_;refine sq (Goes.block ?_);obtain⟨n,c,g5⟩:=bnd g5;refine sq (gr fol [1,2] (kV b ((4,.i a)::(5,.i n)::(kAv p (p.length:Int) a))) (ac (iv qbN encI c) (ac (lv 0 ce3 encI c rfl) az)) ?_);obtain⟨q,d,g5⟩:=bnd g5;obtain⟨g,e,g5⟩:=bnd g5;refine gq fol [3,4] (kV b (kAv p (p.length:Int) a)) (kA g []) (ac (hs (.done (.opt (qd ZT 118 (.slice 0 0 b.length b.length 1) (.i n))) (.ptr 0 ((n:Int).toNat*1+0))) (xN qbN d)) (ac (hs (.run [0] (qI ZT 3 (.ptr 0 ((n:Int).toNat*1+0)) (.i a)) (kA b []) .undef (kA g []) true) (qaU (E:=encI) (l:=b) (y:=a) rfl (show _=some 1 by kernel_rfl) rfl d rfl rfl rfl rfl rfl e rfl)) az)) ?_;refine Goes.sub (show Sub _ (ofG 22 (kV g (kAv p (p.length:Int) a)),(kA g []))from(Uc [] [some 0] rfl rfl (.keep (.sliceE rfl (jM e)) (.keep (.same (qa encI _)) (.keep (.same nI) (.keep (.same nI) .nil)))) (.ks .nil))) ?_;refine gh fol (kV g (kAv p (p.length:Int) (w64 (a+1)))) ?_;exact⟨M,(ofG 22 (kV g (kAv p (p.length:Int) (w64 (a+1)))),(kA g [])),Nat.lt_succ_self _,(Sub.refl _),_,_,rfl,g5⟩
   refine Goes.exit ?_;obtain rfl:=si g5;exact⟨rfl,_,rfl,(Sub.keep [3] rfl rfl)⟩
 rintro x s' ⟨rfl,f,rfl,hsub⟩;refine Goes.sub hsub ?_;refine sh fol (kBN f) ?_;refine Goes.ret ?_;obtain rfl:=si h;exact(gw2 [.slice 0 0 f.length f.length 1] (Us (Fz.sl (E:=encI) rfl rfl (nl rfl))))
def vG (N:Nat) (p:List Int) (i:Int):Option (List Int):=
 (jQ N p).bind fun a=>
 (ji a i).bind fun b=>
 (jQ N b).bind fun c=>
 some c
theorem qbX (N:Nat) (p:List Int) (i:Int) {res:List Int} (h:vG N p i=some res):qc ZT (.fn 78) (kBk p i) [] (vl encI res) []:=by
 unfold vG at h;refine Ub Tryz.func78 rfl rfl (m:=10) rfl (rs:=[.tmp 4]) rfl (l:=(kAC p (kBM i))) rfl ?_;refine sh fol (kAC p (kBM i)) ?_;obtain⟨e,a,h⟩:=bnd h;obtain⟨f,b,h⟩:=bnd h;obtain⟨d,c,h⟩:=bnd h;refine sq (gr fol [1,3,4] [(4,vl encI d)] (ac (cv (qaP N p a)) (ac (cv (qab e i b)) (ac (cv (qaP N f c)) az))) ?_);refine Goes.ret ?_;obtain rfl:=si h;exact(gw2 [vl encI d] (Ua (qC encI _ (nl rfl))))
def vH (p:List Int) (i:Int):Option Bool:=
 (idx p i).bind fun a=>
 (idx p (w64 (i+1))).bind fun b=>
 some (decide (a>b))
theorem qaG (p:List Int) (i:Int) {res:Bool} (h:vH p i=some res):qc ZT (.fn 122) (kBk p i) [] (.bool res) []:=by
 unfold vH at h;refine Ub Tryz.func122 rfl rfl (m:=15) rfl (rs:=[.tmp 4]) rfl (l:=(kAC p (kBM i))) rfl ?_;refine sh fol (kAC p (kBM i)) ?_;obtain⟨c,a,h⟩:=bnd h;obtain⟨d,b,h⟩:=bnd h;refine sq (gr fol [2,3,7,8] (kA1 (decide (c>d))) (ac (iv qbN encI a) (ac (lv 0 ce3 encI a rfl) (ac (iv qbN encI b) (ac (lv 0 ce3 encI b rfl) az)))) ?_);refine Goes.ret ?_;obtain rfl:=si h;exact(gw2 [.bool (decide (c>d))] (Ua tB))
def xP (N:Nat) (p:List Int) (i:Int):Option Bool:=
 (jQ N p).bind fun a=>
 (vH a i).bind fun b=>
 some b
theorem qe9 (N:Nat) (p:List Int) (i:Int) {res:Bool} (h:xP N p i=some res):qc ZT (.fn 123) (kBk p i) [] (.bool res) []:=by
 unfold xP at h;refine Ub Tryz.func123 rfl rfl (m:=9) rfl (rs:=[.tmp 4]) rfl (l:=(kAC p (kBM i))) rfl ?_;refine sh fol (kAC p (kBM i)) ?_;obtain⟨d,a,h⟩:=bnd h;obtain⟨c,b,h⟩:=bnd h;refine sq (gr fol [1,3] (kA1 c) (ac (cv (qaP N p a)) (ac (cv (qaG d i b)) az)) ?_);refine Goes.ret ?_;obtain rfl:=si h;exact(gw2 [.bool c] (Ua tB))
def jT (N:Nat) (a:List Int) (b:List Int):Nat->Int->Option (Unit⊕(Int×Bool))
 |0,_=>none
 |K+1,c=>
  if c<(w64 ((a.length:Int)-1))then
  ((vH b c).bind fun d=>
  if d=true then
  (xP N a c).bind fun e=>
  some (!e)
  else
  some false:Option Bool).bind fun f=>
  if f=true then
  some (.inr (c,true))
  else
  jT N a b K (w64 (c+1))
  else
  some (.inl ())
def qaO (N:Nat) (a:List Int) (b:List Int):Option (Int×Bool):=
 (jT N a b N 0).bind (fun
 |(.inl ())=>
 some (0,false)
 |(.inr c)=>
 some c)
theorem qhJ (N:Nat) (a:List Int) (b:List Int) {res:Int×Bool} (h:qaO N a b=some res):qc ZT (.fn 101) (kAt a b) [] (.tuple [.i res.1,.bool res.2]) []:=by
 unfold qaO at h;refine Ub Tryz.func101 rfl rfl (m:=24) rfl (rs:=[.tmp 4,.tmp 5]) rfl (l:=(kR a b [])) rfl ?_;refine sh fol (kR a b []) ?_;refine sq ?_;refine sh fol (kR a b [(9,.i (w64 ((a.length:Int)-1))),(10,.i 0)]) ?_;refine Goes.block ?_;obtain⟨g,g2,h⟩:=bnd h;refine Goes.imp (Q:=fun x s'=>(x= .exit 0/\(.inl ())=g/\Sub s' (ofG 24 [],[]))\/(x= .ret/\ ∃j,(.inr j)=g/\jw ZT [.tmp 4,.tmp 5] (.tuple [.i j.1,.bool j.2]) .ret s')) ?_ ?_
 ·refine Ue (fun M s=> ∃(d:Int),s=(ofG 24 (kR a b (kAq (w64 ((a.length:Int)-1)) d [])),[])/\jT N a b M d=some g) ?_ (m:=N) ⟨_,rfl,g2⟩;rintro M s ⟨d,rfl,g2⟩
  cases M with
  |zero=>simp only[jT]at g2;cases g2
  |succ M=>
   rw[jT]at g2;refine sh fol (kR a b (kAq (w64 ((a.length:Int)-1)) d [(11,.bool (decide (d<(w64 ((a.length:Int)-1)))))])) ?_;refine sq ?_;refine ihD g2 (fun n g2=>?_) (fun n g2=>?_)
   ·refine Goes.skip ?_;refine sq (Goes.block ?_);refine sh fol (kR a b ((6,.i d)::(kAq (w64 ((a.length:Int)-1)) d []))) ?_;refine sq ?_;obtain⟨o,c,g2⟩:=bnd g2;refine Goes.cut (s':=(ofG 24 (kR a b ((6,.i d)::(kAq (w64 ((a.length:Int)-1)) d [(21,.bool o)]))),[])) ?_ ?_
    ·obtain⟨r,e,c⟩:=bnd c;rcases wyB c with⟨c6,c⟩|⟨c6,c⟩
     ·obtain⟨p,f,c⟩:=bnd c;obtain rfl:=si c;exact tr fol [2,3,6] (kR a b ((6,.i d)::(kAq (w64 ((a.length:Int)-1)) d [(21,.bool (!p))]))) (ac (cv (qaG b d e)) (ac (gw c6) (ac (cv (qe9 N a d f)) az)))
     obtain rfl:=si c;exact tr fol [2,3] (kR a b ((6,.i d)::(kAq (w64 ((a.length:Int)-1)) d [(21,.bool false)]))) (ac (cv (qaG b d e)) (ac (gw c6) az))
    refine ihB g2 (fun k g2=>?_) (fun k g2=>?_)
    ·refine sh fol [(4,.i d),(5,.bool true)] ?_;refine Goes.ret ?_;obtain rfl:=si g2;exact Or.inr (⟨rfl,_,rfl,(gw2 (.i d::kBd) (FzW.tuple (ql.cons (Ua tI) (ql.cons (Ua tB) ql.nil))))⟩)
    refine Goes.skip ?_;refine gh fol (kR a b (kAq (w64 ((a.length:Int)-1)) (w64 (d+1)) [])) ?_;exact⟨M,(ofG 24 (kR a b (kAq (w64 ((a.length:Int)-1)) (w64 (d+1)) [])),[]),Nat.lt_succ_self _,(Sub.refl _),_,rfl,g2⟩
   refine Goes.exit ?_;obtain rfl:=si g2;exact Or.inl (⟨rfl,rfl,(Sub.keep [] rfl rfl)⟩)
 rintro x s' (⟨rfl,rfl,hsub⟩|⟨rfl,q,rfl,hret⟩)
 ·try dsimp only at h
  refine Goes.sub hsub ?_;refine sh fol [(4,.i 0),(5,.bool false)] ?_;refine Goes.ret ?_;obtain rfl:=si h;exact(gw2 [.i 0,.bool false] (FzW.tuple (ql.cons (Ua tI) (ql.cons (Ua tB) ql.nil))))
 try dsimp only at h
 obtain rfl:=si h;exact hret
def cmp_isNaN_int (a:Int):Option Bool:=
 some (!decide (a=a))
theorem qaf (a:Int) {res:Bool} (h:cmp_isNaN_int a=some res):qc ZT (.fn 139) [.i a] [] (.bool res) []:=by
 unfold cmp_isNaN_int at h;refine Ub Tryz.func139 rfl rfl (m:=6) rfl (rs:=[.tmp 2]) rfl (l:=(kBe a)) rfl ?_;refine sh fol (kBe a) ?_;refine sh fol [(2,.bool (!decide (a=a)))] ?_;refine Goes.ret ?_;obtain rfl:=si h;exact(gw2 [.bool (!decide (a=a))] (Ua tB))
def cmp_Less_int (a:Int) (y:Int):Option Bool:=
 ((cmp_isNaN_int a).bind fun b=>
 if b=true then
 (cmp_isNaN_int y).bind fun c=>
 if(!c)=true then
 some true
 else
 some (decide (a<y))
 else
 some (decide (a<y)):Option Bool).bind fun d=>
 some d
theorem qia (c:Int) (y:Int) {res:Bool} (h:cmp_Less_int c y=some res):qc ZT (.fn 124) [.i c,.i y] [] (.bool res) []:=by
 unfold cmp_Less_int at h;refine Ub Tryz.func124 rfl rfl (m:=17) rfl (rs:=[.tmp 4]) rfl (l:=((0,.i c)::(kBM y))) rfl ?_;refine sh fol ((0,.i c)::(kBM y)) ?_;refine sq ?_;obtain⟨g,a,h⟩:=bnd h;refine Goes.cut (s':=(ofG 17 (kA1 g),[])) ?_ ?_
 ·obtain⟨j,b,a⟩:=bnd a;rcases wyB a with⟨e,a⟩|⟨e,a⟩
  ·obtain⟨k,d,a⟩:=bnd a;rcases wyB a with⟨f,a⟩|⟨f,a⟩
   ·obtain rfl:=si a;exact tr fol [1,2,4,7] kBB (ac (cv (qaf c b)) (ac (gw e) (ac (cv (qaf y d)) (ac (gw f) az))))
   obtain rfl:=si a;exact tr fol [1,2,4,7] (kA1 (decide (c<y))) (ac (cv (qaf c b)) (ac (gw e) (ac (cv (qaf y d)) (ac (gw f) az))))
  obtain rfl:=si a;exact tr fol [1,2] (kA1 (decide (c<y))) (ac (cv (qaf c b)) (ac (gw e) az))
 refine Goes.ret ?_;obtain rfl:=si h;exact(gw2 [.bool g] (Ua tB))
def zU (b:List Int):Nat->Int->Option (Unit⊕Bool)
 |0,_=>none
 |K+1,a=>
  if a>0 then
  (idx b a).bind fun c=>
  (idx b (w64 (a-1))).bind fun d=>
  (cmp_Less_int c d).bind fun e=>
  if e=true then
  some (.inr false)
  else
  zU b K (w64 (a-1))
  else
  some (.inl ())
def slices_IsSorted_int (N:Nat) (a:List Int):Option Bool:=
 (zU a N (w64 ((a.length:Int)-1))).bind (fun
 |(.inl ())=>
 some true
 |(.inr b)=>
 some b)
theorem qeI (N:Nat) (a:List Int) {res:Bool} (h:slices_IsSorted_int N a=some res):qc ZT (.fn 102) [vl encI a] [] (.bool res) []:=by
 unfold slices_IsSorted_int at h;refine Ub Tryz.func102 rfl rfl (m:=21) rfl (rs:=[.tmp 2]) rfl (l:=(kAC a [])) rfl ?_;refine sh fol (kAC a []) ?_;refine sq ?_;refine sh fol (kAC a [(3,.i (w64 ((a.length:Int)-1)))]) ?_;refine Goes.block ?_;obtain⟨f,g2,h⟩:=bnd h;refine Goes.imp (Q:=fun x s'=>(x= .exit 0/\(.inl ())=f/\Sub s' (ofG 21 [],[]))\/(x= .ret/\ ∃g,(.inr g)=f/\jw ZT [.tmp 2] (.bool g) .ret s')) ?_ ?_
 ·refine Ue (fun M s=> ∃(b:Int),s=(ofG 21 (kAC a [(3,.i b)]),[])/\zU a M b=some f) ?_ (m:=N) ⟨_,rfl,g2⟩;rintro M s ⟨b,rfl,g2⟩
  cases M with
  |zero=>simp only[zU]at g2;cases g2
  |succ M=>
   rw[zU]at g2;refine sq ?_;refine sh fol (kAC a [(3,.i b),(8,.bool (decide (b>0)))]) ?_;refine ihD g2 (fun j g2=>?_) (fun j g2=>?_)
   ·refine Goes.skip ?_;refine sq (Goes.block ?_);obtain⟨k,c,g2⟩:=bnd g2;obtain⟨n,d,g2⟩:=bnd g2;obtain⟨o,e,g2⟩:=bnd g2;refine sq (gr fol [2,3,7,8,9] (kAC a [(3,.i b),(20,.bool o)]) (ac (iv qbN encI c) (ac (lv 0 ce3 encI c rfl) (ac (iv qbN encI d) (ac (lv 0 ce3 encI d rfl) (ac (cv (qia k n e)) az))))) ?_);refine ihB g2 (fun p g2=>?_) (fun p g2=>?_)
    ·refine sh fol [(2,.bool false)] ?_;refine Goes.ret ?_;obtain rfl:=si g2;exact Or.inr (⟨rfl,_,rfl,(gw2 [.bool false] (Ua tB))⟩)
    refine Goes.skip ?_;refine gh fol (kAC a [(3,.i (w64 (b-1)))]) ?_;exact⟨M,(ofG 21 (kAC a [(3,.i (w64 (b-1)))]),[]),Nat.lt_succ_self _,(Sub.refl _),_,rfl,g2⟩
   refine Goes.exit ?_;obtain rfl:=si g2;exact Or.inl (⟨rfl,rfl,(Sub.keep [] rfl rfl)⟩)
 rintro x s' (⟨rfl,rfl,hsub⟩|⟨rfl,q,rfl,hret⟩)
 ·try dsimp only at h
  refine Goes.sub hsub ?_;refine sh fol [(2,.bool true)] ?_;refine Goes.ret ?_;obtain rfl:=si h;exact(gw2 [.bool true] (Ua tB))
 try dsimp only at h
 obtain rfl:=si h;exact hret
def yY (N:Nat) (p:List Int):Option Bool:=
 (slices_IsSorted_int N p).bind fun a=>
 some a
theorem qeO (N:Nat) (p:List Int) {res:Bool} (h:yY N p=some res):qc ZT (.fn 80) [vl encI p] [] (.bool res) []:=by
 unfold yY at h;refine Ub Tryz.func80 rfl rfl (m:=5) rfl (rs:=[.tmp 2]) rfl (l:=(kAC p [])) rfl ?_;refine sh fol (kAC p []) ?_;obtain⟨b,a,h⟩:=bnd h;refine sq (gr fol [1] [(2,.bool b)] (ac (cv (qeI N p a)) az) ?_);refine Goes.ret ?_;obtain rfl:=si h;exact(gw2 [.bool b] (Ua tB))
def jy (b:List Int) (c:List Int):Nat->Int->Option (Unit⊕Bool)
 |0,_=>none
 |K+1,a=>
  if a<(b.length:Int)then
  (idx b a).bind fun d=>
  (idx c a).bind fun e=>
  if(!decide (d=e))=true then
  some (.inr false)
  else
  jy b c K (w64 (a+1))
  else
  some (.inl ())
def slices_Equal_int (N:Nat) (a:List Int) (b:List Int):Option Bool:=
 if(!decide ((a.length:Int)=(b.length:Int)))=true then
 some false
 else
 (jy a b N 0).bind (fun
 |(.inl ())=>
 some true
 |(.inr c)=>
 some c)
theorem qfQ (N:Nat) (a:List Int) (b:List Int) {res:Bool} (h:slices_Equal_int N a b=some res):qc ZT (.fn 81) (kAt a b) [] (.bool res) []:=by
 unfold slices_Equal_int at h;refine Ub Tryz.func81 rfl rfl (m:=26) rfl (rs:=[.tmp 4]) rfl (l:=(kR a b [])) rfl ?_;refine sh fol (kR a b []) ?_;refine sq ?_;refine sh fol (kR a b (kBA (!decide ((a.length:Int)=(b.length:Int))))) ?_;refine ihB h (fun j h=>?_) (fun j h=>?_)
 ·refine sh fol kAs ?_;refine Goes.ret ?_;obtain rfl:=si h;exact(gw2 [.bool false] (Ua tB))
 refine Goes.skip ?_;refine sq ?_;refine sh fol (kR a b [(12,.i (a.length:Int)),(13,.i 0)]) ?_;refine Goes.block ?_;obtain⟨f,g3,h⟩:=bnd h;refine Goes.imp (Q:=fun x s'=>(x= .exit 0/\(.inl ())=f/\Sub s' (ofG 26 [],[]))\/(x= .ret/\ ∃g,(.inr g)=f/\jw ZT [.tmp 4] (.bool g) .ret s')) ?_ ?_
 ·refine Ue (fun M s=> ∃(c:Int),s=(ofG 26 (kR a b (kAM (a.length:Int) c [])),[])/\jy a b M c=some f) ?_ (m:=N) ⟨_,rfl,g3⟩;rintro M s ⟨c,rfl,g3⟩
  cases M with
  |zero=>simp only[jy]at g3;cases g3
  |succ M=>
   rw[jy]at g3;refine sh fol (kR a b (kAM (a.length:Int) c (kBR (decide (c<(a.length:Int)))))) ?_;refine sq ?_;refine ihD g3 (fun k g3=>?_) (fun k g3=>?_)
   ·refine Goes.skip ?_;refine sq (Goes.block ?_);refine sh fol (kR a b ((5,.i c)::(kAM (a.length:Int) c []))) ?_;obtain⟨n,d,g3⟩:=bnd g3;obtain⟨o,e,g3⟩:=bnd g3;refine sq (gr fol [2,3,6,7] (kR a b (kAM (a.length:Int) c [(24,.bool (!decide (n=o)))])) (ac (iv qbN encI d) (ac (lv 0 ce3 encI d rfl) (ac (iv qbN encI e) (ac (lv 0 ce3 encI e rfl) az)))) ?_);refine ihB g3 (fun p g3=>?_) (fun p g3=>?_)
    ·refine sh fol kAs ?_;refine Goes.ret ?_;obtain rfl:=si g3;exact Or.inr (⟨rfl,_,rfl,(gw2 [.bool false] (Ua tB))⟩)
    refine Goes.skip ?_;refine gh fol (kR a b (kAM (a.length:Int) (w64 (c+1)) [])) ?_;exact⟨M,(ofG 26 (kR a b (kAM (a.length:Int) (w64 (c+1)) [])),[]),Nat.lt_succ_self _,(Sub.refl _),_,rfl,g3⟩
   refine Goes.exit ?_;obtain rfl:=si g3;exact Or.inl (⟨rfl,rfl,(Sub.keep [] rfl rfl)⟩)
 rintro x s' (⟨rfl,rfl,hsub⟩|⟨rfl,q,rfl,hret⟩)
 ·try dsimp only at h
  refine Goes.sub hsub ?_;refine sh fol kBB ?_;refine Goes.ret ?_;obtain rfl:=si h;exact(gw2 [.bool true] (Ua tB))
 try dsimp only at h
 obtain rfl:=si h;exact hret
def zw (N:Nat) (a:List (List Int)):Nat->(List (List Int))->Int->Option (List (List Int))
 |0,_,_=>none
 |K+1,c,b=>
  if b<(a.length:Int)then
  (idx a b).bind fun d=>
  (yc N d).bind fun e=>
  (app 24 c [e]).bind fun f=>
  zw N a K f (w64 (b+1))
  else
  some c
def j5 (N:Nat) (a:List (List Int)):Option (List (List Int)):=
 (zw N a N ([]:List (List Int)) 0).bind fun b=>
 some b
theorem qdB (N:Nat) (a:List (List Int)) {o:List (List Int)} (h:j5 N a=some o):qc ZT (.fn 75) [.gslice 0 a.length 1,.func (.func 76) [] []] [.cells (a.flatMap (qg encI).c)] (.gslice 1 o.length 1) [.cells (a.flatMap (qg encI).c),.cells (o.flatMap (qg encI).c)]:=by
 unfold j5 at h;refine Ui Tryz.func75 rfl rfl (m:=22) rfl (rs:=[.tmp 4]) rfl (l:=[(0,.gslice 0 a.length 1),(1,.func (.func 76) [] [])]) rfl ?_;intro B hB;refine sh fol [(0,.gslice 0 a.length 1),(1,.func (.func 76) [] [])] ?_;refine sh fol [(0,.gslice 0 a.length 1),(1,.func (.func 76) [] []),(5,.nilslice)] ?_;refine sq ?_;refine sh fol ((1,.func (.func 76) [] [])::(5,.nilslice)::(kBC a [(9,.i (a.length:Int)),(10,.i 0)])) ?_;refine Goes.block ?_;obtain⟨q,g5,h⟩:=bnd h;refine Goes.imp (Q:=fun x s'=>(x= .exit 0/\ ∃g,g=q/\Sub s' (ofG 22 [(5,.gslice 1 g.length 1)],[.cells (a.flatMap (qg encI).c),.cells (g.flatMap (qg encI).c)]))) ?_ ?_
 ·refine Goes.sub (s':=(ofG 22 ((1,.func (.func 76) [] [])::(5,.gslice 1 ([]:List (List Int)).length 1)::(kBC a [(9,.i (a.length:Int)),(10,.i 0)])),[.cells (a.flatMap (qg encI).c),.cells (([]:List (List Int)).flatMap (qg encI).c)])) (Uc [] [some 0,none] (by rw[hB];rfl) rfl (.keep (.same (qH.func sn sn)) (.keep .nil (.keep (.gslice rfl) (.keep (.same nI) (.keep (.same nI) .nil))))) (.ks (.fresh .nil))) ?_;refine Ue (fun M s=> ∃(d:List (List Int)) (b:Int),s=(ofG 22 ((1,.func (.func 76) [] [])::(5,.gslice 1 d.length 1)::(kBC a (kAq (a.length:Int) b []))),[.cells (a.flatMap (qg encI).c),.cells (d.flatMap (qg encI).c)])/\zw N a M d b=some q) ?_ (m:=N) ⟨_,_,rfl,g5⟩;rintro M s ⟨d,b,rfl,g5⟩
  cases M with
  |zero=>simp only[zw]at g5;cases g5
  |succ M=>
   rw[zw]at g5;refine sh fol ((1,.func (.func 76) [] [])::(5,.gslice 1 d.length 1)::(kBC a (kAq (a.length:Int) b [(11,.bool (decide (b<(a.length:Int))))]))) ?_;refine sq ?_;refine ihD g5 (fun c6 g5=>?_) (fun c6 g5=>?_)
   ·refine Goes.skip ?_;refine sq (Goes.block ?_);obtain⟨p,e,g5⟩:=bnd g5;refine sq (gr fol [0,1] ((1,.func (.func 76) [] [])::(5,.gslice 1 d.length 1)::(7,vl encI p)::(kBC a (kAq (a.length:Int) b []))) (ac (hs (.done (.opt (qd ZT 117 (.gslice 0 a.length 1) (.i b))) (.ptr 0 ((b:Int).toNat*1+0))) (qac qeZ e)) (ac (hs (.run [0] (zV ZT 118 (.ptr 0 ((b:Int).toNat*1+0))) [.cells (a.flatMap (qg encI).c),.cells (d.flatMap (qg encI).c)] (vl encI p) [.cells (a.flatMap (qg encI).c),.cells (d.flatMap (qg encI).c)] false) (qcK qkg (E:=(qg encI)) (l:=a) rfl rfl e (nl rfl) rfl)) az)) ?_);obtain⟨n,j,g5⟩:=bnd g5;obtain⟨f,k,g5⟩:=bnd g5;refine gq fol [3,5] ((1,.func (.func 76) [] [])::(5,.gslice 3 f.length 1)::(kBC a (kAq (a.length:Int) b []))) (.cells (a.flatMap (qg encI).c):: .dead::(kD n [.cells (f.flatMap (qg encI).c)])) (ac (cv (qef N p j)) (ac (hs (.run [1,2] (vM ZT [117,117] (.gslice 1 d.length 1) (.slice 2 0 1 1 1)) (.cells (a.flatMap (qg encI).c):: .cells (d.flatMap (qg encI).c)::(kD n [])) (.gslice 3 f.length 1) (.cells (a.flatMap (qg encI).c):: .dead::(kD n [.cells (f.flatMap (qg encI).c)])) true) (qcl qeZ (E:=(qg encI)) rfl (qgQ (E:=(qg encI)) (ys:=[n]) rfl rfl rfl rfl) (qlX (E:=(qg encI)) (l:=d) rfl rfl rfl k rfl))) az)) ?_;refine gh fol ((1,.func (.func 76) [] [])::(5,.gslice 3 f.length 1)::(kBC a (kAq (a.length:Int) (w64 (b+1)) []))) ?_;exact⟨M,(ofG 22 ((1,.func (.func 76) [] [])::(5,.gslice 1 f.length 1)::(kBC a (kAq (a.length:Int) (w64 (b+1)) []))),[.cells (a.flatMap (qg encI).c),.cells (f.flatMap (qg encI).c)]),Nat.lt_succ_self _,(Uc [] [some 0,some 3] (by rw[hB];rfl) rfl (.keep (.same (qH.func sn sn)) (.keep (.gslice rfl) (.keep (.gslice rfl) (.keep (.same nI) (.keep (.same nI) .nil))))) (.ks (.ks .nil))),_,_,rfl,g5⟩
   refine Goes.exit ?_;obtain rfl:=si g5;exact⟨rfl,_,rfl,(Sub.keep [5] rfl rfl)⟩
 rintro x s' ⟨rfl,g,rfl,hsub⟩;refine Goes.sub hsub ?_;refine sh fol [(4,.gslice 1 g.length 1)] ?_;refine Goes.ret ?_;obtain rfl:=si h;exact(gh2 [.gslice 1 g.length 1] (qcE.refl _ _))
def yU (N:Nat) (a:Int) (b:List (List Int)):Option ((List (List Int))×Bool):=
 (idx b a).bind fun g=>
 (idx b (w64 (a+1))).bind fun h=>
 (qaO N g h).bind fun d=>
 ((if d.2=true then
 (vG N g d.1).bind fun i=>
 (ji h d.1).bind fun e=>
 (put b a i).bind fun c=>
 (idx c (w64 (a+1))).bind fun j=>
 (put c (w64 (a+1)) e).bind fun f=>
 some f
 else
 some b:Option (List (List Int)))).bind fun k=>
 some (k,d.2)
theorem qfS (N:Nat) (b:Int) (a:List (List Int)) {w:List (List Int)} {z:Bool} (h:yU N b a=some (w,z)):qc ZT (.fn 100) [.i b,.ptr 0 0] (kAI a [.cells (a.flatMap (qg encI).c)]) (.bool z) (kAI w [.cells (w.flatMap (qg encI).c)]):=by
 unfold yU at h;refine Ui Tryz.func100 rfl rfl (m:=41) rfl (rs:=[.tmp 3]) rfl (l:=[(0,.i b),(1,.ptr 0 0)]) rfl ?_;intro B hB;refine sh fol [(0,.i b),(1,.ptr 0 0)] ?_;obtain⟨t,d,h⟩:=bnd h;obtain⟨u,e,h⟩:=bnd h;obtain⟨f,q,h⟩:=bnd h;refine sq (gr fol [2,3,7,8,9] [(0,.i b),(1,.ptr 0 0),(4,.i f.1),(5,.bool f.2)] (ac (hs (.done (.opt (qd ZT 117 (.gslice 1 a.length 1) (.i b))) (.ptr 1 ((b:Int).toNat*1+0))) (qac qeZ d)) (ac (hs (.run [1] (zV ZT 118 (.ptr 1 ((b:Int).toNat*1+0))) (kAI a [.cells (a.flatMap (qg encI).c)]) (vl encI t) (kAI a [.cells (a.flatMap (qg encI).c)]) false) (qcK qkg (E:=(qg encI)) (l:=a) rfl rfl d (nl rfl) rfl)) (ac (hs (.done (.opt (qd ZT 117 (.gslice 1 a.length 1) (.i (w64 (b+1))))) (.ptr 1 ((w64 (b+1):Int).toNat*1+0))) (qac qeZ e)) (ac (hs (.run [1] (zV ZT 118 (.ptr 1 ((w64 (b+1):Int).toNat*1+0))) (kAI a [.cells (a.flatMap (qg encI).c)]) (vl encI u) (kAI a [.cells (a.flatMap (qg encI).c)]) false) (qcK qkg (E:=(qg encI)) (l:=a) rfl rfl e (nl rfl) rfl)) (ac (cv (qhJ N t u q)) az))))) ?_);refine sq ?_;refine sh fol [(0,.i b),(1,.ptr 0 0),(4,.i f.1),(5,.bool f.2),(19,.bool f.2)] ?_;obtain⟨C,g7,h⟩:=bnd h;refine Goes.imp (Q:=fun x s'=>(x= .normal/\ ∃v,v=C/\Sub s' (ofG 41 [(5,.bool f.2)],(kAI v [.cells (v.flatMap (qg encI).c)])))) ?_ ?_
 ·refine ihB g7 (fun D g7=>?_) (fun D g7=>?_)
  ·obtain⟨A,r,g7⟩:=bnd g7;obtain⟨s,n,g7⟩:=bnd g7;obtain⟨o,g,g7⟩:=bnd g7;obtain⟨F,p,g7⟩:=bnd g7;obtain⟨k,j,g7⟩:=bnd g7;refine gq fol [7,8,10,14,15,17,18,19,20,21] [(5,.bool f.2)] (kAI a [.cells (k.flatMap (qg encI).c)]) (ac (hs (.done (.opt (qd ZT 117 (.gslice 1 a.length 1) (.i b))) (.ptr 1 ((b:Int).toNat*1+0))) (qac qeZ d)) (ac (hs (.run [1] (zV ZT 118 (.ptr 1 ((b:Int).toNat*1+0))) (kAI a [.cells (a.flatMap (qg encI).c)]) (vl encI t) (kAI a [.cells (a.flatMap (qg encI).c)]) false) (qcK qkg (E:=(qg encI)) (l:=a) rfl rfl d (nl rfl) rfl)) (ac (cv (qbX N t f.1 r)) (ac (hs (.done (.opt (qd ZT 117 (.gslice 1 a.length 1) (.i (w64 (b+1))))) (.ptr 1 ((w64 (b+1):Int).toNat*1+0))) (qac qeZ e)) (ac (hs (.run [1] (zV ZT 118 (.ptr 1 ((w64 (b+1):Int).toNat*1+0))) (kAI a [.cells (a.flatMap (qg encI).c)]) (vl encI u) (kAI a [.cells (a.flatMap (qg encI).c)]) false) (qcK qkg (E:=(qg encI)) (l:=a) rfl rfl e (nl rfl) rfl)) (ac (cv (qab u f.1 n)) (ac (hs (.done (.opt (qd ZT 117 (.gslice 1 a.length 1) (.i b))) (.ptr 1 ((b:Int).toNat*1+0))) (qac qeZ d)) (ac (hs (.run [1] (qI ZT 118 (.ptr 1 ((b:Int).toNat*1+0)) (vl encI A)) (kAI a [.cells (a.flatMap (qg encI).c)]) .undef (kAI a [.cells (o.flatMap (qg encI).c)]) true) (qaU (E:=(qg encI)) (l:=a) (y:=A) rfl (show _=some 1 by kernel_rfl) rfl d rfl rfl rfl rfl rfl g rfl)) (ac (hs (.done (.opt (qd ZT 117 (.gslice 1 a.length 1) (.i (w64 (b+1))))) (.ptr 1 ((w64 (b+1):Int).toNat*1+0))) (qac qeZ e)) (ac (hs (.run [1] (qI ZT 118 (.ptr 1 ((w64 (b+1):Int).toNat*1+0)) (vl encI s)) (kAI a [.cells (o.flatMap (qg encI).c)]) .undef (kAI a [.cells (k.flatMap (qg encI).c)]) true) (qaU (E:=(qg encI)) (l:=o) (y:=s) rfl (show _=some 1 by kernel_rfl) rfl p rfl rfl rfl rfl rfl j rfl)) az)))))))))) ?_;obtain rfl:=si g7;exact⟨rfl,_,rfl,((show Sub _ (ofG 41 [(5,.bool f.2)],(kAI k [.cells (k.flatMap (qg encI).c)]))from(Uc [] [some 0,some 1] (by rw[hB];rfl) rfl (.keep (.same nB) .nil) (.kb rfl (.cells (rc (.gsliceE rfl ((jM g).trans (jM j))) rn)) (.ks .nil)))).trans (Sub.refl _))⟩
  refine Goes.skip ?_;obtain rfl:=si g7;exact⟨rfl,_,rfl,(Sub.keep [5] rfl rfl)⟩
 rintro x s' ⟨rfl,v,rfl,hsub⟩;refine Goes.sub hsub ?_;refine sh fol (kBm f.2) ?_;refine Goes.ret ?_;simp only[ZI,ZP]at h;obtain⟨rfl,rfl⟩:=h;exact(gh2 [.bool f.2] (qcE.refl _ _))
def vU (N:Nat) (e:Int):Nat->(List (List Int))->Bool->Option ((List (List Int))×Bool)
 |0,_,_=>none
 |K+1,b,c=>
  (yU N e b).bind fun(a,d)=>
  ((if b.length=a.length then some ()else none:Option Unit)).bind fun f=>
  if d=true then
  vU N e K a true
  else
  some (a,c)
def vS (N:Nat):Nat->(List (List Int))->Int->Option (List (List Int))
 |0,_,_=>none
 |K+1,c,a=>
  if(w64 (a+1))<(c.length:Int)then
  (((vU N a N c false).bind fun(b,d)=>
  (if d=true then
  some (decide (a>0))
  else
  some false:Option Bool).bind fun e=>
  if e=true then
  some (b,w64 (a-1))
  else
  some (b,w64 (a+1)):Option ((List (List Int))×Int))).bind fun(f,g)=>
  vS N K f g
  else
  some c
def xV (N:Nat) (a:List (List Int)):Option (List (List Int)):=
 (vS N N a 0).bind fun b=>
 some b
theorem qhP (N:Nat) (f:List (List Int)) {C:List (List Int)} (h:xV N f=some C):qc ZT (.fn 79) [.gslice 0 f.length 1] [.cells (f.flatMap (qg encI).c)] (.tuple []) [.cells (C.flatMap (qg encI).c)]:=by
 unfold xV at h;refine Ui Tryz.func79 rfl rfl (m:=23) rfl (rs:=[]) rfl (l:=[(0,.gslice 0 f.length 1)]) rfl ?_;intro B hB;refine Ul ?_;refine sg fol (kA2 []) (.cells (f.flatMap (qg encI).c)::(kAP f)) ?_;refine Goes.scope ?_;refine sh fol (kA2 [(2,.func (.func 100) [] [.ptr 1 0])]) ?_;refine sq (Goes.label ?_);refine sh fol (kA2 [(2,.func (.func 100) [] [.ptr 1 0]),(3,.i 0)]) ?_;refine Goes.block ?_;obtain⟨D,g5,h⟩:=bnd h;refine Goes.imp (Q:=fun x s'=>(x= .exit 0/\ ∃v,v=D/\Sub s' (ofG 23 [],[.cells (v.flatMap (qg encI).c)]))) ?_ ?_
 ·refine Ue (fun M s=> ∃(r:List (List Int)) (b:Int),s=(ofG 23 (kA2 [(2,.func (.func 100) [] [.ptr 1 0]),(3,.i b)]),(.cells (r.flatMap (qg encI).c)::(kAP r)))/\vS N M r b=some D) ?_ (m:=N) ⟨_,_,rfl,g5⟩;rintro M s ⟨r,b,rfl,g5⟩
  cases M with
  |zero=>simp only[vS]at g5;cases g5
  |succ M=>
   rw[vS]at g5;refine sq ?_;refine sh fol (kA2 ((2,.func (.func 100) [] [.ptr 1 0])::(3,.i b)::(kBA (decide ((w64 (b+1))<(r.length:Int)))))) ?_;refine ihD g5 (fun c6 g5=>?_) (fun c6 g5=>?_)
   ·refine Goes.skip ?_;obtain⟨E,g9,g5⟩:=bnd g5;refine Goes.imp (Q:=fun x s'=>(x= .normal/\ ∃q u,(q,u)=E/\Sub s' (ofG 23 (kA2 [(2,.func (.func 100) [] [.ptr 1 0]),(3,.i u)]),(.cells (q.flatMap (qg encI).c)::(kAP q))))) ?_ ?_
    ·refine Goes.block ?_;refine sh fol (kA2 ((2,.func (.func 100) [] [.ptr 1 0])::(3,.i b)::kAs)) ?_;refine sq (Goes.block ?_);obtain⟨t,g14,g9⟩:=bnd g9;refine Goes.imp (Q:=fun x s'=>(x= .exit 2/\ ∃g k,(g,k)=t/\Sub s' (ofG 23 (kA2 ((2,.func (.func 100) [] [.ptr 1 0])::(3,.i b)::(kA1 k))),(.cells (g.flatMap (qg encI).c)::(kAP g))))) ?_ ?_
     ·refine Ue (fun M s=> ∃(e:List (List Int)) (j:Bool),s=(ofG 23 (kA2 ((2,.func (.func 100) [] [.ptr 1 0])::(3,.i b)::(kA1 j))),(.cells (e.flatMap (qg encI).c)::(kAP e)))/\vU N b M e j=some t) ?_ (m:=N) ⟨_,_,rfl,g14⟩;rintro M s ⟨e,j,rfl,g14⟩
      cases M with
      |zero=>simp only[vU]at g14;cases g14
      |succ M=>
       rw[vU]at g14;refine sq ?_;obtain⟨⟨d,n⟩,o,g14⟩:=bnd g14
       try dsimp only at g14
       obtain⟨F,w,g14⟩:=bnd g14;refine sq (gq fol [2] (kA2 ((2,.func (.func 100) [] [.ptr 1 0])::(3,.i b)::(4,.bool j)::(kBa n))) (.cells (d.flatMap (qg encI).c)::(kAP d)) (ac (hs (.callH 100 [.i b,.ptr 1 0] (.cells (e.flatMap (qg encI).c)::(kAP e)) [1,0] (.bool n) (.cells (d.flatMap (qg encI).c)::(kAP d))) (zH [some 1,some 0] [some 1,some 0] (qfS N b e o) (.kb rfl (.cells (rc (.gslice rfl) rn)) (.ks .nil)) rfl rfl (.back rfl rfl (.same fa) rfl (.back rfl rfl (.cells (rc (.gslice rfl) rn)) rfl .nil)) (rc (.same nI) (rc (.ptr rfl) rn)) (.same nB) rfl)) az) ?_);refine Goes.sub (show Sub _ (ofG 23 (kA2 ((2,.func (.func 100) [] [.ptr 1 0])::(3,.i b)::(4,.bool j)::(kBa n))),(.cells (d.flatMap (qg encI).c)::(kAP d)))from(Uc [] [some 0,some 1] (by rw[hB];rfl) rfl (.kp (.keep (.funcL (sn) (rc (.ptr rfl) rn)) (.keep (.same nI) (.keep (.same nB) (.keep (.same nB) .nil))))) (.ks (.kb rfl (.cells (rc (.gslice rfl) rn)) .nil)))) ?_;refine ihB g14 (fun y g14=>?_) (fun y g14=>?_)
       ·refine Goes.skip ?_;refine Goes.block ?_;refine gh fol (kA2 ((2,.func (.func 100) [] [.ptr 1 0])::(3,.i b)::kBB)) ?_;exact⟨M,(ofG 23 (kA2 ((2,.func (.func 100) [] [.ptr 1 0])::(3,.i b)::kBB)),(.cells (d.flatMap (qg encI).c)::(kAP d))),Nat.lt_succ_self _,(Sub.refl _),_,_,rfl,g14⟩
       refine Goes.exit ?_;obtain rfl:=si g14;exact⟨rfl,_,_,rfl,(Sub.keep [1,2,3,4] rfl rfl)⟩
     rintro x s' ⟨rfl,g,k,rfl,hsub⟩
     try dsimp only at g9
     refine Goes.sub hsub ?_;refine sq ?_;refine sq ?_;obtain⟨z,a,g9⟩:=bnd g9;refine Goes.cut (s':=(ofG 23 (kA2 ((2,.func (.func 100) [] [.ptr 1 0])::(3,.i b)::(kBZ z))),(.cells (g.flatMap (qg encI).c)::(kAP g)))) ?_ ?_
     ·rcases wyB a with⟨p,a⟩|⟨p,a⟩
      ·obtain rfl:=si a;exact tr fol [1] (kA2 ((2,.func (.func 100) [] [.ptr 1 0])::(3,.i b)::(kBZ (decide (b>0))))) (ac (gw p) az)
      obtain rfl:=si a;exact tr fol [1] (kA2 [(2,.func (.func 100) [] [.ptr 1 0]),(3,.i b),(18,.bool false)]) (ac (gw p) az)
     refine ihB g9 (fun A g9=>?_) (fun A g9=>?_)
     ·refine sh fol (kA2 [(2,.func (.func 100) [] [.ptr 1 0]),(3,.i (w64 (b-1)))]) ?_;refine Goes.exit ?_;obtain rfl:=si g9;exact⟨rfl,_,_,rfl,(Sub.refl _)⟩
     refine Goes.skip ?_;refine gh fol (kA2 [(2,.func (.func 100) [] [.ptr 1 0]),(3,.i (w64 (b+1)))]) ?_;obtain rfl:=si g9;exact⟨rfl,_,_,rfl,(Sub.refl _)⟩
    rintro x s' ⟨rfl,q,u,rfl,hsub⟩
    try dsimp only at g5
    exact⟨M,(ofG 23 (kA2 [(2,.func (.func 100) [] [.ptr 1 0]),(3,.i u)]),(.cells (q.flatMap (qg encI).c)::(kAP q))),Nat.lt_succ_self _,(hsub.trans (Sub.refl _)),_,_,rfl,g5⟩
   refine Goes.exit ?_;obtain rfl:=si g5;exact⟨rfl,_,rfl,(Uc [] [some 0] (by rw[hB];rfl) rfl .nil (.ks .nil))⟩
 rintro x s' ⟨rfl,v,rfl,hsub⟩;obtain rfl:=si h;exact⟨_,hsub,(gh2 [] (qcE.refl _ _))⟩
def jL (N:Nat) (n:Int) (w:List Int):Nat->Int->(List (List Int))->Int->Option (Int×(List (List Int)))
 |0,_,_,_=>none
 |K+1,c,d,e=>
  if e<(w.length:Int)then
  (((idx w e).bind fun a=>
  (qX a).bind fun b=>
  if a>0 then
  (jd N n).bind fun f=>
  (ji f (w64 (b-1))).bind fun g=>
  (app 24 d [g]).bind fun h=>
  some (c,h)
  else
  (j5 N d).bind fun i=>
  (qca N n).bind fun j=>
  (vG N j (w64 (b-1))).bind fun k=>
  (app 24 i [k]).bind fun l=>
  some (w64 (c-1),l):Option (Int×(List (List Int))))).bind fun(o,m)=>
  jL N n w K o m (w64 (e+1))
  else
  some (c,d)
def yB (N:Nat) (n:Int) (c:List (List Int)):Nat->Int->(List (List Int))->Int->Option (Int×(List (List Int)))
 |0,_,_,_=>none
 |K+1,a,b,d=>
  if d<(c.length:Int)then
  (((idx c d).bind fun e=>
  (yY N e).bind fun f=>
  if f=true then
  some (a,b)
  else
  (qca N n).bind fun g=>
  (slices_Equal_int N e g).bind fun h=>
  if h=true then
  some (w64 (a+1),b)
  else
  (app 24 b [e]).bind fun i=>
  some (a,i):Option (Int×(List (List Int))))).bind fun(j,k)=>
  yB N n c K j k (w64 (d+1))
  else
  some (a,b)
def yK (N:Nat) (n:Int) (w:List Int):Option qbZ:=
 if n=1 then
 some (⟨0,[]⟩:qbZ)
 else
 (jL N n w N 0 ([]:List (List Int)) 0).bind fun(e,d)=>
 (xV N d).bind fun a=>
 ((if d.length=a.length then some ()else none:Option Unit)).bind fun f=>
 (yB N n a N e ([]:List (List Int)) 0).bind fun(b,c)=>
 some (⟨b,c⟩:qbZ)
theorem qeL (N:Nat) (n:Int) (w:List Int) {res:qbZ} (h:yK N n w=some res):qc ZT (.fn 43) [.i n,vl encI w] [] (.agg [.i res.Half,vl (qg encI) res.Factors]) []:=by
 unfold yK at h;refine Ub Tryz.func43 rfl rfl (m:=74) rfl (rs:=[.cell 4 80]) rfl (l:=(kC n w [])) rfl ?_;refine sg fol (kC n w [(4,.ptr 0 0)]) [bZ] ?_;refine sg fol (kC n w (kAb [])) [bZ,bZ] ?_;refine sq ?_;refine sh fol (kC n w (kAb (kBa (decide (n=1))))) ?_;refine ihD h (fun c1 h=>?_) (fun c1 h=>?_)
 ·refine sh fol [(4,.ptr 0 0)] ?_;refine Goes.ret ?_;obtain rfl:=si h;exact(gw2 [.agg [.i 0,.nilslice]] (FzW.agg (ql.cons (Ua tI) (ql.cons (FzW.nilv (E:=(qg encI))) ql.nil))))
 refine Goes.skip ?_;refine sh fol (kC n w (kAb (kAm []))) ?_;refine sq ?_;refine sh fol (kM n (kAm (kBb w (kBo (w.length:Int))))) ?_;refine Goes.block ?_;obtain⟨r7,g7,h⟩:=bnd h;refine Goes.imp (Q:=fun x s'=>(x= .exit 0/\ ∃K L,(K,L)=r7/\Sub s' (ofG 74 (kM n (kAd L [])),(bZ::(kAD K [.cells (L.flatMap (qg encI).c)]))))) ?_ ?_
 ·refine Goes.sub (s':=(ofG 74 (kM n ((6,.gslice 2 ([]:List (List Int)).length 1)::(kBb w (kBo (w.length:Int))))),[bZ,bZ,.cells (([]:List (List Int)).flatMap (qg encI).c)])) (Uc [] [some 0,some 1,none] rfl rfl (.keep (.same nI) (.kp (.kp (.keep .nil (.keep (.same (qa encI _)) (.keep (.same nI) (.keep (.same nI) .nil))))))) (.kb rfl (.same sn) (.kb rfl (.same sn) (.fresh .nil)))) ?_;refine Ue (fun M s=> ∃(q:Int) (g:List (List Int)) (r:Int),s=(ofG 74 (kM n (kAd g (kBb w (kAH (w.length:Int) r)))),(bZ::(kAD q [.cells (g.flatMap (qg encI).c)])))/\jL N n w M q g r=some r7) ?_ (m:=N) ⟨_,_,_,rfl,g7⟩;rintro M s ⟨q,g,r,rfl,g7⟩
  cases M with
  |zero=>simp only[jL]at g7;cases g7
  |succ M=>
   rw[jL]at g7;refine sh fol (kM n (kAd g (kBb w ((16,.i (w.length:Int))::(17,.i r)::(kBZ (decide (r<(w.length:Int)))))))) ?_;refine sq ?_;refine ihD g7 (fun c8 g7=>?_) (fun c8 g7=>?_)
   ·refine Goes.skip ?_;refine sq ?_;obtain⟨r11,g11,g7⟩:=bnd g7;refine Goes.imp (Q:=fun x s'=>(x= .normal/\ ∃n9 t,(n9,t)=r11/\Sub s' (ofG 74 (kM n (kAd t (kBb w (kAH (w.length:Int) r)))),(bZ::(kAD n9 [.cells (t.flatMap (qg encI).c)]))))) ?_ ?_
    ·refine Goes.block ?_;obtain⟨F,A,g11⟩:=bnd g11;refine sq (gr fol [0,1] (kM n (kAd g ((8,.i F)::(kBb w (kAH (w.length:Int) r))))) (ac (iv zO encI A) (ac (lv 0 ce3 encI A rfl) az)) ?_);obtain⟨u,O,g11⟩:=bnd g11;refine sq (gr fol [1] (kM n (kAd g ((8,.i F)::(9,.i (w64 (u-1)))::(kBb w (kAH (w.length:Int) r))))) (ac (cv (qp F O)) az) ?_);refine sq ?_;refine sh fol (kM n (kAd g ((9,.i (w64 (u-1)))::(kBb w [(16,.i (w.length:Int)),(17,.i r),(25,.bool (decide (F>0)))])))) ?_;refine ihD g11 (fun c14 g11=>?_) (fun c14 g11=>?_)
     ·obtain⟨j,P,g11⟩:=bnd g11;obtain⟨B,T,g11⟩:=bnd g11;obtain⟨v,U,g11⟩:=bnd g11;refine sq (gq fol [2,4,6] (kM n ((6,.gslice 5 v.length 1)::(kBb w (kAH (w.length:Int) r)))) (bZ::(kAD q (.dead::(kA8 j (kD B [.cells (v.flatMap (qg encI).c)]))))) (ac (hs (.callH 72 [.i n] (bZ::(kAD q [.cells (g.flatMap (qg encI).c)])) [] (.slice 3 0 j.length j.length 1) (bZ::(kAD q (.cells (g.flatMap (qg encI).c)::(kA j []))))) (zH [] [none,none,none,some 0] (vY N n P) .nil rfl rfl (.old rfl rfl (.old rfl rfl (.old rfl rfl (.new rfl rfl (.same fa) rfl .nil)))) (rc (.same nI) rn) (.slice rfl) rfl)) (ac (hs (.callF 74 [.slice 3 0 j.length j.length 1,.i (w64 (u-1))] (bZ::(kAD q (.cells (g.flatMap (qg encI).c)::(kA j [])))) [3] (kBk j (w64 (u-1))) (vl encI B)) (qvV (FzL.cons (Fz.sl (E:=encI) rfl rfl (nl rfl)) (FzL.cons (Ud tI) FzL.nil)) (qab j (w64 (u-1)) T) (qC encI _ (nl rfl)))) (ac (hs (.run [2,4] (vM ZT [117,117] (.gslice 2 g.length 1) (.slice 4 0 1 1 1)) (bZ::(kAD q (.cells (g.flatMap (qg encI).c)::(kA8 j (kD B []))))) (.gslice 5 v.length 1) (bZ::(kAD q (.dead::(kA8 j (kD B [.cells (v.flatMap (qg encI).c)]))))) true) (qcl qeZ (E:=(qg encI)) rfl (qgQ (E:=(qg encI)) (ys:=[B]) rfl rfl rfl rfl) (qlX (E:=(qg encI)) (l:=g) rfl rfl rfl U rfl))) az))) ?_);refine Goes.sub (show Sub _ (ofG 74 (kM n (kAd v (kBb w (kAH (w.length:Int) r)))),(bZ::(kAD q [.cells (v.flatMap (qg encI).c)])))from(Uc [] [some 0,some 1,some 5] rfl rfl (.keep (.same nI) (.kp (.kp (.keep (.gslice rfl) (.keep (.same (qa encI _)) (.keep (.same nI) (.keep (.same nI) .nil))))))) (.kb rfl (.same sn) (.kb rfl (.same sn) (.ks .nil))))) ?_;refine Goes.exit ?_;obtain rfl:=si g11;exact⟨rfl,_,_,rfl,(Sub.refl _)⟩
     refine Goes.skip ?_;refine sg fol (kM n (kAd g ((9,.i (w64 (u-1)))::(kBb w (kAH (w.length:Int) r))))) (bZ::(kAD (w64 (q-1)) [.cells (g.flatMap (qg encI).c)])) ?_;obtain⟨C,V,g11⟩:=bnd g11;obtain⟨r21,X,g11⟩:=bnd g11;obtain⟨G,Y,g11⟩:=bnd g11;obtain⟨H,Z,g11⟩:=bnd g11;refine gq fol [1,3,5,7] (kM n ((6,.gslice 5 H.length 1)::(kBb w (kAH (w.length:Int) r)))) (bZ::(kAD (w64 (q-1)) (.cells (g.flatMap (qg encI).c):: .dead::(kD G [.cells (H.flatMap (qg encI).c)])))) (ac (hs (.callH 75 [.gslice 2 g.length 1,.func (.func 76) [] []] (bZ::(kAD (w64 (q-1)) [.cells (g.flatMap (qg encI).c)])) [2] (.gslice 3 C.length 1) (bZ::(kAD (w64 (q-1)) [.cells (g.flatMap (qg encI).c),.cells (C.flatMap (qg encI).c)]))) (zH [some 2] [none,none,some 0,some 1] (qdB N g V) (.ks .nil) rfl rfl (.old rfl rfl (.old rfl rfl (.back rfl rfl (.same fa) rfl (.new rfl rfl (.same fa) rfl .nil)))) (rc (.gslice rfl) (rc (.same (qH.func sn sn)) rn)) (.gslice rfl) rfl)) (ac (cv (qf0 N n X)) (ac (cv (qbX N r21 (w64 (u-1)) Y)) (ac (hs (.run [3,4] (vM ZT [117,117] (.gslice 3 C.length 1) (.slice 4 0 1 1 1)) (bZ::(kAD (w64 (q-1)) (.cells (g.flatMap (qg encI).c):: .cells (C.flatMap (qg encI).c)::(kD G [])))) (.gslice 5 H.length 1) (bZ::(kAD (w64 (q-1)) (.cells (g.flatMap (qg encI).c):: .dead::(kD G [.cells (H.flatMap (qg encI).c)])))) true) (qcl qeZ (E:=(qg encI)) rfl (qgQ (E:=(qg encI)) (ys:=[G]) rfl rfl rfl rfl) (qlX (E:=(qg encI)) (l:=C) rfl rfl rfl Z rfl))) az)))) ?_;obtain rfl:=si g11;exact⟨rfl,_,_,rfl,(Uc [] [some 0,some 1,some 5] rfl rfl (.keep (.same nI) (.kp (.kp (.keep (.gslice rfl) (.keep (.same (qa encI _)) (.keep (.same nI) (.keep (.same nI) .nil))))))) (.kb rfl (.same sn) (.kb rfl (.same sn) (.ks .nil))))⟩
    rintro x s' ⟨rfl,n9,t,rfl,hsub⟩
    try dsimp only at g7
    refine Goes.sub hsub ?_;refine gh fol (kM n (kAd t (kBb w (kAH (w.length:Int) (w64 (r+1)))))) ?_;exact⟨M,(ofG 74 (kM n (kAd t (kBb w (kAH (w.length:Int) (w64 (r+1)))))),(bZ::(kAD n9 [.cells (t.flatMap (qg encI).c)]))),Nat.lt_succ_self _,(Sub.refl _),_,_,_,rfl,g7⟩
   refine Goes.exit ?_;obtain rfl:=si g7;exact⟨rfl,_,_,rfl,(Sub.keep [0,4,5,6] rfl rfl)⟩
 rintro x s' ⟨rfl,K,L,rfl,hsub⟩
 try dsimp only at h
 refine Goes.sub hsub ?_;obtain⟨a,a0,h⟩:=bnd h;obtain⟨u26,a1,h⟩:=bnd h;refine sq (gq fol [1] (kM n (kAd L [])) (bZ::(kAD K [.cells (a.flatMap (qg encI).c)])) (ac (hs (.callH 79 [.gslice 2 L.length 1] (bZ::(kAD K [.cells (L.flatMap (qg encI).c)])) [2] (.tuple []) (bZ::(kAD K [.cells (a.flatMap (qg encI).c)]))) (zH [some 2] [none,none,some 0] (qhP N L a0) (.ks .nil) rfl rfl (.old rfl rfl (.old rfl rfl (.back rfl rfl (.same fa) rfl .nil))) (rc (.gslice rfl) rn) (.same (qH.tuple sn)) rfl)) az) ?_);refine Goes.sub (show Sub _ (ofG 74 (kM n (kAd a [])),(bZ::(kAD K [.cells (a.flatMap (qg encI).c)])))from(Uc [] [some 0,some 1,some 2] rfl rfl (.keep (.same nI) (.kp (.kp (.keep (.gsliceE rfl (qpb a1)) .nil)))) (.kb rfl (.same sn) (.kb rfl (.same sn) (.ks .nil))))) ?_;refine sq ?_;refine sh fol (kM n [(48,.gslice 2 a.length 1),(49,.i (a.length:Int)),(50,.i 0)]) ?_;refine Goes.block ?_;obtain⟨a6,f,h⟩:=bnd h;refine Goes.imp (Q:=fun x s'=>(x= .exit 2/\ ∃y p,(y,p)=a6/\Sub s' (ofG 74 (kAb []),(bZ::(kAc y p [.cells (p.flatMap (qg encI).c)]))))) ?_ ?_
 ·refine Goes.sub (s':=(ofG 74 (kM n [(48,.gslice 3 a.length 1),(49,.i (a.length:Int)),(50,.i 0)]),[bZ,.cells [.i K,.gslice 2 ([]:List (List Int)).length 1],.cells (([]:List (List Int)).flatMap (qg encI).c),.cells (a.flatMap (qg encI).c)])) (Uc [] [some 0,some 1,none,some 2] rfl rfl (.keep (.same nI) (.kp (.kp (.keep (.gslice rfl) (.keep (.same nI) (.keep (.same nI) .nil)))))) (.kb rfl (.same sn) (.kb rfl (.cells (rc (.same nI) (rc (.nil) rn))) (.fresh (.ks .nil))))) ?_;refine Ue (fun M s=> ∃(o:Int) (e:List (List Int)) (d:Int),s=(ofG 74 (kM n (kAN a (a.length:Int) d [])),(bZ::(kAc o e [.cells (e.flatMap (qg encI).c),.cells (a.flatMap (qg encI).c)])))/\yB N n a M o e d=some a6) ?_ (m:=N) ⟨_,_,_,rfl,f⟩;rintro M s ⟨o,e,d,rfl,f⟩
  cases M with
  |zero=>simp only[yB]at f;cases f
  |succ M=>
   rw[yB]at f;refine sh fol (kM n (kAN a (a.length:Int) d [(51,.bool (decide (d<(a.length:Int))))])) ?_;refine sq ?_;refine ihD f (fun c33 f=>?_) (fun c33 f=>?_)
   ·refine Goes.skip ?_;refine sq ?_;obtain⟨r36,b,f⟩:=bnd f;refine Goes.imp (Q:=fun x s'=>(x= .normal/\ ∃I z,(I,z)=r36/\Sub s' (ofG 74 (kM n (kAN a (a.length:Int) d [])),(bZ::(kAc I z [.cells (z.flatMap (qg encI).c),.cells (a.flatMap (qg encI).c)]))))) ?_ ?_
    ·refine Goes.block ?_;obtain⟨k,D,b⟩:=bnd b;refine sq (gr fol [0,1] (kM n ((11,vl encI k)::(kAN a (a.length:Int) d []))) (ac (hs (.done (.opt (qd ZT 117 (.gslice 3 a.length 1) (.i d))) (.ptr 3 ((d:Int).toNat*1+0))) (qac qeZ D)) (ac (hs (.run [3] (zV ZT 118 (.ptr 3 ((d:Int).toNat*1+0))) (bZ::(kAc o e [.cells (e.flatMap (qg encI).c),.cells (a.flatMap (qg encI).c)])) (vl encI k) (bZ::(kAc o e [.cells (e.flatMap (qg encI).c),.cells (a.flatMap (qg encI).c)])) false) (qcK qkg (E:=(qg encI)) (l:=a) rfl rfl D (nl rfl) rfl)) az)) ?_);refine Goes.block ?_;obtain⟨r38,a2,b⟩:=bnd b;refine sq (gr fol [1] (kM n ((11,vl encI k)::(kAN a (a.length:Int) d [(60,.bool r38)]))) (ac (cv (qeO N k a2)) az) ?_);refine ihB b (fun c39 b=>?_) (fun c39 b=>?_)
     ·refine Goes.skip ?_;obtain rfl:=si b;exact⟨rfl,_,_,rfl,(Sub.keep [0,4,5,48,49,50] rfl rfl)⟩
     obtain⟨r40,a3,b⟩:=bnd b;obtain⟨r41,a4,b⟩:=bnd b;refine sq (gr fol [2,3] (kM n ((11,vl encI k)::(kAN a (a.length:Int) d [(63,.bool r41)]))) (ac (cv (qf0 N n a3)) (ac (cv (qfQ N k r40 a4)) az)) ?_);refine ihB b (fun c42 b=>?_) (fun c42 b=>?_)
     ·refine Goes.rg fol (kM n (kAN a (a.length:Int) d [])) (bZ::(kAc (w64 (o+1)) e [.cells (e.flatMap (qg encI).c),.cells (a.flatMap (qg encI).c)])) ?_;obtain rfl:=si b;exact⟨rfl,_,_,rfl,(Sub.refl _)⟩
     obtain⟨J,a5,b⟩:=bnd b;refine gq fol [4] (kM n (kAN a (a.length:Int) d [])) (bZ:: .cells [.i o,.gslice 5 J.length 1]:: .dead:: .cells (a.flatMap (qg encI).c)::(kD k [.cells (J.flatMap (qg encI).c)])) (ac (hs (.run [2,4] (vM ZT [26,26] (.gslice 2 e.length 1) (.slice 4 0 1 1 1)) (bZ::(kAc o e (.cells (e.flatMap (qg encI).c):: .cells (a.flatMap (qg encI).c)::(kD k [])))) (.gslice 5 J.length 1) (bZ::(kAc o e (.dead:: .cells (a.flatMap (qg encI).c)::(kD k [.cells (J.flatMap (qg encI).c)])))) true) (qcl qfR (E:=(qg encI)) rfl (qgQ (E:=(qg encI)) (ys:=[k]) rfl rfl rfl rfl) (qlX (E:=(qg encI)) (l:=e) rfl rfl rfl a5 rfl))) az) ?_;obtain rfl:=si b;exact⟨rfl,_,_,rfl,(Uc [] [some 0,some 1,some 5,some 3] rfl rfl (.keep (.same nI) (.kp (.kp (.keep (.gslice rfl) (.keep (.same nI) (.keep (.same nI) .nil)))))) (.kb rfl (.same sn) (.kb rfl (.cells (rc (.same nI) (rc (.gslice rfl) rn))) (.ks (.ks .nil)))))⟩
    rintro x s' ⟨rfl,I,z,rfl,hsub⟩
    try dsimp only at f
    refine Goes.sub hsub ?_;refine gh fol (kM n (kAN a (a.length:Int) (w64 (d+1)) [])) ?_;exact⟨M,(ofG 74 (kM n (kAN a (a.length:Int) (w64 (d+1)) [])),(bZ::(kAc I z [.cells (z.flatMap (qg encI).c),.cells (a.flatMap (qg encI).c)]))),Nat.lt_succ_self _,(Sub.refl _),_,_,_,rfl,f⟩
   refine Goes.exit ?_;obtain rfl:=si f;exact⟨rfl,_,_,rfl,(Uc [] [some 0,some 1,some 2] rfl rfl (.drop (.kp (.kp .nil))) (.kb rfl (.same sn) (.kb rfl (.cells (rc (.same nI) (rc (.gslice rfl) rn))) (.ks .nil))))⟩
 rintro x s' ⟨rfl,y,p,rfl,hsub⟩
 try dsimp only at h
 refine Goes.sub hsub ?_;refine sg fol [(4,.ptr 0 0)] (kAc y p (kAc y p [.cells (p.flatMap (qg encI).c)])) ?_;refine Goes.ret ?_;obtain rfl:=si h;exact(gw2 [.agg [.i y,.gslice 2 p.length 1]] (FzW.agg (ql.cons (Ua tI) (ql.cons (Us (Fz.gs (E:=(qg encI)) rfl rfl (nl rfl))) ql.nil))))
def kr (b:List Int) (c:List Int):Nat->Int->Option (Unit⊕Bool)
 |0,_=>none
 |K+1,a=>
  if a<(b.length:Int)then
  (idx b a).bind fun d=>
  (idx c a).bind fun e=>
  if(!decide (d=e))=true then
  some (.inr false)
  else
  kr b c K (w64 (a+1))
  else
  some (.inl ())
def zG (N:Nat) (a:List Int) (b:List Int):Option Bool:=
 if(!decide ((a.length:Int)=(b.length:Int)))=true then
 some false
 else
 (kr a b N 0).bind (fun
 |(.inl ())=>
 some true
 |(.inr c)=>
 some c)
theorem qaS (N:Nat) (a:List Int) (b:List Int) {res:Bool} (h:zG N a b=some res):qc ZT (.fn 36) (kAt a b) [] (.bool res) []:=by
 unfold zG at h;refine Ub Tryz.func36 rfl rfl (m:=26) rfl (rs:=[.tmp 4]) rfl (l:=(kR a b [])) rfl ?_;refine sh fol (kR a b []) ?_;refine sq ?_;refine sh fol (kR a b (kBA (!decide ((a.length:Int)=(b.length:Int))))) ?_;refine ihB h (fun j h=>?_) (fun j h=>?_)
 ·refine sh fol kAs ?_;refine Goes.ret ?_;obtain rfl:=si h;exact(gw2 [.bool false] (Ua tB))
 refine Goes.skip ?_;refine sq ?_;refine sh fol (kR a b [(12,.i (a.length:Int)),(13,.i 0)]) ?_;refine Goes.block ?_;obtain⟨f,g3,h⟩:=bnd h;refine Goes.imp (Q:=fun x s'=>(x= .exit 0/\(.inl ())=f/\Sub s' (ofG 26 [],[]))\/(x= .ret/\ ∃g,(.inr g)=f/\jw ZT [.tmp 4] (.bool g) .ret s')) ?_ ?_
 ·refine Ue (fun M s=> ∃(c:Int),s=(ofG 26 (kR a b (kAM (a.length:Int) c [])),[])/\kr a b M c=some f) ?_ (m:=N) ⟨_,rfl,g3⟩;rintro M s ⟨c,rfl,g3⟩
  cases M with
  |zero=>simp only[kr]at g3;cases g3
  |succ M=>
   rw[kr]at g3;refine sh fol (kR a b (kAM (a.length:Int) c (kBR (decide (c<(a.length:Int)))))) ?_;refine sq ?_;refine ihD g3 (fun k g3=>?_) (fun k g3=>?_)
   ·refine Goes.skip ?_;refine sq (Goes.block ?_);refine sh fol (kR a b ((5,.i c)::(kAM (a.length:Int) c []))) ?_;obtain⟨n,d,g3⟩:=bnd g3;obtain⟨o,e,g3⟩:=bnd g3;refine sq (gr fol [2,3,6,7] (kR a b (kAM (a.length:Int) c [(24,.bool (!decide (n=o)))])) (ac (iv zO encI d) (ac (lv 0 ce3 encI d rfl) (ac (iv zO encI e) (ac (lv 0 ce3 encI e rfl) az)))) ?_);refine ihB g3 (fun p g3=>?_) (fun p g3=>?_)
    ·refine sh fol kAs ?_;refine Goes.ret ?_;obtain rfl:=si g3;exact Or.inr (⟨rfl,_,rfl,(gw2 [.bool false] (Ua tB))⟩)
    refine Goes.skip ?_;refine gh fol (kR a b (kAM (a.length:Int) (w64 (c+1)) [])) ?_;exact⟨M,(ofG 26 (kR a b (kAM (a.length:Int) (w64 (c+1)) [])),[]),Nat.lt_succ_self _,(Sub.refl _),_,rfl,g3⟩
   refine Goes.exit ?_;obtain rfl:=si g3;exact Or.inl (⟨rfl,rfl,(Sub.keep [] rfl rfl)⟩)
 rintro x s' (⟨rfl,rfl,hsub⟩|⟨rfl,q,rfl,hret⟩)
 ·try dsimp only at h
  refine Goes.sub hsub ?_;refine sh fol kBB ?_;refine Goes.ret ?_;obtain rfl:=si h;exact(gw2 [.bool true] (Ua tB))
 try dsimp only at h
 obtain rfl:=si h;exact hret
def qF (N:Nat) (a:List (List Int)) (b:List (List Int)):Nat->Int->Option (Unit⊕Bool)
 |0,_=>none
 |K+1,c=>
  if c<(a.length:Int)then
  (idx a c).bind fun d=>
  (idx b c).bind fun e=>
  (zG N d e).bind fun f=>
  if(!f)=true then
  some (.inr false)
  else
  qF N a b K (w64 (c+1))
  else
  some (.inl ())
def qN (N:Nat) (a:List (List Int)) (b:List (List Int)):Option Bool:=
 if(!decide ((a.length:Int)=(b.length:Int)))=true then
 some false
 else
 (qF N a b N 0).bind (fun
 |(.inl ())=>
 some true
 |(.inr c)=>
 some c)
theorem qbb (N:Nat) (a:List (List Int)) (b:List (List Int)) {res:Bool} (h:qN N a b=some res):qc ZT (.fn 52) [vl (qg encI) a,vl (qg encI) b,.func (.func 36) [] []] [] (.bool res) []:=by
 unfold qN at h;refine Ub Tryz.func52 rfl rfl (m:=32) rfl (rs:=[.tmp 6]) rfl (l:=[(0,vl (qg encI) a),(1,vl (qg encI) b),(2,.func (.func 36) [] [])]) rfl ?_;refine sh fol [(0,vl (qg encI) a),(1,vl (qg encI) b),(2,.func (.func 36) [] [])] ?_;refine sq ?_;refine sh fol ((0,vl (qg encI) a)::(1,vl (qg encI) b)::(2,.func (.func 36) [] [])::(kBR (!decide ((a.length:Int)=(b.length:Int))))) ?_;refine ihB h (fun o h=>?_) (fun o h=>?_)
 ·refine sh fol kAg ?_;refine Goes.ret ?_;obtain rfl:=si h;exact(gw2 [.bool false] (Ua tB))
 refine Goes.skip ?_;refine sq ?_;refine sh fol ((1,vl (qg encI) b)::(2,.func (.func 36) [] [])::(15,vl (qg encI) a)::(kBo (a.length:Int))) ?_;refine Goes.block ?_;obtain⟨g,g3,h⟩:=bnd h;refine Goes.imp (Q:=fun x s'=>(x= .exit 0/\(.inl ())=g/\Sub s' (ofG 32 [],[]))\/(x= .ret/\ ∃k,(.inr k)=g/\jw ZT [.tmp 6] (.bool k) .ret s')) ?_ ?_
 ·refine Ue (fun M s=> ∃(c:Int),s=(ofG 32 ((1,vl (qg encI) b)::(2,.func (.func 36) [] [])::(15,vl (qg encI) a)::(kAH (a.length:Int) c)),[])/\qF N a b M c=some g) ?_ (m:=N) ⟨_,rfl,g3⟩;rintro M s ⟨c,rfl,g3⟩
  cases M with
  |zero=>simp only[qF]at g3;cases g3
  |succ M=>
   rw[qF]at g3;refine sh fol ((1,vl (qg encI) b)::(2,.func (.func 36) [] [])::(15,vl (qg encI) a)::(16,.i (a.length:Int))::(17,.i c)::(kBZ (decide (c<(a.length:Int))))) ?_;refine sq ?_;refine ihD g3 (fun p g3=>?_) (fun p g3=>?_)
   ·refine Goes.skip ?_;refine sq (Goes.block ?_);obtain⟨j,d,g3⟩:=bnd g3;refine sq (gr fol [1,2] ((1,vl (qg encI) b)::(2,.func (.func 36) [] [])::(7,.i c)::(8,vl encI j)::(15,vl (qg encI) a)::(kAH (a.length:Int) c)) (ac (iv qfR (qg encI) d) (ac (lv 0 qme (qg encI) d rfl) az)) ?_);obtain⟨n,e,g3⟩:=bnd g3;refine sq (gr fol [2,3] ((1,vl (qg encI) b)::(2,.func (.func 36) [] [])::(8,vl encI j)::(9,vl encI n)::(15,vl (qg encI) a)::(kAH (a.length:Int) c)) (ac (iv qfR (qg encI) e) (ac (lv 0 qme (qg encI) e rfl) az)) ?_);obtain⟨q,f,g3⟩:=bnd g3;refine sq (gr fol [3] [(1,vl (qg encI) b),(2,.func (.func 36) [] []),(15,vl (qg encI) a),(16,.i (a.length:Int)),(17,.i c),(30,.bool (!q))] (ac (cv (qaS N j n f)) az) ?_);refine ihB g3 (fun r g3=>?_) (fun r g3=>?_)
    ·refine sh fol kAg ?_;refine Goes.ret ?_;obtain rfl:=si g3;exact Or.inr (⟨rfl,_,rfl,(gw2 [.bool false] (Ua tB))⟩)
    refine Goes.skip ?_;refine gh fol ((1,vl (qg encI) b)::(2,.func (.func 36) [] [])::(15,vl (qg encI) a)::(kAH (a.length:Int) (w64 (c+1)))) ?_;exact⟨M,(ofG 32 ((1,vl (qg encI) b)::(2,.func (.func 36) [] [])::(15,vl (qg encI) a)::(kAH (a.length:Int) (w64 (c+1)))),[]),Nat.lt_succ_self _,(Sub.refl _),_,rfl,g3⟩
   refine Goes.exit ?_;obtain rfl:=si g3;exact Or.inl (⟨rfl,rfl,(Sub.keep [] rfl rfl)⟩)
 rintro x s' (⟨rfl,rfl,hsub⟩|⟨rfl,t,rfl,hret⟩)
 ·try dsimp only at h
  refine Goes.sub hsub ?_;refine sh fol [(6,.bool true)] ?_;refine Goes.ret ?_;obtain rfl:=si h;exact(gw2 [.bool true] (Ua tB))
 try dsimp only at h
 obtain rfl:=si h;exact hret
def xG (N:Nat) (f:qbZ) (g:qbZ):Option Bool:=
 (if f.Half=g.Half then
 (qN N f.Factors g.Factors).bind fun a=>
 some a
 else
 some false:Option Bool).bind fun b=>
 some b
theorem qgm (N:Nat) (f:qbZ) (g:qbZ) {res:Bool} (h:xG N f g=some res):qc ZT (.fn 44) [.agg [.i f.Half,vl (qg encI) f.Factors],.agg [.i g.Half,vl (qg encI) g.Factors]] [] (.bool res) []:=by
 unfold xG at h;refine Ub Tryz.func44 rfl rfl (m:=17) rfl (rs:=[.tmp 4]) rfl (l:=[(0,.agg [.i f.Half,vl (qg encI) f.Factors]),(1,.agg [.i g.Half,vl (qg encI) g.Factors])]) rfl ?_;refine sg fol (kAj []) [.cells [.i f.Half,vl (qg encI) f.Factors],.cells [.i g.Half,vl (qg encI) g.Factors]] ?_;refine sq ?_;obtain⟨d,a,h⟩:=bnd h;refine Goes.cut (s':=(ofG 17 (kA1 d),[.cells [.i f.Half,vl (qg encI) f.Factors],.cells [.i g.Half,vl (qg encI) g.Factors]])) ?_ ?_
 ·rcases wyD a with⟨c,a⟩|⟨c,a⟩
  ·obtain⟨e,b,a⟩:=bnd a;obtain rfl:=si a;exact tr fol [5,10] (kA1 e) (ac (gw c) (ac (hs (.call 52 [vl (qg encI) f.Factors,vl (qg encI) g.Factors,.func (.func 36) [] []] [] [] [vl (qg encI) f.Factors,vl (qg encI) g.Factors,.func (.func 36) [] []] (.bool e)) (qdv (FzL.cons (Ud (qC (qg encI) _ (nl rfl))) (FzL.cons (Ud (qC (qg encI) _ (nl rfl))) (FzL.cons (Fz.func FzL.nil FzL.nil) FzL.nil))) (qbb N f.Factors g.Factors b) tB)) az))
  obtain rfl:=si a;exact tr fol [5] kAs (ac (gw c) az)
 refine Goes.ret ?_;obtain rfl:=si h;exact(gw2 [.bool d] (Ua tB))
def zK (N:Nat) (n:Int) (a:List Int) (b:List Int):Option Bool:=
 (yK N n a).bind fun c=>
 (yK N n b).bind fun d=>
 (xG N c d).bind fun e=>
 some e
theorem qdg (N:Nat) (n:Int) (a:List Int) (b:List Int) {res:Bool} (h:zK N n a b=some res):qc ZT (.fn 23) (.i n::(kAt a b)) [] (.bool res) []:=by
 unfold zK at h;refine Ub Tryz.func23 rfl rfl (m:=14) rfl (rs:=[.tmp 6]) rfl (l:=(kC n a (kAp b []))) rfl ?_;refine sh fol (kC n a (kAp b [])) ?_;obtain⟨g,c,h⟩:=bnd h;obtain⟨j,d,h⟩:=bnd h;obtain⟨f,e,h⟩:=bnd h;refine sq (gr fol [2,5,6] [(6,.bool f)] (ac (cv (qeL N n a c)) (ac (cv (qeL N n b d)) (ac (cv (qgm N g j e)) az))) ?_);refine Goes.ret ?_;obtain rfl:=si h;exact(gw2 [.bool f] (Ua tB))
def qcu (N:Nat) (n:Int) (a:List Int) (b:List Int):Option (Bool×Int):=
 (jK N n a b).bind fun c=>
 if(!decide (c=0))=true then
 some (false,c)
 else
 (zK N n a b).bind fun d=>
 some (d,0)
theorem qi9 (N:Nat) (n:Int) (a:List Int) (b:List Int) {res:Bool×Int} (h:qcu N n a b=some res):qc ZT (.fn 8) (.i n::(kAt a b)) [] (.tuple [.bool res.1,.i res.2]) []:=by
 unfold qcu at h;refine Ub Tryz.func8 rfl rfl (m:=20) rfl (rs:=[.tmp 6,.tmp 7]) rfl (l:=(kC n a (kAp b []))) rfl ?_;refine sh fol (kC n a (kAp b [])) ?_;refine sq ?_;obtain⟨c,d,h⟩:=bnd h;refine sq (gr fol [3] (kC n a (kAp b (kAx c))) (ac (cv (xq N n a b d)) az) ?_);refine sh fol (kC n a (kAp b ((8,.i c)::(kBR (!decide (c=0)))))) ?_;refine ihB h (fun g h=>?_) (fun g h=>?_)
 ·refine sh fol [(6,.bool false),(7,.i c)] ?_;refine Goes.ret ?_;obtain rfl:=si h;exact(gw2 [.bool false,.i c] (FzW.tuple (ql.cons (Ua tB) (ql.cons (Ua tI) ql.nil))))
 refine Goes.skip ?_;obtain⟨f,e,h⟩:=bnd h;refine sq (gr fol [3] ((6,.bool f)::kBH) (ac (cv (qdg N n a b e)) az) ?_);refine Goes.ret ?_;obtain rfl:=si h;exact(gw2 [.bool f,.i 0] (FzW.tuple (ql.cons (Ua tB) (ql.cons (Ua tI) ql.nil))))
def qaq (a:List Int):Option Bool:=
 some true
theorem qgK (a:List Int) {res:Bool} (h:qaq a=some res):qc ZT (.fn 103) [vl encI a] [] (.bool res) []:=by
 unfold qaq at h;refine Ub Tryz.func103 rfl rfl (m:=3) rfl (rs:=[.tmp 2]) rfl (l:=(kAC a [])) rfl ?_;refine sh fol [] ?_;refine sh fol [(2,.bool true)] ?_;refine Goes.ret ?_;obtain rfl:=si h;exact(gw2 [.bool true] (Ua tB))
def xZ (l:List Int):Option Bool:=
 (idx l 0).bind fun a=>
 (idx l 1).bind fun b=>
 some (decide (a=(w64 (0-b))))
theorem qhg (l:List Int) {res:Bool} (h:xZ l=some res):qc ZT (.fn 105) [vl encI l] [] (.bool res) []:=by
 unfold xZ at h;refine Ub Tryz.func105 rfl rfl (m:=11) rfl (rs:=[.tmp 2]) rfl (l:=(kAC l [])) rfl ?_;refine sh fol (kAC l []) ?_;obtain⟨c,a,h⟩:=bnd h;obtain⟨d,b,h⟩:=bnd h;refine sq (gr fol [1,2,4,5] [(2,.bool (decide (c=(w64 (0-d)))))] (ac (iv zO encI a) (ac (lv 0 ce3 encI a rfl) (ac (iv zO encI b) (ac (lv 0 ce3 encI b rfl) az)))) ?_);refine Goes.ret ?_;obtain rfl:=si h;exact(gw2 [.bool (decide (c=(w64 (0-d))))] (Ua tB))
def vC (l:List Int):Option Bool:=
 (idx l 0).bind fun a=>
 (qX a).bind fun b=>
 (idx l 1).bind fun c=>
 (qX c).bind fun d=>
 (qX (w64 (b-d))).bind fun e=>
 some (decide (e>=2))
theorem qgG (l:List Int) {res:Bool} (h:vC l=some res):qc ZT (.fn 107) [vl encI l] [] (.bool res) []:=by
 unfold vC at h;refine Ub Tryz.func107 rfl rfl (m:=14) rfl (rs:=[.tmp 2]) rfl (l:=(kAC l [])) rfl ?_;refine sh fol (kAC l []) ?_;obtain⟨g,a,h⟩:=bnd h;obtain⟨i,c,h⟩:=bnd h;obtain⟨j,b,h⟩:=bnd h;obtain⟨k,d,h⟩:=bnd h;obtain⟨f,e,h⟩:=bnd h;refine sq (gr fol [1,2,3,5,6,7,9] [(2,.bool (decide (f>=2)))] (ac (iv zO encI a) (ac (lv 0 ce3 encI a rfl) (ac (cv (qp g c)) (ac (iv zO encI b) (ac (lv 0 ce3 encI b rfl) (ac (cv (qp j d)) (ac (cv (qp (w64 (i-k)) e)) az))))))) ?_);refine Goes.ret ?_;obtain rfl:=si h;exact(gw2 [.bool (decide (f>=2))] (Ua tB))
def zM (a:Int):Option Int:=
 some (if(if a<1 then a else 1)>(-1)then(if a<1 then a else 1)else(-1))
theorem z8 (a:Int) {res:Int} (h:zM a=some res):qc ZT (.fn 84) [.i a] [] (.i res) []:=by
 unfold zM at h;refine Ub Tryz.func84 rfl rfl (m:=6) rfl (rs:=[.tmp 2]) rfl (l:=(kBe a)) rfl ?_;refine sh fol (kBe a) ?_;refine sh fol [(2,.i (if(if a<1 then a else 1)>(-1)then(if a<1 then a else 1)else(-1)))] ?_;refine Goes.ret ?_;obtain rfl:=si h;exact(gw2 [.i (if(if a<1 then a else 1)>(-1)then(if a<1 then a else 1)else(-1))] (Ua tI))
def xO (l:List Int):Option Bool:=
 (idx l 0).bind fun a=>
 (idx l 1).bind fun b=>
 (idx l 2).bind fun h=>
 ((qX a).bind fun i=>
 (qX h).bind fun j=>
 if i=j then
 (qX a).bind fun k=>
 (qX b).bind fun m=>
 (qX (w64 (k-m))).bind fun n=>
 if n=1 then
 (zM a).bind fun c=>
 (zM b).bind fun d=>
 if c=d then
 some true
 else
 (zM b).bind fun e=>
 (zM h).bind fun f=>
 some (decide (e=f))
 else
 some false
 else
 some false:Option Bool).bind fun g=>
 some g
theorem qjv (l:List Int) {res:Bool} (h:xO l=some res):qc ZT (.fn 109) [vl encI l] [] (.bool res) []:=by
 unfold xO at h;refine Ub Tryz.func109 rfl rfl (m:=43) rfl (rs:=[.tmp 2]) rfl (l:=(kAC l [])) rfl ?_;refine sh fol (kAC l []) ?_;obtain⟨k,o,h⟩:=bnd h;obtain⟨r,p,h⟩:=bnd h;obtain⟨v,q,h⟩:=bnd h;refine sq (gr fol [1,2,4,5,7,8] [(3,.i k),(4,.i r),(5,.i v)] (ac (iv zO encI o) (ac (lv 0 ce3 encI o rfl) (ac (iv zO encI p) (ac (lv 0 ce3 encI p rfl) (ac (iv zO encI q) (ac (lv 0 ce3 encI q rfl) az)))))) ?_);refine sq ?_;obtain⟨w,a,h⟩:=bnd h;refine Goes.cut (s':=(ofG 43 [(2,.bool w)],[])) ?_ ?_
 ·obtain⟨D,b,a⟩:=bnd a;obtain⟨E,c,a⟩:=bnd a;rcases wyD a with⟨c6,a⟩|⟨c6,a⟩
  ·obtain⟨x,d,a⟩:=bnd a;obtain⟨y,e,a⟩:=bnd a;obtain⟨F,f,a⟩:=bnd a;rcases wyD a with⟨n,a⟩|⟨n,a⟩
   ·obtain⟨B,g,a⟩:=bnd a;obtain⟨C,j,a⟩:=bnd a;rcases wyD a with⟨s,a⟩|⟨s,a⟩
    ·obtain rfl:=si a;exact tr fol [1,3,5,7,9,11,14,16,18,20] [(2,.bool true)] (ac (cv (qp k b)) (ac (cv (qp v c)) (ac (gw c6) (ac (cv (qp k d)) (ac (cv (qp r e)) (ac (cv (qp (w64 (x-y)) f)) (ac (gw n) (ac (cv (z8 k g)) (ac (cv (z8 r j)) (ac (gw s) az))))))))))
    obtain⟨z,t,a⟩:=bnd a;obtain⟨A,u,a⟩:=bnd a;obtain rfl:=si a;exact tr fol [1,3,5,7,9,11,14,16,18,20,22,24] [(2,.bool (decide (z=A)))] (ac (cv (qp k b)) (ac (cv (qp v c)) (ac (gw c6) (ac (cv (qp k d)) (ac (cv (qp r e)) (ac (cv (qp (w64 (x-y)) f)) (ac (gw n) (ac (cv (z8 k g)) (ac (cv (z8 r j)) (ac (gw s) (ac (cv (z8 r t)) (ac (cv (z8 v u)) az))))))))))))
   obtain rfl:=si a;exact tr fol [1,3,5,7,9,11,14] [(2,.bool false)] (ac (cv (qp k b)) (ac (cv (qp v c)) (ac (gw c6) (ac (cv (qp k d)) (ac (cv (qp r e)) (ac (cv (qp (w64 (x-y)) f)) (ac (gw n) az)))))))
  obtain rfl:=si a;exact tr fol [1,3,5] [(2,.bool false)] (ac (cv (qp k b)) (ac (cv (qp v c)) (ac (gw c6) az)))
 refine Goes.ret ?_;obtain rfl:=si h;exact(gw2 [.bool w] (Ua tB))
def jV:Option Unit:=
 some ()
theorem qa1 {res:Unit} (h:jV=some res):qc ZT (.fn 82) [] [] (fm1) []:=by
 unfold jV at h;refine Ub Tryz.func82 rfl rfl (m:=7) rfl (rs:=[.tmp 0]) rfl (l:=[]) rfl ?_;refine sh fol [] ?_;refine sg fol [(0,.map 0)] [.map kAz [.agg [.i 0,.func (.func 103) [] [],.func (.func 104) [] []],.agg [.i 2,.func (.func 105) [] [],.func (.func 106) [] []],.agg [.i 2,.func (.func 107) [] [],.func (.func 108) [] []],.agg [.i 3,.func (.func 109) [] [],.func (.func 110) [] []]]] ?_;refine Goes.ret ?_;obtain rfl:=si h;exact(gw2 [.map 0] (FzW.of (by kernel_rfl)))
end Go.Av
