/-
  Walks of functions: what each computes, as a plain function.
-/
import Derived.Test.YthgioiakbbhonaaGreatDoorAvJnE2
open Go.IntKind(wrap)
noncomputable section
namespace Go.Av
open Go.Proofs Go.RowKit
abbrev ZT:=Tryz.prog
set_option linter.unusedSectionVars false
set_option linter.unusedVariables false
set_option linter.unusedSimpArgs false
set_option maxRecDepth 100000
abbrev eU:Enc Int:=qbk .u64
abbrev eSS:Enc (List Str):=qaG encS
abbrev zl {α:Type} (l:List α):Int:=(l.length:Int)
theorem fol:Tryz.prog.follows .mixedOrders=true:=by kernel_rfl
structure qJ where
 neg:Bool
 w:List Int
def qla:Enc qJ:=(encB.prod (qaG encI)).comap λx=>(x.neg,x.w)
instance:SE qla:=⟨nl rfl⟩
structure qm where
 s:Int
 w:List Int
def qkb:Enc qm:=(encI.prod (encN eU)).comap λx=>(x.s,x.w)
instance:SE qkb:=⟨nl rfl⟩
structure qb where
 Num:qm
 Den:qm
def qa:Enc qb:=(qkb.prod qkb).comap λx=>(x.Num,x.Den)
instance:SE qa:=⟨nl rfl⟩
instance:SE (qaG qa):=⟨nl rfl⟩
abbrev gF (b:Nat) (l:List qb):AV:= .gslice b l.length 4
abbrev wM (l:List (List qb)):List Ent:=l.map (xu qa)
abbrev wS (l:List Ent) (i:Int) (v:AV):List Ent:=l.set i.toNat (.av v)
abbrev kA (a:List qb) (x:List Blk):List Blk:= .cells (a.flatMap qa.c)::x
abbrev kB (a:List Int) (x:List Blk):List Blk:= .cells (a.flatMap encI.c)::x
abbrev kC {α3:Type} {α4:Type} (a:List Int) (b:List Int) (c:Int) (d:List α3) (e:List α4) (f:Int) (x:List (Nat×AV)):List (Nat×AV):=(8,vl encI a)::(9,vl encI b)::(10,.i c)::(11,.oslice 0 d.length 1)::(12,.slice 1 0 e.length e.length 1)::(13,.i f)::x
abbrev kD {α0:Type} {α1:Type} (a:List α0) (b:List α1) (c:Int) (d:Int) (x:List (Nat×AV)):List (Nat×AV):=(0,.gslice 0 a.length 1)::(5,.gslice 1 b.length 1)::(6,.i c)::(7,.i d)::x
abbrev kE {α0:Type} (a:List α0) (x:List (Nat×AV)):List (Nat×AV):=(5,.slice 0 0 a.length a.length 1)::x
abbrev kF {α0:Type} {α2:Type} (a:List α0) (b:Int) (c:List α2) (x:List (Nat×AV)):List (Nat×AV):=(11,.slice 0 0 a.length a.length 1)::(12,.i b)::(13,.slice 1 0 c.length c.length 1)::x
abbrev kG (x:List (Nat×AV)):List (Nat×AV):=(2,.ptr 0 0)::(3,.ptr 1 0)::(4,.ptr 2 0)::x
abbrev kH (a:List Int) (b:List Int) (x:List (Nat×AV)):List (Nat×AV):=(0,vl encI a)::(1,vl encI b)::x
abbrev kI (a:List Str) (b:List Str) (x:List (Nat×AV)):List (Nat×AV):=(1,vl encS a)::(2,vl encS b)::x
abbrev kJ {α2:Type} (a:Int) (b:Int) (c:List α2) (d:Int) (e:Int) (x:List (Nat×AV)):List (Nat×AV):=(15,.i a)::(16,.i b)::(86,.gslice 0 c.length 1)::(87,.i d)::(88,.i e)::x
abbrev kK (a:Int) (b:Int) (c:Int) (d:Int) (x:List (Nat×AV)):List (Nat×AV):=(2,.int .u64 a)::(8,.int .u64 b)::(9,.int .u64 c)::(10,.int .u64 d)::x
abbrev kL (x:List Blk):List Blk:= .cells [.i 0,.nilslice,.i 0,.nilslice]::x
abbrev kM (a:Bool) (b:List Int) (c:Bool) (d:List Int) (x:List Blk):List Blk:= .cells [.bool a,vl encI b]:: .cells [.bool c,vl encI d]::x
abbrev kN (a:Int) (b:Int) (c:Int) (x:List (Nat×AV)):List (Nat×AV):=(14,.int .u64 a)::(15,.int .u64 b)::(16,.int .u64 c)::x
abbrev kO (a:Int) (b:Int) (x:List (Nat×AV)):List (Nat×AV):=(15,.i a)::(16,.i b)::x
abbrev kP (x:List Blk):List Blk:= .cells [.bool false,.nilslice]::x
abbrev kQ (x:List Blk):List Blk:= .dead:: .dead:: .dead::x
abbrev kR (a:Int) (b:Int) (x:List (Nat×AV)):List (Nat×AV):=(5,.i a)::(6,.int .u64 b)::x
abbrev kS (a:List Str) (x:List Blk):List Blk:= .cells (a.flatMap encS.c)::x
abbrev kT {α0:Type} (a:List α0) (x:List (Nat×AV)):List (Nat×AV):=(6,.slice 0 0 a.length a.length 1)::x
abbrev kU (a:Str) (b:Bool) (x:List (Nat×AV)):List (Nat×AV):=(0,.str a)::(2,.ptr 0 0)::(3,.bool b)::x
abbrev kV (a:Int) (b:Int) (x:List (Nat×AV)):List (Nat×AV):=(0,.int .u64 a)::(1,.int .u64 b)::x
abbrev kW {α0:Type} (a:List α0) (x:List (Nat×AV)):List (Nat×AV):=(8,.slice 0 0 a.length a.length 4)::x
abbrev kX (a:Str) (b:Str) (x:List (Nat×AV)):List (Nat×AV):=(0,.str a)::(1,.str b)::x
abbrev kY {α1:Type} {α2:Type} (a:Int) (b:List α1) (c:List α2) (d:Int) (e:Int) (x:List (Nat×AV)):List (Nat×AV):=(7,.i a)::(11,.gslice 0 b.length 4)::(50,.gslice 1 c.length 1)::(51,.i d)::(52,.i e)::x
abbrev kZ {α2:Type} (a:List Str) (b:Int) (c:List α2) (x:List (Nat×AV)):List (Nat×AV):=(1,vl encS a)::(7,.i b)::(8,.gslice 0 c.length 1)::x
abbrev kAA (a:Int) (b:Int) (x:List (Nat×AV)):List (Nat×AV):=(11,.int .u64 a)::(12,.int .u64 b)::x
abbrev kAB (a:Int) (x:List (Nat×AV)):List (Nat×AV):=(1,.i a)::(2,.ptr 0 0)::(4,.ptr 1 0)::(5,.ptr 2 0)::x
abbrev kAC {α0:Type} (a:List α0) (x:List (Nat×AV)):List (Nat×AV):=(12,.gslice 2 a.length 4)::(13,.ptr 3 0)::x
abbrev kAD (a:Int) (b:Int) (x:List (Nat×AV)):List (Nat×AV):=(7,.int .u64 a)::(8,.int .u64 b)::x
abbrev kAE (a:Int) (b:Int):List (Nat×AV):=[(7,.i a),(8,.i b)]
abbrev kAF (a:List Str) (b:Int) (c:List Str) (d:Int) (x:List (Nat×AV)):List (Nat×AV):=(7,vl encS a)::(8,.i b)::(9,vl encS c)::(10,.i d)::x
abbrev kAG (a:Int) (b:Int) (x:List (Nat×AV)):List (Nat×AV):=(0,.slice 0 0 3 3 1)::(3,.i a)::(9,.slice 0 0 3 3 1)::(10,.i 3)::(11,.i b)::x
abbrev kAH (a:Int) (b:Int) (x:List (Nat×AV)):List (Nat×AV):=(21,.i a)::(22,.i b)::x
abbrev kAI {α0:Type} (a:List α0) (x:List (Nat×AV)):List (Nat×AV):=(6,.gslice 0 a.length 1)::x
abbrev kAJ (a:List Str) (x:List (Nat×AV)):List (Nat×AV):=(1,vl encS a)::x
abbrev kAK {α0:Type} (a:List α0) (b:List qb) (c:Int) (x:List (Nat×AV)):List (Nat×AV):=(3,.slice 0 0 a.length a.length 1)::(9,vl qa b)::(10,.i c)::x
abbrev kAL (x:List (Nat×AV)):List (Nat×AV):=(2,.ptr 0 0)::(3,.ptr 1 0)::x
abbrev kAM (a:Str) (b:Str) (c:Bool) (x:List (Nat×AV)):List (Nat×AV):=(5,.str a)::(6,.str b)::(7,.bool c)::x
abbrev kAN (a:Int) (x:List (Nat×AV)):List (Nat×AV):=(6,.int .u64 a)::x
abbrev kAO {α2:Type} (a:Int) (b:Int) (c:List α2) (d:Int) (e:Int) (x:List (Nat×AV)):List (Nat×AV):=(41,.i a)::(42,.i b)::(60,.gslice 2 c.length 4)::(61,.i d)::(62,.i e)::x
abbrev kAP (a:List qb) (b:List qb) (c:List qb) (x:List Blk):List Blk:= .cells [vl qa a,vl qa b,vl qa c]::x
abbrev kAQ {α0:Type} {α1:Type} (a:List α0) (b:List α1) (x:List (Nat×AV)):List (Nat×AV):=(0,.gslice 0 a.length 1)::(5,.gslice 1 b.length 1)::x
abbrev kAR (a:Option (List qb)):List Blk:=[.cells ((hof a).flatMap qa.c)]
abbrev kAS (a:Int) (b:Int):List (Nat×AV):=[(13,.i a),(14,.i b)]
abbrev kAT {α0:Type} (a:List α0) (b:Bool) (x:List (Nat×AV)):List (Nat×AV):=(2,.ptr 0 0)::(3,.gslice 1 a.length 1)::(4,.bool b)::x
abbrev kAU {α0:Type} (a:List α0) (x:List (Nat×AV)):List (Nat×AV):=(7,.slice 1 0 a.length a.length 4)::x
abbrev kAV {α0:Type} (a:List α0) (x:List (Nat×AV)):List (Nat×AV):=(5,.gslice 0 a.length 1)::x
abbrev kAW (a:Int) (b:Int) (x:List (Nat×AV)):List (Nat×AV):=(0,.i a)::(1,.i b)::x
abbrev kAX (a:Int) (b:Int) (x:List (Nat×AV)):List (Nat×AV):=(11,.int .u64 a)::(13,.int .u64 b)::x
abbrev kAY (a:Int) (b:Int):List (Nat×AV):=[(25,.i a),(26,.i b)]
abbrev kAZ (a:List qb) (x:List (Nat×AV)):List (Nat×AV):=(0,vl qa a)::x
abbrev kAa (a:Bool) (b:List Int) (x:List Blk):List Blk:= .cells [.bool a,vl encI b]::x
abbrev kAb (a:List Int):List Blk:=[.frozen (a.flatMap encI.c)]
abbrev kAc (a:Int) (b:Int) (x:List (Nat×AV)):List (Nat×AV):=(17,.int .u64 a)::(18,.int .u64 b)::x
abbrev kAd (x:List (Nat×AV)):List (Nat×AV):=(3,.ptr 1 0)::(4,.ptr 2 0)::(5,.ptr 3 0)::x
abbrev kAe {α3:Type} (a:List Int) (b:List Int) (c:Int) (d:List α3) (x:List (Nat×AV)):List (Nat×AV):=(8,vl encI a)::(9,vl encI b)::(10,.i c)::(11,.oslice 0 d.length 1)::x
abbrev kAf (a:Int) (x:List (Nat×AV)):List (Nat×AV):=(7,.int .u64 a)::x
abbrev kAg (x:List (Nat×AV)):List (Nat×AV):=(1,.ptr 0 0)::x
abbrev kAh (a:Bool) (b:List Int):List AV:=[.bool a,vl encI b]
abbrev kAi (a:List Int) (b:Int) (x:List (Nat×AV)):List (Nat×AV):=(0,vl encI a)::(1,.i b)::x
abbrev kAj (a:Int) (b:Int) (x:List (Nat×AV)):List (Nat×AV):=(6,.i a)::(7,.i b)::x
abbrev kAk (a:List Str) (x:List (Nat×AV)):List (Nat×AV):=(0,vl encS a)::x
abbrev kAl:List (Nat×AV):=[(4,.ptr 2 0)]
abbrev kAm (x:List (Nat×AV)):List (Nat×AV):=(2,.ptr 0 0)::x
abbrev kAn (a:Str):List (Nat×AV):=[(0,.str a)]
abbrev kAo (a:Str) (b:Int) (x:List (Nat×AV)):List (Nat×AV):=(0,.str a)::(3,.i b)::x
abbrev kAp (a:Str) (b:Int) (x:List (Nat×AV)):List (Nat×AV):=(3,.str a)::(4,.i b)::x
abbrev kAq (a:Int) (b:Int) (c:Int) (d:Int) (x:List (Nat×AV)):List (Nat×AV):=(2,.i a)::(7,.i b)::(9,.i c)::(10,.i d)::x
abbrev kAr {α1:Type} (a:List Str) (b:List α1) (x:List (Nat×AV)):List (Nat×AV):=(2,vl encS a)::(12,.gslice 0 b.length 1)::x
abbrev kAs (x:List (Nat×AV)):List (Nat×AV):=(4,.ptr 0 0)::x
abbrev kAt:List Blk:=[.cells (([]:List Int).flatMap encI.c)]
abbrev kAu (a:Int) (b:Int) (x:List (Nat×AV)):List (Nat×AV):=(8,.i a)::(9,.i b)::x
abbrev kAv (a:Bool) (b:List Int) (c:Bool) (d:List Int):List AV:=[.agg [.bool a,vl encI b],.agg [.bool c,vl encI d]]
abbrev kAw (a:Int) (b:Int):List (Nat×AV):=[(104,.i a),(105,.i b)]
abbrev kAx (a:Int) (b:Int):List (Nat×AV):=[(28,.i a),(29,.i b)]
abbrev kAy:List (Nat×AV):=[(6,.bool false)]
abbrev kAz:List (Nat×AV):=[(2,.ptr 1 0)]
abbrev kA0 (a:Int) (b:Int) (c:Int) (x:List (Nat×AV)):List (Nat×AV):=(17,.int .u64 a)::(156,.i b)::(157,.i c)::x
abbrev kA1 (a:Int) (x:List Blk):List Blk:= .dead:: .cells [.i a]::x
abbrev kA2 (x:List (Nat×AV)):List (Nat×AV):=(0,.slice 0 0 1 1 4)::x
abbrev kA3 (a:Int) (b:Int):List AV:=[.int .u64 a,.int .u64 b]
abbrev kA4 (a:Int) (b:Int):List (Nat×AV):=[(110,.i a),(111,.i b)]
abbrev kA5 (a:Str) (b:Bool) (x:List (Nat×AV)):List (Nat×AV):=(5,.str a)::(6,.bool b)::x
abbrev kA6 (a:Int) (b:Int):List (Nat×AV):=[(96,.i a),(97,.i b)]
abbrev kA7 (a:Int):List Blk:=[.cells [.i a,.nilslice]]
abbrev kA8 (a:Int):List (Nat×AV):=[(5,.i a)]
abbrev kA9 (a:Int) (b:Int) (x:List (Nat×AV)):List (Nat×AV):=(14,.int .u64 a)::(15,.int .u64 b)::x
abbrev kBA (a:Int) (b:Int):List (Nat×AV):=[(65,.i a),(66,.i b)]
abbrev kBB {α0:Type} (a:List α0) (b:Int) (x:List (Nat×AV)):List (Nat×AV):=(50,.gslice 1 a.length 1)::(51,.i b)::x
abbrev kBC (a:Bool):List (Nat×AV):=[(4,.bool a)]
abbrev kBD (x:List (Nat×AV)):List (Nat×AV):=(0,.slice 0 0 3 3 1)::x
abbrev kBE (a:Int) (b:Int) (x:List (Nat×AV)):List (Nat×AV):=(0,.int .u64 a)::(2,.i b)::x
abbrev kBF:List (Nat×AV):=[(4,.bool false)]
abbrev kBG {α1:Type} (a:Int) (b:List α1) (x:List (Nat×AV)):List (Nat×AV):=(7,.i a)::(8,.gslice 0 b.length 1)::x
abbrev kBH (a:Bool):List (Nat×AV):=[(12,.bool a)]
abbrev kBI (a:Bool):List (Nat×AV):=[(10,.bool a)]
abbrev kBJ (a:Int):List (Nat×AV):=[(26,.i 3),(27,.i a)]
abbrev kBK (a:Int):List (Nat×AV):=[(61,.i a),(62,.i 0)]
abbrev kBL (a:List Int) (x:List (Nat×AV)):List (Nat×AV):=(0,vl encI a)::x
abbrev kBM (a:List Int) (b:List Int):List AV:=[vl encI a,vl encI b]
abbrev kBN (a:List Int) (b:List Int):List (Nat×AV):=[(4,vl encI a),(5,vl encI b)]
abbrev kBO (a:Bool):List (Nat×AV):=[(13,.bool a)]
abbrev kBP (a:Bool):List (Nat×AV):=[(15,.bool a)]
abbrev kBQ:List (Nat×AV):=[(59,.bool true)]
abbrev kBR (a:Int) (b:Int):List Blk:=[.cells [.i a,.i b]]
abbrev kBS (x:List (Nat×AV)):List (Nat×AV):=(10,.ptr 1 0)::x
abbrev kBT (a:Int) (b:Int) (x:List (Nat×AV)):List (Nat×AV):=(5,.i a)::(6,.i b)::x
abbrev kBU:List (Nat×AV):=[(4,.ptr 1 0)]
abbrev kBV (a:Int):List (Nat×AV):=[(14,.i a)]
abbrev kBW (a:Int) (b:List Str) (x:List (Nat×AV)):List (Nat×AV):=(9,.i a)::(10,vl encS b)::x
abbrev kBX:List (Nat×AV):=[(4,.nilslice),(5,.i 14)]
abbrev kBY (a:Bool):List (Nat×AV):=[(8,.bool a)]
abbrev kBZ (x:List (Nat×AV)):List (Nat×AV):=(8,.int .u64 0)::x
abbrev kBa (x:List (Nat×AV)):List (Nat×AV):=(11,.ptr 1 0)::x
abbrev kBb:List (Nat×AV):=[(2,.bool false)]
abbrev kBc:List (Nat×AV):=[(8,.bool false)]
abbrev kBd (x:List (Nat×AV)):List (Nat×AV):=(11,.ptr 0 0)::(12,.ptr 1 0)::x
abbrev kBe (a:Bool):List (Nat×AV):=[(20,.bool a)]
abbrev kBf (a:Int) (x:List (Nat×AV)):List (Nat×AV):=(2,.int .u64 a)::x
abbrev kBg:List (Nat×AV):=[(4,.i (-1))]
abbrev kBh (a:Int) (b:Int) (x:List (Nat×AV)):List (Nat×AV):=(2,.i a)::(3,.i b)::x
abbrev kBi (a:Str):List (Nat×AV):=[(4,.str a)]
abbrev kBj (x:List (Nat×AV)):List (Nat×AV):=(9,.ptr 2 0)::x
abbrev kBk (a:List Str) (x:List (Nat×AV)):List (Nat×AV):=(6,vl encS a)::x
abbrev kBl (a:Int) (x:List (Nat×AV)):List (Nat×AV):=(0,.nilslice)::(1,.i a)::x
abbrev kBm {α0:Type} (a:List α0) (x:List (Nat×AV)):List (Nat×AV):=(0,.gslice 0 a.length 1)::x
abbrev kBn {α0:Type} (a:List α0) (x:List Blk):List Blk:= .cells [.oslice 5 a.length 4]::x
abbrev kBo {α0:Type} (a:List α0) (x:List Blk):List Blk:= .cells [.gslice 3 a.length 4]::x
abbrev kBp (a:List Str) (x:List (Nat×AV)):List (Nat×AV):=(9,vl encS a)::x
abbrev kBq:List (Nat×AV):=[(5,.gslice 0 ([]:List Int).length 1),(6,.i 0),(7,.i 0)]
abbrev kBr (a:Bool):List (Nat×AV):=[(2,.bool a)]
abbrev kBs (a:Bool):List (Nat×AV):=[(9,.bool a)]
abbrev kBt (a:Int) (b:Int) (x:List (Nat×AV)):List (Nat×AV):=(7,.i a)::(8,.i b)::x
abbrev kBu:List (Nat×AV):=[(3,.i 0),(9,.slice 0 0 3 3 1),(10,.i 3),(11,.i 0)]
abbrev kBv (a:Int):List (Nat×AV):=[(2,.i a)]
abbrev kBw (a:Int):List (Nat×AV):=[(6,.i a)]
abbrev kBx (a:Int) (b:Int) (x:List (Nat×AV)):List (Nat×AV):=(41,.i a)::(42,.i b)::x
abbrev kBy (x:List Blk):List Blk:= .dead:: .dead::x
abbrev nz1 (x:qm):List AV:=ni1 x.s x.w
abbrev nq1 (x:qb):List AV:=ni2 x.Num.s x.Num.w x.Den.s x.Den.w
theorem st9:Tryz.prog.underlying 9=some .string:=by kernel_rfl
theorem vT:SlT ZT 52 3 1 8:=⟨by kernel_rfl,by kernel_rfl,by kernel_rfl,by kernel_rfl⟩
theorem ce3:CeT ZT 3:=⟨by kernel_rfl,by kernel_rfl⟩
theorem qnY:Tryz.prog.underlying 34=some .string:=by kernel_rfl
theorem qeI:SlT ZT 23 34 1 16:=⟨by kernel_rfl,by kernel_rfl,by kernel_rfl,by kernel_rfl⟩
theorem qf8:CeT ZT 34:=⟨by kernel_rfl,by kernel_rfl⟩
theorem qcA:SlT ZT 22 23 1 24:=⟨by kernel_rfl,by kernel_rfl,by kernel_rfl,by kernel_rfl⟩
theorem qcz:CeT ZT 23:=⟨by kernel_rfl,by kernel_rfl⟩
theorem sl139:SlT ZT 139 28 1 8:=⟨by kernel_rfl,by kernel_rfl,by kernel_rfl,by kernel_rfl⟩
theorem ce28:CeT ZT 28:=⟨by kernel_rfl,by kernel_rfl⟩
theorem qbh:Tryz.prog.underlying 72=some (.slice 180):=by kernel_rfl
theorem je:SlT ZT 72 180 1 8:=⟨by kernel_rfl,by kernel_rfl,by kernel_rfl,by kernel_rfl⟩
theorem jo:CeT ZT 180:=⟨by kernel_rfl,by kernel_rfl⟩
theorem qrE:SlT ZT 211 9 1 16:=⟨by kernel_rfl,by kernel_rfl,by kernel_rfl,by kernel_rfl⟩
theorem ce9:CeT ZT 9:=⟨by kernel_rfl,by kernel_rfl⟩
theorem qaP:SlT ZT 70 76 4 64:=⟨by kernel_rfl,by kernel_rfl,by kernel_rfl,by kernel_rfl⟩
theorem qfG:AgT ZT 76 4:=⟨by kernel_rfl,by kernel_rfl⟩
theorem qdn:SlT ZT 69 70 1 24:=⟨by kernel_rfl,by kernel_rfl,by kernel_rfl,by kernel_rfl⟩
theorem qf3:CeT ZT 70:=⟨by kernel_rfl,by kernel_rfl⟩
theorem it3:Tryz.prog.underlying 3=some (.int .i64):=by kernel_rfl
theorem qob:nIf ZT 76=true:=by kernel_rfl
def yF (b:Str):Nat->Int->Option (Unit⊕Int)
 |0,_=>none
 |K+1,a=>
  if a<(b.length:Int)then
  (idx b a).bind λc=>
  if(c.toNat:Int)=47 then
  some (.inr a)
  else
  yF b K (w64 (a+1))
  else
  some (.inl ())
def xC (N:Nat) (a:Str):Option Int:=
 (yF a N 0).bind (λ
 |(.inl ())=>
 some (a.length:Int)
 |(.inr b)=>
 some b)
theorem qaZ (N:Nat) (a:Str) {res:Int} (h:xC N a=some res):qf ZT (.fn 94) [.str a] [] (.i res) []:=by
 unfold xC at h;obtain⟨d,g2,h⟩:=bnd h;refine Ub Tryz.func94 rfl rfl (m:=17) rfl (rs:=[.tmp 2]) rfl (l:=(kAn a)) rfl<|sh fol (kAn a)<|sq<|sh fol [(0,.str a),(3,.i 0)]<|Goes.block<|Goes.imp (Q:=λx s'=>(x= .exit 0/\(.inl ())=d/\Sub s' (ofG 17 (kAn a),[]))\/(x= .ret/\ ∃e,(.inr e)=d/\zm ZT [.tmp 2] (.i e) .ret s')) ?_ ?_
 ·refine Ud (λM s=> ∃(b:Int),s=(ofG 17 (kAo a b []),[])/\yF a M b=some d) ?_ (m:=N) ⟨_,rfl,g2⟩;rintro M s ⟨b,rfl,g2⟩
  cases M with
  |zero=>simp only[yF]at g2;cases g2
  |succ M=>
   rw[yF]at g2;refine sq<|sh fol (kAo a b [(7,.bool (decide (b<(zl a))))])<|ihD g2 (λg g2=>?_) (λg g2=>?_)
   ·obtain⟨f,c,g2⟩:=bnd g2;refine Goes.skip<|sq<|Goes.block<|sq<|gr fol [2] (kAo a b (kBO (decide ((f.toNat:Int)=47)))) (qh (hs (.done (.opt (xw ZT 9 (.str a) (.i b))) (.int .u8 (f.toNat:Int))) (qbm st9 c)))<|ihD g2 (λj g2=>?_) (λj g2=>?_)
    ·cases g2
     exact sh fol (kBv b)<|Goes.ret<|Or.inr (⟨rfl,_,rfl,(gw2 [.i b] (Ua tI))⟩)
    exact Goes.skip<|gh fol (kAo a (w64 (b+1)) [])<|zo ⟨_,rfl,g2⟩
   cases g2
   exact Goes.exit<|Or.inl (⟨rfl,rfl,(Sub.keep [0] rfl rfl)⟩)
 rintro x s' (⟨rfl,rfl,hsub⟩|⟨rfl,k,rfl,hret⟩)
 ·try dsimp only at h
  cases h
  exact Goes.sub hsub<|sh fol (kBv (zl a))<|Goes.ret<|(gw2 [.i (zl a)] (Ua tI))
 try dsimp only at h
 cases h
 exact hret
def jZ (a:Str):Nat->Int->Option (Unit⊕Bool)
 |0,_=>none
 |K+1,b=>
  if b<(a.length:Int)then
  ((idx a b).bind λc=>
  if(c.toNat:Int)<48 then
  some true
  else
  some (decide ((c.toNat:Int)>57)):Option Bool).bind λd=>
  if d=true then
  some (.inr false)
  else
  jZ a K (w64 (b+1))
  else
  some (.inl ())
def qbM (N:Nat) (b:Str):Option Bool:=
 (jZ b N 0).bind (λ
 |(.inl ())=>
 some true
 |(.inr a)=>
 some a)
theorem qhq (N:Nat) (b:Str) {res:Bool} (h:qbM N b=some res):qf ZT (.fn 144) [.str b] [] (.bool res) []:=by
 unfold qbM at h;obtain⟨f,g2,h⟩:=bnd h;refine Ub Tryz.func144 rfl rfl (m:=20) rfl (rs:=[.tmp 2]) rfl (l:=(kAn b)) rfl<|sh fol (kAn b)<|sq<|sh fol [(0,.str b),(3,.i 0)]<|Goes.block<|Goes.imp (Q:=λx s'=>(x= .exit 0/\(.inl ())=f/\Sub s' (ofG 20 [],[]))\/(x= .ret/\ ∃j,(.inr j)=f/\zm ZT [.tmp 2] (.bool j) .ret s')) ?_ ?_
 ·refine Ud (λM s=> ∃(c:Int),s=(ofG 20 (kAo b c []),[])/\jZ b M c=some f) ?_ (m:=N) ⟨_,rfl,g2⟩;rintro M s ⟨c,rfl,g2⟩
  cases M with
  |zero=>simp only[jZ]at g2;cases g2
  |succ M=>
   rw[jZ]at g2;refine sq<|sh fol (kAo b c [(7,.bool (decide (c<(zl b))))])<|ihD g2 (λk g2=>?_) (λk g2=>?_)
   ·obtain⟨n,a,g2⟩:=bnd g2;refine Goes.skip<|sq<|Goes.block<|sq<|Goes.cut (s':=(ofG 20 (kAo b c [(19,.bool n)]),[])) ?_ ?_
    ·obtain⟨e,d,a⟩:=bnd a;rcases wyD a with⟨g,a⟩|⟨g,a⟩
     ·cases a
      exact tr fol [2,4] (kAo b c [(19,.bool true)]) (qA (hs (.done (.opt (xw ZT 9 (.str b) (.i c))) (.int .u8 (e.toNat:Int))) (qbm st9 d)) (gw g))
     cases a
     exact tr fol [2,4,7] (kAo b c [(19,.bool (decide ((e.toNat:Int)>57)))]) (qI (hs (.done (.opt (xw ZT 9 (.str b) (.i c))) (.int .u8 (e.toNat:Int))) (qbm st9 d)) (gw g) (hs (.done (.opt (xw ZT 9 (.str b) (.i c))) (.int .u8 (e.toNat:Int))) (qbm st9 d)))
    refine ihB g2 (λo g2=>?_) (λo g2=>?_)
    ·cases g2
     exact sh fol kBb<|Goes.ret<|Or.inr (⟨rfl,_,rfl,(gw2 [.bool false] (Ua tB))⟩)
    exact Goes.skip<|gh fol (kAo b (w64 (c+1)) [])<|zo ⟨_,rfl,g2⟩
   cases g2
   exact Goes.exit<|Or.inl (⟨rfl,rfl,(Sub.keep [] rfl rfl)⟩)
 rintro x s' (⟨rfl,rfl,hsub⟩|⟨rfl,p,rfl,hret⟩)
 ·try dsimp only at h
  cases h
  exact Goes.sub hsub<|sh fol [(2,.bool true)]<|Goes.ret<|(gw2 [.bool true] (Ua tB))
 try dsimp only at h
 cases h
 exact hret
def jQ (N:Nat) (a:Str):Option Bool:=
 (if(a.length:Int)=0 then
 some true
 else
 if(a.length:Int)>1 then
 (idx a 0).bind λb=>
 some (decide ((b.toNat:Int)=48))
 else
 some false:Option Bool).bind λc=>
 if c=true then
 some false
 else
 (qbM N a).bind λd=>
 some d
theorem jG (N:Nat) (b:Str) {res:Bool} (h:jQ N b=some res):qf ZT (.fn 95) [.str b] [] (.bool res) []:=by
 unfold jQ at h;obtain⟨k,a,h⟩:=bnd h;refine Ub Tryz.func95 rfl rfl (m:=18) rfl (rs:=[.tmp 2]) rfl (l:=(kAn b)) rfl<|sh fol (kAn b)<|sq<|sq<|Goes.cut (s':=(ofG 18 ((0,.str b)::(kBP k)),[])) ?_ ?_
 ·rcases wyD a with⟨e,a⟩|⟨e,a⟩
  ·cases a
   exact tr fol [3] [(0,.str b),(15,.bool true)] (qh (gw e))
  rcases wyD a with⟨f,a⟩|⟨f,a⟩
  ·obtain⟨g,c,rfl⟩:=bs1 a;exact tr fol [3,7,9] ((0,.str b)::(kBP (decide ((g.toNat:Int)=48)))) (qI (gw e) (gw f) (hs (.done (.opt (xw ZT 9 (.str b) (.i 0))) (.int .u8 (g.toNat:Int))) (qbm st9 c)))
  cases a
  exact tr fol [3,7] [(0,.str b),(15,.bool false)] (qA (gw e) (gw f))
 refine ihB h (λn h=>?_) (λn h=>?_)
 ·cases h
  exact sh fol kBb<|Goes.ret<|(gw2 [.bool false] (Ua tB))
 obtain⟨j,d,rfl⟩:=bs1 h;exact Goes.skip<|sq<|gr fol [1] (kBr j) (qh (cv (qhq N b d)))<|Goes.ret<|(gw2 [.bool j] (Ua tB))
def yu (a:Str):Nat->Int->Int->Option Int
 |0,_,_=>none
 |K+1,c,b=>
  if b<(a.length:Int)then
  (idx a b).bind λd=>
  yu a K (w64 ((w64 ((w64 (10*c))+(w64 (d.toNat:Int))))-48)) (w64 (b+1))
  else
  some c
def qai (N:Nat) (a:Str):Option Int:=
 (yu a N 0 0).bind λb=>
 some b
theorem qbL (N:Nat) (a:Str) {res:Int} (h:qai N a=some res):qf ZT (.fn 148) [.str a] [] (.i res) []:=by
 unfold qai at h;obtain⟨g,g4,h⟩:=bnd h;refine Ub Tryz.func148 rfl rfl (m:=20) rfl (rs:=[.tmp 2]) rfl (l:=(kAn a)) rfl<|sh fol (kAn a)<|sh fol [(0,.str a),(3,.i 0)]<|sq<|sh fol [(0,.str a),(3,.i 0),(4,.i 0)]<|Goes.block<|Goes.imp (Q:=λx s'=>(x= .exit 0/\ ∃d,d=g/\Sub s' (ofG 20 [(3,.i d)],[]))) ?_ ?_
 ·refine Ud (λM s=> ∃(c:Int) (b:Int),s=(ofG 20 (kAo a c [(4,.i b)]),[])/\yu a M c b=some g) ?_ (m:=N) ⟨_,_,rfl,g4⟩;rintro M s ⟨c,b,rfl,g4⟩
  cases M with
  |zero=>simp only[yu]at g4;cases g4
  |succ M=>
   rw[yu]at g4;refine sq<|sh fol (kAo a c ((4,.i b)::(kBY (decide (b<(zl a))))))<|ihD g4 (λj g4=>?_) (λj g4=>?_)
   ·obtain⟨f,e,g4⟩:=bnd g4;exact Goes.skip<|sq<|Goes.block<|gr fol [4] (kAo a (w64 ((w64 ((w64 (10*c))+(w64 (f.toNat:Int))))-48)) [(4,.i b)]) (qh (hs (.done (.opt (xw ZT 9 (.str a) (.i b))) (.int .u8 (f.toNat:Int))) (qbm st9 e)))<|gh fol (kAo a (w64 ((w64 ((w64 (10*c))+(w64 (f.toNat:Int))))-48)) [(4,.i (w64 (b+1)))])<|zo ⟨_,_,rfl,g4⟩
   cases g4
   exact Goes.exit<|⟨rfl,_,rfl,(Sub.keep [3] rfl rfl)⟩
 rintro x s' ⟨rfl,d,rfl,hsub⟩;obtain rfl:=si h;exact Goes.sub hsub<|sh fol (kBv d)<|Goes.ret<|(gw2 [.i d] (Ua tI))
def xN:Nat->(List Int)->Option (List Int)
 |0,_=>none
 |K+1,a=>
  (if(a.length:Int)>0 then
  (idx a (w64 ((a.length:Int)-1))).bind λb=>
  some (decide (b=0))
  else
  some false:Option Bool).bind λc=>
  if c=true then
  (cut a 0 (w64 ((a.length:Int)-1))).bind λd=>
  xN K d
  else
  some a
def yZ (N:Nat) (w:List Int):Option (List Int):=
 (xN N w).bind λa=>
 some a
theorem xP (N:Nat) (w:List Int) {res:List Int} (h:yZ N w=some res):qf ZT (.fn 183) [vl encI w] [] (vl encI res) []:=by
 unfold yZ at h;obtain⟨g,g3,h⟩:=bnd h;refine Ub Tryz.func183 rfl rfl (m:=21) rfl (rs:=[.tmp 2]) rfl (l:=(kBL w [])) rfl<|sh fol (kBL w [])<|sq<|Goes.block<|Goes.imp (Q:=λx s'=>(x= .exit 0/\ ∃d,d=g/\Sub s' (ofG 21 (kBL d []),[]))) ?_ ?_
 ·refine Ud (λM s=> ∃(b:List Int),s=(ofG 21 (kBL b []),[])/\xN M b=some g) ?_ (m:=N) ⟨_,rfl,g3⟩;rintro M s ⟨b,rfl,g3⟩
  cases M with
  |zero=>simp only[xN]at g3;cases g3
  |succ M=>
   rw[xN]at g3;obtain⟨k,a,g3⟩:=bnd g3;refine sq<|sq<|Goes.cut (s':=(ofG 21 (kBL b [(14,.bool k)]),[])) ?_ ?_
   ·rcases wyD a with⟨f,a⟩|⟨f,a⟩
    ·obtain⟨n,c,rfl⟩:=bs1 a;exact tr fol [3,8,9] (kBL b [(14,.bool (decide (n=0)))]) (qI (gw f) (iv vT encI c) (lv 0 ce3 encI c rfl))
    cases a
    exact tr fol [3] (kBL b [(14,.bool false)]) (qh (gw f))
   refine ihB g3 (λo g3=>?_) (λo g3=>?_)
   ·obtain⟨j,e,g3⟩:=bnd g3;exact Goes.skip<|Goes.block<|gr fol [4] (kBL j []) (qh (hs (.done (.opt (qC ZT 52 (vl encI b) none (some (.i (w64 ((zl b)-1)))) none)) (vl encI j)) (qjL vT (E:=encI) rfl none (some (w64 ((zl b)-1))) e)))<|zo ⟨_,rfl,g3⟩
   cases g3
   exact Goes.exit<|⟨rfl,_,rfl,(Sub.keep [0] rfl rfl)⟩
 rintro x s' ⟨rfl,d,rfl,hsub⟩;obtain rfl:=si h;exact Goes.sub hsub<|sh fol [(2,vl encI d)]<|Goes.ret<|(gw2 [vl encI d] (Ua (qw encI _ (nl rfl))))
def ja (N:Nat) (neg:Bool) (w:List Int):Option qJ:=
 (yZ N w).bind λa=>
 (if neg=true then
 some (decide ((a.length:Int)>0))
 else
 some false:Option Bool).bind λb=>
 some (⟨b,a⟩:qJ)
theorem jw (N:Nat) (neg:Bool) (w:List Int) {res:qJ} (h:ja N neg w=some res):qf ZT (.fn 153) (kAh neg w) [] (.agg (kAh res.neg res.w)) []:=by
 unfold ja at h;obtain⟨b,c,e,a,h⟩:=bn2 h;refine Ub Tryz.func153 rfl rfl (m:=15) rfl (rs:=[.cell 4 130]) rfl (l:=[(0,.bool neg),(1,vl encI w)]) rfl<|sg fol ((0,.bool neg)::(1,vl encI w)::(kAs [])) (kP [])<|sq<|gr fol [1] ((0,.bool neg)::(1,vl encI b)::(kAs [])) (qh (cv (xP N w c)))<|sq<|Goes.cut (s':=(ofG 15 (kAs []),(kAa e b []))) ?_ ?_
 ·rcases wyB a with⟨d,a⟩|⟨d,a⟩
  ·cases a
   exact qbg.rq fol [1] (kAs []) (kAa (decide ((zl b)>0)) b []) (qh (gw d))
  cases a
  exact qbg.rq fol [1] (kAs []) [.cells [.bool false,vl encI b]] (qh (gw d))
 cases h
 exact Goes.ret<|(gw2 [.agg (kAh e b)] (FzW.agg (qj.cons (Ua tB) (qj.cons (Ua (qw encI _ (nl rfl))) qj.nil))))
def xm (N:Nat):Nat->(List Int)->Str->Option ((List Int)×Str)
 |0,_,_=>none
 |K+1,f,a=>
  if(a.length:Int)>9 then
  (cut a (w64 ((a.length:Int)-9)) (a.length:Int)).bind λb=>
  (qai N b).bind λc=>
  (app 8 f [c]).bind λd=>
  (cut a 0 (w64 ((a.length:Int)-9))).bind λe=>
  xm N K d e
  else
  some (f,a)
def qaV (N:Nat) (a:Str):Option qJ:=
 (if(a.length:Int)>0 then
 (idx a 0).bind λh=>
 some (decide ((h.toNat:Int)=45))
 else
 some false:Option Bool).bind λg=>
 ((if g=true then
 (cut a 1 (a.length:Int)).bind λi=>
 some i
 else
 some a:Option Str)).bind λj=>
 (xm N N ([]:List Int) j).bind λ(b,c)=>
 (qai N c).bind λd=>
 (app 8 b [d]).bind λe=>
 (ja N g e).bind λf=>
 some f
theorem qdm (N:Nat) (k:Str) {res:qJ} (h:qaV N k=some res):qf ZT (.fn 145) [.str k] [] (.agg (kAh res.neg res.w)) []:=by
 unfold qaV at h;obtain⟨d,b,h⟩:=bnd h;refine Ub Tryz.func145 rfl rfl (m:=40) rfl (rs:=[.cell 2 130]) rfl (l:=(kAn k)) rfl<|sg fol ((0,.str k)::(kAm [])) (kP [])<|sq<|Goes.cut (s':=(ofG 40 (kU k d []),(kP []))) ?_ ?_
 ·rcases wyD b with⟨H,b⟩|⟨H,b⟩
  ·obtain⟨J,B,rfl⟩:=bs1 b;exact tr fol [3,5] (kU k (decide ((J.toNat:Int)=45)) []) (qA (gw H) (hs (.done (.opt (xw ZT 9 (.str k) (.i 0))) (.int .u8 (J.toNat:Int))) (qbm st9 B)))
  cases b
  exact tr fol [3] ((0,.str k)::(kAm [(3,.bool false)])) (qh (gw H))
 obtain⟨L,g6,h⟩:=bnd h;refine sq<|sh fol (kU k d (kBO d))<|Goes.imp (Q:=λx s'=>(x= .normal/\ ∃C,C=L/\Sub s' (ofG 40 (kU C d []),(kP [])))) ?_ ?_
 ·refine ihB g6 (λO g6=>?_) (λO g6=>?_)
  ·obtain⟨K,D,rfl⟩:=bs1 g6;exact gr fol [1] (kU K d []) (qh (hs (.done (.opt (qC ZT 9 (.str k) (some (.i 1)) none none)) (.str K)) (jN st9 (some 1) none D)))<|⟨rfl,_,rfl,(Sub.refl _)⟩
  cases g6
  exact Goes.skip<|⟨rfl,_,rfl,(Sub.keep [0,2,3] rfl rfl)⟩
 rintro x s' ⟨rfl,C,rfl,hsub⟩;obtain⟨F,g13,h⟩:=bnd h;refine Goes.sub hsub<|sh fol (kU C d [(4,.nilslice)])<|sq<|Goes.block<|Goes.imp (Q:=λx s'=>(x= .exit 0/\ ∃e n,(e,n)=F/\Sub s' (ofG 40 (kU n d [(4,.gslice 1 e.length 1)]),(kP (kB e []))))) ?_ ?_
 ·refine Goes.sub (s':=(ofG 40 (kU C d [(4,.gslice 1 ([]:List Int).length 1)]),(kP kAt))) (Uc [] [some 0,none] rfl rfl (.keep (.same nS) (.kp (.keep (.same nB) (.keep .nil .nil)))) (.kb rfl (.same sn) (.fresh .nil)))<|Ud (λM s=> ∃(p:List Int) (a:Str),s=(ofG 40 (kU a d [(4,.gslice 1 p.length 1)]),(kP (kB p [])))/\xm N M p a=some F) ?_ (m:=N) ⟨_,_,rfl,g13⟩;rintro M s ⟨p,a,rfl,g13⟩
  cases M with
  |zero=>simp only[xm]at g13;cases g13
  |succ M=>
   rw[xm]at g13;refine sq<|sh fol (kU a d [(4,.gslice 1 p.length 1),(18,.bool (decide ((zl a)>9)))])<|ihD g13 (λI g13=>?_) (λI g13=>?_)
   ·obtain⟨G,q,o,r,f,t,u,v,g13⟩:=bn4 g13;exact Goes.skip<|Goes.block<|sq<|gq fol [5,6,8] (kU a d [(4,.gslice 3 f.length 1)]) (kP (kA1 o (kB f []))) (qI (hs (.done (.opt (qC ZT 9 (.str a) (some (.i (w64 ((zl a)-9)))) none none)) (.str G)) (jN st9 (some (w64 ((zl a)-9))) none q)) (cv (qbL N G r)) (hs (.run [1,2] (zO ZT [52,52] (.gslice 1 p.length 1) (.slice 2 0 1 1 1)) (kP (kB p [.cells [.i o]])) (.gslice 3 f.length 1) (kP (kA1 o (kB f []))) true) (qaq vT (E:=encI) rfl (qdy (E:=encI) (ys:=[o]) rfl rfl rfl rfl) (qex (E:=encI) (l:=p) rfl rfl rfl t rfl))))<|gr fol [4] (kU u d [(4,.gslice 3 f.length 1)]) (qh (hs (.done (.opt (qC ZT 9 (.str a) none (some (.i (w64 ((zl a)-9)))) none)) (.str u)) (jN st9 none (some (w64 ((zl a)-9))) v)))<|⟨M,(ofG 40 (kU u d [(4,.gslice 1 f.length 1)]),(kP (kB f []))),aQ _,(Uc [] [some 0,some 3] rfl rfl (.keep (.same nS) (.kp (.keep (.same nB) (.keep (.gslice rfl) .nil)))) (.kb rfl (.same sn) (.ks .nil))),_,_,rfl,g13⟩
   cases g13
   exact Goes.exit<|⟨rfl,_,_,rfl,(Sub.keep [0,2,3,4] rfl rfl)⟩
 rintro x s' ⟨rfl,e,n,rfl,hsub⟩
 try dsimp only at h
 obtain⟨j,y,g,z,c,A,rfl⟩:=bs3 h;exact Goes.sub hsub<|sq<|gq fol [3,5,6] (kAm []) (kAa c.neg c.w (kA1 j (kAb g))) (qI (cv (qbL N n y)) (hs (.run [1,2] (zO ZT [52,52] (.gslice 1 e.length 1) (.slice 2 0 1 1 1)) (kP (kB e [.cells [.i j]])) (.gslice 3 g.length 1) (kP (kA1 j (kB g []))) true) (qaq vT (E:=encI) rfl (qdy (E:=encI) (ys:=[j]) rfl rfl rfl rfl) (qex (E:=encI) (l:=e) rfl rfl rfl z rfl))) (hs (.callF 153 [.bool d,.gslice 3 g.length 1] (kP (kA1 j (kB g []))) [3] (kAh d g) (.agg (kAh c.neg c.w))) (qa0 (FzL.cons (Un tB) (FzL.cons (Fz.gs (E:=encI) rfl rfl (nl rfl)) FzL.nil)) (jw N d g A) (Still.agg (AllST.cons tB (AllST.cons (qw encI _ (nl rfl)) AllST.nil))))))<|Goes.sub (show Sub _ (ofG 40 (kAm []),(kAa c.neg c.w []))from(Uc [] [some 0] rfl rfl (.kp .nil) (.kb rfl (.same sn) .nil)))<|Goes.ret<|(gw2 [.agg (kAh c.neg c.w)] (FzW.agg (qj.cons (Ua tB) (qj.cons (Ua (qw encI _ (nl rfl))) qj.nil))))
def yx:Nat->(List Int)->Int->Option (List Int)
 |0,_,_=>none
 |K+1,b,a=>
  if(!decide (a=0))=true then
  ((if(a.tmod 1000000000)<0 then
  some (w64 (0-(a.tmod 1000000000)))
  else
  some (a.tmod 1000000000):Option Int)).bind λc=>
  (app 8 b [c]).bind λd=>
  yx K d (w64 (a.tdiv 1000000000))
  else
  some b
def qaY (N:Nat) (n:Int):Option qJ:=
 (yx N ([]:List Int) n).bind λb=>
 (ja N (decide (n<0)) b).bind λa=>
 some a
theorem qdp (N:Nat) (n:Int) {res:qJ} (h:qaY N n=some res):qf ZT (.fn 146) [.i n] [] (.agg (kAh res.neg res.w)) []:=by
 unfold qaY at h;obtain⟨k,g4,h⟩:=bnd h;refine Ub Tryz.func146 rfl rfl (m:=25) rfl (rs:=[.cell 2 130]) rfl (l:=[(0,.i n)]) rfl<|sg fol ((0,.i n)::(kAm [])) (kP [])<|sh fol ((0,.i n)::(kAm [(3,.nilslice)]))<|sh fol ((0,.i n)::(kAm ((3,.nilslice)::(kBC (decide (n<0))))))<|sq<|Goes.block<|Goes.imp (Q:=λx s'=>(x= .exit 0/\ ∃d,d=k/\Sub s' (ofG 25 (kAT d (decide (n<0)) []),(kP (kB d []))))) ?_ ?_
 ·refine Goes.sub (s':=(ofG 25 ((0,.i n)::(kAm ((3,.gslice 1 ([]:List Int).length 1)::(kBC (decide (n<0)))))),(kP kAt))) (Uc [] [some 0,none] rfl rfl (.keep (.same nI) (.kp (.keep .nil (.keep (.same nB) .nil)))) (.kb rfl (.same sn) (.fresh .nil)))<|Ud (λM s=> ∃(c:List Int) (b:Int),s=(ofG 25 ((0,.i b)::(kAT c (decide (n<0)) [])),(kP (kB c [])))/\yx M c b=some k) ?_ (m:=N) ⟨_,_,rfl,g4⟩;rintro M s ⟨c,b,rfl,g4⟩
  cases M with
  |zero=>simp only[yx]at g4;cases g4
  |succ M=>
   rw[yx]at g4;refine sq<|sh fol ((0,.i b)::(kAT c (decide (n<0)) (kBs (!decide (b=0)))))<|ihB g4 (λo g4=>?_) (λo g4=>?_)
   ·obtain⟨p,g7,g4⟩:=bnd g4;refine Goes.skip<|Goes.block<|sh fol ((0,.i b)::(kAT c (decide (n<0)) (kA8 (b.tmod 1000000000))))<|sq<|sh fol ((0,.i b)::(kAT c (decide (n<0)) ((5,.i (b.tmod 1000000000))::(kBO (decide ((b.tmod 1000000000)<0))))))<|Goes.imp (Q:=λx s'=>(x= .normal/\ ∃e,e=p/\Sub s' (ofG 25 ((0,.i b)::(kAT c (decide (n<0)) (kA8 e))),(kP (kB c []))))) ?_ ?_
    ·refine ihD g7 (λq g7=>?_) (λq g7=>?_)
     ·cases g7
      exact gh fol ((0,.i b)::(kAT c (decide (n<0)) (kA8 (w64 (0-(b.tmod 1000000000))))))<|⟨rfl,_,rfl,(Sub.refl _)⟩
     cases g7
     exact Goes.skip<|⟨rfl,_,rfl,(Sub.keep [0,2,3,4,5] rfl rfl)⟩
    rintro x s' ⟨rfl,e,rfl,hsub⟩;obtain⟨f,j,g4⟩:=bnd g4;exact Goes.sub hsub<|sq<|gq fol [3] ((0,.i b)::(kAm ((3,.gslice 3 f.length 1)::(kBC (decide (n<0)))))) (kP (kA1 e (kB f []))) (qh (hs (.run [1,2] (zO ZT [52,52] (.gslice 1 c.length 1) (.slice 2 0 1 1 1)) (kP (kB c [.cells [.i e]])) (.gslice 3 f.length 1) (kP (kA1 e (kB f []))) true) (qaq vT (E:=encI) rfl (qdy (E:=encI) (ys:=[e]) rfl rfl rfl rfl) (qex (E:=encI) (l:=c) rfl rfl rfl j rfl))))<|gh fol ((0,.i (w64 (b.tdiv 1000000000)))::(kAm ((3,.gslice 3 f.length 1)::(kBC (decide (n<0))))))<|⟨M,(ofG 25 ((0,.i (w64 (b.tdiv 1000000000)))::(kAT f (decide (n<0)) [])),(kP (kB f []))),aQ _,(Uc [] [some 0,some 3] rfl rfl (.keep (.same nI) (.kp (.keep (.gslice rfl) (.keep (.same nB) .nil)))) (.kb rfl (.same sn) (.ks .nil))),_,_,rfl,g4⟩
   cases g4
   exact Goes.exit<|⟨rfl,_,rfl,(Sub.keep [2,3,4] rfl rfl)⟩
 rintro x s' ⟨rfl,d,rfl,hsub⟩;obtain⟨a,g,rfl⟩:=bs1 h;exact Goes.sub hsub<|sq<|gq fol [2] (kAm []) (kAa a.neg a.w (kAb d)) (qh (hs (.callF 153 [.bool (decide (n<0)),.gslice 1 d.length 1] (kP (kB d [])) [1] (kAh (decide (n<0)) d) (.agg (kAh a.neg a.w))) (qa0 (FzL.cons (Un tB) (FzL.cons (Fz.gs (E:=encI) rfl rfl (nl rfl)) FzL.nil)) (jw N (decide (n<0)) d g) (Still.agg (AllST.cons tB (AllST.cons (qw encI _ (nl rfl)) AllST.nil))))))<|Goes.sub (show Sub _ (ofG 25 (kAm []),(kAa a.neg a.w []))from(Uc [] [some 0] rfl rfl (.kp .nil) (.kb rfl (.same sn) .nil)))<|Goes.ret<|(gw2 [.agg (kAh a.neg a.w)] (FzW.agg (qj.cons (Ua tB) (qj.cons (Ua (qw encI _ (nl rfl))) qj.nil))))
def vZ (N:Nat) (a:Str):Option (qJ×qJ):=
 (xC N a).bind λb=>
 if b=(a.length:Int)then
 (qaV N a).bind λc=>
 (qaY N 1).bind λd=>
 some (c,d)
 else
 (cut a 0 b).bind λe=>
 (qaV N e).bind λf=>
 (cut a (w64 (b+1)) (a.length:Int)).bind λg=>
 (qaV N g).bind λh=>
 some (f,h)
theorem qaR (N:Nat) (a:Str) {res:qJ×qJ} (h:vZ N a=some res):qf ZT (.fn 96) [.str a] [] (.tuple (kAv res.1.neg res.1.w res.2.neg res.2.w)) []:=by
 unfold vZ at h;obtain⟨b,c,h⟩:=bnd h;refine Ub Tryz.func96 rfl rfl (m:=25) rfl (rs:=[.cell 2 130,.cell 3 130]) rfl (l:=(kAn a)) rfl<|sg fol ((0,.str a)::(kAL [])) (kP (kP []))<|sh fol (kAL (kBi a))<|sq<|gr fol [1] (kAL ((4,.str a)::(kA8 b))) (qh (cv (qaZ N a c)))<|sq<|sh fol (kAL ((4,.str a)::(5,.i b)::(kBH (decide (b=(zl a))))))<|ihD h (λt h=>?_) (λt h=>?_)
 ·obtain⟨n,d,o,e,rfl⟩:=bs2 h;exact sq<|gq fol [1,2] (kAL []) (kM n.neg n.w o.neg o.w []) (qA (cv (qdm N a d)) (cv (qdp N 1 e)))<|Goes.ret<|(gw2 (kAv n.neg n.w o.neg o.w) (FzW.tuple (qj.cons (FzW.agg (qj.cons (Ua tB) (qj.cons (Ua (qw encI _ (nl rfl))) qj.nil))) (qj.cons (FzW.agg (qj.cons (Ua tB) (qj.cons (Ua (qw encI _ (nl rfl))) qj.nil))) qj.nil))))
 obtain⟨r,f,p,g,s,j,q,k,rfl⟩:=bs4 h;exact Goes.skip<|sq<|gq fol [2,3,7,8] (kAL []) (kM p.neg p.w q.neg q.w []) (zM (hs (.done (.opt (qC ZT 9 (.str a) none (some (.i b)) none)) (.str r)) (jN st9 none (some b) f)) (cv (qdm N r g)) (hs (.done (.opt (qC ZT 9 (.str a) (some (.i (w64 (b+1)))) none none)) (.str s)) (jN st9 (some (w64 (b+1))) none j)) (cv (qdm N s k)))<|Goes.ret<|(gw2 (kAv p.neg p.w q.neg q.w) (FzW.tuple (qj.cons (FzW.agg (qj.cons (Ua tB) (qj.cons (Ua (qw encI _ (nl rfl))) qj.nil))) (qj.cons (FzW.agg (qj.cons (Ua tB) (qj.cons (Ua (qw encI _ (nl rfl))) qj.nil))) qj.nil))))
def ze (a:List Int) (b:List Int):Nat->Int->Option (Unit⊕Int)
 |0,_=>none
 |K+1,c=>
  if c>=0 then
  (idx a c).bind λd=>
  (idx b c).bind λe=>
  if d<e then
  some (.inr (-1))
  else
  if d>e then
  some (.inr 1)
  else
  ze a b K (w64 (c-1))
  else
  some (.inl ())
def jW (N:Nat) (a:List Int) (b:List Int):Option Int:=
 if(!decide ((a.length:Int)=(b.length:Int)))=true then
 if(a.length:Int)<(b.length:Int)then
 some (-1)
 else
 some 1
 else
 (ze a b N (w64 ((a.length:Int)-1))).bind (λ
 |(.inl ())=>
 some 0
 |(.inr c)=>
 some c)
theorem qbJ (N:Nat) (a:List Int) (b:List Int) {res:Int} (h:jW N a b=some res):qf ZT (.fn 155) (kBM a b) [] (.i res) []:=by
 unfold jW at h;refine Ub Tryz.func155 rfl rfl (m:=41) rfl (rs:=[.tmp 4]) rfl (l:=(kH a b [])) rfl<|sh fol (kH a b [])<|sq<|sh fol (kH a b (kBI (!decide ((zl a)=(zl b)))))<|ihB h (λo h=>?_) (λo h=>?_)
 ·refine sq<|sh fol (kBP (decide ((zl a)<(zl b))))<|ihD h (λp h=>?_) (λp h=>?_)
  ·cases h
   exact sh fol kBg<|Goes.ret<|(gw2 [.i (-1)] (Ua tI))
  cases h
  exact Goes.skip<|sh fol [(4,.i 1)]<|Goes.ret<|(gw2 [.i 1] (Ua tI))
 obtain⟨f,g4,h⟩:=bnd h;refine Goes.skip<|sq<|sh fol (kH a b (kA8 (w64 ((zl a)-1))))<|Goes.block<|Goes.imp (Q:=λx s'=>(x= .exit 0/\(.inl ())=f/\Sub s' (ofG 41 [],[]))\/(x= .ret/\ ∃j,(.inr j)=f/\zm ZT [.tmp 4] (.i j) .ret s')) ?_ ?_
 ·refine Ud (λM s=> ∃(e:Int),s=(ofG 41 (kH a b (kA8 e)),[])/\ze a b M e=some f) ?_ (m:=N) ⟨_,rfl,g4⟩;rintro M s ⟨e,rfl,g4⟩
  cases M with
  |zero=>simp only[ze]at g4;cases g4
  |succ M=>
   rw[ze]at g4;refine sq<|sh fol (kH a b ((5,.i e)::(kBe (decide (e>=0)))))<|ihD g4 (λq g4=>?_) (λq g4=>?_)
   ·obtain⟨k,c,n,d,g4⟩:=bn2 g4;refine Goes.skip<|sq<|Goes.block<|sq<|sq<|gr fol [2,3,6,7] (kH a b [(5,.i e),(31,.bool (decide (k<n)))]) (zM (iv vT encI c) (lv 0 ce3 encI c rfl) (iv vT encI d) (lv 0 ce3 encI d rfl))<|ihD g4 (λr g4=>?_) (λr g4=>?_)
    ·cases g4
     exact sh fol kBg<|Goes.ret<|Or.inr (⟨rfl,_,rfl,(gw2 [.i (-1)] (Ua tI))⟩)
    refine Goes.skip<|sq<|gr fol [2,3,6,7] (kH a b [(5,.i e),(40,.bool (decide (k>n)))]) (zM (iv vT encI c) (lv 0 ce3 encI c rfl) (iv vT encI d) (lv 0 ce3 encI d rfl))<|ihD g4 (λg g4=>?_) (λg g4=>?_)
    ·cases g4
     exact sh fol [(4,.i 1)]<|Goes.ret<|Or.inr (⟨rfl,_,rfl,(gw2 [.i 1] (Ua tI))⟩)
    exact Goes.skip<|gh fol (kH a b (kA8 (w64 (e-1))))<|zo ⟨_,rfl,g4⟩
   cases g4
   exact Goes.exit<|Or.inl (⟨rfl,rfl,(Sub.keep [] rfl rfl)⟩)
 rintro x s' (⟨rfl,rfl,hsub⟩|⟨rfl,t,rfl,hret⟩)
 ·try dsimp only at h
  cases h
  exact Goes.sub hsub<|sh fol [(4,.i 0)]<|Goes.ret<|(gw2 [.i 0] (Ua tI))
 try dsimp only at h
 cases h
 exact hret
def zT (a:List Int) (b:List Int) (g:Int):Nat->(List Int)->Int->Int->Option ((List Int)×Int)
 |0,_,_,_=>none
 |K+1,h,i,c=>
  if c<(b.length:Int)then
  (idx h (w64 (g+c))).bind λd=>
  (idx a g).bind λe=>
  (idx b c).bind λf=>
  (put h (w64 (g+c)) ((w64 ((w64 (d+(w64 (e*f))))+i)).tmod 1000000000)).bind λj=>
  zT a b g K j (w64 ((w64 ((w64 (d+(w64 (e*f))))+i)).tdiv 1000000000)) (w64 (c+1))
  else
  some (h,i)
def zY (N:Nat) (a:List Int) (b:List Int):Nat->(List Int)->Int->Option (List Int)
 |0,_,_=>none
 |K+1,h,c=>
  if c<(a.length:Int)then
  (zT a b c N h 0 0).bind λ(d,e)=>
  (idx d (w64 (c+(b.length:Int)))).bind λf=>
  (put d (w64 (c+(b.length:Int))) (w64 (f+e))).bind λg=>
  zY N a b K g (w64 (c+1))
  else
  some h
def yM (N:Nat) (a:List Int) (b:List Int):Option (List Int):=
 (mk 8 (w64 ((a.length:Int)+(b.length:Int))) 0).bind λd=>
 (zY N a b N d 0).bind λe=>
 (yZ N e).bind λc=>
 some c
theorem qbC (N:Nat) (a:List Int) (b:List Int) {res:List Int} (h:yM N a b=some res):qf ZT (.fn 157) (kBM a b) [] (vl encI res) []:=by
 unfold yM at h;obtain⟨H,I,L,g5,h⟩:=bn2 h;refine Ub Tryz.func157 rfl rfl (m:=72) rfl (rs:=[.tmp 4]) rfl (l:=(kH a b [])) rfl<|sh fol (kH a b [])<|sq<|gq fol [5] (kH a b (kE H [])) (kB H []) (qh (hs (.run [] (jd ZT 52 (.i (w64 ((zl a)+(zl b)))) (.i (w64 ((zl a)+(zl b))))) [] (.slice 0 0 H.length H.length 1) (kB H []) false) (qdf vT (E:=encI) (z:=0) rfl (by kernel_rfl) I rfl)))<|sq<|sh fol (kH a b (kE H [(6,.i 0)]))<|Goes.block<|Goes.imp (Q:=λx s'=>(x= .exit 0/\ ∃B,B=L/\Sub s' (ofG 72 (kE B []),(kB B [])))) ?_ ?_
 ·refine Ud (λM s=> ∃(D:List Int) (c:Int),s=(ofG 72 (kH a b (kE D (kBw c))),(kB D []))/\zY N a b M D c=some L) ?_ (m:=N) ⟨_,_,rfl,g5⟩;rintro M s ⟨D,c,rfl,g5⟩
  cases M with
  |zero=>simp only[zY]at g5;cases g5
  |succ M=>
   rw[zY]at g5;refine sq<|sh fol (kH a b (kE D [(6,.i c),(19,.bool (decide (c<(zl a))))]))<|ihD g5 (λO g5=>?_) (λO g5=>?_)
   ·obtain⟨J,g12,g5⟩:=bnd g5;refine Goes.skip<|sq<|Goes.block<|sh fol (kH a b (kE D [(6,.i c),(7,.i 0)]))<|sq<|sh fol (kH a b (kE D [(6,.i c),(7,.i 0),(8,.i 0)]))<|Goes.block<|Goes.imp (Q:=λx s'=>(x= .exit 2/\ ∃d q,(d,q)=J/\Sub s' (ofG 72 (kH a b (kE d (kAj c q []))),(kB d [])))) ?_ ?_
    ·refine Ud (λM s=> ∃(j:List Int) (r:Int) (k:Int),s=(ofG 72 (kH a b (kE j ((6,.i c)::(kAE r k)))),(kB j []))/\zT a b c M j r k=some J) ?_ (m:=N) ⟨_,_,_,rfl,g12⟩;rintro M s ⟨j,r,k,rfl,g12⟩
     cases M with
     |zero=>simp only[zT]at g12;cases g12
     |succ M=>
      rw[zT]at g12;refine sq<|sh fol (kH a b (kE j (kAj c r [(8,.i k),(25,.bool (decide (k<(zl b))))])))<|ihD g12 (λK g12=>?_) (λK g12=>?_)
      ·obtain⟨g,e,n,t,o,u,p,v,g12⟩:=bn4 g12;exact Goes.skip<|sq<|Goes.block<|sq<|gr fol [4,5,8,9,12,13] (kH a b (kE j ((6,.i c)::(kAu k (w64 ((w64 (g+(w64 (n*o))))+r)) [])))) (qcE (hs (.done (.opt (qd ZT 52 (.slice 0 0 j.length j.length 1) (.i (w64 (c+k))))) (.ptr 0 ((w64 (c+k):Int).toNat*1+0))) (qad vT e)) (hs (.run [0] (qX ZT 3 (.ptr 0 ((w64 (c+k):Int).toNat*1+0))) (kB j []) (.i g) (kB j []) false) (qdh ce3 (E:=encI) (l:=j) rfl rfl e (nl rfl) rfl)) (iv vT encI t) (lv 0 ce3 encI t rfl) (iv vT encI u) (lv 0 ce3 encI u rfl))<|sq<|gq fol [6,7] (kH a b (kE j ((6,.i c)::(kAu k (w64 ((w64 (g+(w64 (n*o))))+r)) [])))) (kB p []) (qA (hs (.done (.opt (qd ZT 52 (.slice 0 0 j.length j.length 1) (.i (w64 (c+k))))) (.ptr 0 ((w64 (c+k):Int).toNat*1+0))) (qad vT e)) (hs (.run [0] (qx ZT 3 (.ptr 0 ((w64 (c+k):Int).toNat*1+0)) (.i ((w64 ((w64 (g+(w64 (n*o))))+r)).tmod 1000000000))) (kB j []) .undef (kB p []) true) (xS (E:=encI) (l:=j) (y:=(w64 ((w64 (g+(w64 (n*o))))+r)).tmod 1000000000) rfl (show _=some 1 by kernel_rfl) rfl e rfl rfl rfl rfl rfl v rfl)))<|Goes.sub (show Sub _ (ofG 72 (kH a b (kE p ((6,.i c)::(kAu k (w64 ((w64 (g+(w64 (n*o))))+r)) [])))),(kB p []))from(Uc [] [some 0] rfl rfl (.keep (.same (qc encI _)) (.keep (.same (qc encI _)) (.keep (.sliceE rfl (jv v)) (.keep (.same nI) (.keep (.same nI) (.keep (.same nI) .nil)))))) (.ks .nil)))<|gh fol (kH a b (kE p ((6,.i c)::(kAE (w64 ((w64 ((w64 (g+(w64 (n*o))))+r)).tdiv 1000000000)) k))))<|gh fol (kH a b (kE p ((6,.i c)::(kAE (w64 ((w64 ((w64 (g+(w64 (n*o))))+r)).tdiv 1000000000)) (w64 (k+1))))))<|zo ⟨_,_,_,rfl,g12⟩
      cases g12
      exact Goes.exit<|⟨rfl,_,_,rfl,(Sub.keep [0,1,5,6,7] rfl rfl)⟩
    rintro x s' ⟨rfl,d,q,rfl,hsub⟩
    try dsimp only at g5
    obtain⟨F,f,w,A,g5⟩:=bn2 g5;exact Goes.sub hsub<|gq fol [10,11,14,15] (kH a b (kE d (kBw c))) (kB w []) (zM (hs (.done (.opt (qd ZT 52 (.slice 0 0 d.length d.length 1) (.i (w64 (c+(zl b)))))) (.ptr 0 ((w64 (c+(zl b)):Int).toNat*1+0))) (qad vT f)) (hs (.run [0] (qX ZT 3 (.ptr 0 ((w64 (c+(zl b)):Int).toNat*1+0))) (kB d []) (.i F) (kB d []) false) (qdh ce3 (E:=encI) (l:=d) rfl rfl f (nl rfl) rfl)) (hs (.done (.opt (qd ZT 52 (.slice 0 0 d.length d.length 1) (.i (w64 (c+(zl b)))))) (.ptr 0 ((w64 (c+(zl b)):Int).toNat*1+0))) (qad vT f)) (hs (.run [0] (qx ZT 3 (.ptr 0 ((w64 (c+(zl b)):Int).toNat*1+0)) (.i (w64 (F+q)))) (kB d []) .undef (kB w []) true) (xS (E:=encI) (l:=d) (y:=w64 (F+q)) rfl (show _=some 1 by kernel_rfl) rfl f rfl rfl rfl rfl rfl A rfl)))<|Goes.sub (show Sub _ (ofG 72 (kH a b (kE w (kBw c))),(kB w []))from(Uc [] [some 0] rfl rfl (.keep (.same (qc encI _)) (.keep (.same (qc encI _)) (.keep (.sliceE rfl (jv A)) (.keep (.same nI) .nil)))) (.ks .nil)))<|gh fol (kH a b (kE w (kBw (w64 (c+1)))))<|zo ⟨_,_,rfl,g5⟩
   cases g5
   exact Goes.exit<|⟨rfl,_,rfl,(Sub.keep [5] rfl rfl)⟩
 rintro x s' ⟨rfl,B,rfl,hsub⟩;obtain⟨C,G,rfl⟩:=bs1 h;exact Goes.sub hsub<|sq<|gq fol [1] [(4,vl encI C)] (kAb B) (qh (hs (.callF 183 [.slice 0 0 B.length B.length 1] (kB B []) [0] [vl encI B] (vl encI C)) (qa0 (FzL.cons (Fz.sl (E:=encI) rfl rfl (nl rfl)) FzL.nil) (xP N B G) (qw encI _ (nl rfl)))))<|Goes.sub (show Sub _ (ofG 72 [(4,vl encI C)],[])from(Uc [] [] rfl rfl (.keep (.same (qc encI _)) .nil) .nil))<|Goes.ret<|(gw2 [vl encI C] (Ua (qw encI _ (nl rfl))))
def jg (a:List Int) (d:Int):Nat->(List Int)->Int->Int->Option ((List Int)×Int)
 |0,_,_,_=>none
 |K+1,c,e,b=>
  if b>=0 then
  (idx a b).bind λi=>
  (qc7 .i64 (w64 ((w64 (e*1000000000))+i)) d).bind λf=>
  (idx c b).bind λj=>
  (put c b f).bind λg=>
  (qfc .i64 (w64 ((w64 (e*1000000000))+i)) d).bind λh=>
  jg a d K g h (w64 (b-1))
  else
  some (c,e)
def xZ (N:Nat) (a:List Int) (d:Int):Option ((List Int)×Int):=
 (mk 8 (a.length:Int) 0).bind λc=>
 (jg a d N c 0 (w64 ((a.length:Int)-1))).bind λ(e,f)=>
 (yZ N e).bind λb=>
 some (b,f)
theorem qds (N:Nat) (a:List Int) (d:Int) {res:(List Int)×Int} (h:xZ N a d=some res):qf ZT (.fn 182) [vl encI a,.i d] [] (.tuple [vl encI res.1,.i res.2]) []:=by
 unfold xZ at h;obtain⟨p,A,C,g7,h⟩:=bn2 h;refine Ub Tryz.func182 rfl rfl (m:=39) rfl (rs:=[.tmp 4,.tmp 5]) rfl (l:=(kAi a d [])) rfl<|sh fol (kAi a d [])<|sq<|gq fol [2] (kAi a d (kT p [])) (kB p []) (qh (hs (.run [] (jd ZT 52 (.i (zl a)) (.i (zl a))) [] (.slice 0 0 p.length p.length 1) (kB p []) false) (qdf vT (E:=encI) (z:=0) rfl (by kernel_rfl) A rfl)))<|sh fol (kAi a d (kT p [(7,.i 0)]))<|sq<|sh fol (kAi a d (kT p [(7,.i 0),(8,.i (w64 ((zl a)-1)))]))<|Goes.block<|Goes.imp (Q:=λx s'=>(x= .exit 0/\ ∃j w,(j,w)=C/\Sub s' (ofG 39 (kT j [(7,.i w)]),(kB j [])))) ?_ ?_
 ·refine Ud (λM s=> ∃(e:List Int) (k:Int) (b:Int),s=(ofG 39 (kAi a d (kT e (kAE k b))),(kB e []))/\jg a d M e k b=some C) ?_ (m:=N) ⟨_,_,_,rfl,g7⟩;rintro M s ⟨e,k,b,rfl,g7⟩
  cases M with
  |zero=>simp only[jg]at g7;cases g7
  |succ M=>
   rw[jg]at g7;refine sq<|sh fol (kAi a d (kT e (kBt k b [(17,.bool (decide (b>=0)))])))<|ihD g7 (λD g7=>?_) (λD g7=>?_)
   ·obtain⟨B,o,q,r,F,f,c,g,t,u,g7⟩:=bn5 g7;exact Goes.skip<|sq<|Goes.block<|sq<|gr fol [4,5] (kAi a d (kT e (kAu b (w64 ((w64 (k*1000000000))+B)) []))) (qA (iv vT encI o) (lv 0 ce3 encI o rfl))<|sq<|gq fol [4,5,6] (kAi a d (kT e (kAu b (w64 ((w64 (k*1000000000))+B)) []))) (kB c []) (qI (hs (.done (.opt (zt ZT .quo 3 (.tmp 29) (.tmp 30) (.i (w64 ((w64 (k*1000000000))+B))) (.i d))) (.i q)) (qcJ r)) (hs (.done (.opt (qd ZT 52 (.slice 0 0 e.length e.length 1) (.i b))) (.ptr 0 ((b:Int).toNat*1+0))) (qad vT f)) (hs (.run [0] (qx ZT 3 (.ptr 0 ((b:Int).toNat*1+0)) (.i q)) (kB e []) .undef (kB c []) true) (xS (E:=encI) (l:=e) (y:=q) rfl (show _=some 1 by kernel_rfl) rfl f rfl rfl rfl rfl rfl g rfl)))<|Goes.sub (show Sub _ (ofG 39 (kAi a d (kT c (kAu b (w64 ((w64 (k*1000000000))+B)) []))),(kB c []))from(Uc [] [some 0] rfl rfl (.keep (.same (qc encI _)) (.keep (.same nI) (.keep (.sliceE rfl (jv g)) (.keep (.same nI) (.keep (.same nI) .nil))))) (.ks .nil)))<|gr fol [2] (kAi a d (kT c (kAE t b))) (qh (hs (.done (.opt (zt ZT .rem 3 (.tmp 33) (.tmp 34) (.i (w64 ((w64 (k*1000000000))+B))) (.i d))) (.i t)) (qgg u)))<|gh fol (kAi a d (kT c (kAE t (w64 (b-1)))))<|zo ⟨_,_,_,rfl,g7⟩
   cases g7
   exact Goes.exit<|⟨rfl,_,_,rfl,(Sub.keep [6,7] rfl rfl)⟩
 rintro x s' ⟨rfl,j,w,rfl,hsub⟩
 try dsimp only at h
 obtain⟨n,v,rfl⟩:=bs1 h;exact Goes.sub hsub<|sq<|gq fol [1] ((4,vl encI n)::(kA8 w)) (kAb j) (qh (hs (.callF 183 [.slice 0 0 j.length j.length 1] (kB j []) [0] [vl encI j] (vl encI n)) (qa0 (FzL.cons (Fz.sl (E:=encI) rfl rfl (nl rfl)) FzL.nil) (xP N j v) (qw encI _ (nl rfl)))))<|Goes.sub (show Sub _ (ofG 39 ((4,vl encI n)::(kA8 w)),[])from(Uc [] [] rfl rfl (.keep (.same (qc encI _)) (.keep (.same nI) .nil)) .nil))<|Goes.ret<|(gw2 [vl encI n,.i w] (FzW.tuple (qj.cons (Ua (qw encI _ (nl rfl))) (qj.cons (Ua tI) qj.nil))))
def yw (u:List Int) (v:List Int) (j:Int):Nat->Int->Int->Option (Int⊕Int)
 |0,_,_=>none
 |K+1,c,a=>
  (if a>=1000000000 then
  some true
  else
  (idx v (w64 ((v.length:Int)-2))).bind λd=>
  (idx u (w64 ((w64 (j+(v.length:Int)))-2))).bind λe=>
  some (decide ((w64 (a*d))>(w64 ((w64 (c*1000000000))+e)))):Option Bool).bind λf=>
  if f=true then
  (idx v (w64 ((v.length:Int)-1))).bind λb=>
  if(w64 (c+b))>=1000000000 then
  some (.inr (w64 (a-1)))
  else
  yw u v j K (w64 (c+b)) (w64 (a-1))
  else
  some (.inl a)
def qa3 (N:Nat) (u:List Int) (v:List Int) (j:Int):Option Int:=
 (idx u (w64 (j+(v.length:Int)))).bind λb=>
 (idx u (w64 ((w64 (j+(v.length:Int)))-1))).bind λc=>
 (idx v (w64 ((v.length:Int)-1))).bind λd=>
 (qc7 .i64 (w64 ((w64 (b*1000000000))+c)) d).bind λe=>
 (qfc .i64 (w64 ((w64 (b*1000000000))+c)) d).bind λf=>
 (yw u v j N f e).bind (λ
 |(.inl g)=>
 some g
 |(.inr a)=>
 some a)
theorem qiu (N:Nat) (u:List Int) (v:List Int) (j:Int) {res:Int} (h:qa3 N u v j=some res):qf ZT (.fn 184) [vl encI u,vl encI v,.i j] [] (.i res) []:=by
 unfold qa3 at h;obtain⟨y,n,z,o,G,b,H,q,I,r,A,g9,h⟩:=bn6 h;refine Ub Tryz.func184 rfl rfl (m:=77) rfl (rs:=[.tmp 6]) rfl (l:=(kH u v (kBv j))) rfl<|sh fol (kH u v (kBv j))<|sh fol (kH u v [(2,.i j),(7,.i (zl v))])<|sq<|gr fol [4,5,12,13] (kH u v ((2,.i j)::(kAE (zl v) (w64 ((w64 (y*1000000000))+z))))) (zM (iv vT encI n) (lv 0 ce3 encI n rfl) (iv vT encI o) (lv 0 ce3 encI o rfl))<|sq<|gr fol [4,5,6,11,12,13] (kH u v (kAq j (zl v) H I [])) (qcE (iv vT encI b) (lv 0 ce3 encI b rfl) (hs (.done (.opt (zt ZT .quo 3 (.tmp 28) (.tmp 33) (.i (w64 ((w64 (y*1000000000))+z))) (.i G))) (.i H)) (qcJ q)) (iv vT encI b) (lv 0 ce3 encI b rfl) (hs (.done (.opt (zt ZT .rem 3 (.tmp 35) (.tmp 40) (.i (w64 ((w64 (y*1000000000))+z))) (.i G))) (.i I)) (qgg r)))<|sq<|Goes.block<|Goes.imp (Q:=λx s'=>(x= .exit 0/\ ∃t,(.inl t)=A/\Sub s' (ofG 77 [(9,.i t)],[]))\/(x= .ret/\ ∃w,(.inr w)=A/\zm ZT [.tmp 6] (.i w) .ret s')) ?_ ?_
 ·refine Ud (λM s=> ∃(d:Int) (c:Int),s=(ofG 77 (kH u v (kAq j (zl v) c d [])),[])/\yw u v j M d c=some A) ?_ (m:=N) ⟨_,_,rfl,g9⟩;rintro M s ⟨d,c,rfl,g9⟩
  cases M with
  |zero=>simp only[yw]at g9;cases g9
  |succ M=>
   rw[yw]at g9;obtain⟨B,a,g9⟩:=bnd g9;refine sq<|sq<|Goes.cut (s':=(ofG 77 (kH u v (kAq j (zl v) c d [(63,.bool B)])),[])) ?_ ?_
   ·rcases wyD a with⟨p,a⟩|⟨p,a⟩
    ·cases a
     exact tr fol [2] (kH u v (kAq j (zl v) c d [(63,.bool true)])) (qh (gw p))
    obtain⟨C,e,D,f,rfl⟩:=bs2 a;exact tr fol [2,7,8,17,18] (kH u v (kAq j (zl v) c d [(63,.bool (decide ((w64 (c*C))>(w64 ((w64 (d*1000000000))+D)))))])) (qbj (gw p) (iv vT encI e) (lv 0 ce3 encI e rfl) (iv vT encI f) (lv 0 ce3 encI f rfl))
   refine ihB g9 (λE g9=>?_) (λE g9=>?_)
   ·obtain⟨k,g,g9⟩:=bnd g9;refine Goes.skip<|Goes.block<|sh fol (kH u v (kAq j (zl v) (w64 (c-1)) d []))<|sq<|gr fol [4,5] (kH u v (kAq j (zl v) (w64 (c-1)) (w64 (d+k)) [])) (qA (iv vT encI g) (lv 0 ce3 encI g rfl))<|sh fol (kH u v (kAq j (zl v) (w64 (c-1)) (w64 (d+k)) [(74,.bool (decide ((w64 (d+k))>=1000000000)))]))<|ihD g9 (λF g9=>?_) (λF g9=>?_)
    ·cases g9
     exact sh fol (kBw (w64 (c-1)))<|Goes.ret<|Or.inr (⟨rfl,_,rfl,(gw2 [.i (w64 (c-1))] (Ua tI))⟩)
    exact Goes.skip<|⟨M,(ofG 77 (kH u v (kAq j (zl v) (w64 (c-1)) (w64 (d+k)) [])),[]),aQ _,(Sub.keep [0,1,2,7,9,10] rfl rfl),_,_,rfl,g9⟩
   cases g9
   exact Goes.exit<|Or.inl (⟨rfl,_,rfl,(Sub.keep [9] rfl rfl)⟩)
 rintro x s' (⟨rfl,t,rfl,hsub⟩|⟨rfl,J,rfl,hret⟩)
 ·try dsimp only at h
  obtain rfl:=si h;exact Goes.sub hsub<|sh fol (kBw t)<|Goes.ret<|(gw2 [.i t] (Ua tI))
 try dsimp only at h
 cases h
 exact hret
def jC (a:List Int):Nat->(List Int)->Option (List Int)
 |0,_=>none
 |K+1,b=>
  if(b.length:Int)<(w64 ((a.length:Int)+1))then
  (app 8 b [0]).bind λc=>
  jC a K c
  else
  some b
def ky (h:List Int) (e:Int) (a:Int):Nat->(List Int)->Int->Int->Option ((List Int)×Int)
 |0,_,_,_=>none
 |K+1,f,b,c=>
  if c<(h.length:Int)then
  (idx h c).bind λd=>
  (idx f (w64 (c+e))).bind λg=>
  ((if(w64 (g-((w64 ((w64 (a*d))+b)).tmod 1000000000)))<0 then
  some (w64 ((w64 ((w64 ((w64 (a*d))+b)).tdiv 1000000000))+1),w64 ((w64 (g-((w64 ((w64 (a*d))+b)).tmod 1000000000)))+1000000000))
  else
  some (w64 ((w64 ((w64 (a*d))+b)).tdiv 1000000000),w64 (g-((w64 ((w64 (a*d))+b)).tmod 1000000000))):Option (Int×Int))).bind λ(i,j)=>
  (put f (w64 (c+e)) j).bind λk=>
  ky h e a K k i (w64 (c+1))
  else
  some (f,b)
def zy (g:List Int) (b:Int):Nat->(List Int)->Int->Int->Option ((List Int)×Int)
 |0,_,_,_=>none
 |K+1,c,d,a=>
  if a<(g.length:Int)then
  (idx c (w64 (a+b))).bind λe=>
  (idx g a).bind λf=>
  (put c (w64 (a+b)) ((w64 ((w64 (e+f))+d)).tmod 1000000000)).bind λh=>
  zy g b K h (w64 ((w64 ((w64 (e+f))+d)).tdiv 1000000000)) (w64 (a+1))
  else
  some (c,d)
def zU (N:Nat) (b:List Int):Nat->(List Int)->(List Int)->Int->Option ((List Int)×(List Int))
 |0,_,_,_=>none
 |K+1,c,d,a=>
  if a>=0 then
  (qa3 N c b a).bind λe=>
  (ky b a e N c 0 0).bind λ(g,i)=>
  (idx g (w64 (a+(b.length:Int)))).bind λj=>
  (put g (w64 (a+(b.length:Int))) (w64 (j-i))).bind λf=>
  (idx f (w64 (a+(b.length:Int)))).bind λk=>
  ((if k<0 then
  (zy b a N f 0 0).bind λ(h,l)=>
  (idx h (w64 (a+(b.length:Int)))).bind λm=>
  (put h (w64 (a+(b.length:Int))) (w64 (m+l))).bind λn=>
  some (n,w64 (e-1))
  else
  some (f,e):Option ((List Int)×Int))).bind λ(o,p)=>
  (idx d a).bind λr=>
  (put d a p).bind λq=>
  zU N b K o q (w64 (a-1))
  else
  some (c,d)
def ve (N:Nat) (a:List Int) (b:List Int):Option ((List Int)×(List Int)):=
 (jW N a b).bind λq=>
 if q<0 then
 some ([],a)
 else
 if(b.length:Int)=1 then
 (idx b 0).bind λr=>
 (xZ N a r).bind λp=>
 (yZ N ([p.2]:List Int)).bind λs=>
 some (p.1,s)
 else
 (idx b (w64 ((b.length:Int)-1))).bind λt=>
 (qc7 .i64 1000000000 (w64 (t+1))).bind λe=>
 (yM N b ([e]:List Int)).bind λd=>
 (yM N a ([e]:List Int)).bind λf=>
 (app 8 ([]:List Int) f).bind λg=>
 (jC a N g).bind λc=>
 (mk 8 (w64 ((c.length:Int)-(d.length:Int))) 0).bind λh=>
 (zU N d N c h (w64 ((w64 ((c.length:Int)-(d.length:Int)))-1))).bind λ(i,j)=>
 (cut i 0 (d.length:Int)).bind λk=>
 (yZ N k).bind λl=>
 (idx ([e]:List Int) 0).bind λm=>
 (xZ N l m).bind λn=>
 (yZ N j).bind λo=>
 some (o,n.1)
theorem qbw (N:Nat) (a:List Int) (b:List Int) {res:(List Int)×(List Int)} (h:ve N a b=some res):qf ZT (.fn 147) (kBM a b) [] (.tuple (kBM res.1 res.2)) []:=by
 unfold ve at h;obtain⟨r1,e_r1,h⟩:=bnd h;refine Ub Tryz.func147 rfl rfl (m:=206) rfl (rs:=[.tmp 4,.tmp 5]) rfl (l:=(kH a b [])) rfl<|sh fol (kH a b [])<|sq<|sq<|gr fol [2] (kH a b [(27,.bool (decide (r1<0)))]) (qh (cv (qbJ N a b e_r1)))<|ihD h (λc2 h=>?_) (λc2 h=>?_)
 ·cases h
  exact sh fol [(4,.nilslice),(5,vl encI a)]<|Goes.ret<|(gw2 [.nilslice,vl encI a] (FzW.tuple (qj.cons (FzW.nilv (E:=encI)) (qj.cons (Ua (qw encI _ (nl rfl))) qj.nil))))
 refine Goes.skip<|sq<|sh fol (kH a b [(31,.bool (decide ((zl b)=1)))])<|ihD h (λc3 h=>?_) (λc3 h=>?_)
 ·obtain⟨x4,e_x4,r5,e_r5,r6,e_r6,rfl⟩:=bs3 h;exact sq<|gr fol [2,3,4] [(6,vl encI r5.1),(7,.i r5.2)] (qI (iv vT encI e_x4) (lv 0 ce3 encI e_x4 rfl) (cv (qds N a x4 e_r5)))<|sq<|gq fol [3] (kBN r5.1 r6) [.frozen [.i r5.2]] (qh (hs (.callF 183 [.slice 0 0 1 1 1] [.cells [.i r5.2]] [0] [vl encI ([r5.2]:List Int)] (vl encI r6)) (qa0 (FzL.cons (Fz.lit rfl rfl (Uf (AllST.cons tI AllST.nil))) FzL.nil) (xP N ([r5.2]:List Int) e_r6) (qw encI _ (nl rfl)))))<|Goes.sub (show Sub _ (ofG 206 (kBN r5.1 r6),[])from(Uc [] [] rfl rfl (.keep (.same (qc encI _)) (.keep (.same (qc encI _)) .nil)) .nil))<|Goes.ret<|(gw2 (kBM r5.1 r6) (FzW.tuple (qj.cons (Ua (qw encI _ (nl rfl))) (qj.cons (Ua (qw encI _ (nl rfl))) qj.nil))))
 obtain⟨x7,e_x7,g,e_q8,e,e_r9,r10,e_r10,P,e_l11,r14,g14,h⟩:=bn6 h;refine Goes.skip<|sq<|gq fol [4,5,7] (kH a b [(8,.slice 0 0 1 1 1)]) [.cells [.i g]] (qI (iv vT encI e_x7) (lv 0 ce3 encI e_x7 rfl) (hs (.done (.opt (zt ZT .quo 3 (.const (.int .i64 1000000000)) (.tmp 50) (.i 1000000000) (.i (w64 (x7+1))))) (.i g)) (qcJ e_q8)))<|sq<|gq fol [2] (kBL a [(8,.slice 0 0 1 1 1),(9,vl encI e)]) [.frozen [.i g]] (qh (hs (.callF 157 [vl encI b,.slice 0 0 1 1 1] [.cells [.i g]] [0] (kBM b ([g]:List Int)) (vl encI e)) (qa0 (FzL.cons (Un (qw encI _ (nl rfl))) (FzL.cons (Fz.lit rfl rfl (Uf (AllST.cons tI AllST.nil))) FzL.nil)) (qbC N b ([g]:List Int) e_r9) (qw encI _ (nl rfl)))))<|Goes.sub (show Sub _ (ofG 206 (kBL a [(8,vl encI ([g]:List Int)),(9,vl encI e)]),[])from(Uc [0] [] rfl rfl (.keep (.same (qc encI _)) (.keep (.frz (Fz.litF rfl rfl (Uf (AllST.cons tI AllST.nil))) (qc encI _)) (.keep (.same (qc encI _)) .nil))) .nil))<|sh fol (kBL a [(8,vl encI ([g]:List Int)),(9,vl encI e),(10,.i (zl e))])<|sq<|gq fol [3,4] (kBL a [(8,vl encI ([g]:List Int)),(9,vl encI e),(10,.i (zl e)),(11,.oslice 1 P.length 1)]) (.dead::(kB P [])) (qA (cv (qbC N a ([g]:List Int) e_r10)) (hs (.run [0] (zO ZT [52,52] (.slice 0 0 0 0 1) (vl encI r10)) [.cells []] (.oslice 1 P.length 1) (.dead::(kB P [])) true) (qaq vT (E:=encI) rfl (qrP (E:=encI) rfl _) (dst_z (E:=encI) rfl rfl rfl e_l11 rfl))))<|sq<|Goes.block<|Goes.imp (Q:=λx s'=>(x= .exit 0/\ ∃r,r=r14/\Sub s' (ofG 206 (kAe ([g]:List Int) e (zl e) r []),(kB r [])))) ?_ ?_
 ·refine Goes.sub (s':=(ofG 206 (kBL a (kAe ([g]:List Int) e (zl e) P [])),(kB P []))) (Uc [] [some 1] rfl rfl (.keep (.same (qc encI _)) (.keep (.same (qc encI _)) (.keep (.same (qc encI _)) (.keep (.same nI) (.keep (.oslice rfl) .nil))))) (.ks .nil))<|Ud (λM s=> ∃(D:List Int),s=(ofG 206 (kBL a (kAe ([g]:List Int) e (zl e) D [])),(kB D []))/\jC a M D=some r14) ?_ (m:=N) ⟨_,rfl,g14⟩;rintro M s ⟨D,rfl,g14⟩
  cases M with
  |zero=>simp only[jC]at g14;cases g14
  |succ M=>
   rw[jC]at g14;refine sq<|sh fol (kBL a (kAe ([g]:List Int) e (zl e) D [(68,.bool (decide ((zl D)<(w64 ((zl a)+1)))))]))<|ihD g14 (λc15 g14=>?_) (λc15 g14=>?_)
   ·obtain⟨U,e_l16,g14⟩:=bnd g14;exact Goes.skip<|Goes.block<|gq fol [2] (kBL a [(8,vl encI ([g]:List Int)),(9,vl encI e),(10,.i (zl e)),(11,.oslice 2 U.length 1)]) (.dead:: .cells [.i 0]::(kB U [])) (qh (hs (.run [0,1] (zO ZT [52,52] (.oslice 0 D.length 1) (.slice 1 0 1 1 1)) (kB D [.cells [.i 0]]) (.oslice 2 U.length 1) (.dead:: .cells [.i 0]::(kB U [])) true) (qaq vT (E:=encI) rfl (qdy (E:=encI) (ys:=[0]) rfl rfl rfl rfl) (qrB (E:=encI) (l:=D) rfl rfl rfl e_l16 rfl))))<|⟨M,(ofG 206 (kBL a (kAe ([g]:List Int) e (zl e) U [])),(kB U [])),aQ _,(Uc [] [some 2] rfl rfl (.keep (.same (qc encI _)) (.keep (.same (qc encI _)) (.keep (.same (qc encI _)) (.keep (.same nI) (.keep (.oslice rfl) .nil))))) (.ks .nil)),_,rfl,g14⟩
   cases g14
   exact Goes.exit<|⟨rfl,_,rfl,(Sub.keep [8,9,10,11] rfl rfl)⟩
 rintro x s' ⟨rfl,r,rfl,hsub⟩;obtain⟨K,e_l17,r23,g23,h⟩:=bn2 h;refine Goes.sub hsub<|sq<|gq fol [4] (kAe ([g]:List Int) e (zl e) r [(12,.slice 1 0 K.length K.length 1)]) (kB r (kB K [])) (qh (hs (.run [] (jd ZT 52 (.i (w64 ((zl r)-(zl e)))) (.i (w64 ((zl r)-(zl e))))) (kB r []) (.slice 1 0 K.length K.length 1) (kB r (kB K [])) false) (qdf vT (E:=encI) (z:=0) rfl (by kernel_rfl) e_l17 rfl)))<|sq<|sh fol (kC ([g]:List Int) e (zl e) r K (w64 ((w64 ((zl r)-(zl e)))-1)) [])<|Goes.block<|Goes.imp (Q:=λx s'=>(x= .exit 2/\ ∃V n,(V,n)=r23/\Sub s' (ofG 206 [(8,vl encI ([g]:List Int)),(10,.i (zl e)),(11,.oslice 0 V.length 1),(12,.slice 1 0 n.length n.length 1)],(kB V (kB n []))))) ?_ ?_
 ·refine Ud (λM s=> ∃(t:List Int) (c:List Int) (d:Int),s=(ofG 206 (kC ([g]:List Int) e (zl e) t c d []),(kB t (kB c [])))/\zU N e M t c d=some r23) ?_ (m:=N) ⟨_,_,_,rfl,g23⟩;rintro M s ⟨t,c,d,rfl,g23⟩
  cases M with
  |zero=>simp only[zU]at g23;cases g23
  |succ M=>
   rw[zU]at g23;refine sq<|sh fol (kC ([g]:List Int) e (zl e) t c d [(83,.bool (decide (d>=0)))])<|ihD g23 (λc24 g23=>?_) (λc24 g23=>?_)
   ·obtain⟨f,e_r25,r31,g31,g23⟩:=bn2 g23;refine Goes.skip<|sq<|Goes.block<|sq<|gr fol [3] (kC ([g]:List Int) e (zl e) t c d (kBV f)) (qh (hs (.call 184 [.oslice 0 t.length 1,vl encI e,.i d] (kB t (kB c [])) [0] [vl encI t,vl encI e,.i d] (.i f)) (qgT (FzL.cons (Fz.os (E:=encI) rfl rfl (nl rfl)) (FzL.cons (Un (qw encI _ (nl rfl))) (FzL.cons (Un tI) FzL.nil))) (qiu N t e d e_r25) tI rfl)))<|sh fol (kC ([g]:List Int) e (zl e) t c d [(14,.i f),(15,.i 0)])<|sq<|sh fol (kC ([g]:List Int) e (zl e) t c d [(14,.i f),(15,.i 0),(16,.i 0)])<|Goes.block<|Goes.imp (Q:=λx s'=>(x= .exit 4/\ ∃u Z,(u,Z)=r31/\Sub s' (ofG 206 (kC ([g]:List Int) e (zl e) u c d [(14,.i f),(15,.i Z)]),(kB u (kB c []))))) ?_ ?_
    ·refine Ud (λM s=> ∃(j:List Int) (o:Int) (k:Int),s=(ofG 206 (kC ([g]:List Int) e (zl e) j c d ((14,.i f)::(kO o k []))),(kB j (kB c [])))/\ky e d f M j o k=some r31) ?_ (m:=N) ⟨_,_,_,rfl,g31⟩;rintro M s ⟨j,o,k,rfl,g31⟩
     cases M with
     |zero=>simp only[ky]at g31;cases g31
     |succ M=>
      rw[ky]at g31;refine sq<|sh fol (kC ([g]:List Int) e (zl e) j c d ((14,.i f)::(kO o k [(92,.bool (decide (k<(zl e))))])))<|ihD g31 (λc32 g31=>?_) (λc32 g31=>?_)
      ·obtain⟨v,a0,L,F,r37,g37,g31⟩:=bn3 g31;refine Goes.skip<|sq<|Goes.block<|sq<|gr fol [3,4] (kC ([g]:List Int) e (zl e) j c d [(14,.i f),(16,.i k),(17,.i (w64 ((w64 (f*v))+o)))]) (qA (iv vT encI a0) (lv 0 ce3 encI a0 rfl))<|sq<|gr fol [4,5] (kC ([g]:List Int) e (zl e) j c d [(14,.i f),(16,.i k),(17,.i (w64 ((w64 (f*v))+o))),(18,.i (w64 (L-((w64 ((w64 (f*v))+o)).tmod 1000000000))))]) (qA (hs (.done (.opt (qd ZT 52 (.oslice 0 j.length 1) (.i (w64 (k+d))))) (.ptr 0 ((w64 (k+d):Int).toNat*1+0))) (qgl vT F)) (hs (.run [0] (qX ZT 3 (.ptr 0 ((w64 (k+d):Int).toNat*1+0))) (kB j (kB c [])) (.i L) (kB j (kB c [])) false) (qdh ce3 (E:=encI) (l:=j) rfl rfl F (nl rfl) rfl)))<|sh fol (kC ([g]:List Int) e (zl e) j c d ((14,.i f)::(kO (w64 ((w64 ((w64 (f*v))+o)).tdiv 1000000000)) k [(18,.i (w64 (L-((w64 ((w64 (f*v))+o)).tmod 1000000000))))])))<|sq<|sh fol (kC ([g]:List Int) e (zl e) j c d ((14,.i f)::(kO (w64 ((w64 ((w64 (f*v))+o)).tdiv 1000000000)) k [(18,.i (w64 (L-((w64 ((w64 (f*v))+o)).tmod 1000000000)))),(115,.bool (decide ((w64 (L-((w64 ((w64 (f*v))+o)).tmod 1000000000)))<0)))])))<|Goes.imp (Q:=λx s'=>(x= .normal/\ ∃X a1,(X,a1)=r37/\Sub s' (ofG 206 (kC ([g]:List Int) e (zl e) j c d ((14,.i f)::(kO X k [(18,.i a1)]))),(kB j (kB c []))))) ?_ ?_
       ·refine ihD g37 (λc38 g37=>?_) (λc38 g37=>?_)
        ·cases g37
         exact sh fol (kC ([g]:List Int) e (zl e) j c d ((14,.i f)::(kO (w64 ((w64 ((w64 (f*v))+o)).tdiv 1000000000)) k [(18,.i (w64 ((w64 (L-((w64 ((w64 (f*v))+o)).tmod 1000000000)))+1000000000)))])))<|gh fol (kC ([g]:List Int) e (zl e) j c d ((14,.i f)::(kO (w64 ((w64 ((w64 ((w64 (f*v))+o)).tdiv 1000000000))+1)) k [(18,.i (w64 ((w64 (L-((w64 ((w64 (f*v))+o)).tmod 1000000000)))+1000000000)))])))<|⟨rfl,_,_,rfl,(Sub.refl _)⟩
        cases g37
        exact Goes.skip<|⟨rfl,_,_,rfl,(Sub.keep [8,9,10,11,12,13,14,15,16,18] rfl rfl)⟩
       rintro x s' ⟨rfl,X,a1,rfl,hsub⟩
       try dsimp only at g31
       obtain⟨a2,a3,g31⟩:=bnd g31;exact Goes.sub hsub<|gq fol [5,6] (kC ([g]:List Int) e (zl e) j c d ((14,.i f)::(kO X k []))) (kB a2 (kB c [])) (qA (hs (.done (.opt (qd ZT 52 (.oslice 0 j.length 1) (.i (w64 (k+d))))) (.ptr 0 ((w64 (k+d):Int).toNat*1+0))) (qgl vT F)) (hs (.run [0] (qx ZT 3 (.ptr 0 ((w64 (k+d):Int).toNat*1+0)) (.i a1)) (kB j (kB c [])) .undef (kB a2 (kB c [])) true) (xS (E:=encI) (l:=j) (y:=a1) rfl (show _=some 1 by kernel_rfl) rfl F rfl rfl rfl rfl rfl a3 rfl)))<|Goes.sub (show Sub _ (ofG 206 (kC ([g]:List Int) e (zl e) a2 c d ((14,.i f)::(kO X k []))),(kB a2 (kB c [])))from(Uc [] [some 0,some 1] rfl rfl (.keep (.same (qc encI _)) (.keep (.same (qc encI _)) (.keep (.same nI) (.keep (.osliceE rfl (jv a3)) (.keep (.slice rfl) (.keep (.same nI) (.keep (.same nI) (.keep (.same nI) (.keep (.same nI) .nil))))))))) (.ks (.ks .nil))))<|gh fol (kC ([g]:List Int) e (zl e) a2 c d ((14,.i f)::(kO X (w64 (k+1)) [])))<|zo ⟨_,_,_,rfl,g31⟩
      cases g31
      exact Goes.exit<|⟨rfl,_,_,rfl,(Sub.keep [8,9,10,11,12,13,14,15] rfl rfl)⟩
    rintro x s' ⟨rfl,u,Z,rfl,hsub⟩
    try dsimp only at g23
    obtain⟨x40,G,w,a4,x42,a5,r45,g45,g23⟩:=bn4 g23;refine Goes.sub hsub<|sq<|gq fol [8,9,12,13] (kC ([g]:List Int) e (zl e) u c d (kBV f)) (kB w (kB c [])) (zM (hs (.done (.opt (qd ZT 52 (.oslice 0 u.length 1) (.i (w64 (d+(zl e)))))) (.ptr 0 ((w64 (d+(zl e)):Int).toNat*1+0))) (qgl vT G)) (hs (.run [0] (qX ZT 3 (.ptr 0 ((w64 (d+(zl e)):Int).toNat*1+0))) (kB u (kB c [])) (.i x40) (kB u (kB c [])) false) (qdh ce3 (E:=encI) (l:=u) rfl rfl G (nl rfl) rfl)) (hs (.done (.opt (qd ZT 52 (.oslice 0 u.length 1) (.i (w64 (d+(zl e)))))) (.ptr 0 ((w64 (d+(zl e)):Int).toNat*1+0))) (qgl vT G)) (hs (.run [0] (qx ZT 3 (.ptr 0 ((w64 (d+(zl e)):Int).toNat*1+0)) (.i (w64 (x40-Z)))) (kB u (kB c [])) .undef (kB w (kB c [])) true) (xS (E:=encI) (l:=u) (y:=w64 (x40-Z)) rfl (show _=some 1 by kernel_rfl) rfl G rfl rfl rfl rfl rfl a4 rfl)))<|Goes.sub (show Sub _ (ofG 206 (kC ([g]:List Int) e (zl e) w c d (kBV f)),(kB w (kB c [])))from(Uc [] [some 0,some 1] rfl rfl (.keep (.same (qc encI _)) (.keep (.same (qc encI _)) (.keep (.same nI) (.keep (.osliceE rfl (jv a4)) (.keep (.slice rfl) (.keep (.same nI) (.keep (.same nI) .nil))))))) (.ks (.ks .nil))))<|sq<|sq<|gr fol [4,5] (kC ([g]:List Int) e (zl e) w c d [(14,.i f),(145,.bool (decide (x42<0)))]) (qA (hs (.done (.opt (qd ZT 52 (.oslice 0 w.length 1) (.i (w64 (d+(zl e)))))) (.ptr 0 ((w64 (d+(zl e)):Int).toNat*1+0))) (qgl vT a5)) (hs (.run [0] (qX ZT 3 (.ptr 0 ((w64 (d+(zl e)):Int).toNat*1+0))) (kB w (kB c [])) (.i x42) (kB w (kB c [])) false) (qdh ce3 (E:=encI) (l:=w) rfl rfl a5 (nl rfl) rfl)))<|Goes.imp (Q:=λx s'=>(x= .normal/\ ∃B a6,(B,a6)=r45/\Sub s' (ofG 206 (kC ([g]:List Int) e (zl e) B c d (kBV a6)),(kB B (kB c []))))) ?_ ?_
    ·refine ihD g45 (λc46 g45=>?_) (λc46 g45=>?_)
     ·obtain⟨r52,g52,g45⟩:=bnd g45;refine sh fol (kC ([g]:List Int) e (zl e) w c d (kBV (w64 (f-1))))<|sh fol (kC ([g]:List Int) e (zl e) w c d [(14,.i (w64 (f-1))),(19,.i 0)])<|sq<|sh fol (kC ([g]:List Int) e (zl e) w c d [(14,.i (w64 (f-1))),(19,.i 0),(20,.i 0)])<|Goes.block<|Goes.imp (Q:=λx s'=>(x= .exit 6/\ ∃A a7,(A,a7)=r52/\Sub s' (ofG 206 (kC ([g]:List Int) e (zl e) A c d [(14,.i (w64 (f-1))),(19,.i a7)]),(kB A (kB c []))))) ?_ ?_
      ·refine Ud (λM s=> ∃(q:List Int) (C:Int) (p:Int),s=(ofG 206 (kC ([g]:List Int) e (zl e) q c d [(14,.i (w64 (f-1))),(19,.i C),(20,.i p)]),(kB q (kB c [])))/\zy e d M q C p=some r52) ?_ (m:=N) ⟨_,_,_,rfl,g52⟩;rintro M s ⟨q,C,p,rfl,g52⟩
       cases M with
       |zero=>simp only[zy]at g52;cases g52
       |succ M=>
        rw[zy]at g52;refine sq<|sh fol (kC ([g]:List Int) e (zl e) q c d [(14,.i (w64 (f-1))),(19,.i C),(20,.i p),(150,.bool (decide (p<(zl e))))])<|ihD g52 (λc53 g52=>?_) (λc53 g52=>?_)
        ·obtain⟨J,H,O,a8,Y,a9,g52⟩:=bn3 g52;exact Goes.skip<|sq<|Goes.block<|sq<|gr fol [4,5,8,9] (kC ([g]:List Int) e (zl e) q c d [(14,.i (w64 (f-1))),(20,.i p),(21,.i (w64 ((w64 (J+O))+C)))]) (zM (hs (.done (.opt (qd ZT 52 (.oslice 0 q.length 1) (.i (w64 (p+d))))) (.ptr 0 ((w64 (p+d):Int).toNat*1+0))) (qgl vT H)) (hs (.run [0] (qX ZT 3 (.ptr 0 ((w64 (p+d):Int).toNat*1+0))) (kB q (kB c [])) (.i J) (kB q (kB c [])) false) (qdh ce3 (E:=encI) (l:=q) rfl rfl H (nl rfl) rfl)) (iv vT encI a8) (lv 0 ce3 encI a8 rfl))<|sq<|gq fol [6,7] (kC ([g]:List Int) e (zl e) q c d [(14,.i (w64 (f-1))),(20,.i p),(21,.i (w64 ((w64 (J+O))+C)))]) (kB Y (kB c [])) (qA (hs (.done (.opt (qd ZT 52 (.oslice 0 q.length 1) (.i (w64 (p+d))))) (.ptr 0 ((w64 (p+d):Int).toNat*1+0))) (qgl vT H)) (hs (.run [0] (qx ZT 3 (.ptr 0 ((w64 (p+d):Int).toNat*1+0)) (.i ((w64 ((w64 (J+O))+C)).tmod 1000000000))) (kB q (kB c [])) .undef (kB Y (kB c [])) true) (xS (E:=encI) (l:=q) (y:=(w64 ((w64 (J+O))+C)).tmod 1000000000) rfl (show _=some 1 by kernel_rfl) rfl H rfl rfl rfl rfl rfl a9 rfl)))<|Goes.sub (show Sub _ (ofG 206 (kC ([g]:List Int) e (zl e) Y c d [(14,.i (w64 (f-1))),(20,.i p),(21,.i (w64 ((w64 (J+O))+C)))]),(kB Y (kB c [])))from(Uc [] [some 0,some 1] rfl rfl (.keep (.same (qc encI _)) (.keep (.same (qc encI _)) (.keep (.same nI) (.keep (.osliceE rfl (jv a9)) (.keep (.slice rfl) (.keep (.same nI) (.keep (.same nI) (.keep (.same nI) (.keep (.same nI) .nil))))))))) (.ks (.ks .nil))))<|gh fol (kC ([g]:List Int) e (zl e) Y c d [(14,.i (w64 (f-1))),(19,.i (w64 ((w64 ((w64 (J+O))+C)).tdiv 1000000000))),(20,.i p)])<|gh fol (kC ([g]:List Int) e (zl e) Y c d [(14,.i (w64 (f-1))),(19,.i (w64 ((w64 ((w64 (J+O))+C)).tdiv 1000000000))),(20,.i (w64 (p+1)))])<|zo ⟨_,_,_,rfl,g52⟩
        cases g52
        exact Goes.exit<|⟨rfl,_,_,rfl,(Sub.keep [8,9,10,11,12,13,14,19] rfl rfl)⟩
      rintro x s' ⟨rfl,A,a7,rfl,hsub⟩
      try dsimp only at g45
      obtain⟨x57,I,l58,b0,rfl⟩:=bs2 g45;exact Goes.sub hsub<|gq fol [8,9,12,13] (kC ([g]:List Int) e (zl e) A c d (kBV (w64 (f-1)))) (kB l58 (kB c [])) (zM (hs (.done (.opt (qd ZT 52 (.oslice 0 A.length 1) (.i (w64 (d+(zl e)))))) (.ptr 0 ((w64 (d+(zl e)):Int).toNat*1+0))) (qgl vT I)) (hs (.run [0] (qX ZT 3 (.ptr 0 ((w64 (d+(zl e)):Int).toNat*1+0))) (kB A (kB c [])) (.i x57) (kB A (kB c [])) false) (qdh ce3 (E:=encI) (l:=A) rfl rfl I (nl rfl) rfl)) (hs (.done (.opt (qd ZT 52 (.oslice 0 A.length 1) (.i (w64 (d+(zl e)))))) (.ptr 0 ((w64 (d+(zl e)):Int).toNat*1+0))) (qgl vT I)) (hs (.run [0] (qx ZT 3 (.ptr 0 ((w64 (d+(zl e)):Int).toNat*1+0)) (.i (w64 (x57+a7)))) (kB A (kB c [])) .undef (kB l58 (kB c [])) true) (xS (E:=encI) (l:=A) (y:=w64 (x57+a7)) rfl (show _=some 1 by kernel_rfl) rfl I rfl rfl rfl rfl rfl b0 rfl)))<|⟨rfl,_,_,rfl,((show Sub _ (ofG 206 (kC ([g]:List Int) e (zl e) l58 c d (kBV (w64 (f-1)))),(kB l58 (kB c [])))from(Uc [] [some 0,some 1] rfl rfl (.keep (.same (qc encI _)) (.keep (.same (qc encI _)) (.keep (.same nI) (.keep (.osliceE rfl (jv b0)) (.keep (.slice rfl) (.keep (.same nI) (.keep (.same nI) .nil))))))) (.ks (.ks .nil)))).trans (Sub.refl _))⟩
     cases g45
     exact Goes.skip<|⟨rfl,_,_,rfl,(Sub.keep [8,9,10,11,12,13,14] rfl rfl)⟩
    rintro x s' ⟨rfl,B,a6,rfl,hsub⟩
    try dsimp only at g23
    obtain⟨x59,b1,b2,b3,g23⟩:=bn2 g23;exact Goes.sub hsub<|gq fol [3,4] (kC ([g]:List Int) e (zl e) B c d []) (kB B (kB b2 [])) (qA (hs (.done (.opt (qd ZT 52 (.slice 1 0 c.length c.length 1) (.i d))) (.ptr 1 ((d:Int).toNat*1+0))) (qad vT b1)) (hs (.run [1] (qx ZT 3 (.ptr 1 ((d:Int).toNat*1+0)) (.i a6)) (kB B (kB c [])) .undef (kB B (kB b2 [])) true) (xS (E:=encI) (l:=c) (y:=a6) rfl (show _=some 1 by kernel_rfl) rfl b1 rfl rfl rfl rfl rfl b3 rfl)))<|Goes.sub (show Sub _ (ofG 206 (kC ([g]:List Int) e (zl e) B b2 d []),(kB B (kB b2 [])))from(Uc [] [some 0,some 1] rfl rfl (.keep (.same (qc encI _)) (.keep (.same (qc encI _)) (.keep (.same nI) (.keep (.oslice rfl) (.keep (.sliceE rfl (jv b3)) (.keep (.same nI) .nil)))))) (.ks (.ks .nil))))<|gh fol (kC ([g]:List Int) e (zl e) B b2 (w64 (d-1)) [])<|zo ⟨_,_,_,rfl,g23⟩
   cases g23
   exact Goes.exit<|⟨rfl,_,_,rfl,(Sub.keep [8,10,11,12] rfl rfl)⟩
 rintro x s' ⟨rfl,V,n,rfl,hsub⟩
 try dsimp only at h
 obtain⟨s61,e_s61,r62,e_r62,x63,b4,r64,e_r64,r65,e_r65,rfl⟩:=bs5 h;exact Goes.sub hsub<|sq<|Goes.sub (s':=(ofG 206 [(8,vl encI ([g]:List Int)),(10,.i (zl e)),(11,vl encI V),(12,.slice 0 0 n.length n.length 1)],(kB n []))) (Uc [0] [some 1] rfl rfl (.keep (.same (qc encI _)) (.keep (.same nI) (.keep (.frz (Fz.os (E:=encI) rfl rfl (nl rfl)) (qc encI _)) (.keep (.slice rfl) .nil)))) (.ks .nil))<|gr fol [2,3,5,6,7] [(12,.slice 0 0 n.length n.length 1),(22,vl encI r64.1)] (qbj (hs (.done (.opt (qC ZT 52 (vl encI V) none (some (.i (zl e))) none)) (vl encI s61)) (qjL vT (E:=encI) rfl none (some (zl e)) e_s61)) (cv (xP N s61 e_r62)) (iv vT encI b4) (lv 0 ce3 encI b4 rfl) (cv (qds N r62 x63 e_r64)))<|sq<|gq fol [1] (kBN r65 r64.1) (kAb n) (qh (hs (.callF 183 [.slice 0 0 n.length n.length 1] (kB n []) [0] [vl encI n] (vl encI r65)) (qa0 (FzL.cons (Fz.sl (E:=encI) rfl rfl (nl rfl)) FzL.nil) (xP N n e_r65) (qw encI _ (nl rfl)))))<|Goes.sub (show Sub _ (ofG 206 (kBN r65 r64.1),[])from(Uc [] [] rfl rfl (.keep (.same (qc encI _)) (.keep (.same (qc encI _)) .nil)) .nil))<|Goes.ret<|(gw2 (kBM r65 r64.1) (FzW.tuple (qj.cons (Ua (qw encI _ (nl rfl))) (qj.cons (Ua (qw encI _ (nl rfl))) qj.nil))))
def zA (N:Nat):Nat->(List Int)->(List Int)->Option (List Int)
 |0,_,_=>none
 |K+1,b,a=>
  if(a.length:Int)>0 then
  (ve N b a).bind λc=>
  zA N K a c.2
  else
  some b
def qbc (N:Nat) (a:List Int) (b:List Int):Option (List Int):=
 (zA N N a b).bind λc=>
 some c
theorem qeD (N:Nat) (a:List Int) (b:List Int) {res:List Int} (h:qbc N a b=some res):qf ZT (.fn 97) (kBM a b) [] (vl encI res) []:=by
 unfold qbc at h;obtain⟨g,g4,h⟩:=bnd h;refine Ub Tryz.func97 rfl rfl (m:=19) rfl (rs:=[.tmp 4]) rfl (l:=(kH a b [])) rfl<|sh fol (kH a b [])<|sq<|Goes.block<|Goes.imp (Q:=λx s'=>(x= .exit 0/\ ∃d,d=g/\Sub s' (ofG 19 (kBL d []),[]))) ?_ ?_
 ·refine Ud (λM s=> ∃(e:List Int) (c:List Int),s=(ofG 19 (kH e c []),[])/\zA N M e c=some g) ?_ (m:=N) ⟨_,_,rfl,g4⟩;rintro M s ⟨e,c,rfl,g4⟩
  cases M with
  |zero=>simp only[zA]at g4;cases g4
  |succ M=>
   rw[zA]at g4;refine sq<|sh fol (kH e c (kBs (decide ((zl c)>0))))<|ihD g4 (λj g4=>?_) (λj g4=>?_)
   ·obtain⟨i,f,g4⟩:=bnd g4;exact Goes.skip<|Goes.block<|sq<|gr fol [2] [(1,vl encI c),(6,vl encI i.2)] (qh (cv (qbw N e c f)))<|gh fol (kH c i.2 [])<|zo ⟨_,_,rfl,g4⟩
   cases g4
   exact Goes.exit<|⟨rfl,_,rfl,(Sub.keep [0] rfl rfl)⟩
 rintro x s' ⟨rfl,d,rfl,hsub⟩;obtain rfl:=si h;exact Goes.sub hsub<|sh fol [(4,vl encI d)]<|Goes.ret<|(gw2 [vl encI d] (Ua (qw encI _ (nl rfl))))
def qbI (N:Nat) (a:Str):Option Int:=
 (if(a.length:Int)>0 then
 (idx a 0).bind λt=>
 some (decide ((t.toNat:Int)=45))
 else
 some false:Option Bool).bind λu=>
 ((if u=true then
 (cut a 1 (a.length:Int)).bind λv=>
 some v
 else
 some a:Option Str)).bind λb=>
 (xC N b).bind λc=>
 ((cut b 0 c).bind λf=>
 (jQ N f).bind λg=>
 if(!g)=true then
 some true
 else
 (idx a 0).bind λh=>
 if(h.toNat:Int)=45 then
 (cut b 0 c).bind λi=>
 some (i==[48])
 else
 some false:Option Bool).bind λj=>
 if j=true then
 some 1
 else
 (if c<(b.length:Int)then
 (cut b (w64 (c+1)) (b.length:Int)).bind λk=>
 (jQ N k).bind λl=>
 if(!l)=true then
 some true
 else
 (cut b (w64 (c+1)) (b.length:Int)).bind λm=>
 if(m==[48])=true then
 some true
 else
 (cut b (w64 (c+1)) (b.length:Int)).bind λn=>
 some (n==[49])
 else
 some false:Option Bool).bind λo=>
 if o=true then
 some 1
 else
 (if c>600 then
 some true
 else
 some (decide ((w64 ((w64 ((b.length:Int)-c))-1))>600)):Option Bool).bind λp=>
 if p=true then
 some 4
 else
 ((if c<(b.length:Int)then
 (vZ N b).bind λd=>
 (qbc N d.1.w d.2.w).bind λe=>
 (if(!decide ((e.length:Int)=1))=true then
 some true
 else
 (idx e 0).bind λq=>
 some (!decide (q=1)):Option Bool).bind λr=>
 if r=true then
 some (.inr 1)
 else
 some (.inl ())
 else
 some (.inl ()):Option (Unit⊕Int))).bind (λ
 |(.inl ())=>
 some 0
 |(.inr s)=>
 some s)
theorem qbW (N:Nat) (a:Str) {res:Int} (h:qbI N a=some res):qf ZT (.fn 44) [.str a] [] (.i res) []:=by
 unfold qbI at h;obtain⟨b3,k,h⟩:=bnd h;refine Ub Tryz.func44 rfl rfl (m:=96) rfl (rs:=[.tmp 2]) rfl (l:=(kAn a)) rfl<|sh fol (kAn a)<|sh fol [(0,.str a),(3,.str a)]<|sq<|sq<|Goes.cut (s':=(ofG 96 [(0,.str a),(3,.str a),(16,.bool b3)],[])) ?_ ?_
 ·rcases wyD k with⟨Y,k⟩|⟨Y,k⟩
  ·obtain⟨c2,J,rfl⟩:=bs1 k;exact tr fol [3,5] [(0,.str a),(3,.str a),(16,.bool (decide ((c2.toNat:Int)=45)))] (qA (gw Y) (hs (.done (.opt (xw ZT 9 (.str a) (.i 0))) (.int .u8 (c2.toNat:Int))) (qbm st9 J)))
  cases k
  exact tr fol [3] [(0,.str a),(3,.str a),(16,.bool false)] (qh (gw Y))
 obtain⟨r6,g6,h⟩:=bnd h;refine Goes.imp (Q:=λx s'=>(x= .normal/\ ∃e,e=r6/\Sub s' (ofG 96 [(0,.str a),(3,.str e)],[]))) ?_ ?_
 ·refine ihB g6 (λc7 g6=>?_) (λc7 g6=>?_)
  ·obtain⟨s8,K,rfl⟩:=bs1 g6;exact gr fol [1] [(0,.str a),(3,.str s8)] (qh (hs (.done (.opt (qC ZT 9 (.str a) (some (.i 1)) none none)) (.str s8)) (jN st9 (some 1) none K)))<|⟨rfl,_,rfl,(Sub.refl _)⟩
  cases g6
  exact Goes.skip<|⟨rfl,_,rfl,(Sub.keep [0,3] rfl rfl)⟩
 rintro x s' ⟨rfl,e,rfl,hsub⟩;obtain⟨d,L,Z,c,h⟩:=bn2 h;refine Goes.sub hsub<|sq<|gr fol [1] ((0,.str a)::(kAp e d [])) (qh (cv (qaZ N e L)))<|sq<|sq<|Goes.cut (s':=(ofG 96 (kAp e d [(36,.bool Z)]),[])) ?_ ?_
 ·obtain⟨r,n,r11,o,c⟩:=bn2 c;rcases wyB c with⟨z,c⟩|⟨z,c⟩
  ·cases c
   exact tr fol [2,3,5] (kAp e d [(36,.bool true)]) (qI (hs (.done (.opt (qC ZT 9 (.str e) none (some (.i d)) none)) (.str r)) (jN st9 none (some d) n)) (cv (jG N r o)) (gw z))
  obtain⟨M,t,c⟩:=bnd c;rcases wyD c with⟨B,c⟩|⟨B,c⟩
  ·obtain⟨O,C,rfl⟩:=bs1 c;exact tr fol [2,3,5,7,9,12] (kAp e d [(36,.bool (O==[48]))]) (qcE (hs (.done (.opt (qC ZT 9 (.str e) none (some (.i d)) none)) (.str r)) (jN st9 none (some d) n)) (cv (jG N r o)) (gw z) (hs (.done (.opt (xw ZT 34 (.str a) (.i 0))) (.int .u8 (M.toNat:Int))) (qbm qnY t)) (gw B) (hs (.done (.opt (qC ZT 9 (.str e) none (some (.i d)) none)) (.str O)) (jN st9 none (some d) C)))
  cases c
  exact tr fol [2,3,5,7,9] (kAp e d [(36,.bool false)]) (qbj (hs (.done (.opt (qC ZT 9 (.str e) none (some (.i d)) none)) (.str r)) (jN st9 none (some d) n)) (cv (jG N r o)) (gw z) (hs (.done (.opt (xw ZT 34 (.str a) (.i 0))) (.int .u8 (M.toNat:Int))) (qbm qnY t)) (gw B))
 refine ihB h (λa0 h=>?_) (λa0 h=>?_)
 ·cases h
  exact sh fol [(2,.i 1)]<|Goes.ret<|(gw2 [.i 1] (Ua tI))
 obtain⟨a1,b,h⟩:=bnd h;refine Goes.skip<|sq<|sq<|Goes.cut (s':=(ofG 96 (kAp e d [(62,.bool a1)]),[])) ?_ ?_
 ·rcases wyD b with⟨u,b⟩|⟨u,b⟩
  ·obtain⟨s,p,r21,q,b⟩:=bn2 b;rcases wyB b with⟨A,b⟩|⟨A,b⟩
   ·cases b
    exact tr fol [4,8,9,11] (kAp e d [(62,.bool true)]) (zM (gw u) (hs (.done (.opt (qC ZT 9 (.str e) (some (.i (w64 (d+1)))) none none)) (.str s)) (jN st9 (some (w64 (d+1))) none p)) (cv (jG N s q)) (gw A))
   obtain⟨P,v,b⟩:=bnd b;rcases wyB b with⟨D,b⟩|⟨D,b⟩
   ·cases b
    exact tr fol [4,8,9,11,15,18] (kAp e d [(62,.bool true)]) (qcE (gw u) (hs (.done (.opt (qC ZT 9 (.str e) (some (.i (w64 (d+1)))) none none)) (.str s)) (jN st9 (some (w64 (d+1))) none p)) (cv (jG N s q)) (gw A) (hs (.done (.opt (qC ZT 9 (.str e) (some (.i (w64 (d+1)))) none none)) (.str P)) (jN st9 (some (w64 (d+1))) none v)) (gw D))
   obtain⟨U,E,rfl⟩:=bs1 b;exact tr fol [4,8,9,11,15,18,22] (kAp e d [(62,.bool (U==[49]))]) (qhi (gw u) (hs (.done (.opt (qC ZT 9 (.str e) (some (.i (w64 (d+1)))) none none)) (.str s)) (jN st9 (some (w64 (d+1))) none p)) (cv (jG N s q)) (gw A) (hs (.done (.opt (qC ZT 9 (.str e) (some (.i (w64 (d+1)))) none none)) (.str P)) (jN st9 (some (w64 (d+1))) none v)) (gw D) (hs (.done (.opt (qC ZT 9 (.str e) (some (.i (w64 (d+1)))) none none)) (.str U)) (jN st9 (some (w64 (d+1))) none E)))
  cases b
  exact tr fol [4] (kAp e d [(62,.bool false)]) (qh (gw u))
 refine ihB h (λa2 h=>?_) (λa2 h=>?_)
 ·cases h
  exact sh fol [(2,.i 1)]<|Goes.ret<|(gw2 [.i 1] (Ua tI))
 obtain⟨a3,f,h⟩:=bnd h;refine Goes.skip<|sq<|sq<|Goes.cut (s':=(ofG 96 (kAp e d [(72,.bool a3)]),[])) ?_ ?_
 ·rcases wyD f with⟨F,f⟩|⟨F,f⟩
  ·cases f
   exact tr fol [2] (kAp e d [(72,.bool true)]) (qh (gw F))
  cases f
  exact tr fol [2] (kAp e d [(72,.bool (decide ((w64 ((w64 ((zl e)-d))-1))>600)))]) (qh (gw F))
 refine ihB h (λa4 h=>?_) (λa4 h=>?_)
 ·cases h
  exact sh fol [(2,.i 4)]<|Goes.ret<|(gw2 [.i 4] (Ua tI))
 obtain⟨V,g33,h⟩:=bnd h;refine Goes.skip<|sq<|sh fol [(3,.str e),(76,.bool (decide (d<(zl e))))]<|Goes.imp (Q:=λx s'=>(x= .normal/\(.inl ())=V/\Sub s' (ofG 96 [],[]))\/(x= .ret/\ ∃X,(.inr X)=V/\zm ZT [.tmp 2] (.i X) .ret s')) ?_ ?_
 ·refine ihD g33 (λa5 g33=>?_) (λa5 g33=>?_)
  ·obtain⟨j,G,a6,H,a7,g,g33⟩:=bn3 g33;refine sq<|gq fol [1] [(5,.ptr 0 0),(6,.ptr 1 0)] (kM j.1.neg j.1.w j.2.neg j.2.w []) (qh (cv (qaR N e G)))<|sq<|gr fol [4] [(7,vl encI a6)] (qh (cv (qeD N j.1.w j.2.w H)))<|sq<|Goes.cut (s':=(ofG 96 [(95,.bool a7)],(kM j.1.neg j.1.w j.2.neg j.2.w []))) ?_ ?_
   ·rcases wyB g with⟨I,g⟩|⟨I,g⟩
    ·cases g
     exact tr fol [3] [(95,.bool true)] (qh (gw I))
    obtain⟨a8,y,rfl⟩:=bs1 g;exact tr fol [3,5,6] [(95,.bool (!decide (a8=1)))] (qI (gw I) (iv vT encI y) (lv 0 ce3 encI y rfl))
   refine ihB g33 (λa9 g33=>?_) (λa9 g33=>?_)
   ·cases g33
    exact sh fol [(2,.i 1)]<|Goes.ret<|Or.inr (⟨rfl,_,rfl,(gw2 [.i 1] (Ua tI))⟩)
   cases g33
   exact Goes.skip<|Or.inl (⟨rfl,rfl,(Uc [] [] rfl rfl .nil .nil)⟩)
  cases g33
  exact Goes.skip<|Or.inl (⟨rfl,rfl,(Sub.keep [] rfl rfl)⟩)
 rintro x s' (⟨rfl,rfl,hsub⟩|⟨rfl,q43,rfl,hret⟩)
 ·try dsimp only at h
  cases h
  exact Goes.sub hsub<|sh fol [(2,.i 0)]<|Goes.ret<|(gw2 [.i 0] (Ua tI))
 try dsimp only at h
 cases h
 exact hret
def qb9 (a:Str):Option Int:=
 if(a==[48])=true then
 some 0
 else
 (if(a.length:Int)>0 then
 (idx a 0).bind λb=>
 some (decide ((b.toNat:Int)=45))
 else
 some false:Option Bool).bind λc=>
 if c=true then
 some (-1)
 else
 some 1
theorem qjm (a:Str) {res:Int} (h:qb9 a=some res):qf ZT (.fn 139) [.str a] [] (.i res) []:=by
 unfold qb9 at h;refine Ub Tryz.func139 rfl rfl (m:=13) rfl (rs:=[.tmp 2]) rfl (l:=(kAn a)) rfl<|sh fol (kAn a)<|sq<|sh fol ((0,.str a)::(kBC (a==[48])))<|ihB h (λf h=>?_) (λf h=>?_)
 ·cases h
  exact sh fol [(2,.i 0)]<|Goes.ret<|(gw2 [.i 0] (Ua tI))
 obtain⟨g,b,h⟩:=bnd h;refine Goes.skip<|sq<|sq<|Goes.cut (s':=(ofG 13 (kBH g),[])) ?_ ?_
 ·rcases wyD b with⟨d,b⟩|⟨d,b⟩
  ·obtain⟨e,c,rfl⟩:=bs1 b;exact tr fol [3,5] (kBH (decide ((e.toNat:Int)=45))) (qA (gw d) (hs (.done (.opt (xw ZT 34 (.str a) (.i 0))) (.int .u8 (e.toNat:Int))) (qbm qnY c)))
  cases b
  exact tr fol [3] [(12,.bool false)] (qh (gw d))
 refine ihB h (λj h=>?_) (λj h=>?_)
 ·cases h
  exact sh fol [(2,.i (-1))]<|Goes.ret<|(gw2 [.i (-1)] (Ua tI))
 cases h
 exact Goes.skip<|sh fol [(2,.i 1)]<|Goes.ret<|(gw2 [.i 1] (Ua tI))
def qdP (a:Str):Option Str:=
 (qb9 a).bind λb=>
 if b<0 then
 (cut a 1 (a.length:Int)).bind λc=>
 some c
 else
 some a
theorem qgN (a:Str) {res:Str} (h:qdP a=some res):qf ZT (.fn 85) [.str a] [] (.str res) []:=by
 unfold qdP at h;obtain⟨e,b,h⟩:=bnd h;refine Ub Tryz.func85 rfl rfl (m:=9) rfl (rs:=[.tmp 2]) rfl (l:=(kAn a)) rfl<|sh fol (kAn a)<|sq<|sq<|gr fol [1] [(0,.str a),(5,.bool (decide (e<0)))] (qh (cv (qjm a b)))<|ihD h (λf h=>?_) (λf h=>?_)
 ·obtain⟨d,c,rfl⟩:=bs1 h;exact sq<|gr fol [1] [(2,.str d)] (qh (hs (.done (.opt (qC ZT 34 (.str a) (some (.i 1)) none none)) (.str d)) (jN qnY (some 1) none c)))<|Goes.ret<|(gw2 [.str d] (Ua tS))
 cases h
 exact Goes.skip<|sh fol [(2,.str a)]<|Goes.ret<|(gw2 [.str a] (Ua tS))
def qd4 (N:Nat) (a:Str):Option Str:=
 (xC N a).bind λb=>
 (cut a 0 b).bind λc=>
 some c
theorem qgO (N:Nat) (a:Str) {res:Str} (h:qd4 N a=some res):qf ZT (.fn 86) [.str a] [] (.str res) []:=by
 unfold qd4 at h;obtain⟨e,b,d,c,rfl⟩:=bs2 h;exact Ub Tryz.func86 rfl rfl (m:=7) rfl (rs:=[.tmp 2]) rfl (l:=(kAn a)) rfl<|sh fol (kAn a)<|sq<|gr fol [2,3] [(2,.str d)] (qA (cv (qaZ N a b)) (hs (.done (.opt (qC ZT 34 (.str a) none (some (.i e)) none)) (.str d)) (jN qnY none (some e) c)))<|Goes.ret<|(gw2 [.str d] (Ua tS))
def qd7 (N:Nat) (a:Str):Option Str:=
 (xC N a).bind λb=>
 if b=(a.length:Int)then
 some [49]
 else
 (cut a (w64 (b+1)) (a.length:Int)).bind λc=>
 some c
theorem qkv (N:Nat) (a:Str) {res:Str} (h:qd7 N a=some res):qf ZT (.fn 87) [.str a] [] (.str res) []:=by
 unfold qd7 at h;obtain⟨b,c,h⟩:=bnd h;refine Ub Tryz.func87 rfl rfl (m:=14) rfl (rs:=[.tmp 2]) rfl (l:=(kAn a)) rfl<|sh fol (kAn a)<|sq<|gr fol [1] (kAo a b []) (qh (cv (qaZ N a c)))<|sq<|sh fol (kAo a b (kBs (decide (b=(zl a)))))<|ihD h (λf h=>?_) (λf h=>?_)
 ·cases h
  exact sh fol [(2,.str [49])]<|Goes.ret<|(gw2 [.str [49]] (Ua tS))
 obtain⟨e,d,rfl⟩:=bs1 h;exact Goes.skip<|sq<|gr fol [3] [(2,.str e)] (qh (hs (.done (.opt (qC ZT 34 (.str a) (some (.i (w64 (b+1)))) none none)) (.str e)) (jN qnY (some (w64 (b+1))) none d)))<|Goes.ret<|(gw2 [.str e] (Ua tS))
def qcO (N:Nat) (a:Str) (digits:Int):Option Bool:=
 (if(a.length:Int)<=(w64 ((w64 (2*digits))+2))then
 (qbI N a).bind λb=>
 if b=0 then
 (qd4 N a).bind λc=>
 (qdP c).bind λd=>
 if(d.length:Int)<=digits then
 (qd7 N a).bind λe=>
 some (decide ((e.length:Int)<=digits))
 else
 some false
 else
 some false
 else
 some false:Option Bool).bind λf=>
 some f
theorem qkj (N:Nat) (a:Str) (digits:Int) {res:Bool} (h:qcO N a digits=some res):qf ZT (.fn 34) [.str a,.i digits] [] (.bool res) []:=by
 unfold qcO at h;obtain⟨n,b,h⟩:=bnd h;refine Ub Tryz.func34 rfl rfl (m:=31) rfl (rs:=[.tmp 4]) rfl (l:=[(0,.str a),(1,.i digits)]) rfl<|sh fol [(0,.str a),(1,.i digits)]<|sq<|Goes.cut (s':=(ofG 31 (kBC n),[])) ?_ ?_
 ·rcases wyD b with⟨f,b⟩|⟨f,b⟩
  ·obtain⟨q,c,b⟩:=bnd b;rcases wyD b with⟨j,b⟩|⟨j,b⟩
   ·obtain⟨o,d,r,e,b⟩:=bn2 b;rcases wyD b with⟨k,b⟩|⟨k,b⟩
    ·obtain⟨p,g,rfl⟩:=bs1 b;exact tr fol [6,8,11,13,14,19,21] (kBC (decide ((zl p)<=digits))) (qhi (gw f) (cv (qbW N a c)) (gw j) (cv (qgO N a d)) (cv (qgN o e)) (gw k) (cv (qkv N a g)))
    cases b
    exact tr fol [6,8,11,13,14,19] kBF (qcE (gw f) (cv (qbW N a c)) (gw j) (cv (qgO N a d)) (cv (qgN o e)) (gw k))
   cases b
   exact tr fol [6,8,11] kBF (qI (gw f) (cv (qbW N a c)) (gw j))
  cases b
  exact tr fol [6] kBF (qh (gw f))
 obtain rfl:=si h;exact Goes.ret<|(gw2 [.bool n] (Ua tB))
def vF (N:Nat) (l:List Str) (digits:Int):Nat->Int->Option (Unit⊕Bool)
 |0,_=>none
 |K+1,a=>
  if a<(l.length:Int)then
  (idx l a).bind λb=>
  (qcO N b digits).bind λc=>
  if(!c)=true then
  some (.inr false)
  else
  vF N l digits K (w64 (a+1))
  else
  some (.inl ())
def xR (N:Nat) (l:List Str) (n:Int) (digits:Int):Option Bool:=
 if(l.length:Int)>n then
 some false
 else
 (vF N l digits N 0).bind (λ
 |(.inl ())=>
 some true
 |(.inr a)=>
 some a)
theorem jH (N:Nat) (l:List Str) (n:Int) (digits:Int) {res:Bool} (h:xR N l n digits=some res):qf ZT (.fn 6) [vl encS l,.i n,.i digits] [] (.bool res) []:=by
 unfold xR at h;refine Ub Tryz.func6 rfl rfl (m:=25) rfl (rs:=[.tmp 6]) rfl (l:=(kAk l ((1,.i n)::(kBv digits)))) rfl<|sh fol (kAk l ((1,.i n)::(kBv digits)))<|sq<|sh fol (kAk l [(2,.i digits),(11,.bool (decide ((zl l)>n)))])<|ihD h (λf h=>?_) (λf h=>?_)
 ·cases h
  exact sh fol kAy<|Goes.ret<|(gw2 [.bool false] (Ua tB))
 obtain⟨d,g3,h⟩:=bnd h;refine Goes.skip<|sq<|sh fol (kAk l [(2,.i digits),(7,.i 0)])<|Goes.block<|Goes.imp (Q:=λx s'=>(x= .exit 0/\(.inl ())=d/\Sub s' (ofG 25 [],[]))\/(x= .ret/\ ∃e,(.inr e)=d/\zm ZT [.tmp 6] (.bool e) .ret s')) ?_ ?_
 ·refine Ud (λM s=> ∃(b:Int),s=(ofG 25 (kAk l [(2,.i digits),(7,.i b)]),[])/\vF N l digits M b=some d) ?_ (m:=N) ⟨_,rfl,g3⟩;rintro M s ⟨b,rfl,g3⟩
  cases M with
  |zero=>simp only[vF]at g3;cases g3
  |succ M=>
   rw[vF]at g3;refine sq<|sh fol (kAk l ((2,.i digits)::(7,.i b)::(kBP (decide (b<(zl l))))))<|ihD g3 (λg g3=>?_) (λg g3=>?_)
   ·obtain⟨j,a,k,c,g3⟩:=bn2 g3;refine Goes.skip<|sq<|Goes.block<|sq<|gr fol [2,3,5] (kAk l [(2,.i digits),(7,.i b),(24,.bool (!k))]) (qI (iv qeI encS a) (lv 0 qf8 encS a rfl) (cv (qkj N j digits c)))<|ihB g3 (λo g3=>?_) (λo g3=>?_)
    ·cases g3
     exact sh fol kAy<|Goes.ret<|Or.inr (⟨rfl,_,rfl,(gw2 [.bool false] (Ua tB))⟩)
    exact Goes.skip<|gh fol (kAk l [(2,.i digits),(7,.i (w64 (b+1)))])<|zo ⟨_,rfl,g3⟩
   cases g3
   exact Goes.exit<|Or.inl (⟨rfl,rfl,(Sub.keep [] rfl rfl)⟩)
 rintro x s' (⟨rfl,rfl,hsub⟩|⟨rfl,p,rfl,hret⟩)
 ·try dsimp only at h
  cases h
  exact Goes.sub hsub<|sh fol [(6,.bool true)]<|Goes.ret<|(gw2 [.bool true] (Ua tB))
 try dsimp only at h
 cases h
 exact hret
def jE (N:Nat) (m:List (List Str)) (columns:Int) (digits:Int):Nat->Int->Option (Unit⊕Bool)
 |0,_=>none
 |K+1,a=>
  if a<(m.length:Int)then
  ((idx m a).bind λc=>
  (idx m 0).bind λd=>
  if(!decide ((c.length:Int)=(d.length:Int)))=true then
  some true
  else
  (xR N c columns digits).bind λe=>
  some (!e):Option Bool).bind λb=>
  if b=true then
  some (.inr false)
  else
  jE N m columns digits K (w64 (a+1))
  else
  some (.inl ())
def qaB (N:Nat) (m:List (List Str)) (rows:Int) (columns:Int) (digits:Int):Option Bool:=
 if(m.length:Int)>rows then
 some false
 else
 (jE N m columns digits N 0).bind (λ
 |(.inl ())=>
 some true
 |(.inr a)=>
 some a)
theorem xn (N:Nat) (m:List (List Str)) (rows:Int) (columns:Int) (digits:Int) {res:Bool} (h:qaB N m rows columns digits=some res):qf ZT (.fn 5) [vl eSS m,.i rows,.i columns,.i digits] [] (.bool res) []:=by
 unfold qaB at h;refine Ub Tryz.func5 rfl rfl (m:=40) rfl (rs:=[.tmp 8]) rfl (l:=((0,vl eSS m)::(1,.i rows)::(kBh columns digits []))) rfl<|sh fol ((0,vl eSS m)::(1,.i rows)::(kBh columns digits []))<|sq<|sh fol ((0,vl eSS m)::(kBh columns digits (kBO (decide ((zl m)>rows)))))<|ihD h (λo h=>?_) (λo h=>?_)
 ·cases h
  exact sh fol kBc<|Goes.ret<|(gw2 [.bool false] (Ua tB))
 obtain⟨f,g3,h⟩:=bnd h;refine Goes.skip<|sq<|sh fol ((0,vl eSS m)::(kBh columns digits [(9,.i 0)]))<|Goes.block<|Goes.imp (Q:=λx s'=>(x= .exit 0/\(.inl ())=f/\Sub s' (ofG 40 [],[]))\/(x= .ret/\ ∃n,(.inr n)=f/\zm ZT [.tmp 8] (.bool n) .ret s')) ?_ ?_
 ·refine Ud (λM s=> ∃(d:Int),s=(ofG 40 ((0,vl eSS m)::(kBh columns digits [(9,.i d)])),[])/\jE N m columns digits M d=some f) ?_ (m:=N) ⟨_,rfl,g3⟩;rintro M s ⟨d,rfl,g3⟩
  cases M with
  |zero=>simp only[jE]at g3;cases g3
  |succ M=>
   rw[jE]at g3;refine sq<|sh fol ((0,vl eSS m)::(kBh columns digits [(9,.i d),(17,.bool (decide (d<(zl m))))]))<|ihD g3 (λp g3=>?_) (λp g3=>?_)
   ·obtain⟨g,a,g3⟩:=bnd g3;refine Goes.skip<|sq<|Goes.block<|sq<|Goes.cut (s':=(ofG 40 ((0,vl eSS m)::(kBh columns digits [(9,.i d),(39,.bool g)])),[])) ?_ ?_
    ·obtain⟨q,b,u,c,a⟩:=bn2 a;rcases wyB a with⟨j,a⟩|⟨j,a⟩
     ·cases a
      exact tr fol [2,3,6,7,10] ((0,vl eSS m)::(kBh columns digits [(9,.i d),(39,.bool true)])) (qbj (iv qcA eSS b) (lv 0 qcz eSS b rfl) (iv qcA eSS c) (lv 0 qcz eSS c rfl) (gw j))
     obtain⟨r,e,rfl⟩:=bs1 a;exact tr fol [2,3,6,7,10,13,14,17] ((0,vl eSS m)::(kBh columns digits [(9,.i d),(39,.bool (!r))])) (qkW (iv qcA eSS b) (lv 0 qcz eSS b rfl) (iv qcA eSS c) (lv 0 qcz eSS c rfl) (gw j) (iv qcA eSS b) (lv 0 qcz eSS b rfl) (cv (jH N q columns digits e)))
    refine ihB g3 (λk g3=>?_) (λk g3=>?_)
    ·cases g3
     exact sh fol kBc<|Goes.ret<|Or.inr (⟨rfl,_,rfl,(gw2 [.bool false] (Ua tB))⟩)
    exact Goes.skip<|gh fol ((0,vl eSS m)::(kBh columns digits [(9,.i (w64 (d+1)))]))<|zo ⟨_,rfl,g3⟩
   cases g3
   exact Goes.exit<|Or.inl (⟨rfl,rfl,(Sub.keep [] rfl rfl)⟩)
 rintro x s' (⟨rfl,rfl,hsub⟩|⟨rfl,t,rfl,hret⟩)
 ·try dsimp only at h
  cases h
  exact Goes.sub hsub<|sh fol [(8,.bool true)]<|Goes.ret<|(gw2 [.bool true] (Ua tB))
 try dsimp only at h
 cases h
 exact hret
def jU (N:Nat) (v:List Str):Nat->Int->Option (Unit⊕Int)
 |0,_=>none
 |K+1,a=>
  if a<(v.length:Int)then
  (idx v a).bind λc=>
  (qbI N c).bind λb=>
  if(!decide (b=0))=true then
  some (.inr b)
  else
  jU N v K (w64 (a+1))
  else
  some (.inl ())
def yz (N:Nat) (v:List Str):Option Int:=
 (jU N v N 0).bind (λ
 |(.inl ())=>
 some 0
 |(.inr a)=>
 some a)
theorem yH (N:Nat) (v:List Str) {res:Int} (h:yz N v=some res):qf ZT (.fn 10) [vl encS v] [] (.i res) []:=by
 unfold yz at h;obtain⟨e,g2,h⟩:=bnd h;refine Ub Tryz.func10 rfl rfl (m:=19) rfl (rs:=[.tmp 2]) rfl (l:=(kAk v [])) rfl<|sh fol (kAk v [])<|sq<|sh fol (kAk v [(3,.i 0)])<|Goes.block<|Goes.imp (Q:=λx s'=>(x= .exit 0/\(.inl ())=e/\Sub s' (ofG 19 [],[]))\/(x= .ret/\ ∃f,(.inr f)=e/\zm ZT [.tmp 2] (.i f) .ret s')) ?_ ?_
 ·refine Ud (λM s=> ∃(a:Int),s=(ofG 19 (kAk v [(3,.i a)]),[])/\jU N v M a=some e) ?_ (m:=N) ⟨_,rfl,g2⟩;rintro M s ⟨a,rfl,g2⟩
  cases M with
  |zero=>simp only[jU]at g2;cases g2
  |succ M=>
   rw[jU]at g2;refine sq<|sh fol (kAk v ((3,.i a)::(kBY (decide (a<(zl v))))))<|ihD g2 (λg g2=>?_) (λg g2=>?_)
   ·obtain⟨j,b,c,d,g2⟩:=bn2 g2;refine Goes.skip<|sq<|Goes.block<|sq<|gr fol [2,3,4] (kAk v [(3,.i a),(4,.i c)]) (qI (iv qeI encS b) (lv 0 qf8 encS b rfl) (cv (qbW N j d)))<|sh fol (kAk v [(3,.i a),(4,.i c),(17,.bool (!decide (c=0)))])<|ihB g2 (λk g2=>?_) (λk g2=>?_)
    ·cases g2
     exact sh fol (kBv c)<|Goes.ret<|Or.inr (⟨rfl,_,rfl,(gw2 [.i c] (Ua tI))⟩)
    exact Goes.skip<|gh fol (kAk v [(3,.i (w64 (a+1)))])<|zo ⟨_,rfl,g2⟩
   cases g2
   exact Goes.exit<|Or.inl (⟨rfl,rfl,(Sub.keep [] rfl rfl)⟩)
 rintro x s' (⟨rfl,rfl,hsub⟩|⟨rfl,n,rfl,hret⟩)
 ·try dsimp only at h
  cases h
  exact Goes.sub hsub<|sh fol [(2,.i 0)]<|Goes.ret<|(gw2 [.i 0] (Ua tI))
 try dsimp only at h
 cases h
 exact hret
def zk (N:Nat) (m:List (List Str)):Nat->Int->Option (Unit⊕Int)
 |0,_=>none
 |K+1,c=>
  if c<(m.length:Int)then
  (idx m c).bind λa=>
  (idx m 0).bind λd=>
  if(!decide ((a.length:Int)=(d.length:Int)))=true then
  some (.inr 2)
  else
  (yz N a).bind λb=>
  if(!decide (b=0))=true then
  some (.inr b)
  else
  zk N m K (w64 (c+1))
  else
  some (.inl ())
def yD (N:Nat) (m:List (List Str)) (b:List Str):Option Int:=
 if(m.length:Int)=0 then
 some 12
 else
 (if(m.length:Int)>24 then
 some true
 else
 (idx m 0).bind λd=>
 some (decide ((d.length:Int)>24)):Option Bool).bind λe=>
 if e=true then
 some 5
 else
 (zk N m N 0).bind (λ
 |(.inl ())=>
 if(!decide ((b.length:Int)=(m.length:Int)))=true then
 some 2
 else
 (yz N b).bind λa=>
 some a
 |(.inr c)=>
 some c)
theorem qbG (N:Nat) (m:List (List Str)) (b:List Str) {res:Int} (h:yD N m b=some res):qf ZT (.fn 7) [vl eSS m,vl encS b] [] (.i res) []:=by
 unfold yD at h;refine Ub Tryz.func7 rfl rfl (m:=51) rfl (rs:=[.tmp 4]) rfl (l:=((0,vl eSS m)::(kAJ b []))) rfl<|sh fol ((0,vl eSS m)::(kAJ b []))<|sq<|sh fol ((0,vl eSS m)::(kAJ b (kBs (decide ((zl m)=0)))))<|ihD h (λz h=>?_) (λz h=>?_)
 ·cases h
  exact sh fol [(4,.i 12)]<|Goes.ret<|(gw2 [.i 12] (Ua tI))
 obtain⟨A,c,h⟩:=bnd h;refine Goes.skip<|sq<|sq<|Goes.cut (s':=(ofG 51 ((0,vl eSS m)::(kAJ b [(19,.bool A)])),[])) ?_ ?_
 ·rcases wyD c with⟨p,c⟩|⟨p,c⟩
  ·cases c
   exact tr fol [3] ((0,vl eSS m)::(kAJ b [(19,.bool true)])) (qh (gw p))
  obtain⟨B,g,rfl⟩:=bs1 c;exact tr fol [3,5,6] ((0,vl eSS m)::(kAJ b [(19,.bool (decide ((zl B)>24)))])) (qI (gw p) (iv qcA eSS g) (lv 0 qcz eSS g rfl))
 refine ihB h (λC h=>?_) (λC h=>?_)
 ·cases h
  exact sh fol [(4,.i 5)]<|Goes.ret<|(gw2 [.i 5] (Ua tI))
 obtain⟨q,g8,h⟩:=bnd h;refine Goes.skip<|sq<|sh fol ((0,vl eSS m)::(kAJ b [(5,.i 0)]))<|Goes.block<|Goes.imp (Q:=λx s'=>(x= .exit 0/\(.inl ())=q/\Sub s' (ofG 51 ((0,vl eSS m)::(kAJ b [])),[]))\/(x= .ret/\ ∃y,(.inr y)=q/\zm ZT [.tmp 4] (.i y) .ret s')) ?_ ?_
 ·refine Ud (λM s=> ∃(f:Int),s=(ofG 51 ((0,vl eSS m)::(kAJ b (kA8 f))),[])/\zk N m M f=some q) ?_ (m:=N) ⟨_,rfl,g8⟩;rintro M s ⟨f,rfl,g8⟩
  cases M with
  |zero=>simp only[zk]at g8;cases g8
  |succ M=>
   rw[zk]at g8;refine sq<|sh fol ((0,vl eSS m)::(kAJ b [(5,.i f),(23,.bool (decide (f<(zl m))))]))<|ihD g8 (λr g8=>?_) (λr g8=>?_)
   ·obtain⟨n,a,t,d,g8⟩:=bn2 g8;refine Goes.skip<|sq<|Goes.block<|sq<|sq<|gr fol [2,3,6,7] ((0,vl eSS m)::(kAJ b [(5,.i f),(35,.bool (!decide ((zl n)=(zl t))))])) (zM (iv qcA eSS a) (lv 0 qcz eSS a rfl) (iv qcA eSS d) (lv 0 qcz eSS d rfl))<|ihB g8 (λu g8=>?_) (λu g8=>?_)
    ·cases g8
     exact sh fol [(4,.i 2)]<|Goes.ret<|Or.inr (⟨rfl,_,rfl,(gw2 [.i 2] (Ua tI))⟩)
    obtain⟨e,j,g8⟩:=bnd g8;refine Goes.skip<|sq<|gr fol [2,3,4] ((0,vl eSS m)::(kAJ b (kBT f e []))) (qI (iv qcA eSS a) (lv 0 qcz eSS a rfl) (cv (yH N n j)))<|sh fol ((0,vl eSS m)::(kAJ b (kBT f e [(42,.bool (!decide (e=0)))])))<|ihB g8 (λv g8=>?_) (λv g8=>?_)
    ·cases g8
     exact sh fol [(4,.i e)]<|Goes.ret<|Or.inr (⟨rfl,_,rfl,(gw2 [.i e] (Ua tI))⟩)
    exact Goes.skip<|gh fol ((0,vl eSS m)::(kAJ b (kA8 (w64 (f+1)))))<|zo ⟨_,rfl,g8⟩
   cases g8
   exact Goes.exit<|Or.inl (⟨rfl,rfl,(Sub.keep [0,1] rfl rfl)⟩)
 rintro x s' (⟨rfl,rfl,hsub⟩|⟨rfl,D,rfl,hret⟩)
 ·try dsimp only at h
  refine Goes.sub hsub<|sq<|sh fol (kAJ b [(48,.bool (!decide ((zl b)=(zl m))))])<|ihB h (λw h=>?_) (λw h=>?_)
  ·cases h
   exact sh fol [(4,.i 2)]<|Goes.ret<|(gw2 [.i 2] (Ua tI))
  obtain⟨o,k,rfl⟩:=bs1 h;exact Goes.skip<|sq<|gr fol [1] [(4,.i o)] (qh (cv (yH N b k)))<|Goes.ret<|(gw2 [.i o] (Ua tI))
 try dsimp only at h
 cases h
 exact hret
def zZ (l:List Int):Nat->Int->Option (Unit⊕Int)
 |0,_=>none
 |K+1,a=>
  if a<(l.length:Int)then
  (idx l a).bind λb=>
  if(!decide (b=0))=true then
  some (.inr b)
  else
  zZ l K (w64 (a+1))
  else
  some (.inl ())
def jy (N:Nat) (l:List Int):Option Int:=
 (zZ l N 0).bind (λ
 |(.inl ())=>
 some 0
 |(.inr a)=>
 some a)
theorem qaA (N:Nat) (l:List Int) {res:Int} (h:jy N l=some res):qf ZT (.fn 48) [vl encI l] [] (.i res) []:=by
 unfold jy at h;obtain⟨d,g2,h⟩:=bnd h;refine Ub Tryz.func48 rfl rfl (m:=15) rfl (rs:=[.tmp 2]) rfl (l:=(kBL l [])) rfl<|sh fol (kBL l [])<|sq<|sh fol [(5,vl encI l),(6,.i (zl l)),(7,.i 0)]<|Goes.block<|Goes.imp (Q:=λx s'=>(x= .exit 0/\(.inl ())=d/\Sub s' (ofG 15 [],[]))\/(x= .ret/\ ∃e,(.inr e)=d/\zm ZT [.tmp 2] (.i e) .ret s')) ?_ ?_
 ·refine Ud (λM s=> ∃(a:Int),s=(ofG 15 ((5,vl encI l)::(kAj (zl l) a [])),[])/\zZ l M a=some d) ?_ (m:=N) ⟨_,rfl,g2⟩;rintro M s ⟨a,rfl,g2⟩
  cases M with
  |zero=>simp only[zZ]at g2;cases g2
  |succ M=>
   rw[zZ]at g2;refine sh fol ((5,vl encI l)::(kAj (zl l) a (kBY (decide (a<(zl l))))))<|sq<|ihD g2 (λf g2=>?_) (λf g2=>?_)
   ·obtain⟨c,b,g2⟩:=bnd g2;refine Goes.skip<|sq<|Goes.block<|sq<|gr fol [0,1] ((4,.i c)::(5,vl encI l)::(kAj (zl l) a [])) (qA (iv sl139 encI b) (lv 0 ce28 encI b rfl))<|sh fol ((4,.i c)::(5,vl encI l)::(kAj (zl l) a (kBH (!decide (c=0)))))<|ihB g2 (λg g2=>?_) (λg g2=>?_)
    ·cases g2
     exact sh fol (kBv c)<|Goes.ret<|Or.inr (⟨rfl,_,rfl,(gw2 [.i c] (Ua tI))⟩)
    exact Goes.skip<|gh fol ((5,vl encI l)::(kAj (zl l) (w64 (a+1)) []))<|zo ⟨_,rfl,g2⟩
   cases g2
   exact Goes.exit<|Or.inl (⟨rfl,rfl,(Sub.keep [] rfl rfl)⟩)
 rintro x s' (⟨rfl,rfl,hsub⟩|⟨rfl,j,rfl,hret⟩)
 ·try dsimp only at h
  cases h
  exact Goes.sub hsub<|sh fol [(2,.i 0)]<|Goes.ret<|(gw2 [.i 0] (Ua tI))
 try dsimp only at h
 cases h
 exact hret
def qN (holds:Bool) (e:Int):Option Int:=
 if holds=true then
 some e
 else
 some 0
theorem ji (holds:Bool) (e:Int) {res:Int} (h:qN holds e=some res):qf ZT (.fn 49) [.bool holds,.i e] [] (.i res) []:=by
 unfold qN at h;refine Ub Tryz.func49 rfl rfl (m:=7) rfl (rs:=[.tmp 4]) rfl (l:=[(0,.bool holds),(1,.i e)]) rfl<|sh fol [(0,.bool holds),(1,.i e)]<|sq<|sh fol [(1,.i e),(5,.bool holds)]<|ihB h (λa h=>?_) (λa h=>?_)
 ·cases h
  exact sh fol [(4,.i e)]<|Goes.ret<|(gw2 [.i e] (Ua tI))
 cases h
 exact Goes.skip<|sh fol [(4,.i 0)]<|Goes.ret<|(gw2 [.i 0] (Ua tI))
def qcx (n:Int):Option qm:=
 some (⟨n,[]⟩:qm)
theorem qcc (n:Int) {res:qm} (h:qcx n=some res):qf ZT (.fn 57) [.i n] [] (.agg (nz1 res)) []:=by
 unfold qcx at h;cases h
 exact Ub Tryz.func57 rfl rfl (m:=5) rfl (rs:=[.cell 2 74]) rfl (l:=[(0,.i n)]) rfl<|sg fol ((0,.i n)::(kAm [])) [bZ]<|sg fol (kAm []) (kA7 n)<|Goes.ret<|(gw2 [.agg [.i n,.nilslice]] (FzW.agg (qj.cons (Ua tI) (qj.cons (Ur (E:=eU)) qj.nil))))
def qdg (n:Int):Option Int:=
 if n<0 then
 some (wrap .u64 (w64 (0-n)))
 else
 some (wrap .u64 n)
theorem qe4 (n:Int) {res:Int} (h:qdg n=some res):qf ZT (.fn 158) [.i n] [] (.int .u64 res) []:=by
 unfold qdg at h;refine Ub Tryz.func158 rfl rfl (m:=10) rfl (rs:=[.tmp 2]) rfl (l:=[(0,.i n)]) rfl<|sh fol [(0,.i n)]<|sq<|sh fol ((0,.i n)::(kBC (decide (n<0))))<|ihD h (λa h=>?_) (λa h=>?_)
 ·cases h
  exact sh fol (kBf (wrap .u64 (w64 (0-n))) [])<|Goes.ret<|(gw2 [.int .u64 (wrap .u64 (w64 (0-n)))] (Ua tI))
 cases h
 exact Goes.skip<|sh fol (kBf (wrap .u64 n) [])<|Goes.ret<|(gw2 [.int .u64 (wrap .u64 n)] (Ua tI))
def qL (a:qm):Option (Bool×(List Int)):=
 if(!a.w.isEmpty)=true then
 some (decide (a.s<0),a.w)
 else
 if a.s=0 then
 some (false,[])
 else
 (qdg a.s).bind λb=>
 some (decide (a.s<0),[b])
theorem jc (a:qm) {res:Bool×(List Int)} (h:qL a=some res):qf ZT (.fn 119) [.agg (nz1 a)] [] (.tuple [.bool res.1,vl eU res.2]) []:=by
 unfold qL at h;refine Ub Tryz.func119 rfl rfl (m:=24) rfl (rs:=[.tmp 2,.tmp 3]) rfl (l:=[(0,.agg (nz1 a))]) rfl<|sg fol (kAg []) [.cells (nz1 a)]<|sq<|Goes.block<|sq<|gr fol [2] (kAg (kBC (!a.w.isEmpty))) (qh (hs (.done (.opt (zt ZT .neq 72 (.tmp 6) (.const (.slice none 0 0)) (nvl eU a.w) .nilslice)) (.bool (!a.w.isEmpty))) (ne_nv qbh)))<|ihB h (λc h=>?_) (λc h=>?_)
 ·cases h
  exact sh fol [(2,.bool (decide (a.s<0))),(3,nvl eU a.w)]<|Goes.ret<|(gw2 [.bool (decide (a.s<0)),nvl eU a.w] (FzW.tuple (qj.cons (Ua tB) (qj.cons (FzW.nvL (E:=eU) (nl rfl)) qj.nil))))
 refine sh fol (kAg (kBO (decide (a.s=0))))<|ihD h (λd h=>?_) (λd h=>?_)
 ·cases h
  exact sh fol [(2,.bool false),(3,.nilslice)]<|Goes.ret<|(gw2 [.bool false,.nilslice] (FzW.tuple (qj.cons (Ua tB) (qj.cons (FzW.nilv (E:=eU)) qj.nil))))
 obtain⟨e,b,rfl⟩:=bs1 h;exact Goes.skip<|sq<|gq fol [5] [(2,.bool (decide (a.s<0))),(3,.slice 1 0 1 1 1)] [.cells (nz1 a),.cells [.int .u64 e]] (qh (cv (qe4 a.s b)))<|Goes.ret<|(gw2 [.bool (decide (a.s<0)),.slice 1 0 1 1 1] (FzW.tuple (qj.cons (Ua tB) (qj.cons (FzW.fz (Fz.lit rfl rfl (Uf (AllST.cons tI AllST.nil)))) qj.nil))))
def yo (neg:Bool) (w:List Int):Option qm:=
 if(w.length:Int)=0 then
 some (⟨0,[]⟩:qm)
 else
 (if(w.length:Int)=1 then
 (idx w 0).bind λd=>
 if d<=9223372036854775807 then
 some neg
 else
 some false
 else
 some false:Option Bool).bind λe=>
 if e=true then
 (idx w 0).bind λf=>
 some (⟨w64 (0-(w64 f)),[]⟩:qm)
 else
 (if(w.length:Int)=1 then
 (idx w 0).bind λa=>
 some (decide (a<=9223372036854775807))
 else
 some false:Option Bool).bind λb=>
 if b=true then
 (idx w 0).bind λc=>
 some (⟨w64 c,[]⟩:qm)
 else
 if neg=true then
 some (⟨(-1),w⟩:qm)
 else
 some (⟨1,w⟩:qm)
theorem qa1 (neg:Bool) (w:List Int) {res:qm} (h:yo neg w=some res):qf ZT (.fn 120) [.bool neg,vl eU w] [] (.agg (nz1 res)) []:=by
 unfold yo at h;refine Ub Tryz.func120 rfl rfl (m:=50) rfl (rs:=[.cell 4 74]) rfl (l:=[(0,.bool neg),(1,vl eU w)]) rfl<|sg fol ((0,.bool neg)::(1,vl eU w)::(kAs [])) [bZ]<|sq<|Goes.block<|sh fol ((0,.bool neg)::(1,vl eU w)::(kAs [(5,.bool (decide ((zl w)=0)))]))<|ihD h (λt h=>?_) (λt h=>?_)
 ·cases h
  exact sh fol (kAs [])<|Goes.ret<|(gw2 [.agg [.i 0,.nilslice]] (FzW.agg (qj.cons (Ua tI) (qj.cons (Ur (E:=eU)) qj.nil))))
 obtain⟨u,a,h⟩:=bnd h;refine sq<|Goes.cut (s':=(ofG 50 ((0,.bool neg)::(1,vl eU w)::(kAs (kBI u))),[bZ])) ?_ ?_
 ·rcases wyD a with⟨j,a⟩|⟨j,a⟩
  ·obtain⟨x,c,a⟩:=bnd a;rcases wyD a with⟨k,a⟩|⟨k,a⟩
   ·cases a
    exact tr fol [3,5,6,9] ((0,.bool neg)::(1,vl eU w)::(kAs (kBI neg))) (zM (gw j) (iv je eU c) (lv 0 jo eU c rfl) (gw k))
   cases a
   exact tr fol [3,5,6,9] ((0,.bool neg)::(1,vl eU w)::(kAs [(10,.bool false)])) (zM (gw j) (iv je eU c) (lv 0 jo eU c rfl) (gw k))
  cases a
  exact tr fol [3] ((0,.bool neg)::(1,vl eU w)::(kAs [(10,.bool false)])) (qh (gw j))
 refine ihB h (λv h=>?_) (λv h=>?_)
 ·obtain⟨s,f,rfl⟩:=bs1 h;exact sq<|gq fol [1,2] (kAs []) (kA7 (w64 (0-(w64 s)))) (qA (iv je eU f) (lv 0 jo eU f rfl))<|Goes.ret<|(gw2 [.agg [.i (w64 (0-(w64 s))),.nilslice]] (FzW.agg (qj.cons (Ua tI) (qj.cons (Ur (E:=eU)) qj.nil))))
 obtain⟨n,b,h⟩:=bnd h;refine sq<|Goes.cut (s':=(ofG 50 ((0,.bool neg)::(1,vl eU w)::(kAs [(29,.bool n)])),[bZ])) ?_ ?_
 ·rcases wyD b with⟨o,b⟩|⟨o,b⟩
  ·obtain⟨p,d,rfl⟩:=bs1 b;exact tr fol [3,5,6] ((0,.bool neg)::(1,vl eU w)::(kAs [(29,.bool (decide (p<=9223372036854775807)))])) (qI (gw o) (iv je eU d) (lv 0 jo eU d rfl))
  cases b
  exact tr fol [3] ((0,.bool neg)::(1,vl eU w)::(kAs [(29,.bool false)])) (qh (gw o))
 refine ihB h (λq h=>?_) (λq h=>?_)
 ·obtain⟨g,e,rfl⟩:=bs1 h;exact sq<|gq fol [1,2] (kAs []) (kA7 (w64 g)) (qA (iv je eU e) (lv 0 jo eU e rfl))<|Goes.ret<|(gw2 [.agg [.i (w64 g),.nilslice]] (FzW.agg (qj.cons (Ua tI) (qj.cons (Ur (E:=eU)) qj.nil))))
 refine sh fol ((1,vl eU w)::(kAs [(44,.bool neg)]))<|ihB h (λr h=>?_) (λr h=>?_)
 ·cases h
  exact sg fol (kAs []) [.cells [.i (-1),vl eU w]]<|Goes.ret<|(gw2 [.agg [.i (-1),vl eU w]] (FzW.agg (qj.cons (Ua tI) (qj.cons (FzW.Lnv (E:=eU) (by first|omega|(simp only[cP,aH]at*;omega)) (nl rfl)) qj.nil))))
 cases h
 exact Goes.skip<|sg fol (kAs []) [.cells [.i 1,vl eU w]]<|Goes.ret<|(gw2 [.agg [.i 1,vl eU w]] (FzW.agg (qj.cons (Ua tI) (qj.cons (FzW.Lnv (E:=eU) (by first|omega|(simp only[cP,aH]at*;omega)) (nl rfl)) qj.nil))))
def qa5 (w:List Int):Nat->Int->Option Int
 |0,_=>none
 |K+1,a=>
  (if a>0 then
  (idx w (w64 (a-1))).bind λb=>
  some (decide (b=0))
  else
  some false:Option Bool).bind λc=>
  if c=true then
  qa5 w K (w64 (a-1))
  else
  some a
def qaa (N:Nat) (w:List Int):Option (List Int):=
 (qa5 w N (w.length:Int)).bind λa=>
 (cut w 0 a).bind λb=>
 some b
theorem qah (N:Nat) (w:List Int) {res:List Int} (h:qaa N w=some res):qf ZT (.fn 168) [vl eU w] [] (vl eU res) []:=by
 unfold qaa at h;obtain⟨j,g3,h⟩:=bnd h;refine Ub Tryz.func168 rfl rfl (m:=21) rfl (rs:=[.tmp 2]) rfl (l:=[(0,vl eU w)]) rfl<|sh fol [(0,vl eU w)]<|sh fol [(0,vl eU w),(3,.i (zl w))]<|sq<|Goes.block<|Goes.imp (Q:=λx s'=>(x= .exit 0/\ ∃d,d=j/\Sub s' (ofG 21 [(0,vl eU w),(3,.i d)],[]))) ?_ ?_
 ·refine Ud (λM s=> ∃(c:Int),s=(ofG 21 [(0,vl eU w),(3,.i c)],[])/\qa5 w M c=some j) ?_ (m:=N) ⟨_,rfl,g3⟩;rintro M s ⟨c,rfl,g3⟩
  cases M with
  |zero=>simp only[qa5]at g3;cases g3
  |succ M=>
   rw[qa5]at g3;obtain⟨k,a,g3⟩:=bnd g3;refine sq<|sq<|Goes.cut (s':=(ofG 21 ((0,vl eU w)::(3,.i c)::(kBP k)),[])) ?_ ?_
   ·rcases wyD a with⟨f,a⟩|⟨f,a⟩
    ·obtain⟨n,b,rfl⟩:=bs1 a;exact tr fol [2,6,7] ((0,vl eU w)::(3,.i c)::(kBP (decide (n=0)))) (qI (gw f) (iv je eU b) (lv 0 jo eU b rfl))
    cases a
    exact tr fol [2] [(0,vl eU w),(3,.i c),(15,.bool false)] (qh (gw f))
   refine ihB g3 (λo g3=>?_) (λo g3=>?_)
   ·exact Goes.skip<|Goes.block<|gh fol [(0,vl eU w),(3,.i (w64 (c-1)))]<|zo ⟨_,rfl,g3⟩
   cases g3
   exact Goes.exit<|⟨rfl,_,rfl,(Sub.keep [0,3] rfl rfl)⟩
 rintro x s' ⟨rfl,d,rfl,hsub⟩;obtain⟨g,e,rfl⟩:=bs1 h;exact Goes.sub hsub<|sq<|gr fol [2] [(2,vl eU g)] (qh (hs (.done (.opt (qC ZT 72 (vl eU w) none (some (.i d)) none)) (vl eU g)) (qjL je (E:=eU) rfl none (some d) e)))<|Goes.ret<|(gw2 [vl eU g] (Ua (qw eU _ (nl rfl))))
def jA (c:List Int) (d:List Int):Nat->(List Int)->Int->Int->Option ((List Int)×Int)
 |0,_,_,_=>none
 |K+1,e,a,j=>
  if a<(c.length:Int)then
  ((if a<(d.length:Int)then
  (idx d a).bind λf=>
  some f
  else
  some 0:Option Int)).bind λg=>
  (idx c a).bind λh=>
  (qaN h g j).bind λb=>
  (idx e a).bind λk=>
  (put e a b.1).bind λi=>
  jA c d K i (w64 (a+1)) b.2
  else
  some (e,j)
def qbe (N:Nat) (b:List Int) (y:List Int):Option (List Int):=
 ((if(b.length:Int)<(y.length:Int)then
 some (y,b)
 else
 some (b,y):Option ((List Int)×(List Int)))).bind λ(a,g)=>
 (mk 8 (w64 ((a.length:Int)+1)) 0).bind λh=>
 (jA a g N h 0 0).bind λ(f,c)=>
 (idx f (a.length:Int)).bind λi=>
 (put f (a.length:Int) c).bind λd=>
 (qaa N d).bind λe=>
 some e
theorem qhu (N:Nat) (B:List Int) (y:List Int) {res:List Int} (h:qbe N B y=some res):qf ZT (.fn 121) [vl eU B,vl eU y] [] (vl eU res) []:=by
 unfold qbe at h;obtain⟨P,g3,h⟩:=bnd h;refine Ub Tryz.func121 rfl rfl (m:=54) rfl (rs:=[.tmp 4]) rfl (l:=[(0,vl eU B),(1,vl eU y)]) rfl<|sh fol [(0,vl eU B),(1,vl eU y)]<|sq<|sh fol ((0,vl eU B)::(1,vl eU y)::(kBO (decide ((zl B)<(zl y)))))<|Goes.imp (Q:=λx s'=>(x= .normal/\ ∃a e,(a,e)=P/\Sub s' (ofG 54 [(0,vl eU a),(1,vl eU e)],[]))) ?_ ?_
 ·refine ihD g3 (λU g3=>?_) (λU g3=>?_)
  ·cases g3
   exact gh fol [(0,vl eU y),(1,vl eU B)]<|⟨rfl,_,_,rfl,(Sub.refl _)⟩
  cases g3
  exact Goes.skip<|⟨rfl,_,_,rfl,(Sub.keep [0,1] rfl rfl)⟩
 rintro x s' ⟨rfl,a,e,rfl,hsub⟩
 try dsimp only at h
 obtain⟨C,G,H,g11,h⟩:=bn2 h;refine Goes.sub hsub<|sq<|gq fol [3] ((0,vl eU a)::(1,vl eU e)::(kE C [])) [.cells (C.flatMap eU.c)] (qh (hs (.run [] (jd ZT 72 (.i (w64 ((zl a)+1))) (.i (w64 ((zl a)+1)))) [] (.slice 0 0 C.length C.length 1) [.cells (C.flatMap eU.c)] false) (qdf je (E:=eU) (z:=0) rfl (by kernel_rfl) G rfl)))<|sh fol ((0,vl eU a)::(1,vl eU e)::(kE C [(6,.int .u64 0)]))<|sq<|sh fol ((0,vl eU a)::(1,vl eU e)::(kE C [(6,.int .u64 0),(21,.i (zl a)),(22,.i 0)]))<|Goes.block<|Goes.imp (Q:=λx s'=>(x= .exit 0/\ ∃v g,(v,g)=H/\Sub s' (ofG 54 ((0,vl eU a)::(kE v (kAN g []))),[.cells (v.flatMap eU.c)]))) ?_ ?_
 ·refine Ud (λM s=> ∃(f:List Int) (b:Int) (u:Int),s=(ofG 54 ((0,vl eU a)::(1,vl eU e)::(kE f (kAN u (kAH (zl a) b [])))),[.cells (f.flatMap eU.c)])/\jA a e M f b u=some H) ?_ (m:=N) ⟨_,_,_,rfl,g11⟩;rintro M s ⟨f,b,u,rfl,g11⟩
  cases M with
  |zero=>simp only[jA]at g11;cases g11
  |succ M=>
   rw[jA]at g11;refine sh fol ((0,vl eU a)::(1,vl eU e)::(kE f (kAN u (kAH (zl a) b [(23,.bool (decide (b<(zl a))))]))))<|sq<|ihD g11 (λI g11=>?_) (λI g11=>?_)
   ·obtain⟨J,g14,g11⟩:=bnd g11;refine Goes.skip<|sq<|Goes.block<|sh fol ((0,vl eU a)::(1,vl eU e)::(kE f (kAN u ((7,.i b)::(kAH (zl a) b [])))))<|sh fol ((0,vl eU a)::(1,vl eU e)::(kE f (kAN u ((7,.i b)::(kBZ (kAH (zl a) b []))))))<|sq<|sh fol ((0,vl eU a)::(1,vl eU e)::(kE f (kAN u ((7,.i b)::(kBZ (kAH (zl a) b [(28,.bool (decide (b<(zl e))))]))))))<|Goes.imp (Q:=λx s'=>(x= .normal/\ ∃w,w=J/\Sub s' (ofG 54 ((0,vl eU a)::(1,vl eU e)::(kE f (kAN u ((7,.i b)::(8,.int .u64 w)::(kAH (zl a) b []))))),[.cells (f.flatMap eU.c)]))) ?_ ?_
    ·refine ihD g14 (λK g14=>?_) (λK g14=>?_)
     ·obtain⟨L,j,rfl⟩:=bs1 g14;exact gr fol [2,3] ((0,vl eU a)::(1,vl eU e)::(kE f (kAN u ((7,.i b)::(8,.int .u64 L)::(kAH (zl a) b []))))) (qA (iv je eU j) (lv 0 jo eU j rfl))<|⟨rfl,_,rfl,(Sub.refl _)⟩
     cases g14
     exact Goes.skip<|⟨rfl,_,rfl,(Sub.keep [0,1,5,6,7,8,21,22] rfl rfl)⟩
    rintro x s' ⟨rfl,w,rfl,hsub⟩;obtain⟨O,k,n,D,V,o,p,q,g11⟩:=bn4 g11;exact Goes.sub hsub<|gq fol [4,5,8,12,13] ((0,vl eU a)::(1,vl eU e)::(kE f (kAN n.2 (kAH (zl a) b [])))) [.cells (p.flatMap eU.c)] (qbj (iv je eU k) (lv 0 jo eU k rfl) (cv (qcY O w u D)) (hs (.done (.opt (qd ZT 72 (.slice 0 0 f.length f.length 1) (.i b))) (.ptr 0 ((b:Int).toNat*1+0))) (qad je o)) (hs (.run [0] (qx ZT 180 (.ptr 0 ((b:Int).toNat*1+0)) (.int .u64 n.1)) [.cells (f.flatMap eU.c)] .undef [.cells (p.flatMap eU.c)] true) (xS (E:=eU) (l:=f) (y:=n.1) rfl (show _=some 1 by kernel_rfl) rfl o rfl rfl rfl rfl rfl q rfl)))<|Goes.sub (show Sub _ (ofG 54 ((0,vl eU a)::(1,vl eU e)::(kE p (kAN n.2 (kAH (zl a) b [])))),[.cells (p.flatMap eU.c)])from(Uc [] [some 0] rfl rfl (.keep (.same (qc eU _)) (.keep (.same (qc eU _)) (.keep (.sliceE rfl (jv q)) (.keep (.same nI) (.keep (.same nI) (.keep (.same nI) .nil)))))) (.ks .nil)))<|gh fol ((0,vl eU a)::(1,vl eU e)::(kE p (kAN n.2 (kAH (zl a) (w64 (b+1)) []))))<|zo ⟨_,_,_,rfl,g11⟩
   cases g11
   exact Goes.exit<|⟨rfl,_,_,rfl,(Sub.keep [0,5,6] rfl rfl)⟩
 rintro x s' ⟨rfl,v,g,rfl,hsub⟩
 try dsimp only at h
 obtain⟨X,r,d,t,A,F,rfl⟩:=bs3 h;exact Goes.sub hsub<|sq<|gq fol [4,5] (kE v []) [.cells (d.flatMap eU.c)] (qA (hs (.done (.opt (qd ZT 72 (.slice 0 0 v.length v.length 1) (.i (zl a)))) (.ptr 0 (((zl a):Int).toNat*1+0))) (qad je r)) (hs (.run [0] (qx ZT 180 (.ptr 0 (((zl a):Int).toNat*1+0)) (.int .u64 g)) [.cells (v.flatMap eU.c)] .undef [.cells (d.flatMap eU.c)] true) (xS (E:=eU) (l:=v) (y:=g) rfl (show _=some 1 by kernel_rfl) rfl r rfl rfl rfl rfl rfl t rfl)))<|Goes.sub (show Sub _ (ofG 54 (kE d []),[.cells (d.flatMap eU.c)])from(Uc [] [some 0] rfl rfl (.keep (.sliceE rfl (jv t)) .nil) (.ks .nil)))<|sq<|gq fol [1] [(4,vl eU A)] [.frozen (d.flatMap eU.c)] (qh (hs (.callF 168 [.slice 0 0 d.length d.length 1] [.cells (d.flatMap eU.c)] [0] [vl eU d] (vl eU A)) (qa0 (FzL.cons (Fz.sl (E:=eU) rfl rfl (nl rfl)) FzL.nil) (qah N d F) (qw eU _ (nl rfl)))))<|Goes.sub (show Sub _ (ofG 54 [(4,vl eU A)],[])from(Uc [] [] rfl rfl (.keep (.same (qc eU _)) .nil) .nil))<|Goes.ret<|(gw2 [vl eU A] (Ua (qw eU _ (nl rfl))))
def zI (a:List Int) (b:List Int):Nat->Int->Option (Unit⊕Int)
 |0,_=>none
 |K+1,c=>
  if c>=0 then
  (idx a c).bind λd=>
  (idx b c).bind λe=>
  if(!decide (d=e))=true then
  if d<e then
  some (.inr (-1))
  else
  some (.inr 1)
  else
  zI a b K (w64 (c-1))
  else
  some (.inl ())
def vI (N:Nat) (a:List Int) (b:List Int):Option Int:=
 if(!decide ((a.length:Int)=(b.length:Int)))=true then
 if(a.length:Int)<(b.length:Int)then
 some (-1)
 else
 some 1
 else
 (zI a b N (w64 ((a.length:Int)-1))).bind (λ
 |(.inl ())=>
 some 0
 |(.inr c)=>
 some c)
theorem qcD (N:Nat) (a:List Int) (b:List Int) {res:Int} (h:vI N a b=some res):qf ZT (.fn 122) [vl eU a,vl eU b] [] (.i res) []:=by
 unfold vI at h;refine Ub Tryz.func122 rfl rfl (m:=41) rfl (rs:=[.tmp 4]) rfl (l:=[(0,vl eU a),(1,vl eU b)]) rfl<|sh fol [(0,vl eU a),(1,vl eU b)]<|sq<|sh fol ((0,vl eU a)::(1,vl eU b)::(kBI (!decide ((zl a)=(zl b)))))<|ihB h (λo h=>?_) (λo h=>?_)
 ·refine sq<|sh fol (kBP (decide ((zl a)<(zl b))))<|ihD h (λp h=>?_) (λp h=>?_)
  ·cases h
   exact sh fol kBg<|Goes.ret<|(gw2 [.i (-1)] (Ua tI))
  cases h
  exact Goes.skip<|sh fol [(4,.i 1)]<|Goes.ret<|(gw2 [.i 1] (Ua tI))
 obtain⟨f,g4,h⟩:=bnd h;refine Goes.skip<|sq<|sh fol ((0,vl eU a)::(1,vl eU b)::(kA8 (w64 ((zl a)-1))))<|Goes.block<|Goes.imp (Q:=λx s'=>(x= .exit 0/\(.inl ())=f/\Sub s' (ofG 41 [],[]))\/(x= .ret/\ ∃j,(.inr j)=f/\zm ZT [.tmp 4] (.i j) .ret s')) ?_ ?_
 ·refine Ud (λM s=> ∃(e:Int),s=(ofG 41 ((0,vl eU a)::(1,vl eU b)::(kA8 e)),[])/\zI a b M e=some f) ?_ (m:=N) ⟨_,rfl,g4⟩;rintro M s ⟨e,rfl,g4⟩
  cases M with
  |zero=>simp only[zI]at g4;cases g4
  |succ M=>
   rw[zI]at g4;refine sq<|sh fol ((0,vl eU a)::(1,vl eU b)::(5,.i e)::(kBe (decide (e>=0))))<|ihD g4 (λq g4=>?_) (λq g4=>?_)
   ·obtain⟨k,c,n,d,g4⟩:=bn2 g4;refine Goes.skip<|sq<|Goes.block<|sq<|gr fol [2,3,6,7] [(0,vl eU a),(1,vl eU b),(5,.i e),(31,.bool (!decide (k=n)))] (zM (iv je eU c) (lv 0 jo eU c rfl) (iv je eU d) (lv 0 jo eU d rfl))<|ihB g4 (λr g4=>?_) (λr g4=>?_)
    ·refine sq<|sq<|gr fol [2,3,6,7] [(40,.bool (decide (k<n)))] (zM (iv je eU c) (lv 0 jo eU c rfl) (iv je eU d) (lv 0 jo eU d rfl))<|ihD g4 (λg g4=>?_) (λg g4=>?_)
     ·cases g4
      exact sh fol kBg<|Goes.ret<|Or.inr (⟨rfl,_,rfl,(gw2 [.i (-1)] (Ua tI))⟩)
     cases g4
     exact Goes.skip<|sh fol [(4,.i 1)]<|Goes.ret<|Or.inr (⟨rfl,_,rfl,(gw2 [.i 1] (Ua tI))⟩)
    exact Goes.skip<|gh fol ((0,vl eU a)::(1,vl eU b)::(kA8 (w64 (e-1))))<|zo ⟨_,rfl,g4⟩
   cases g4
   exact Goes.exit<|Or.inl (⟨rfl,rfl,(Sub.keep [] rfl rfl)⟩)
 rintro x s' (⟨rfl,rfl,hsub⟩|⟨rfl,t,rfl,hret⟩)
 ·try dsimp only at h
  cases h
  exact Goes.sub hsub<|sh fol [(4,.i 0)]<|Goes.ret<|(gw2 [.i 0] (Ua tI))
 try dsimp only at h
 cases h
 exact hret
def jX (c:List Int) (y:List Int):Nat->(List Int)->Int->Int->Option (List Int)
 |0,_,_,_=>none
 |K+1,d,a,h=>
  if a<(c.length:Int)then
  ((if a<(y.length:Int)then
  (idx y a).bind λe=>
  some e
  else
  some 0:Option Int)).bind λi=>
  (idx c a).bind λf=>
  (qfa f i h).bind λb=>
  (idx d a).bind λj=>
  (put d a b.1).bind λg=>
  jX c y K g (w64 (a+1)) b.2
  else
  some d
def xH (N:Nat) (b:List Int) (y:List Int):Option (List Int):=
 (mk 8 (b.length:Int) 0).bind λc=>
 (jX b y N c 0 0).bind λd=>
 (qaa N d).bind λa=>
 some a
theorem qeA (N:Nat) (a:List Int) (y:List Int) {res:List Int} (h:xH N a y=some res):qf ZT (.fn 123) [vl eU a,vl eU y] [] (vl eU res) []:=by
 unfold xH at h;obtain⟨r,v,D,g6,h⟩:=bn2 h;refine Ub Tryz.func123 rfl rfl (m:=41) rfl (rs:=[.tmp 4]) rfl (l:=[(0,vl eU a),(1,vl eU y)]) rfl<|sh fol [(0,vl eU a),(1,vl eU y)]<|sq<|gq fol [2] ((0,vl eU a)::(1,vl eU y)::(kE r [])) [.cells (r.flatMap eU.c)] (qh (hs (.run [] (jd ZT 72 (.i (zl a)) (.i (zl a))) [] (.slice 0 0 r.length r.length 1) [.cells (r.flatMap eU.c)] false) (qdf je (E:=eU) (z:=0) rfl (by kernel_rfl) v rfl)))<|sh fol ((0,vl eU a)::(1,vl eU y)::(kE r [(6,.int .u64 0)]))<|sq<|sh fol ((0,vl eU a)::(1,vl eU y)::(kE r [(6,.int .u64 0),(13,.i (zl a)),(14,.i 0)]))<|Goes.block<|Goes.imp (Q:=λx s'=>(x= .exit 0/\ ∃o,o=D/\Sub s' (ofG 41 (kE o []),[.cells (o.flatMap eU.c)]))) ?_ ?_
 ·refine Ud (λM s=> ∃(d:List Int) (b:Int) (p:Int),s=(ofG 41 ((0,vl eU a)::(1,vl eU y)::(kE d (kAN p (kAS (zl a) b)))),[.cells (d.flatMap eU.c)])/\jX a y M d b p=some D) ?_ (m:=N) ⟨_,_,_,rfl,g6⟩;rintro M s ⟨d,b,p,rfl,g6⟩
  cases M with
  |zero=>simp only[jX]at g6;cases g6
  |succ M=>
   rw[jX]at g6;refine sh fol ((0,vl eU a)::(1,vl eU y)::(kE d (kAN p ((13,.i (zl a))::(14,.i b)::(kBP (decide (b<(zl a))))))))<|sq<|ihD g6 (λF g6=>?_) (λF g6=>?_)
   ·obtain⟨G,g9,g6⟩:=bnd g6;refine Goes.skip<|sq<|Goes.block<|sh fol ((0,vl eU a)::(1,vl eU y)::(kE d (kAN p ((7,.i b)::(kAS (zl a) b)))))<|sh fol ((0,vl eU a)::(1,vl eU y)::(kE d (kAN p ((7,.i b)::(kBZ (kAS (zl a) b))))))<|sq<|sh fol ((0,vl eU a)::(1,vl eU y)::(kE d (kAN p ((7,.i b)::(kBZ ((13,.i (zl a))::(14,.i b)::(kBe (decide (b<(zl y))))))))))<|Goes.imp (Q:=λx s'=>(x= .normal/\ ∃w,w=G/\Sub s' (ofG 41 ((0,vl eU a)::(1,vl eU y)::(kE d (kAN p ((7,.i b)::(8,.int .u64 w)::(kAS (zl a) b))))),[.cells (d.flatMap eU.c)]))) ?_ ?_
    ·refine ihD g9 (λA g9=>?_) (λA g9=>?_)
     ·obtain⟨B,e,rfl⟩:=bs1 g9;exact gr fol [2,3] ((0,vl eU a)::(1,vl eU y)::(kE d (kAN p ((7,.i b)::(8,.int .u64 B)::(kAS (zl a) b))))) (qA (iv je eU e) (lv 0 jo eU e rfl))<|⟨rfl,_,rfl,(Sub.refl _)⟩
     cases g9
     exact Goes.skip<|⟨rfl,_,rfl,(Sub.keep [0,1,5,6,7,8,13,14] rfl rfl)⟩
    rintro x s' ⟨rfl,w,rfl,hsub⟩;obtain⟨C,f,g,t,H,j,k,n,g6⟩:=bn4 g6;exact Goes.sub hsub<|gq fol [4,5,8,12,13] ((0,vl eU a)::(1,vl eU y)::(kE d (kAN g.2 (kAS (zl a) b)))) [.cells (k.flatMap eU.c)] (qbj (iv je eU f) (lv 0 jo eU f rfl) (cv (qiz C w p t)) (hs (.done (.opt (qd ZT 72 (.slice 0 0 d.length d.length 1) (.i b))) (.ptr 0 ((b:Int).toNat*1+0))) (qad je j)) (hs (.run [0] (qx ZT 180 (.ptr 0 ((b:Int).toNat*1+0)) (.int .u64 g.1)) [.cells (d.flatMap eU.c)] .undef [.cells (k.flatMap eU.c)] true) (xS (E:=eU) (l:=d) (y:=g.1) rfl (show _=some 1 by kernel_rfl) rfl j rfl rfl rfl rfl rfl n rfl)))<|Goes.sub (show Sub _ (ofG 41 ((0,vl eU a)::(1,vl eU y)::(kE k (kAN g.2 (kAS (zl a) b)))),[.cells (k.flatMap eU.c)])from(Uc [] [some 0] rfl rfl (.keep (.same (qc eU _)) (.keep (.same (qc eU _)) (.keep (.sliceE rfl (jv n)) (.keep (.same nI) (.keep (.same nI) (.keep (.same nI) .nil)))))) (.ks .nil)))<|gh fol ((0,vl eU a)::(1,vl eU y)::(kE k (kAN g.2 (kAS (zl a) (w64 (b+1))))))<|zo ⟨_,_,_,rfl,g6⟩
   cases g6
   exact Goes.exit<|⟨rfl,_,rfl,(Sub.keep [5] rfl rfl)⟩
 rintro x s' ⟨rfl,o,rfl,hsub⟩;obtain⟨q,u,rfl⟩:=bs1 h;exact Goes.sub hsub<|sq<|gq fol [1] [(4,vl eU q)] [.frozen (o.flatMap eU.c)] (qh (hs (.callF 168 [.slice 0 0 o.length o.length 1] [.cells (o.flatMap eU.c)] [0] [vl eU o] (vl eU q)) (qa0 (FzL.cons (Fz.sl (E:=eU) rfl rfl (nl rfl)) FzL.nil) (qah N o u) (qw eU _ (nl rfl)))))<|Goes.sub (show Sub _ (ofG 41 [(4,vl eU q)],[])from(Uc [] [] rfl rfl (.keep (.same (qc eU _)) .nil) .nil))<|Goes.ret<|(gw2 [vl eU q] (Ua (qw eU _ (nl rfl))))
def yC (N:Nat) (a:qm) (b:qm):Option qm:=
 (if a.w.isEmpty=true then
 some b.w.isEmpty
 else
 some false:Option Bool).bind λm=>
 ((if m=true then
 if((decide ((w64 (a.s+b.s))>a.s))==(decide (b.s>0)))=true then
 some (.inr (⟨w64 (a.s+b.s),[]⟩:qm))
 else
 some (.inl ())
 else
 some (.inl ()):Option (Unit⊕qm))).bind (λ
 |(.inl ())=>
 (qL a).bind λc=>
 (qL b).bind λd=>
 if(c.1==d.1)=true then
 (qbe N c.2 d.2).bind λe=>
 (yo c.1 e).bind λf=>
 some f
 else
 (vI N c.2 d.2).bind λg=>
 if g>=0 then
 (xH N c.2 d.2).bind λh=>
 (yo c.1 h).bind λi=>
 some i
 else
 (xH N d.2 c.2).bind λj=>
 (yo d.1 j).bind λk=>
 some k
 |(.inr l)=>
 some l)
theorem qaU (N:Nat) (a:qm) (b:qm) {res:qm} (h:yC N a b=some res):qf ZT (.fn 69) [.agg (nz1 a),.agg (nz1 b)] [] (.agg (nz1 res)) []:=by
 unfold yC at h;obtain⟨J,c,h⟩:=bnd h;refine Ub Tryz.func69 rfl rfl (m:=67) rfl (rs:=[.cell 4 74]) rfl (l:=[(0,.agg (nz1 a)),(1,.agg (nz1 b))]) rfl<|sg fol (kG []) [.cells (nz1 a),.cells (nz1 b),bZ]<|sq<|sq<|Goes.cut (s':=(ofG 67 (kG [(17,.bool J)]),[.cells (nz1 a),.cells (nz1 b),bZ])) ?_ ?_
 ·rcases wyB c with⟨z,c⟩|⟨z,c⟩
  ·cases c
   exact tr fol [2,3,6] (kG [(17,.bool b.w.isEmpty)]) (qI (hs (.done (.opt (zt ZT .eql 72 (.tmp 11) (.const (.slice none 0 0)) (nvl eU a.w) .nilslice)) (.bool a.w.isEmpty)) (qbp qbh)) (gw z) (hs (.done (.opt (zt ZT .eql 72 (.tmp 15) (.const (.slice none 0 0)) (nvl eU b.w) .nilslice)) (.bool b.w.isEmpty)) (qbp qbh)))
  cases c
  exact tr fol [2,3] (kG [(17,.bool false)]) (qA (hs (.done (.opt (zt ZT .eql 72 (.tmp 11) (.const (.slice none 0 0)) (nvl eU a.w) .nilslice)) (.bool a.w.isEmpty)) (qbp qbh)) (gw z))
 obtain⟨H,g4,h⟩:=bnd h;refine Goes.imp (Q:=λx s'=>(x= .normal/\(.inl ())=H/\Sub s' (ofG 67 (kG []),[.cells (nz1 a),.cells (nz1 b),bZ]))\/(x= .ret/\ ∃I,(.inr I)=H/\zm ZT [.cell 4 74] (.agg (nz1 I)) .ret s')) ?_ ?_
 ·refine ihB g4 (λK g4=>?_) (λK g4=>?_)
  ·refine sh fol (kG (kA8 (w64 (a.s+b.s))))<|sh fol (kG [(5,.i (w64 (a.s+b.s))),(30,.bool ((decide ((w64 (a.s+b.s))>a.s))==(decide (b.s>0))))])<|ihB g4 (λL g4=>?_) (λL g4=>?_)
   ·cases g4
    exact sg fol kAl (.cells (nz1 a):: .cells (nz1 b)::(kA7 (w64 (a.s+b.s))))<|Goes.ret<|Or.inr (⟨rfl,_,rfl,(gw2 [.agg [.i (w64 (a.s+b.s)),.nilslice]] (FzW.agg (qj.cons (Ua tI) (qj.cons (Ur (E:=eU)) qj.nil))))⟩)
   cases g4
   exact Goes.skip<|Or.inl (⟨rfl,rfl,(Sub.keep [2,3,4] rfl rfl)⟩)
  cases g4
  exact Goes.skip<|Or.inl (⟨rfl,rfl,(Sub.keep [2,3,4] rfl rfl)⟩)
 rintro x s' (⟨rfl,rfl,hsub⟩|⟨rfl,M,rfl,hret⟩)
 ·try dsimp only at h
  obtain⟨d,v,e,y,h⟩:=bn2 h;refine Goes.sub hsub<|sq<|gr fol [1] [(3,.ptr 1 0),(4,.ptr 2 0),(6,.bool d.1),(7,vl eU d.2)] (qh (cv (jc a v)))<|sq<|gr fol [1] [(4,.ptr 2 0),(6,.bool d.1),(7,vl eU d.2),(8,.bool e.1),(9,vl eU e.2)] (qh (cv (jc b y)))<|sq<|Goes.block<|sh fol [(4,.ptr 2 0),(6,.bool d.1),(7,vl eU d.2),(8,.bool e.1),(9,vl eU e.2),(43,.bool (d.1==e.1))]<|ihB h (λA h=>?_) (λA h=>?_)
  ·obtain⟨B,k,f,o,rfl⟩:=bs2 h;exact sq<|gq fol [3,4,5] kAl [.cells (nz1 a),.cells (nz1 b),.cells (nz1 f)] (qI (cv (qhu N d.2 e.2 k)) (cv (qa1 d.1 B o)) (hs (.run [2] (qx ZT 74 (.ptr 2 0) (.agg (nz1 f))) [.cells (nz1 a),.cells (nz1 b),bZ] .undef [.cells (nz1 a),.cells (nz1 b),.cells (nz1 f)] true) (zq (n:=2) (by kernel_rfl) rfl rfl rfl rfl (cac rfl (cac nvc can)) rfl)))<|Goes.ret<|(gw2 [.agg (nz1 f)] (FzW.agg (qj.cons (Ua tI) (qj.cons (Ua (qp eU _ (nl rfl))) qj.nil))))
  obtain⟨C,p,h⟩:=bnd h;refine sq<|gr fol [2] [(4,.ptr 2 0),(6,.bool d.1),(7,vl eU d.2),(8,.bool e.1),(9,vl eU e.2),(52,.bool (decide (C>=0)))] (qh (cv (qcD N d.2 e.2 p)))<|ihD h (λD h=>?_) (λD h=>?_)
  ·obtain⟨F,q,g,r,rfl⟩:=bs2 h;exact sq<|gq fol [3,4,5] kAl [.cells (nz1 a),.cells (nz1 b),.cells (nz1 g)] (qI (cv (qeA N d.2 e.2 q)) (cv (qa1 d.1 F r)) (hs (.run [2] (qx ZT 74 (.ptr 2 0) (.agg (nz1 g))) [.cells (nz1 a),.cells (nz1 b),bZ] .undef [.cells (nz1 a),.cells (nz1 b),.cells (nz1 g)] true) (zq (n:=2) (by kernel_rfl) rfl rfl rfl rfl (cac rfl (cac nvc can)) rfl)))<|Goes.ret<|(gw2 [.agg (nz1 g)] (FzW.agg (qj.cons (Ua tI) (qj.cons (Ua (qp eU _ (nl rfl))) qj.nil))))
  obtain⟨G,t,j,u,rfl⟩:=bs2 h;exact Goes.skip<|sq<|gq fol [3,4,5] kAl [.cells (nz1 a),.cells (nz1 b),.cells (nz1 j)] (qI (cv (qeA N e.2 d.2 t)) (cv (qa1 e.1 G u)) (hs (.run [2] (qx ZT 74 (.ptr 2 0) (.agg (nz1 j))) [.cells (nz1 a),.cells (nz1 b),bZ] .undef [.cells (nz1 a),.cells (nz1 b),.cells (nz1 j)] true) (zq (n:=2) (by kernel_rfl) rfl rfl rfl rfl (cac rfl (cac nvc can)) rfl)))<|Goes.ret<|(gw2 [.agg (nz1 j)] (FzW.agg (qj.cons (Ua tI) (qj.cons (Ua (qp eU _ (nl rfl))) qj.nil))))
 try dsimp only at h
 cases h
 exact hret
def bits_Mul64 (a:Int) (y:Int):Option (Int×Int):=
 some (wrap .u64 ((wrap .u64 ((wrap .u64 ((qz .u64 a 32)*(qz .u64 y 32)))+(qz .u64 (wrap .u64 ((wrap .u64 ((qz .u64 a 32)*(qB .u64 y 4294967295)))+(qz .u64 (wrap .u64 ((qB .u64 a 4294967295)*(qB .u64 y 4294967295))) 32))) 32)))+(qz .u64 (wrap .u64 ((qB .u64 (wrap .u64 ((wrap .u64 ((qz .u64 a 32)*(qB .u64 y 4294967295)))+(qz .u64 (wrap .u64 ((qB .u64 a 4294967295)*(qB .u64 y 4294967295))) 32))) 4294967295)+(wrap .u64 ((qB .u64 a 4294967295)*(qz .u64 y 32))))) 32)),wrap .u64 (a*y))
theorem qbs (a:Int) (y:Int) {res:Int×Int} (h:bits_Mul64 a y=some res):qf ZT (.fn 141) (kA3 a y) [] (.tuple (kA3 res.1 res.2)) []:=by
 unfold bits_Mul64 at h;cases h
 exact Ub Tryz.func141 rfl rfl (m:=51) rfl (rs:=[.tmp 4,.tmp 5]) rfl (l:=(kV a y [])) rfl<|sh fol (kV a y [])<|sh fol (kV a y (kAN (qB .u64 a 4294967295) []))<|sh fol (kV a y (kAN (qB .u64 a 4294967295) (kAf (qz .u64 a 32) [])))<|sh fol (kV a y (kAN (qB .u64 a 4294967295) (kAD (qz .u64 a 32) (qB .u64 y 4294967295) [])))<|sh fol (kV a y (kAN (qB .u64 a 4294967295) (kAD (qz .u64 a 32) (qB .u64 y 4294967295) [(9,.int .u64 (qz .u64 y 32))])))<|sh fol (kV a y (kAN (qB .u64 a 4294967295) (kAD (qz .u64 a 32) (qB .u64 y 4294967295) [(9,.int .u64 (qz .u64 y 32)),(10,.int .u64 (wrap .u64 ((qB .u64 a 4294967295)*(qB .u64 y 4294967295))))])))<|sh fol (kV a y (kAN (qB .u64 a 4294967295) (kAf (qz .u64 a 32) [(9,.int .u64 (qz .u64 y 32)),(11,.int .u64 (wrap .u64 ((wrap .u64 ((qz .u64 a 32)*(qB .u64 y 4294967295)))+(qz .u64 (wrap .u64 ((qB .u64 a 4294967295)*(qB .u64 y 4294967295))) 32))))])))<|sh fol (kV a y (kAN (qB .u64 a 4294967295) (kAf (qz .u64 a 32) ((9,.int .u64 (qz .u64 y 32))::(kAA (wrap .u64 ((wrap .u64 ((qz .u64 a 32)*(qB .u64 y 4294967295)))+(qz .u64 (wrap .u64 ((qB .u64 a 4294967295)*(qB .u64 y 4294967295))) 32))) (qB .u64 (wrap .u64 ((wrap .u64 ((qz .u64 a 32)*(qB .u64 y 4294967295)))+(qz .u64 (wrap .u64 ((qB .u64 a 4294967295)*(qB .u64 y 4294967295))) 32))) 4294967295) [])))))<|sh fol (kV a y (kAN (qB .u64 a 4294967295) (kAf (qz .u64 a 32) [(9,.int .u64 (qz .u64 y 32)),(12,.int .u64 (qB .u64 (wrap .u64 ((wrap .u64 ((qz .u64 a 32)*(qB .u64 y 4294967295)))+(qz .u64 (wrap .u64 ((qB .u64 a 4294967295)*(qB .u64 y 4294967295))) 32))) 4294967295)),(13,.int .u64 (qz .u64 (wrap .u64 ((wrap .u64 ((qz .u64 a 32)*(qB .u64 y 4294967295)))+(qz .u64 (wrap .u64 ((qB .u64 a 4294967295)*(qB .u64 y 4294967295))) 32))) 32))])))<|sh fol (kV a y (kAf (qz .u64 a 32) [(9,.int .u64 (qz .u64 y 32)),(12,.int .u64 (wrap .u64 ((qB .u64 (wrap .u64 ((wrap .u64 ((qz .u64 a 32)*(qB .u64 y 4294967295)))+(qz .u64 (wrap .u64 ((qB .u64 a 4294967295)*(qB .u64 y 4294967295))) 32))) 4294967295)+(wrap .u64 ((qB .u64 a 4294967295)*(qz .u64 y 32)))))),(13,.int .u64 (qz .u64 (wrap .u64 ((wrap .u64 ((qz .u64 a 32)*(qB .u64 y 4294967295)))+(qz .u64 (wrap .u64 ((qB .u64 a 4294967295)*(qB .u64 y 4294967295))) 32))) 32))]))<|sh fol (kV a y [(4,.int .u64 (wrap .u64 ((wrap .u64 ((wrap .u64 ((qz .u64 a 32)*(qz .u64 y 32)))+(qz .u64 (wrap .u64 ((wrap .u64 ((qz .u64 a 32)*(qB .u64 y 4294967295)))+(qz .u64 (wrap .u64 ((qB .u64 a 4294967295)*(qB .u64 y 4294967295))) 32))) 32)))+(qz .u64 (wrap .u64 ((qB .u64 (wrap .u64 ((wrap .u64 ((qz .u64 a 32)*(qB .u64 y 4294967295)))+(qz .u64 (wrap .u64 ((qB .u64 a 4294967295)*(qB .u64 y 4294967295))) 32))) 4294967295)+(wrap .u64 ((qB .u64 a 4294967295)*(qz .u64 y 32))))) 32))))])<|sh fol [(4,.int .u64 (wrap .u64 ((wrap .u64 ((wrap .u64 ((qz .u64 a 32)*(qz .u64 y 32)))+(qz .u64 (wrap .u64 ((wrap .u64 ((qz .u64 a 32)*(qB .u64 y 4294967295)))+(qz .u64 (wrap .u64 ((qB .u64 a 4294967295)*(qB .u64 y 4294967295))) 32))) 32)))+(qz .u64 (wrap .u64 ((qB .u64 (wrap .u64 ((wrap .u64 ((qz .u64 a 32)*(qB .u64 y 4294967295)))+(qz .u64 (wrap .u64 ((qB .u64 a 4294967295)*(qB .u64 y 4294967295))) 32))) 4294967295)+(wrap .u64 ((qB .u64 a 4294967295)*(qz .u64 y 32))))) 32)))),(5,.int .u64 (wrap .u64 (a*y)))]<|Goes.ret<|(gw2 (kA3 (wrap .u64 ((wrap .u64 ((wrap .u64 ((qz .u64 a 32)*(qz .u64 y 32)))+(qz .u64 (wrap .u64 ((wrap .u64 ((qz .u64 a 32)*(qB .u64 y 4294967295)))+(qz .u64 (wrap .u64 ((qB .u64 a 4294967295)*(qB .u64 y 4294967295))) 32))) 32)))+(qz .u64 (wrap .u64 ((qB .u64 (wrap .u64 ((wrap .u64 ((qz .u64 a 32)*(qB .u64 y 4294967295)))+(qz .u64 (wrap .u64 ((qB .u64 a 4294967295)*(qB .u64 y 4294967295))) 32))) 4294967295)+(wrap .u64 ((qB .u64 a 4294967295)*(qz .u64 y 32))))) 32))) (wrap .u64 (a*y))) (FzW.tuple (qj.cons (Ua tI) (qj.cons (Ua tI) qj.nil))))
end Go.Av
