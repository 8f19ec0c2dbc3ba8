/-
  Walks of functions: what each computes, as a plain function.
-/
import Derived.Test.YtphbhegcojmijaaGreatDoorAvJnC
import Derived.Test.YtphbhegcojmijaaGreatDoorAvDv
import Derived.Test.YtphbhegcojmijaaGreatDoorAvMx
noncomputable section
namespace Go.Av
open Go.Proofs Go.RowKit
set_option linter.unusedSectionVars false
set_option linter.unusedVariables false
set_option linter.unusedSimpArgs false
set_option maxRecDepth 100000
theorem fol:Tryz.prog.follows .mixedOrders=true:=by kernel_rfl
structure qb where
 Number:Int
 Kind:Str
 Names:List Str
 Values:List Int
 Text:Str
def qa:Enc qb:=(encI.prod (encS.prod ((vF encS).prod ((vF encI).prod encS)))).comap fun x=>(x.Number,x.Kind,x.Names,x.Values,x.Text)
instance:SE qa:=⟨nl rfl⟩
structure qc where
 Name:Str
 Batch:Str
 Born:Int
 Last:Int
 Uses:Int
 Used:Int
 Limit:Int
 Until:Int
 Gone:Bool
def qd:Enc qc:=(encS.prod (encS.prod (encI.prod (encI.prod (encI.prod (encI.prod (encI.prod (encI.prod qm1)))))))).comap fun x=>(x.Name,x.Batch,x.Born,x.Last,x.Uses,x.Used,x.Limit,x.Until,x.Gone)
instance:SE qd:=⟨nl rfl⟩
abbrev cS (x:qc):List AV:=[.str x.Name,.str x.Batch,.i x.Born,.i x.Last,.i x.Uses,.i x.Used,.i x.Limit,.i x.Until,.bool x.Gone]
abbrev cE (x:qb):List AV:=[.i x.Number,.str x.Kind,vl encS x.Names,vl encI x.Values,.str x.Text]
abbrev bS (l:List qc):Blk:= .cells (l.flatMap qd.c)
abbrev cF (a:Int) (b:Str) (c:List Str) (d:List Int) (e:Str):List AV:=[.i a,.str b,vl encS c,vl encI d,.str e]
abbrev cT (a b:Str) (c d e f g h:Int) (i:Bool):List AV:=[.str a,.str b,.i c,.i d,.i e,.i f,.i g,.i h,.bool i]
structure qJ where
 Day:Int
 Slings:List qc
def qeR:Enc qJ:=(encI.prod (vF qd)).comap fun x=>(x.Day,x.Slings)
instance:SE qeR:=⟨nl rfl⟩
structure qp where
 Day:Int
 Slings:List qc
def qg9:Enc qp:=(encI.prod (vF qd)).comap fun x=>(x.Day,x.Slings)
instance:SE qg9:=⟨nl rfl⟩
structure qap where
 neg:Bool
 w:List Int
def qiS:Enc qap:=(qm1.prod (vF encI)).comap fun x=>(x.neg,x.w)
instance:SE qiS:=⟨nl rfl⟩
structure StateT where
 number:Int
 register:qJ
def ja:Enc StateT:=(encI.prod qeR).comap fun x=>(x.number,x.register)
instance:SE ja:=⟨nl rfl⟩
abbrev kA {α1:Type} (a:Int) (b:List α1) (x:List Blk):List Blk:= .cells [.i a,.slice 0 0 b.length b.length 9]::x
abbrev kB (x:List (Nat×AV)):List (Nat×AV):=(2,.ptr 1 0)::(3,.ptr 2 0)::(4,.ptr 3 0)::x
abbrev kC (a:Int) (b:List qc) (x:List Blk):List Blk:= .cells [.i a,vl qd b]::x
abbrev kD (a:List qb) (b:Option (List StateT)) (x:List Blk):List Blk:= .cells (a.flatMap qa.c):: .cells ((hof b).flatMap ja.c)::x
abbrev kE {α1:Type} (a:Int) (b:List α1) (c:Int) (x:List (Nat×AV)):List (Nat×AV):=(2,.ptr 0 0)::(3,.ptr 1 0)::(4,.ptr 2 0)::(5,.i a)::(6,.oslice 3 b.length 9)::(9,.i c)::x
abbrev kF (a:Int) (b:Int) (x:List Blk):List Blk:= .cells [.nilslice]:: .cells [.i a]:: .cells [.i b]::x
abbrev kG (a:Option (List qb)) (b:Int) (c:Str):List Blk:=[.cells [hsl 7 5 a],.cells [.i b],.cells [.str c],.cells ((hof a).flatMap qa.c)]
abbrev kH (a:List qb) (x:List (Nat×AV)):List (Nat×AV):=(0,vl qa a)::x
abbrev kI (x:List (Nat×AV)):List (Nat×AV):=(2,.ptr 0 0)::(3,.ptr 1 0)::x
abbrev kJ (x:List Blk):List Blk:= .cells [.i 0,.str [],.nilslice,.nilslice,.str []]::x
abbrev kK (a:List qb) (x:List Blk):List Blk:= .cells (a.flatMap qa.c)::x
abbrev kL (a:Int) (b:Str) (c:List Str) (d:List Int) (e:Str) (f:Int) (g:Int) (x:List Blk):List Blk:= .cells (cF a b c d e)::bZ:: .cells [.i f,.i g]::x
abbrev kM (a:List Str):List Blk:=[.cells (a.flatMap encS.c)]
abbrev kN (a:Int) (b:Str) (c:List Str) (d:List Int) (e:Str) (x:List Blk):List Blk:= .cells [.i a,.str b,vl encS c,vl encI d,.str e]:: .cells [.i a,.str b,vl encS c,vl encI d,.str e]::x
abbrev kO {α1:Type} (a:Int) (b:List α1) (x:List AV):List AV:= .agg [.i a,.slice 0 0 b.length b.length 9]::x
abbrev kP {α4:Type} (a:Str) (b:Str) (c:Int) (d:Int) (e:List α4) (x:List (Nat×AV)):List (Nat×AV):=(0,.str a)::(1,.str b)::(2,.i c)::(3,.i d)::(9,.slice 0 0 e.length e.length 1)::x
abbrev kQ {α0:Type} {α1:Type} (a:List α0) (b:Option (List α1)) (x:List Blk):List Blk:= .cells [.gslice 1 a.length 5,hsl 2 3 b]::x
abbrev kR (x:List (Nat×AV)):List (Nat×AV):=(2,.ptr 0 0)::x
abbrev kS (a:qb) (b:List qc):List Blk:=[.cells (cE a),bZ,bS b]
abbrev kT (a:Str) (b:Str) (x:List (Nat×AV)):List (Nat×AV):=(0,.str a)::(1,.str b)::x
abbrev kU {α0:Type} (a:List α0) (b:Int) (x:List (Nat×AV)):List (Nat×AV):=(0,.slice 0 0 a.length a.length 9)::(1,.i b)::x
abbrev kV (x:List (Nat×AV)):List (Nat×AV):=(1,.ptr 0 0)::x
abbrev kW (x:List Blk):List Blk:= .cells [.nilslice]:: .cells [.i 0]::x
abbrev kX (a:List qb) (b:Int) (x:List (Nat×AV)):List (Nat×AV):=(5,vl qa a)::(6,.i b)::x
abbrev kY (a:Str) (b:Str) (c:Int) (d:Int) (e:Int) (x:List Blk):List Blk:= .cells [.str a,.str b,.i c,.i d,.i e,.i 0,.i 0,.i 0,.bool false]::x
abbrev kZ (a:Option (List qb)) (b:Int) (x:List Blk):List Blk:= .cells [hsl 5 5 a]:: .cells ((hof a).flatMap qa.c):: .cells [.i b]::x
abbrev kAA (a:Int) (b:Str) (c:Str) (d:Int) (x:List (Nat×AV)):List (Nat×AV):=(2,.i a)::(10,.str b)::(15,.str c)::(16,.i d)::x
abbrev kAB (a:Int) (x:List (Nat×AV)):List (Nat×AV):=(5,.ptr 4 0)::(6,.ptr 6 0)::(7,.i a)::x
abbrev kAC (a:Int) (x:List Blk):List Blk:= .cells [.i a]::x
abbrev kAD {α0:Type} {α1:Type} (a:List α0) (b:Option (List α1)) (x:List Blk):List Blk:= .cells [.gslice 2 a.length 5,hsl 3 3 b]::x
abbrev kAE (a:qb):List Blk:=[.cells (cE a)]
abbrev kAF (x:List (Nat×AV)):List (Nat×AV):=(2,.ptr 1 0)::(4,.ptr 3 0)::x
abbrev kAG (x:List (Nat×AV)):List (Nat×AV):=(0,.ptr 0 0)::(3,.ptr 3 0)::x
abbrev kAH (a:Int) (b:Str) (c:Str) (d:List qb) (e:Int) (x:List (Nat×AV)):List (Nat×AV):=(2,.i a)::(10,.str b)::(11,.str c)::(12,vl qa d)::(13,.i e)::x
abbrev kAI (a:Int) (b:Int):List (Nat×AV):=[(11,.i a),(12,.i b)]
abbrev kAJ (a:Int) (b:Str) (c:List Str) (d:List Int) (e:Str):List Blk:=[.cells (cF a b c d e),bZ]
abbrev kAK {α0:Type} {α1:Type} (a:List α0) (b:List α1) (x:List Blk):List Blk:= .cells [.gslice 1 a.length 5,.oslice 2 b.length 3]::x
abbrev kAL (x:List (Nat×AV)):List (Nat×AV):=(5,.ptr 4 0)::(6,.ptr 5 0)::x
abbrev kAM (a:List Int):List Blk:=[.cells (a.flatMap encI.c)]
abbrev kAN {α0:Type} (a:List α0) (x:List (Nat×AV)):List (Nat×AV):=(4,.ptr 1 0)::(6,.oslice 2 a.length 9)::(7,.ptr 3 0)::x
abbrev kAO (a:Int) (b:List qc) (x:List AV):List AV:= .agg [.i a,vl qd b]::x
abbrev kAP (a:List StateT) (x:List Blk):List Blk:= .cells (a.flatMap ja.c)::x
abbrev kAQ (a:Str) (b:Int) (x:List (Nat×AV)):List (Nat×AV):=(0,.str a)::(3,.i b)::x
abbrev kAR {α1:Type} (a:Int) (b:List α1) (x:List AV):List AV:= .agg [.i a,.slice 4 0 b.length b.length 9]::x
abbrev kAS {α0:Type} (a:List α0):List (Nat×AV):=[(9,.oslice 2 a.length 9)]
abbrev kAT (a:Int) (x:List (Nat×AV)):List (Nat×AV):=(8,.ptr 0 ((a:Int).toNat*9+0))::x
abbrev kAU (a:Int) (x:List (Nat×AV)):List (Nat×AV):=(26,.ptr 0 0)::(28,.i a)::x
abbrev kAV (x:List Blk):List Blk:= .cells [.nilslice]::x
abbrev kAW (a:Int) (b:Str) (c:List Str) (d:List Int) (e:Str) (x:List Blk):List Blk:= .cells (cF a b c d e):: .cells (cF a b c d e)::x
abbrev kAX {α2:Type} (a:Str) (b:List Str) (c:List α2) (x:List Blk):List Blk:= .cells [.i 0,.str a,vl encS b,.gslice 2 c.length 1,.str []]::x
abbrev kAY {α0:Type} (a:List α0) (x:List Blk):List Blk:= .cells [.oslice 5 a.length 5]::x
abbrev kAZ (x:List (Nat×AV)):List (Nat×AV):=(4,.ptr 2 0)::x
abbrev kAa (a:Str) (b:Str) (c:Int) (d:Int) (e:Int) (x:List Blk):List Blk:= .cells (cT a b c d e 0 0 0 false)::x
abbrev kAb (x:List Blk):List Blk:= .cells [.bool false,.nilslice]::x
abbrev kAc (a:Int) (x:List (Nat×AV)):List (Nat×AV):=(1,.ptr 6 0)::(3,.i a)::x
abbrev kAd (a:Int) (x:List Blk):List Blk:= .cells [.i a,.str [117,110,100,111],.nilslice,.nilslice,.str []]::x
abbrev kAe {α0:Type} (a:List α0) (x:List (Nat×AV)):List (Nat×AV):=(6,.slice 0 0 a.length a.length 1)::x
abbrev kAf:List (Nat×AV):=[(4,.bool false)]
abbrev kAg (a:List Str) (x:List (Nat×AV)):List (Nat×AV):=(4,vl encS a)::(5,.ptr 1 0)::x
abbrev kAh {α0:Type} (a:List α0) (x:List (Nat×AV)):List (Nat×AV):=(7,.gslice 0 a.length 1)::x
abbrev kAi:List (Nat×AV):=[(4,.bool true)]
abbrev kAj (a:Option (List qb)) (x:List Blk):List Blk:= .cells ((hof a).flatMap qa.c)::x
abbrev kAk (a:Str) (b:Int) (x:List (Nat×AV)):List (Nat×AV):=(0,.str a)::(1,.i b)::x
abbrev kAl (a:List qc) (b:Str) (c:Str) (d:Int) (e:Int) (f:Int) (g:Int) (h:Int) (i:Int) (j:Bool) (k:List qc):List Blk:=[bS a,.cells (cT b c d e f g h i j),bS k]
abbrev kAm (a:Int) (b:List qc):List AV:=[.i a,vl qd b]
abbrev kAn (a:Int):List (Nat×AV):=[(5,.i a)]
abbrev kAo (a:Str) (x:List (Nat×AV)):List (Nat×AV):=(0,.str a)::(6,.ptr 0 0)::x
abbrev kAp (a:Str) (x:List Blk):List Blk:= .cells [.str a]::x
abbrev kAq (a:Int):List (Nat×AV):=[(4,.i a)]
abbrev kAr {α0:Type} (a:List α0) (b:Bool) (x:List (Nat×AV)):List (Nat×AV):=(3,.gslice 1 a.length 1)::(4,.bool b)::x
abbrev kAs {α1:Type} (a:Int) (b:List α1) (x:List (Nat×AV)):List (Nat×AV):=(0,.agg [.i a,.slice 0 0 b.length b.length 9])::x
abbrev kAt:List AV:=[.str [109,97,107,101],.str [116,101,115,116],.str [117,115,101],.str [102,97,105,108],.str [114,101,99,97,108,108],.str [117,110,100,111]]
abbrev kAu:List (Nat×AV):=[(6,.bool false)]
abbrev kAv (a:Int) (b:Int) (x:List (Nat×AV)):List (Nat×AV):=(6,.i a)::(7,.i b)::x
abbrev kAw (x:List (Nat×AV)):List (Nat×AV):=(4,.ptr 0 0)::x
abbrev kAx (a:List qb) (b:Int) (c:Int) (x:List (Nat×AV)):List (Nat×AV):=(202,vl qa a)::(203,.i b)::(204,.i c)::x
abbrev kAy {α1:Type} (a:Int) (b:List α1) (x:List Blk):List Blk:= .cells [.i a,.slice 4 0 b.length b.length 9]::x
abbrev kAz (a:List qb) (b:Int) (x:List (Nat×AV)):List (Nat×AV):=(5,.ptr 0 0)::(14,vl qa a)::(15,.i b)::x
abbrev kA0 (a:qb) (x:List Blk):List Blk:= .cells (cE a)::x
abbrev kA1 (a:Option (List Str)):List Blk:=[.cells ((hof a).flatMap encS.c)]
abbrev kA2 (a:Int) (x:List (Nat×AV)):List (Nat×AV):=(3,.ptr 1 0)::(5,.i a)::(10,.ptr 2 0)::x
abbrev kA3:List AV:=[.bool true]
abbrev kA4 (a:List Str) (b:Int) (c:Int) (x:List (Nat×AV)):List (Nat×AV):=(54,vl encS a)::(55,.i b)::(56,.i c)::x
abbrev kA5 (x:List AV):List AV:= .agg [.i 0,.str [],.nilslice,.nilslice,.str []]::x
abbrev kA6 (a:Int) (b:Int):List (Nat×AV):=[(7,.i a),(8,.i b)]
abbrev kA7 (a:List Str) (b:Str) (x:List (Nat×AV)):List (Nat×AV):=(0,vl encS a)::(1,.str b)::x
abbrev kA8 {α1:Type} (a:Int) (b:List α1):List AV:=[.i a,.slice 4 0 b.length b.length 9]
abbrev kA9 {α0:Type} (a:List α0):List (Nat×AV):=[(2,.ptr 1 0),(3,.slice 2 0 a.length a.length 9)]
abbrev kBA (x:List (Nat×AV)):List (Nat×AV):=(2,.slice 1 0 1 1 9)::(7,.i 1)::x
abbrev kBB (a:Int) (b:Bool) (x:List (Nat×AV)):List (Nat×AV):=(7,.i a)::(8,.bool b)::x
abbrev kBC (a:List Str) (b:List Str) (x:List (Nat×AV)):List (Nat×AV):=(0,vl encS a)::(1,vl encS b)::x
abbrev kBD (a:List Int) (b:List Int) (x:List (Nat×AV)):List (Nat×AV):=(0,vl encI a)::(1,vl encI b)::x
abbrev kBE {α0:Type} (a:Option (List α0)) (x:List Blk):List Blk:= .cells [hsl 7 5 a]::x
abbrev kBF (a:Str):List (Nat×AV):=[(0,.str a)]
abbrev kBG (a:List qb) (x:List (Nat×AV)):List (Nat×AV):=(1,vl qa a)::x
abbrev kBH (a:Int) (b:Str) (c:List Str) (d:List Int) (e:Str) (x:List Blk):List Blk:= .cells (cF a b c d e)::x
abbrev kBI (a:Bool):List (Nat×AV):=[(10,.bool a)]
abbrev kBJ (a:qc):List Blk:=[.cells (cS a)]
abbrev kBK (a:List Str) (b:Int) (c:Int) (x:List (Nat×AV)):List (Nat×AV):=(46,vl encS a)::(47,.i b)::(48,.i c)::x
abbrev kBL (a:List Int) (b:Int) (c:Int) (x:List (Nat×AV)):List (Nat×AV):=(59,vl encI a)::(60,.i b)::(61,.i c)::x
abbrev kBM (a:Bool):List (Nat×AV):=[(4,.bool a)]
abbrev kBN (a:Int) (b:Int):List (Nat×AV):=[(10,.i a),(11,.i b)]
abbrev kBO (a:Int) (x:List (Nat×AV)):List (Nat×AV):=(11,.ptr 7 0)::(12,.i a)::x
abbrev kBP (a:Int) (b:Bool) (c:Bool) (d:Int) (x:List (Nat×AV)):List (Nat×AV):=(5,.i a)::(7,.bool b)::(8,.bool c)::(9,.i d)::x
abbrev kBQ (x:List AV):List AV:= .agg [.i 0,.i 0,.nilfunc]::x
abbrev kBR:List (Nat×AV):=[(4,.i 0)]
abbrev kBS:List (Nat×AV):=[(6,.bool true)]
abbrev kBT {α0:Type} (a:List α0) (b:Int):List (Nat×AV):=[(9,.slice 0 0 a.length a.length 1),(10,.i b)]
abbrev kBU {α0:Type} {α1:Type} (a:List α0) (b:Option (List α1)) (x:List Blk):List Blk:= .cells [.gslice 4 a.length 5,hsl 5 3 b]:: .dead:: .dead::x
abbrev kBV (a:Bool) (b:List Int) (x:List Blk):List Blk:= .cells [.bool a,vl encI b]::x
abbrev kBW (a:Int) (b:Int) (x:List (Nat×AV)):List (Nat×AV):=(1,.int .u16 a)::(2,.i b)::x
abbrev kBX (a:Int) (b:List qc) (x:List (Nat×AV)):List (Nat×AV):=(0,.agg [.i a,vl qd b])::x
abbrev kBY (a:List qc) (x:List (Nat×AV)):List (Nat×AV):=(0,vl qd a)::x
abbrev kBZ (x:List Blk):List Blk:= .cells [.i 0]::x
abbrev kBa (a:Int) (b:Int) (x:List (Nat×AV)):List (Nat×AV):=(0,.i a)::(1,.i b)::x
abbrev kBb (x:List (Nat×AV)):List (Nat×AV):=(5,.ptr 3 0)::(6,.ptr 4 0)::x
abbrev kBc (a:Int) (b:Int):List (Nat×AV):=[(6,.i a),(8,.ptr 5 0),(9,.i b)]
abbrev kBd (a:List qc) (x:List (Nat×AV)):List (Nat×AV):=(10,vl qd a)::x
abbrev kBe:List (Nat×AV):=[(5,.i 0)]
abbrev kBf:List (Nat×AV):=[(2,.bool false)]
abbrev kBg:List Blk:=[.cells [.i 0,.i 0,.nilfunc]]
abbrev kBh (a:Int) (b:Int) (x:List Blk):List Blk:= .cells [.i a,.i b,.undef]::x
abbrev kBi (a:Int) (b:Int):List Blk:=[.cells [.i a,.i b]]
abbrev kBj {α0:Type} (a:List α0) (x:List Blk):List Blk:= .cells [.gslice 1 a.length 5,.nilslice]::x
abbrev kBk (a:Int) (b:Int) (x:List (Nat×AV)):List (Nat×AV):=(5,.i a)::(6,.i b)::x
theorem zV:SlT Tryz.prog 22 40 5 88:=⟨by kernel_rfl,by kernel_rfl,by kernel_rfl,by kernel_rfl⟩
theorem ce9:CeT Tryz.prog 9:=⟨by kernel_rfl,by kernel_rfl⟩
theorem qe6:CeT Tryz.prog 37:=⟨by kernel_rfl,by kernel_rfl⟩
theorem qlG:CeT Tryz.prog 38:=⟨by kernel_rfl,by kernel_rfl⟩
theorem vV:SlT Tryz.prog 37 9 1 16:=⟨by kernel_rfl,by kernel_rfl,by kernel_rfl,by kernel_rfl⟩
theorem yX:SlT Tryz.prog 38 3 1 8:=⟨by kernel_rfl,by kernel_rfl,by kernel_rfl,by kernel_rfl⟩
theorem ce3:CeT Tryz.prog 3:=⟨by kernel_rfl,by kernel_rfl⟩
theorem qcw:SlT Tryz.prog 26 175 9 88:=⟨by kernel_rfl,by kernel_rfl,by kernel_rfl,by kernel_rfl⟩
theorem qiv:AgT Tryz.prog 40 5:=⟨by kernel_rfl,by kernel_rfl⟩
theorem st9:Tryz.prog.underlying 9=some .string:=by kernel_rfl
theorem qox:AgT Tryz.prog 175 9:=⟨by kernel_rfl,by kernel_rfl⟩
theorem sl167:SlT Tryz.prog 167 32 1 8:=⟨by kernel_rfl,by kernel_rfl,by kernel_rfl,by kernel_rfl⟩
theorem ce32:CeT Tryz.prog 32:=⟨by kernel_rfl,by kernel_rfl⟩
theorem qbu:SlT Tryz.prog 45 102 9 88:=⟨by kernel_rfl,by kernel_rfl,by kernel_rfl,by kernel_rfl⟩
theorem qf6:AgT Tryz.prog 102 9:=⟨by kernel_rfl,by kernel_rfl⟩
theorem qau:MapT Tryz.prog 140 9 138 (.agg [.i 0,.i 0,.nilfunc]):=⟨by kernel_rfl,by kernel_rfl,by kernel_rfl⟩
noncomputable abbrev qg:Code:=(Tryz.f9.body.getD .skip).x2.x2.x2.x2.x1.x2.x1
theorem qov:SlT Tryz.prog 257 37 1 24:=⟨by kernel_rfl,by kernel_rfl,by kernel_rfl,by kernel_rfl⟩
theorem it3:Tryz.prog.underlying 3=some (.int .i64):=by kernel_rfl
theorem qk0:SlT Tryz.prog 130 171 3 40:=⟨by kernel_rfl,by kernel_rfl,by kernel_rfl,by kernel_rfl⟩
theorem ag47:AgT Tryz.prog 47 2:=⟨by kernel_rfl,by kernel_rfl⟩
theorem qph:EqT Tryz.prog 102 #[{name:= "Name",type:=9,offset:=0,embedded:=false,tag:= "",pkgPath:= "",byteOffset:=0},{name:= "Batch",type:=9,offset:=1,embedded:=false,tag:= "",pkgPath:= "",byteOffset:=16},{name:= "Born",type:=3,offset:=2,embedded:=false,tag:= "",pkgPath:= "",byteOffset:=32},{name:= "Last",type:=3,offset:=3,embedded:=false,tag:= "",pkgPath:= "",byteOffset:=40},{name:= "Uses",type:=3,offset:=4,embedded:=false,tag:= "",pkgPath:= "",byteOffset:=48},{name:= "Used",type:=3,offset:=5,embedded:=false,tag:= "",pkgPath:= "",byteOffset:=56},{name:= "Limit",type:=3,offset:=6,embedded:=false,tag:= "",pkgPath:= "",byteOffset:=64},{name:= "Until",type:=3,offset:=7,embedded:=false,tag:= "",pkgPath:= "",byteOffset:=72},{name:= "Gone",type:=4,offset:=8,embedded:=false,tag:= "",pkgPath:= "",byteOffset:=80}]:=⟨by kernel_rfl,by kernel_rfl,by kernel_rfl⟩
abbrev fm1:AV:= .fmap kAt (.agg [.i 2,.i 3,.func (.func 117) [] []]:: .agg [.i 1,.i 2,.func (.func 118) [] []]:: .agg [.i 1,.i 2,.func (.func 119) [] []]:: .agg [.i 1,.i 1,.func (.func 120) [] []]:: .agg [.i 1,.i 1,.func (.func 121) [] []]::(kBQ []))
instance:SC 12 fm1:=⟨Still.fmap SX.h (AllST.cons SC.h (AllST.cons SC.h (AllST.cons SC.h (AllST.cons SC.h (AllST.cons SC.h (AllST.cons SC.h AllST.nil))))))⟩
def ky (l:List qb) (n2:Int):Nat→Int→Option (Unit⊕Bool)
 |0,_=>none
 |K+1,n13=>
  (idx l n2).bind fun x16=>
  if n13<(x16.Names.length:Int)then
  (idx x16.Names n13).bind fun x18=>
  if(x18.length:Int)>60 then
  some (.inr false)
  else
  ky l n2 K (w64 (n13+1))
  else
  some (.inl ())
def ze (N:Nat) (l:List qb):Nat→Int→Option (Unit⊕Bool)
 |0,_=>none
 |K+1,n2=>
  if n2<(l.length:Int)then
  ((idx l n2).bind fun x6=>
  if(x6.Kind.length:Int)>60 then
  some true
  else
  if(x6.Names.length:Int)>5 then
  some true
  else
  if(x6.Values.length:Int)>5 then
  some true
  else
  some (decide ((x6.Text.length:Int)>60)):Option Bool).bind fun b10=>
  if b10=true then
  some (.inr false)
  else
  (ky l n2 N 0).bind (fun
  |(.inl ())=>
  ze N l K (w64 (n2+1))
  |(.inr q20)=>
  some (.inr q20))
  else
  some (.inl ())
def j6 (N:Nat) (l:List qb) (n:Int):Option Bool:=
 if(l.length:Int)>n then
 some false
 else
 (ze N l N 0).bind (fun
 |(.inl ())=>
 some true
 |(.inr q21)=>
 some q21)
theorem qdn (N:Nat) (l:List qb) (n:Int) {res:Bool} (h:j6 N l n=some res):qf Tryz.prog (.fn 5) [vl qa l,.i n] [] (.bool res) []:=by
 unfold j6 at h
 refine Goes.fnW Tryz.func5 rfl rfl (m:=71) rfl (rs:=[.tmp 4]) rfl (l:=(kH l [(1,.i n)])) rfl ?_
 refine sh fol (kH l [(1,.i n)]) ?_
 refine sq ?_
 refine sh fol (kH l (kBI (decide ((l.length:Int)>n)))) ?_
 refine ihD h (fun c1 h=>?_) (fun c1 h=>?_)
 ·refine sh fol kAf ?_
  refine Goes.ret ?_
  obtain rfl:=si h
  exact(gw2 [.bool false] (FzW.still tB))
 ·refine Goes.skip ?_
  refine sq ?_
  refine sh fol (kH l kBe) ?_
  refine Goes.block ?_
  obtain⟨r3,g3,h⟩:=bnd h
  refine Goes.imp (Q:=fun x s'=>(x= .exit 0∧(.inl ())=r3∧Sub s' (ofG 71 [],[]))∨(x= .ret∧ ∃q4,(.inr q4)=r3∧zy Tryz.prog [.tmp 4] (.bool q4) .ret s')) ?_ ?_
  ·refine Goes.loopS (fun M s=> ∃(n2:Int),s=(ofG 71 (kH l (kAn n2)),[])∧ze N l M n2=some r3) ?_ (m:=N) ⟨_,rfl,g3⟩
   rintro M s ⟨n2,rfl,g3⟩
   cases M with
   |zero=>simp only[ze]at g3;cases g3
   |succ M=>
    rw[ze]at g3
    refine sq ?_
    refine sh fol (kH l [(5,.i n2),(14,.bool (decide (n2<(l.length:Int))))]) ?_
    refine ihD g3 (fun c5 g3=>?_) (fun c5 g3=>?_)
    ·refine Goes.skip ?_
     refine sq (Goes.block ?_)
     refine sq ?_
     refine sq ?_
     obtain⟨b10,g_v11,g3⟩:=bnd g3
     refine Goes.cut (s':=(ofG 71 (kH l [(5,.i n2),(50,.bool b10)]),[])) ?_ ?_
     ·obtain⟨x6,e_x6,g_v11⟩:=bnd g_v11
      rcases wyD g_v11 with⟨c7,g_v11⟩|⟨c7,g_v11⟩
      ·obtain rfl:=si g_v11
       exact tr fol [2,4,7] (kH l [(5,.i n2),(50,.bool true)]) (ac (iv zV qa e_x6) (ac (lv 1 ce9 qa e_x6 rfl) (ac (gw c7) az)))
      ·rcases wyD g_v11 with⟨c8,g_v11⟩|⟨c8,g_v11⟩
       ·obtain rfl:=si g_v11
        exact tr fol [2,4,7,10,12,16] (kH l [(5,.i n2),(50,.bool true)]) (ac (iv zV qa e_x6) (ac (lv 1 ce9 qa e_x6 rfl) (ac (gw c7) (ac (iv zV qa e_x6) (ac (lv 2 qe6 qa e_x6 rfl) (ac (gw c8) az))))))
       ·rcases wyD g_v11 with⟨c9,g_v11⟩|⟨c9,g_v11⟩
        ·obtain rfl:=si g_v11
         exact tr fol [2,4,7,10,12,16,19,21,25] (kH l [(5,.i n2),(50,.bool true)]) (ac (iv zV qa e_x6) (ac (lv 1 ce9 qa e_x6 rfl) (ac (gw c7) (ac (iv zV qa e_x6) (ac (lv 2 qe6 qa e_x6 rfl) (ac (gw c8) (ac (iv zV qa e_x6) (ac (lv 3 qlG qa e_x6 rfl) (ac (gw c9) az)))))))))
        ·obtain rfl:=si g_v11
         exact tr fol [2,4,7,10,12,16,19,21,25,28,30] (kH l [(5,.i n2),(50,.bool (decide ((x6.Text.length:Int)>60)))]) (ac (iv zV qa e_x6) (ac (lv 1 ce9 qa e_x6 rfl) (ac (gw c7) (ac (iv zV qa e_x6) (ac (lv 2 qe6 qa e_x6 rfl) (ac (gw c8) (ac (iv zV qa e_x6) (ac (lv 3 qlG qa e_x6 rfl) (ac (gw c9) (ac (iv zV qa e_x6) (ac (lv 4 ce9 qa e_x6 rfl) az)))))))))))
     refine ihB g3 (fun c12 g3=>?_) (fun c12 g3=>?_)
     ·refine sh fol kAf ?_
      refine Goes.ret ?_
      obtain rfl:=si g3
      exact Or.inr (⟨rfl,_,rfl,(gw2 [.bool false] (FzW.still tB))⟩)
     ·refine Goes.skip ?_
      refine sh fol (kH l [(5,.i n2),(6,.i 0)]) ?_
      refine Goes.block ?_
      obtain⟨r14,g14,g3⟩:=bnd g3
      refine Goes.imp (Q:=fun x s'=>(x= .exit 2∧(.inl ())=r14∧Sub s' (ofG 71 (kH l (kAn n2)),[]))∨(x= .ret∧ ∃q15,(.inr q15)=r14∧zy Tryz.prog [.tmp 4] (.bool q15) .ret s')) ?_ ?_
      ·refine Goes.loopS (fun M s=> ∃(n13:Int),s=(ofG 71 (kH l (kBk n2 n13 [])),[])∧ky l n2 M n13=some r14) ?_ (m:=N) ⟨_,rfl,g14⟩
       rintro M s ⟨n13,rfl,g14⟩
       cases M with
       |zero=>simp only[ky]at g14;cases g14
       |succ M=>
        rw[ky]at g14
        refine sq ?_
        obtain⟨x16,e_x16,g14⟩:=bnd g14
        refine sq (gr fol [3,5] (kH l (kBk n2 n13 [(58,.bool (decide (n13<(x16.Names.length:Int))))])) (ac (iv zV qa e_x16) (ac (lv 2 qe6 qa e_x16 rfl) az)) ?_)
        refine ihD g14 (fun c17 g14=>?_) (fun c17 g14=>?_)
        ·refine Goes.skip ?_
         refine sq (Goes.block ?_)
         obtain⟨x18,e_x18,g14⟩:=bnd g14
         refine sq (gr fol [2,4,6,7] (kH l (kBk n2 n13 [(70,.bool (decide ((x18.length:Int)>60)))])) (ac (iv zV qa e_x16) (ac (lv 2 qe6 qa e_x16 rfl) (ac (iv vV encS e_x18) (ac (lv 0 ce9 encS e_x18 rfl) az)))) ?_)
         refine ihD g14 (fun c19 g14=>?_) (fun c19 g14=>?_)
         ·refine sh fol kAf ?_
          refine Goes.ret ?_
          obtain rfl:=si g14
          exact Or.inr (⟨rfl,_,rfl,(gw2 [.bool false] (FzW.still tB))⟩)
         ·refine Goes.skip ?_
          refine gh fol (kH l (kBk n2 (w64 (n13+1)) [])) ?_
          exact⟨M,(ofG 71 (kH l (kBk n2 (w64 (n13+1)) [])),[]),Nat.lt_succ_self _,(Sub.refl _),_,rfl,g14⟩
        ·refine Goes.exit ?_
         obtain rfl:=si g14
         exact Or.inl (⟨rfl,rfl,(Sub.keep [0,5] rfl rfl)⟩)
      rintro x s' (⟨rfl,rfl,hsub⟩|⟨rfl,q20,rfl,hret⟩)
      ·try dsimp only at g3
       refine Goes.sub hsub ?_
       refine gh fol (kH l (kAn (w64 (n2+1)))) ?_
       exact⟨M,(ofG 71 (kH l (kAn (w64 (n2+1)))),[]),Nat.lt_succ_self _,(Sub.refl _),_,rfl,g3⟩
      ·try dsimp only at g3
       obtain rfl:=si g3
       exact Or.inr (⟨rfl,_,rfl,hret⟩)
    ·refine Goes.exit ?_
     obtain rfl:=si g3
     exact Or.inl (⟨rfl,rfl,(Sub.keep [] rfl rfl)⟩)
  rintro x s' (⟨rfl,rfl,hsub⟩|⟨rfl,q21,rfl,hret⟩)
  ·try dsimp only at h
   refine Goes.sub hsub ?_
   refine sh fol kAi ?_
   refine Goes.ret ?_
   obtain rfl:=si h
   exact(gw2 [.bool true] (FzW.still tB))
  ·try dsimp only at h
   obtain rfl:=si h
   exact hret
def jC (l2:List qc) (x4:Str):Nat→Int→Int→Option (Int×Int)
 |0,_,_=>none
 |K+1,n8,n9=>
  (if n9<(l2.length:Int)then
  (idx l2 n9).bind fun x14=>
  some (ltL x14.Name x4)
  else
  some false:Option Bool).bind fun b15=>
  if b15=true then
  jC l2 x4 K n8 (w64 (n9+1))
  else
  some (n8,n9)
def zm (e:qb) (x1:Int):Nat→(List qc)→Int→Option (List qc)
 |0,_,_=>none
 |K+1,l23,n24=>
  if n24<(l23.length:Int)then
  (((idx l23 n24).bind fun x30=>
  (idx e.Names 0).bind fun x31=>
  (if(e.Kind==[116,101,115,116])=true then
  some (x30.Name==x31)
  else
  some false:Option Bool).bind fun b33=>
  if b33=true then
  (idx e.Values 1).bind fun x36=>
  (put l23 n24 (⟨x30.Name,x30.Batch,x30.Born,x30.Last,x30.Uses,x30.Used,w64 (x36.tdiv 2),x30.Until,x30.Gone⟩:qc)).bind fun l37=>
  (idx l37 n24).bind fun x38=>
  (put l37 n24 (⟨x38.Name,x38.Batch,x38.Born,x38.Last,x38.Uses,x38.Used,x38.Limit,(if x38.Last<(w64 (x1+365))then x38.Last else(w64 (x1+365))),x38.Gone⟩:qc)).bind fun l39=>
  some l39
  else
  (if(e.Kind==[117,115,101])=true then
  some (x30.Name==x31)
  else
  some false:Option Bool).bind fun b41=>
  if b41=true then
  (put l23 n24 (⟨x30.Name,x30.Batch,x30.Born,x30.Last,x30.Uses,w64 (x30.Used+1),x30.Limit,x30.Until,x30.Gone⟩:qc)).bind fun l44=>
  some l44
  else
  (if(e.Kind==[102,97,105,108])=true then
  some (x30.Name==x31)
  else
  some false:Option Bool).bind fun b46=>
  ((if b46=true then
  some b46
  else
  (if(e.Kind==[114,101,99,97,108,108])=true then
  some (x30.Batch==x31)
  else
  some false:Option Bool).bind fun b52=>
  some b52:Option Bool)).bind fun b48=>
  if b48=true then
  (put l23 n24 (⟨x30.Name,x30.Batch,x30.Born,x30.Last,x30.Uses,x30.Used,x30.Limit,x30.Until,true⟩:qc)).bind fun l55=>
  some l55
  else
  some l23:Option (List qc))).bind fun l28=>
  zm e x1 K l28 (w64 (n24+1))
  else
  some l23
def zg (N:Nat) (r:qp) (e:qb):Option qp:=
 (idx e.Values 0).bind fun x1=>
 (app 88 ([]:List qc) r.Slings).bind fun l2=>
 if(e.Kind==[109,97,107,101])=true then
 (idx e.Names 0).bind fun x4=>
 (idx e.Names 1).bind fun x5=>
 (idx e.Values 1).bind fun x6=>
 (idx e.Values 2).bind fun x7=>
 (jC l2 x4 N (w64 (x1+x6)) 0).bind fun(n10,n11)=>
 (cut l2 0 n11).bind fun s18=>
 (app 88 ([]:List qc) s18).bind fun l19=>
 (app 88 l19 [(⟨x4,x5,x1,n10,x7,0,0,0,false⟩:qc)]).bind fun l20=>
 (cut l2 n11 (l2.length:Int)).bind fun s21=>
 (app 88 l20 s21).bind fun l22=>
 some (⟨x1,l22⟩:qp)
 else
 (zm e x1 N l2 0).bind fun l25=>
 some (⟨x1,l25⟩:qp)
theorem qgf (N:Nat) (r:qp) (e:qb) {res:qp} (h:zg N r e=some res):qf Tryz.prog (.fn 89) (kAO r.Day r.Slings [.agg (cE e)]) [] (.agg (kAm res.Day res.Slings)) []:=by
 unfold zg at h
 refine Goes.fnW Tryz.func89 rfl rfl (m:=162) rfl (rs:=[.cell 4 28]) rfl (l:=(kBX r.Day r.Slings [(1,.agg (cE e))])) rfl ?_
 refine sg fol (kI (kAZ [])) (kC r.Day r.Slings (kA0 e [bZ])) ?_
 obtain⟨x1,e_x1,h⟩:=bnd h
 refine sq (gr fol [2,3] (kI (kAZ (kAn x1))) (ac (iv yX encI e_x1) (ac (lv 0 ce3 encI e_x1 rfl) az)) ?_)
 refine sg fol (kI (kAZ (kAn x1))) (kC x1 r.Slings (kA0 e [bZ])) ?_
 obtain⟨l2,e_l2,h⟩:=bnd h
 refine sq (gq fol [3] (kI (kAZ [(5,.i x1),(6,.oslice 4 l2.length 9)])) (kC x1 r.Slings (kA0 e [bZ,.dead,bS l2])) (ac (hs (.run [3] (qR Tryz.prog [26,26] (.slice 3 0 0 0 9) (vl qd r.Slings)) (kC x1 r.Slings (kA0 e [bZ,.cells []])) (.oslice 4 l2.length 9) (kC x1 r.Slings (kA0 e [bZ,.dead,bS l2])) true) (jG qcw (E:=qd) rfl (qdv (E:=qd) rfl _) (qfz (E:=qd) rfl rfl rfl e_l2 rfl))) az) ?_)
 refine sq ?_
 refine sh fol (kI (kAZ [(5,.i x1),(6,.oslice 4 l2.length 9),(23,.bool (e.Kind==[109,97,107,101]))])) ?_
 refine ihB h (fun c3 h=>?_) (fun c3 h=>?_)
 ·obtain⟨x4,e_x4,h⟩:=bnd h
  obtain⟨x5,e_x5,h⟩:=bnd h
  obtain⟨x6,e_x6,h⟩:=bnd h
  obtain⟨x7,e_x7,h⟩:=bnd h
  refine sq (gq fol [2,3,6,7,12,13,17,18] (kR (kAZ [(6,.oslice 4 l2.length 9),(7,.ptr 5 0)])) (kC x1 r.Slings (kA0 e (bZ:: .dead::bS l2::(kY x4 x5 x1 (w64 (x1+x6)) x7 [])))) (ac (iv vV encS e_x4) (ac (lv 0 ce9 encS e_x4 rfl) (ac (iv vV encS e_x5) (ac (lv 0 ce9 encS e_x5 rfl) (ac (iv yX encI e_x6) (ac (lv 0 ce3 encI e_x6 rfl) (ac (iv yX encI e_x7) (ac (lv 0 ce3 encI e_x7 rfl) az)))))))) ?_)
  refine sh fol (kR (kAZ [(6,.oslice 4 l2.length 9),(7,.ptr 5 0),(8,.i 0)])) ?_
  refine sq (Goes.block ?_)
  obtain⟨r12,g12,h⟩:=bnd h
  refine Goes.imp (Q:=fun x s'=>(x= .exit 0∧ ∃n10 n11,(n10,n11)=r12∧Sub s' (ofG 162 (kR (kAN l2 [(8,.i n11)])),(kC x1 r.Slings (bZ::bS l2::(kAa x4 x5 x1 n10 x7 [])))))) ?_ ?_
  ·refine Goes.sub (s':=(ofG 162 (kR (kAN l2 [(8,.i 0)])),(kC x1 r.Slings (bZ::bS l2::(kY x4 x5 x1 (w64 (x1+x6)) x7 []))))) (Sub.norm [] [some 0,some 2,some 4,some 5] rfl rfl (.kp (.kp (.keep (.oslice rfl) (.kp (.keep (.same nI) .nil))))) (.kb rfl (.same sn) (.kb rfl (.same sn) (.ks (.kb rfl (.same sn) .nil))))) ?_
   refine Goes.loopS (fun M s=> ∃(n8:Int) (n9:Int),s=(ofG 162 (kR (kAN l2 [(8,.i n9)])),(kC x1 r.Slings (bZ::bS l2::(kAa x4 x5 x1 n8 x7 []))))∧jC l2 x4 M n8 n9=some r12) ?_ (m:=N) ⟨_,_,rfl,g12⟩
   rintro M s ⟨n8,n9,rfl,g12⟩
   cases M with
   |zero=>simp only[jC]at g12;cases g12
   |succ M=>
    rw[jC]at g12
    refine sq ?_
    refine sq ?_
    obtain⟨b15,g_v16,g12⟩:=bnd g12
    refine Goes.cut (s':=(ofG 162 (kR (kAN l2 [(8,.i n9),(57,.bool b15)])),(kC x1 r.Slings (bZ::bS l2::(kAa x4 x5 x1 n8 x7 []))))) ?_ ?_
    ·rcases wyD g_v16 with⟨c13,g_v16⟩|⟨c13,g_v16⟩
     ·obtain⟨x14,e_x14,g_v16⟩:=bnd g_v16
      obtain rfl:=si g_v16
      exact tr fol [4,7,9] (kR (kAN l2 [(8,.i n9),(57,.bool (ltL x14.Name x4))])) (ac (gw c13) (ac (hs (.done (.opt (qE Tryz.prog 26 (.oslice 2 l2.length 9) (.i n9))) (.ptr 2 ((n9:Int).toNat*9+0))) (qdX qcw e_x14)) (ac (hs (.run [2] (jT Tryz.prog 9 (.ptr 2 ((n9:Int).toNat*9+0))) (kC x1 r.Slings (bZ::bS l2::(kAa x4 x5 x1 n8 x7 []))) (.str x14.Name) (kC x1 r.Slings (bZ::bS l2::(kAa x4 x5 x1 n8 x7 []))) false) (qiw ce9 (E:=qd) (l:=l2) rfl rfl e_x14 (nl rfl) rfl)) az)))
     ·obtain rfl:=si g_v16
      exact tr fol [4] (kR (kAN l2 [(8,.i n9),(57,.bool false)])) (ac (gw c13) az)
    refine ihB g12 (fun c17 g12=>?_) (fun c17 g12=>?_)
    ·refine Goes.skip ?_
     refine Goes.block ?_
     refine gh fol (kR (kAN l2 [(8,.i (w64 (n9+1)))])) ?_
     exact⟨M,(ofG 162 (kR (kAN l2 [(8,.i (w64 (n9+1)))])),(kC x1 r.Slings (bZ::bS l2::(kAa x4 x5 x1 n8 x7 [])))),Nat.lt_succ_self _,(Sub.refl _),_,_,rfl,g12⟩
    ·refine Goes.exit ?_
     obtain rfl:=si g12
     exact⟨rfl,_,_,rfl,(Sub.keep [2,4,6,7,8] rfl rfl)⟩
  rintro x s' ⟨rfl,n10,n11,rfl,hsub⟩
  try dsimp only at h
  refine Goes.sub hsub ?_
  refine sq (Goes.sub (s':=(ofG 162 (kR [(4,.ptr 1 0),(6,vl qd l2),(7,.ptr 2 0),(8,.i n11)]),(kC x1 r.Slings (bZ::(kAa x4 x5 x1 n10 x7 []))))) (Sub.norm [2] [some 0,some 1,some 3] rfl rfl (.kp (.kp (.keep (.frz (Fz.os (E:=qd) rfl rfl (nl rfl)) (qw qd _)) (.kp (.keep (.same nI) .nil))))) (.kb rfl (.same sn) (.kb rfl (.same sn) (.kb rfl (.same sn) .nil)))) ?_)
  obtain⟨s18,e_s18,h⟩:=bnd h
  obtain⟨l19,e_l19,h⟩:=bnd h
  obtain⟨l20,e_l20,h⟩:=bnd h
  obtain⟨s21,e_s21,h⟩:=bnd h
  obtain⟨l22,e_l22,h⟩:=bnd h
  refine gq fol [3,4,7,10,11] (kR [(4,.ptr 1 0)]) (.cells [.i x1,.oslice 7 l22.length 9]::bZ::(kAa x4 x5 x1 n10 x7 (.dead:: .dead::(kAa x4 x5 x1 n10 x7 [.dead,bS l22])))) (ac (hs (.done (.opt (qz Tryz.prog 26 (vl qd l2) none (some (.i n11)) none)) (vl qd s18)) (qda qcw (E:=qd) rfl none (some n11) e_s18)) (ac (hs (.run [3] (qR Tryz.prog [26,26] (.slice 3 0 0 0 9) (vl qd s18)) (kC x1 r.Slings (bZ::(kAa x4 x5 x1 n10 x7 [.cells []]))) (.oslice 4 l19.length 9) (kC x1 r.Slings (bZ::(kAa x4 x5 x1 n10 x7 [.dead,bS l19]))) true) (jG qcw (E:=qd) rfl (qdv (E:=qd) rfl _) (qfz (E:=qd) rfl rfl rfl e_l19 rfl))) (ac (hs (.run [4,5] (qR Tryz.prog [26,26] (.oslice 4 l19.length 9) (.slice 5 0 1 1 9)) (kC x1 r.Slings (bZ::(kAa x4 x5 x1 n10 x7 (.dead::bS l19::(kAa x4 x5 x1 n10 x7 []))))) (.oslice 6 l20.length 9) (kC x1 r.Slings (bZ::(kAa x4 x5 x1 n10 x7 (.dead:: .dead::(kAa x4 x5 x1 n10 x7 [bS l20]))))) true) (jG qcw (E:=qd) rfl (qbH (E:=qd) (ys:=[(⟨x4,x5,x1,n10,x7,0,0,0,false⟩:qc)]) rfl rfl rfl rfl) (qgD (E:=qd) (l:=l19) rfl rfl rfl e_l20 rfl))) (ac (hs (.done (.opt (qz Tryz.prog 26 (vl qd l2) (some (.i n11)) none none)) (vl qd s21)) (qda qcw (E:=qd) rfl (some n11) none e_s21)) (ac (hs (.run [6] (qR Tryz.prog [26,26] (.oslice 6 l20.length 9) (vl qd s21)) (kC x1 r.Slings (bZ::(kAa x4 x5 x1 n10 x7 (.dead:: .dead::(kAa x4 x5 x1 n10 x7 [bS l20]))))) (.oslice 7 l22.length 9) (kC x1 r.Slings (bZ::(kAa x4 x5 x1 n10 x7 (.dead:: .dead::(kAa x4 x5 x1 n10 x7 [.dead,bS l22]))))) true) (jG qcw (E:=qd) rfl (qdv (E:=qd) rfl _) (qgD (E:=qd) (l:=l20) rfl rfl rfl e_l22 rfl))) az))))) ?_
  refine sg fol [(4,.ptr 1 0)] (.cells [.i x1,.oslice 7 l22.length 9]:: .cells [.i x1,.oslice 7 l22.length 9]::(kAa x4 x5 x1 n10 x7 (.dead:: .dead::(kAa x4 x5 x1 n10 x7 [.dead,bS l22])))) ?_
  refine Goes.ret ?_
  obtain rfl:=si h
  exact(gw2 [.agg [.i x1,.oslice 7 l22.length 9]] (FzW.agg (qj.cons (FzW.still tI) (qj.cons (FzW.fz (Fz.os (E:=qd) rfl rfl (nl rfl))) qj.nil))))
 ·refine Goes.skip ?_
  refine sq ?_
  refine sh fol (kI (kAZ [(5,.i x1),(6,.oslice 4 l2.length 9),(9,.i 0)])) ?_
  refine Goes.block ?_
  obtain⟨r26,g26,h⟩:=bnd h
  refine Goes.imp (Q:=fun x s'=>(x= .exit 2∧ ∃l25,l25=r26∧Sub s' (ofG 162 (kR [(4,.ptr 1 0),(6,.oslice 2 l25.length 9)]),(kC x1 r.Slings [bZ,bS l25])))) ?_ ?_
  ·refine Goes.sub (s':=(ofG 162 (kI (kAZ [(5,.i x1),(6,.oslice 3 l2.length 9),(9,.i 0)])),(kC x1 r.Slings (kS e l2)))) (Sub.norm [] [some 0,some 1,some 2,some 4] rfl rfl (.kp (.kp (.kp (.keep (.same nI) (.keep (.oslice rfl) (.keep (.same nI) .nil)))))) (.kb rfl (.same sn) (.kb rfl (.same sn) (.kb rfl (.same sn) (.ks .nil))))) ?_
   refine Goes.loopS (fun M s=> ∃(l23:List qc) (n24:Int),s=(ofG 162 (kE x1 l23 n24 []),(kC x1 r.Slings (kS e l23)))∧zm e x1 M l23 n24=some r26) ?_ (m:=N) ⟨_,_,rfl,g26⟩
   rintro M s ⟨l23,n24,rfl,g26⟩
   cases M with
   |zero=>simp only[zm]at g26;cases g26
   |succ M=>
    rw[zm]at g26
    refine sq ?_
    refine sh fol (kE x1 l23 n24 [(77,.bool (decide (n24<(l23.length:Int))))]) ?_
    refine ihD g26 (fun c27 g26=>?_) (fun c27 g26=>?_)
    ·refine Goes.skip ?_
     refine sq ?_
     obtain⟨r29,g29,g26⟩:=bnd g26
     refine Goes.imp (Q:=fun x s'=>(x= .normal∧ ∃l28,l28=r29∧Sub s' (ofG 162 (kE x1 l28 n24 []),(kC x1 r.Slings (kS e l28))))) ?_ ?_
     ·refine Goes.block ?_
      obtain⟨x30,e_x30,g29⟩:=bnd g29
      obtain⟨x31,e_x31,g29⟩:=bnd g29
      refine sq (gr fol [2,4,7,8] (kE x1 l23 n24 (kBI (x30.Name==x31))) (ac (hs (.done (.opt (qE Tryz.prog 26 (.oslice 3 l23.length 9) (.i n24))) (.ptr 3 ((n24:Int).toNat*9+0))) (qdX qcw e_x30)) (ac (hs (.run [3] (jT Tryz.prog 9 (.ptr 3 ((n24:Int).toNat*9+0))) (kC x1 r.Slings (kS e l23)) (.str x30.Name) (kC x1 r.Slings (kS e l23)) false) (qiw ce9 (E:=qd) (l:=l23) rfl rfl e_x30 (nl rfl) rfl)) (ac (iv vV encS e_x31) (ac (lv 0 ce9 encS e_x31 rfl) az)))) ?_)
      refine Goes.block ?_
      refine sq ?_
      obtain⟨b33,g_v34,g29⟩:=bnd g29
      refine Goes.cut (s':=(ofG 162 (kE x1 l23 n24 [(10,.bool (x30.Name==x31)),(90,.bool b33)]),(kC x1 r.Slings (kS e l23)))) ?_ ?_
      ·rcases wyB g_v34 with⟨c32,g_v34⟩|⟨c32,g_v34⟩
       ·obtain rfl:=si g_v34
        exact tr fol [3] (kE x1 l23 n24 [(10,.bool (x30.Name==x31)),(90,.bool (x30.Name==x31))]) (ac (gw c32) az)
       ·obtain rfl:=si g_v34
        exact tr fol [3] (kE x1 l23 n24 [(10,.bool (x30.Name==x31)),(90,.bool false)]) (ac (gw c32) az)
      refine ihB g29 (fun c35 g29=>?_) (fun c35 g29=>?_)
      ·obtain⟨x36,e_x36,g29⟩:=bnd g29
       obtain⟨l37,e_l37,g29⟩:=bnd g29
       refine sq (gq fol [4,5,7,9] (kE x1 l23 n24 []) (kC x1 r.Slings (kS e l37)) (ac (iv yX encI e_x36) (ac (lv 0 ce3 encI e_x36 rfl) (ac (hs (.done (.opt (qE Tryz.prog 26 (.oslice 3 l23.length 9) (.i n24))) (.ptr 3 ((n24:Int).toNat*9+0))) (qdX qcw e_x30)) (ac (hs (.run [3] (xn Tryz.prog 3 (.ptr 3 ((n24:Int).toNat*9+6)) (.i (w64 (x36.tdiv 2)))) (kC x1 r.Slings (kS e l23)) .undef (kC x1 r.Slings (kS e l37)) true) (qcS (E:=qd) (l:=l23) (y:=(⟨x30.Name,x30.Batch,x30.Born,x30.Last,x30.Uses,x30.Used,w64 (x36.tdiv 2),x30.Until,x30.Gone⟩:qc)) rfl (show _=some 1 by kernel_rfl) rfl e_x30 rfl rfl rfl rfl rfl e_l37 rfl)) az)))) ?_)
       refine Goes.sub (show Sub (ofG 162 (kE x1 l23 n24 []),(kC x1 r.Slings (kS e l37))) (ofG 162 (kE x1 l37 n24 []),(kC x1 r.Slings (kS e l37)))from(Sub.norm [] [some 0,some 1,some 2,some 3] rfl rfl (.kp (.kp (.kp (.keep (.same nI) (.keep (.osliceE rfl (xW e_l37)) (.keep (.same nI) .nil)))))) (.kb rfl (.same sn) (.kb rfl (.same sn) (.kb rfl (.same sn) (.ks .nil)))))) ?_
       obtain⟨x38,e_x38,g29⟩:=bnd g29
       obtain⟨l39,e_l39,g29⟩:=bnd g29
       refine gq fol [6,8,10,12] (kE x1 l37 n24 []) (kC x1 r.Slings (kS e l39)) (ac (hs (.done (.opt (qE Tryz.prog 26 (.oslice 3 l37.length 9) (.i n24))) (.ptr 3 ((n24:Int).toNat*9+0))) (qdX qcw e_x38)) (ac (hs (.run [3] (jT Tryz.prog 3 (.ptr 3 ((n24:Int).toNat*9+3))) (kC x1 r.Slings (kS e l37)) (.i x38.Last) (kC x1 r.Slings (kS e l37)) false) (qiw ce3 (E:=qd) (l:=l37) rfl rfl e_x38 (nl rfl) rfl)) (ac (hs (.done (.opt (qE Tryz.prog 26 (.oslice 3 l37.length 9) (.i n24))) (.ptr 3 ((n24:Int).toNat*9+0))) (qdX qcw e_x38)) (ac (hs (.run [3] (xn Tryz.prog 3 (.ptr 3 ((n24:Int).toNat*9+7)) (.i (if x38.Last<(w64 (x1+365))then x38.Last else(w64 (x1+365))))) (kC x1 r.Slings (kS e l37)) .undef (kC x1 r.Slings (kS e l39)) true) (qcS (E:=qd) (l:=l37) (y:=(⟨x38.Name,x38.Batch,x38.Born,x38.Last,x38.Uses,x38.Used,x38.Limit,(if x38.Last<(w64 (x1+365))then x38.Last else(w64 (x1+365))),x38.Gone⟩:qc)) rfl (show _=some 1 by kernel_rfl) rfl e_x38 rfl rfl rfl rfl rfl e_l39 rfl)) az)))) ?_
       obtain rfl:=si g29
       exact⟨rfl,_,rfl,((show Sub (ofG 162 (kE x1 l37 n24 []),(kC x1 r.Slings (kS e l39))) (ofG 162 (kE x1 l39 n24 []),(kC x1 r.Slings (kS e l39)))from(Sub.norm [] [some 0,some 1,some 2,some 3] rfl rfl (.kp (.kp (.kp (.keep (.same nI) (.keep (.osliceE rfl (xW e_l39)) (.keep (.same nI) .nil)))))) (.kb rfl (.same sn) (.kb rfl (.same sn) (.kb rfl (.same sn) (.ks .nil)))))).trans (Sub.refl _))⟩
      ·refine sq ?_
       obtain⟨b41,g_v42,g29⟩:=bnd g29
       refine Goes.cut (s':=(ofG 162 (kE x1 l23 n24 [(10,.bool (x30.Name==x31)),(118,.bool b41)]),(kC x1 r.Slings (kS e l23)))) ?_ ?_
       ·rcases wyB g_v42 with⟨c40,g_v42⟩|⟨c40,g_v42⟩
        ·obtain rfl:=si g_v42
         exact tr fol [3] (kE x1 l23 n24 [(10,.bool (x30.Name==x31)),(118,.bool (x30.Name==x31))]) (ac (gw c40) az)
        ·obtain rfl:=si g_v42
         exact tr fol [3] (kE x1 l23 n24 [(10,.bool (x30.Name==x31)),(118,.bool false)]) (ac (gw c40) az)
       refine ihB g29 (fun c43 g29=>?_) (fun c43 g29=>?_)
       ·obtain⟨l44,e_l44,g29⟩:=bnd g29
        refine gq fol [2,4,6,8] (kE x1 l23 n24 []) (kC x1 r.Slings (kS e l44)) (ac (hs (.done (.opt (qE Tryz.prog 26 (.oslice 3 l23.length 9) (.i n24))) (.ptr 3 ((n24:Int).toNat*9+0))) (qdX qcw e_x30)) (ac (hs (.run [3] (jT Tryz.prog 3 (.ptr 3 ((n24:Int).toNat*9+5))) (kC x1 r.Slings (kS e l23)) (.i x30.Used) (kC x1 r.Slings (kS e l23)) false) (qiw ce3 (E:=qd) (l:=l23) rfl rfl e_x30 (nl rfl) rfl)) (ac (hs (.done (.opt (qE Tryz.prog 26 (.oslice 3 l23.length 9) (.i n24))) (.ptr 3 ((n24:Int).toNat*9+0))) (qdX qcw e_x30)) (ac (hs (.run [3] (xn Tryz.prog 3 (.ptr 3 ((n24:Int).toNat*9+5)) (.i (w64 (x30.Used+1)))) (kC x1 r.Slings (kS e l23)) .undef (kC x1 r.Slings (kS e l44)) true) (qcS (E:=qd) (l:=l23) (y:=(⟨x30.Name,x30.Batch,x30.Born,x30.Last,x30.Uses,w64 (x30.Used+1),x30.Limit,x30.Until,x30.Gone⟩:qc)) rfl (show _=some 1 by kernel_rfl) rfl e_x30 rfl rfl rfl rfl rfl e_l44 rfl)) az)))) ?_
        obtain rfl:=si g29
        exact⟨rfl,_,rfl,((show Sub (ofG 162 (kE x1 l23 n24 []),(kC x1 r.Slings (kS e l44))) (ofG 162 (kE x1 l44 n24 []),(kC x1 r.Slings (kS e l44)))from(Sub.norm [] [some 0,some 1,some 2,some 3] rfl rfl (.kp (.kp (.kp (.keep (.same nI) (.keep (.osliceE rfl (xW e_l44)) (.keep (.same nI) .nil)))))) (.kb rfl (.same sn) (.kb rfl (.same sn) (.kb rfl (.same sn) (.ks .nil)))))).trans (Sub.refl _))⟩
       ·refine sq ?_
        refine sq ?_
        obtain⟨b46,g_v47,g29⟩:=bnd g29
        refine Goes.cut (s':=(ofG 162 (kE x1 l23 n24 [(133,.bool b46)]),(kC x1 r.Slings (kS e l23)))) ?_ ?_
        ·rcases wyB g_v47 with⟨c45,g_v47⟩|⟨c45,g_v47⟩
         ·obtain rfl:=si g_v47
          exact tr fol [3] (kE x1 l23 n24 [(133,.bool (x30.Name==x31))]) (ac (gw c45) az)
         ·obtain rfl:=si g_v47
          exact tr fol [3] (kE x1 l23 n24 [(133,.bool false)]) (ac (gw c45) az)
        obtain⟨r49,g49,g29⟩:=bnd g29
        refine Goes.imp (Q:=fun x s'=>(x= .normal∧ ∃b48,b48=r49∧Sub s' (ofG 162 (kE x1 l23 n24 [(133,.bool b48)]),(kC x1 r.Slings (kS e l23))))) ?_ ?_
        ·refine ihB g49 (fun c50 g49=>?_) (fun c50 g49=>?_)
         ·refine Goes.skip ?_
          obtain rfl:=si g49
          exact⟨rfl,_,rfl,(Sub.refl _)⟩
         ·obtain⟨b52,g_v53,g49⟩:=bnd g49
          refine Goes.cut (s':=(ofG 162 (kE x1 l23 n24 [(133,.bool b52)]),(kC x1 r.Slings (kS e l23)))) ?_ ?_
          ·rcases wyB g_v53 with⟨c51,g_v53⟩|⟨c51,g_v53⟩
           ·obtain rfl:=si g_v53
            exact tr fol [3,6,8,11,12] (kE x1 l23 n24 [(133,.bool (x30.Batch==x31))]) (ac (gw c51) (ac (hs (.done (.opt (qE Tryz.prog 26 (.oslice 3 l23.length 9) (.i n24))) (.ptr 3 ((n24:Int).toNat*9+0))) (qdX qcw e_x30)) (ac (hs (.run [3] (jT Tryz.prog 9 (.ptr 3 ((n24:Int).toNat*9+1))) (kC x1 r.Slings (kS e l23)) (.str x30.Batch) (kC x1 r.Slings (kS e l23)) false) (qiw ce9 (E:=qd) (l:=l23) rfl rfl e_x30 (nl rfl) rfl)) (ac (iv vV encS e_x31) (ac (lv 0 ce9 encS e_x31 rfl) az)))))
           ·obtain rfl:=si g_v53
            exact tr fol [3] (kE x1 l23 n24 [(133,.bool false)]) (ac (gw c51) az)
          obtain rfl:=si g49
          exact⟨rfl,_,rfl,(Sub.refl _)⟩
        rintro x s' ⟨rfl,b48,rfl,hsub⟩
        refine Goes.sub hsub ?_
        refine ihB g29 (fun c54 g29=>?_) (fun c54 g29=>?_)
        ·obtain⟨l55,e_l55,g29⟩:=bnd g29
         refine gq fol [2,4] (kE x1 l23 n24 []) (kC x1 r.Slings (kS e l55)) (ac (hs (.done (.opt (qE Tryz.prog 26 (.oslice 3 l23.length 9) (.i n24))) (.ptr 3 ((n24:Int).toNat*9+0))) (qdX qcw e_x30)) (ac (hs (.run [3] (xn Tryz.prog 4 (.ptr 3 ((n24:Int).toNat*9+8)) (.bool true)) (kC x1 r.Slings (kS e l23)) .undef (kC x1 r.Slings (kS e l55)) true) (qcS (E:=qd) (l:=l23) (y:=(⟨x30.Name,x30.Batch,x30.Born,x30.Last,x30.Uses,x30.Used,x30.Limit,x30.Until,true⟩:qc)) rfl (show _=some 1 by kernel_rfl) rfl e_x30 rfl rfl rfl rfl rfl e_l55 rfl)) az)) ?_
         obtain rfl:=si g29
         exact⟨rfl,_,rfl,((show Sub (ofG 162 (kE x1 l23 n24 []),(kC x1 r.Slings (kS e l55))) (ofG 162 (kE x1 l55 n24 []),(kC x1 r.Slings (kS e l55)))from(Sub.norm [] [some 0,some 1,some 2,some 3] rfl rfl (.kp (.kp (.kp (.keep (.same nI) (.keep (.osliceE rfl (xW e_l55)) (.keep (.same nI) .nil)))))) (.kb rfl (.same sn) (.kb rfl (.same sn) (.kb rfl (.same sn) (.ks .nil)))))).trans (Sub.refl _))⟩
        ·refine Goes.skip ?_
         obtain rfl:=si g29
         exact⟨rfl,_,rfl,(Sub.keep [2,3,4,5,6,9] rfl rfl)⟩
     rintro x s' ⟨rfl,l28,rfl,hsub⟩
     refine Goes.sub hsub ?_
     refine gh fol (kE x1 l28 (w64 (n24+1)) []) ?_
     exact⟨M,(ofG 162 (kE x1 l28 (w64 (n24+1)) []),(kC x1 r.Slings (kS e l28))),Nat.lt_succ_self _,(Sub.refl _),_,_,rfl,g26⟩
    ·refine Goes.exit ?_
     obtain rfl:=si g26
     exact⟨rfl,_,rfl,(Sub.norm [] [some 0,some 2,some 3] rfl rfl (.kp (.drop (.kp (.drop (.keep (.oslice rfl) .nil))))) (.kb rfl (.same sn) (.kb rfl (.same sn) (.ks .nil))))⟩
  rintro x s' ⟨rfl,l25,rfl,hsub⟩
  refine Goes.sub hsub ?_
  refine sg fol (kR [(4,.ptr 1 0)]) [.cells [.i x1,.oslice 2 l25.length 9],bZ,bS l25] ?_
  refine sg fol [(4,.ptr 1 0)] [.cells [.i x1,.oslice 2 l25.length 9],.cells [.i x1,.oslice 2 l25.length 9],bS l25] ?_
  refine Goes.ret ?_
  obtain rfl:=si h
  exact(gw2 [.agg [.i x1,.oslice 2 l25.length 9]] (FzW.agg (qj.cons (FzW.still tI) (qj.cons (FzW.fz (Fz.os (E:=qd) rfl rfl (nl rfl))) qj.nil))))
def zI (N:Nat) (l:List qb):Nat→Int→(List qc)→Int→Option (Int×(List qc))
 |0,_,_,_=>none
 |K+1,n1,l2,n3=>
  if n3<(l.length:Int)then
  (idx l n3).bind fun x8=>
  (zg N (⟨n1,l2⟩:qp) x8).bind fun r9=>
  zI N l K r9.Day r9.Slings (w64 (n3+1))
  else
  some (n1,l2)
def za (N:Nat) (l:List qb):Option qp:=
 (zI N l N 0 ([]:List qc) 0).bind fun(n4,l5)=>
 some (⟨n4,l5⟩:qp)
theorem qbE (N:Nat) (l:List qb) {res:qp} (h:za N l=some res):qf Tryz.prog (.fn 31) [vl qa l] [] (.agg (kAm res.Day res.Slings)) []:=by
 unfold za at h
 refine Goes.fnW Tryz.func31 rfl rfl (m:=18) rfl (rs:=[.cell 2 28]) rfl (l:=(kH l [])) rfl ?_
 refine sg fol (kH l (kR [])) [bZ] ?_
 refine sg fol (kH l (kI [])) [bZ,bZ] ?_
 refine sq ?_
 refine sh fol (kH l (kI kBR)) ?_
 refine Goes.block ?_
 obtain⟨r6,g6,h⟩:=bnd h
 refine Goes.imp (Q:=fun x s'=>(x= .exit 0∧ ∃n4 l5,(n4,l5)=r6∧Sub s' (ofG 18 (kI []),(bZ::(kC n4 l5 []))))) ?_ ?_
 ·refine Goes.sub (s':=(ofG 18 (kH l (kI kBR)),[bZ,.cells [.i 0,vl qd ([]:List qc)]])) (Sub.norm [] [some 0,some 1] rfl rfl (.keep (.same (qw qa _)) (.kp (.kp (.keep (.same nI) .nil)))) (.kb rfl (.same sn) (.kb rfl (.cells (rc (.same nI) (rc (.nilv) rn))) .nil))) ?_
  refine Goes.loopS (fun M s=> ∃(n1:Int) (l2:List qc) (n3:Int),s=(ofG 18 (kH l (kI (kAq n3))),(bZ::(kC n1 l2 [])))∧zI N l M n1 l2 n3=some r6) ?_ (m:=N) ⟨_,_,_,rfl,g6⟩
  rintro M s ⟨n1,l2,n3,rfl,g6⟩
  cases M with
  |zero=>simp only[zI]at g6;cases g6
  |succ M=>
   rw[zI]at g6
   refine sq ?_
   refine sh fol (kH l (kI [(4,.i n3),(8,.bool (decide (n3<(l.length:Int))))])) ?_
   refine ihD g6 (fun c7 g6=>?_) (fun c7 g6=>?_)
   ·refine Goes.skip ?_
    refine sq (Goes.block ?_)
    obtain⟨x8,e_x8,g6⟩:=bnd g6
    obtain⟨r9,e_r9,g6⟩:=bnd g6
    refine gq fol [3,4,5] (kH l (kI (kAq n3))) (bZ::(kC r9.Day r9.Slings [])) (ac (iv zV qa e_x8) (ac (la qiv qa e_x8) (ac (cv (qgf N (⟨n1,l2⟩:qp) x8 e_r9)) az))) ?_
    refine gh fol (kH l (kI (kAq (w64 (n3+1))))) ?_
    exact⟨M,(ofG 18 (kH l (kI (kAq (w64 (n3+1))))),(bZ::(kC r9.Day r9.Slings []))),Nat.lt_succ_self _,(Sub.refl _),_,_,_,rfl,g6⟩
   ·refine Goes.exit ?_
    obtain rfl:=si g6
    exact⟨rfl,_,_,rfl,(Sub.keep [2,3] rfl rfl)⟩
 rintro x s' ⟨rfl,n4,l5,rfl,hsub⟩
 try dsimp only at h
 refine Goes.sub hsub ?_
 refine sg fol (kR []) (kC n4 l5 (kC n4 l5 [])) ?_
 refine Goes.ret ?_
 obtain rfl:=si h
 exact(gw2 [.agg (kAm n4 l5)] (FzW.agg (qj.cons (FzW.still tI) (qj.cons (FzW.still (ko qd _ (nl rfl))) qj.nil))))
def vC (s_:Str):Nat→Int→Option (Unit⊕Bool)
 |0,_=>none
 |K+1,n5=>
  if n5<(s_.length:Int)then
  (idx s_ n5).bind fun c9=>
  (if(c9.toNat:Int)≥97 then
  if(c9.toNat:Int)≤122 then
  some true
  else
  if(c9.toNat:Int)≥65 then
  some (decide ((c9.toNat:Int)≤90))
  else
  some false
  else
  if(c9.toNat:Int)≥65 then
  some (decide ((c9.toNat:Int)≤90))
  else
  some false:Option Bool).bind fun b14=>
  (if(!b14)=true then
  if n5=0 then
  some true
  else
  if(c9.toNat:Int)≥48 then
  if(c9.toNat:Int)≤57 then
  some false
  else
  some (!(decide ((c9.toNat:Int)=95)))
  else
  some (!(decide ((c9.toNat:Int)=95)))
  else
  some false:Option Bool).bind fun b20=>
  if b20=true then
  some (.inr false)
  else
  vC s_ K (w64 (n5+1))
  else
  some (.inl ())
def qao (N:Nat) (s_:Str):Option Bool:=
 (if(s_.length:Int)<1 then
 some true
 else
 some (decide ((s_.length:Int)>24)):Option Bool).bind fun b2=>
 if b2=true then
 some false
 else
 (vC s_ N 0).bind (fun
 |(.inl ())=>
 some true
 |(.inr q23)=>
 some q23)
theorem qfJ (N:Nat) (s_:Str) {res:Bool} (h:qao N s_=some res):qf Tryz.prog (.fn 52) [.str s_] [] (.bool res) []:=by
 unfold qao at h
 refine Goes.fnW Tryz.func52 rfl rfl (m:=56) rfl (rs:=[.tmp 2]) rfl (l:=(kBF s_)) rfl ?_
 refine sh fol (kBF s_) ?_
 refine sq ?_
 refine sq ?_
 obtain⟨b2,g_v3,h⟩:=bnd h
 refine Goes.cut (s':=(ofG 56 [(0,.str s_),(13,.bool b2)],[])) ?_ ?_
 ·rcases wyD g_v3 with⟨c1,g_v3⟩|⟨c1,g_v3⟩
  ·obtain rfl:=si g_v3
   exact tr fol [3] [(0,.str s_),(13,.bool true)] (ac (gw c1) az)
  ·obtain rfl:=si g_v3
   exact tr fol [3] [(0,.str s_),(13,.bool (decide ((s_.length:Int)>24)))] (ac (gw c1) az)
 refine ihB h (fun c4 h=>?_) (fun c4 h=>?_)
 ·refine sh fol kBf ?_
  refine Goes.ret ?_
  obtain rfl:=si h
  exact(gw2 [.bool false] (FzW.still tB))
 ·refine Goes.skip ?_
  refine sq ?_
  refine sh fol [(0,.str s_),(3,.i 0)] ?_
  refine Goes.block ?_
  obtain⟨r6,g6,h⟩:=bnd h
  refine Goes.imp (Q:=fun x s'=>(x= .exit 0∧(.inl ())=r6∧Sub s' (ofG 56 [],[]))∨(x= .ret∧ ∃q7,(.inr q7)=r6∧zy Tryz.prog [.tmp 2] (.bool q7) .ret s')) ?_ ?_
  ·refine Goes.loopS (fun M s=> ∃(n5:Int),s=(ofG 56 (kAQ s_ n5 []),[])∧vC s_ M n5=some r6) ?_ (m:=N) ⟨_,rfl,g6⟩
   rintro M s ⟨n5,rfl,g6⟩
   cases M with
   |zero=>simp only[vC]at g6;cases g6
   |succ M=>
    rw[vC]at g6
    refine sq ?_
    refine sh fol (kAQ s_ n5 [(17,.bool (decide (n5<(s_.length:Int))))]) ?_
    refine ihD g6 (fun c8 g6=>?_) (fun c8 g6=>?_)
    ·refine Goes.skip ?_
     refine sq (Goes.block ?_)
     obtain⟨c9,e_c9,g6⟩:=bnd g6
     refine sq (gr fol [2] (kAQ s_ n5 [(4,.int .u8 (c9.toNat:Int))]) (ac (hs (.done (.opt (qaa Tryz.prog 9 (.str s_) (.i n5))) (.int .u8 (c9.toNat:Int))) (qcJ st9 e_c9)) az) ?_)
     refine sq ?_
     obtain⟨b14,g_v15,g6⟩:=bnd g6
     refine Goes.cut (s':=(ofG 56 (kAQ s_ n5 [(4,.int .u8 (c9.toNat:Int)),(5,.bool b14)]),[])) ?_ ?_
     ·rcases wyD g_v15 with⟨c10,g_v15⟩|⟨c10,g_v15⟩
      ·rcases wyD g_v15 with⟨c11,g_v15⟩|⟨c11,g_v15⟩
       ·obtain rfl:=si g_v15
        exact tr fol [2,6] (kAQ s_ n5 [(4,.int .u8 (c9.toNat:Int)),(5,.bool true)]) (ac (gw c10) (ac (gw c11) az))
       ·rcases wyD g_v15 with⟨c12,g_v15⟩|⟨c12,g_v15⟩
        ·obtain rfl:=si g_v15
         exact tr fol [2,6,9] (kAQ s_ n5 [(4,.int .u8 (c9.toNat:Int)),(5,.bool (decide ((c9.toNat:Int)≤90)))]) (ac (gw c10) (ac (gw c11) (ac (gw c12) az)))
        ·obtain rfl:=si g_v15
         exact tr fol [2,6,9] (kAQ s_ n5 [(4,.int .u8 (c9.toNat:Int)),(5,.bool false)]) (ac (gw c10) (ac (gw c11) (ac (gw c12) az)))
      ·rcases wyD g_v15 with⟨c13,g_v15⟩|⟨c13,g_v15⟩
       ·obtain rfl:=si g_v15
        exact tr fol [2,9] (kAQ s_ n5 [(4,.int .u8 (c9.toNat:Int)),(5,.bool (decide ((c9.toNat:Int)≤90)))]) (ac (gw c10) (ac (gw c13) az))
       ·obtain rfl:=si g_v15
        exact tr fol [2,9] (kAQ s_ n5 [(4,.int .u8 (c9.toNat:Int)),(5,.bool false)]) (ac (gw c10) (ac (gw c13) az))
     refine sq ?_
     obtain⟨b20,g_v21,g6⟩:=bnd g6
     refine Goes.cut (s':=(ofG 56 (kAQ s_ n5 [(55,.bool b20)]),[])) ?_ ?_
     ·rcases wyB g_v21 with⟨c16,g_v21⟩|⟨c16,g_v21⟩
      ·rcases wyD g_v21 with⟨c17,g_v21⟩|⟨c17,g_v21⟩
       ·obtain rfl:=si g_v21
        exact tr fol [2,5] (kAQ s_ n5 [(55,.bool true)]) (ac (gw c16) (ac (gw c17) az))
       ·rcases wyD g_v21 with⟨c18,g_v21⟩|⟨c18,g_v21⟩
        ·rcases wyD g_v21 with⟨c19,g_v21⟩|⟨c19,g_v21⟩
         ·obtain rfl:=si g_v21
          exact tr fol [2,5,8,12] (kAQ s_ n5 [(55,.bool false)]) (ac (gw c16) (ac (gw c17) (ac (gw c18) (ac (gw c19) az))))
         ·obtain rfl:=si g_v21
          exact tr fol [2,5,8,12] (kAQ s_ n5 [(55,.bool (!(decide ((c9.toNat:Int)=95))))]) (ac (gw c16) (ac (gw c17) (ac (gw c18) (ac (gw c19) az))))
        ·obtain rfl:=si g_v21
         exact tr fol [2,5,8] (kAQ s_ n5 [(55,.bool (!(decide ((c9.toNat:Int)=95))))]) (ac (gw c16) (ac (gw c17) (ac (gw c18) az)))
      ·obtain rfl:=si g_v21
       exact tr fol [2] (kAQ s_ n5 [(55,.bool false)]) (ac (gw c16) az)
     refine ihB g6 (fun c22 g6=>?_) (fun c22 g6=>?_)
     ·refine sh fol kBf ?_
      refine Goes.ret ?_
      obtain rfl:=si g6
      exact Or.inr (⟨rfl,_,rfl,(gw2 [.bool false] (FzW.still tB))⟩)
     ·refine Goes.skip ?_
      refine gh fol (kAQ s_ (w64 (n5+1)) []) ?_
      exact⟨M,(ofG 56 (kAQ s_ (w64 (n5+1)) []),[]),Nat.lt_succ_self _,(Sub.refl _),_,rfl,g6⟩
    ·refine Goes.exit ?_
     obtain rfl:=si g6
     exact Or.inl (⟨rfl,rfl,(Sub.keep [] rfl rfl)⟩)
  rintro x s' (⟨rfl,rfl,hsub⟩|⟨rfl,q23,rfl,hret⟩)
  ·try dsimp only at h
   refine Goes.sub hsub ?_
   refine sh fol [(2,.bool true)] ?_
   refine Goes.ret ?_
   obtain rfl:=si h
   exact(gw2 [.bool true] (FzW.still tB))
  ·try dsimp only at h
   obtain rfl:=si h
   exact hret
def jo (n:Int) (low:Int) (high:Int):Option Bool:=
 (if n<low then
 some true
 else
 some (decide (n>high)):Option Bool).bind fun b2=>
 some b2
theorem ji (n:Int) (low:Int) (high:Int) {res:Bool} (h:jo n low high=some res):qf Tryz.prog (.fn 53) [.i n,.i low,.i high] [] (.bool res) []:=by
 unfold jo at h
 refine Goes.fnW Tryz.func53 rfl rfl (m:=15) rfl (rs:=[.tmp 6]) rfl (l:=(kBa n low [(2,.i high)])) rfl ?_
 refine sh fol (kBa n low [(2,.i high)]) ?_
 refine sq ?_
 obtain⟨b2,g_v3,h⟩:=bnd h
 refine Goes.cut (s':=(ofG 15 [(6,.bool b2)],[])) ?_ ?_
 ·rcases wyD g_v3 with⟨c1,g_v3⟩|⟨c1,g_v3⟩
  ·obtain rfl:=si g_v3
   exact tr fol [3] kBS (ac (gw c1) az)
  ·obtain rfl:=si g_v3
   exact tr fol [3] [(6,.bool (decide (n>high)))] (ac (gw c1) az)
 refine Goes.ret ?_
 obtain rfl:=si h
 exact(gw2 [.bool b2] (FzW.still tB))
def qby (kind:Str):Option (Int×Int×Bool):=
 if(kind==[109,97,107,101])=true then
 some (2,3,true)
 else
 ((if(kind==[116,101,115,116])=true then
 some (kind==[116,101,115,116])
 else
 some (kind==[117,115,101]):Option Bool)).bind fun b2=>
 if b2=true then
 some (1,2,true)
 else
 ((if(kind==[102,97,105,108])=true then
 some (kind==[102,97,105,108])
 else
 some (kind==[114,101,99,97,108,108]):Option Bool)).bind fun b6=>
 if b6=true then
 some (1,1,true)
 else
 if(kind==[117,110,100,111])=true then
 some (0,0,true)
 else
 some (0,0,false)
theorem qhd (kind:Str) {res:Int×Int×Bool} (h:qby kind=some res):qf Tryz.prog (.fn 100) [.str kind] [] (.tuple [.i res.1,.i res.2.1,.bool res.2.2]) []:=by
 unfold qby at h
 refine Goes.fnW Tryz.func100 rfl rfl (m:=16) rfl (rs:=[.tmp 2,.tmp 3,.tmp 4]) rfl (l:=(kBF kind)) rfl ?_
 refine sh fol (kBF kind) ?_
 refine sq ?_
 refine sh fol [(5,.str kind)] ?_
 refine Goes.block ?_
 refine sh fol [(5,.str kind),(6,.bool (kind==[109,97,107,101]))] ?_
 refine ihB h (fun c1 h=>?_) (fun c1 h=>?_)
 ·refine sh fol ((2,.i 2)::(3,.i 3)::kAi) ?_
  refine Goes.ret ?_
  obtain rfl:=si h
  exact(gw2 (.i 2:: .i 3::kA3) (FzW.tuple (qj.cons (FzW.still tI) (qj.cons (FzW.still tI) (qj.cons (FzW.still tB) qj.nil)))))
 ·refine sq ?_
  refine sh fol [(5,.str kind),(8,.bool (kind==[116,101,115,116]))] ?_
  obtain⟨r3,g3,h⟩:=bnd h
  refine Goes.imp (Q:=fun x s'=>(x= .normal∧ ∃b2,b2=r3∧Sub s' (ofG 16 [(5,.str kind),(8,.bool b2)],[]))) ?_ ?_
  ·refine ihB g3 (fun c4 g3=>?_) (fun c4 g3=>?_)
   ·refine Goes.skip ?_
    obtain rfl:=si g3
    exact⟨rfl,_,rfl,(Sub.refl _)⟩
   ·refine gh fol [(5,.str kind),(8,.bool (kind==[117,115,101]))] ?_
    obtain rfl:=si g3
    exact⟨rfl,_,rfl,(Sub.refl _)⟩
  rintro x s' ⟨rfl,b2,rfl,hsub⟩
  refine Goes.sub hsub ?_
  refine ihB h (fun c5 h=>?_) (fun c5 h=>?_)
  ·refine sh fol ((2,.i 1)::(3,.i 2)::kAi) ?_
   refine Goes.ret ?_
   obtain rfl:=si h
   exact(gw2 (.i 1:: .i 2::kA3) (FzW.tuple (qj.cons (FzW.still tI) (qj.cons (FzW.still tI) (qj.cons (FzW.still tB) qj.nil)))))
  ·refine sq ?_
   refine sh fol [(5,.str kind),(11,.bool (kind==[102,97,105,108]))] ?_
   obtain⟨r7,g7,h⟩:=bnd h
   refine Goes.imp (Q:=fun x s'=>(x= .normal∧ ∃b6,b6=r7∧Sub s' (ofG 16 [(5,.str kind),(11,.bool b6)],[]))) ?_ ?_
   ·refine ihB g7 (fun c8 g7=>?_) (fun c8 g7=>?_)
    ·refine Goes.skip ?_
     obtain rfl:=si g7
     exact⟨rfl,_,rfl,(Sub.refl _)⟩
    ·refine gh fol [(5,.str kind),(11,.bool (kind==[114,101,99,97,108,108]))] ?_
     obtain rfl:=si g7
     exact⟨rfl,_,rfl,(Sub.refl _)⟩
   rintro x s' ⟨rfl,b6,rfl,hsub⟩
   refine Goes.sub hsub ?_
   refine ihB h (fun c9 h=>?_) (fun c9 h=>?_)
   ·refine sh fol ((2,.i 1)::(3,.i 1)::kAi) ?_
    refine Goes.ret ?_
    obtain rfl:=si h
    exact(gw2 (.i 1:: .i 1::kA3) (FzW.tuple (qj.cons (FzW.still tI) (qj.cons (FzW.still tI) (qj.cons (FzW.still tB) qj.nil)))))
   ·refine sh fol [(14,.bool (kind==[117,110,100,111]))] ?_
    refine ihB h (fun c10 h=>?_) (fun c10 h=>?_)
    ·refine sh fol ((2,.i 0)::(3,.i 0)::kAi) ?_
     refine Goes.ret ?_
     obtain rfl:=si h
     exact(gw2 (.i 0:: .i 0::kA3) (FzW.tuple (qj.cons (FzW.still tI) (qj.cons (FzW.still tI) (qj.cons (FzW.still tB) qj.nil)))))
    ·refine Goes.skip ?_
     refine sh fol ((2,.i 0)::(3,.i 0)::kAf) ?_
     refine Goes.ret ?_
     obtain rfl:=si h
     exact(gw2 [.i 0,.i 0,.bool false] (FzW.tuple (qj.cons (FzW.still tI) (qj.cons (FzW.still tI) (qj.cons (FzW.still tB) qj.nil)))))
def zY (N:Nat) (e:qb) (r3:Int×Int×Bool):Nat→Int→Option (Unit⊕Int)
 |0,_=>none
 |K+1,n9=>
  if n9<r3.1 then
  (idx e.Names n9).bind fun x13=>
  (qao N x13).bind fun r14=>
  if(!r14)=true then
  some (.inr 8)
  else
  zY N e r3 K (w64 (n9+1))
  else
  some (.inl ())
def zW (e:qb) (r3:Int×Int×Bool):Nat→Int→Option (Unit⊕Int)
 |0,_=>none
 |K+1,n16=>
  if n16<r3.2.1 then
  (idx e.Values n16).bind fun x20=>
  (jo x20 0 999999999).bind fun r21=>
  if r21=true then
  some (.inr 3)
  else
  zW e r3 K (w64 (n16+1))
  else
  some (.inl ())
def yA (N:Nat) (e:qb):Option Int:=
 (jo e.Number 1 1000).bind fun r1=>
 if r1=true then
 some 3
 else
 (qby e.Kind).bind fun r3=>
 if(!r3.2.2)=true then
 some 13
 else
 (if(!decide ((e.Names.length:Int)=r3.1))=true then
 some true
 else
 some (!decide ((e.Values.length:Int)=r3.2.1)):Option Bool).bind fun b6=>
 if b6=true then
 some 2
 else
 (zY N e r3 N 0).bind (fun
 |(.inl ())=>
 (zW e r3 N 0).bind (fun
 |(.inl ())=>
 if(!(e.Text==[]))=true then
 some 1
 else
 some 0
 |(.inr q24)=>
 some q24)
 |(.inr q25)=>
 some q25)
theorem qdQ (N:Nat) (e:qb) {res:Int} (h:yA N e=some res):qf Tryz.prog (.fn 50) [.agg (cE e)] [] (.i res) []:=by
 unfold yA at h
 refine Goes.fnW Tryz.func50 rfl rfl (m:=58) rfl (rs:=[.tmp 2]) rfl (l:=[(0,.agg (cE e))]) rfl ?_
 refine sg fol (kV []) (kAE e) ?_
 refine sq ?_
 obtain⟨r1,e_r1,h⟩:=bnd h
 refine sq (gr fol [2] (kV (kBI r1)) (ac (cv (ji e.Number 1 1000 e_r1)) az) ?_)
 refine ihB h (fun c2 h=>?_) (fun c2 h=>?_)
 ·refine sh fol [(2,.i 3)] ?_
  refine Goes.ret ?_
  obtain rfl:=si h
  exact(gw2 [.i 3] (FzW.still tI))
 ·refine Goes.skip ?_
  obtain⟨r3,e_r3,h⟩:=bnd h
  refine sq (gr fol [2] (kV [(3,.i r3.1),(4,.i r3.2.1),(5,.bool r3.2.2)]) (ac (cv (qhd e.Kind e_r3)) az) ?_)
  refine sq ?_
  refine sh fol (kV [(3,.i r3.1),(4,.i r3.2.1),(19,.bool (!r3.2.2))]) ?_
  refine ihB h (fun c4 h=>?_) (fun c4 h=>?_)
  ·refine sh fol [(2,.i 13)] ?_
   refine Goes.ret ?_
   obtain rfl:=si h
   exact(gw2 [.i 13] (FzW.still tI))
  ·refine Goes.skip ?_
   refine sq ?_
   refine sq ?_
   obtain⟨b6,g_v7,h⟩:=bnd h
   refine Goes.cut (s':=(ofG 58 (kV [(3,.i r3.1),(4,.i r3.2.1),(31,.bool b6)]),(kAE e))) ?_ ?_
   ·rcases wyB g_v7 with⟨c5,g_v7⟩|⟨c5,g_v7⟩
    ·obtain rfl:=si g_v7
     exact tr fol [5] (kV [(3,.i r3.1),(4,.i r3.2.1),(31,.bool true)]) (ac (gw c5) az)
    ·obtain rfl:=si g_v7
     exact tr fol [5] (kV [(3,.i r3.1),(4,.i r3.2.1),(31,.bool (!decide ((e.Values.length:Int)=r3.2.1)))]) (ac (gw c5) az)
   refine ihB h (fun c8 h=>?_) (fun c8 h=>?_)
   ·refine sh fol [(2,.i 2)] ?_
    refine Goes.ret ?_
    obtain rfl:=si h
    exact(gw2 [.i 2] (FzW.still tI))
   ·refine Goes.skip ?_
    refine sq ?_
    refine sh fol (kV [(3,.i r3.1),(4,.i r3.2.1),(6,.i 0)]) ?_
    refine Goes.block ?_
    obtain⟨r10,g10,h⟩:=bnd h
    refine Goes.imp (Q:=fun x s'=>(x= .exit 0∧(.inl ())=r10∧Sub s' (ofG 58 (kV (kAq r3.2.1)),(kAE e)))∨(x= .ret∧ ∃q11,(.inr q11)=r10∧zy Tryz.prog [.tmp 2] (.i q11) .ret s')) ?_ ?_
    ·refine Goes.loopS (fun M s=> ∃(n9:Int),s=(ofG 58 (kV [(3,.i r3.1),(4,.i r3.2.1),(6,.i n9)]),(kAE e))∧zY N e r3 M n9=some r10) ?_ (m:=N) ⟨_,rfl,g10⟩
     rintro M s ⟨n9,rfl,g10⟩
     cases M with
     |zero=>simp only[zY]at g10;cases g10
     |succ M=>
      rw[zY]at g10
      refine sq ?_
      refine sh fol (kV [(3,.i r3.1),(4,.i r3.2.1),(6,.i n9),(34,.bool (decide (n9<r3.1)))]) ?_
      refine ihD g10 (fun c12 g10=>?_) (fun c12 g10=>?_)
      ·refine Goes.skip ?_
       refine sq (Goes.block ?_)
       obtain⟨x13,e_x13,g10⟩:=bnd g10
       obtain⟨r14,e_r14,g10⟩:=bnd g10
       refine sq (gr fol [3,4,5] (kV [(3,.i r3.1),(4,.i r3.2.1),(6,.i n9),(43,.bool (!r14))]) (ac (iv vV encS e_x13) (ac (lv 0 ce9 encS e_x13 rfl) (ac (cv (qfJ N x13 e_r14)) az))) ?_)
       refine ihB g10 (fun c15 g10=>?_) (fun c15 g10=>?_)
       ·refine sh fol [(2,.i 8)] ?_
        refine Goes.ret ?_
        obtain rfl:=si g10
        exact Or.inr (⟨rfl,_,rfl,(gw2 [.i 8] (FzW.still tI))⟩)
       ·refine Goes.skip ?_
        refine gh fol (kV [(3,.i r3.1),(4,.i r3.2.1),(6,.i (w64 (n9+1)))]) ?_
        exact⟨M,(ofG 58 (kV [(3,.i r3.1),(4,.i r3.2.1),(6,.i (w64 (n9+1)))]),(kAE e)),Nat.lt_succ_self _,(Sub.refl _),_,rfl,g10⟩
      ·refine Goes.exit ?_
       obtain rfl:=si g10
       exact Or.inl (⟨rfl,rfl,(Sub.keep [1,4] rfl rfl)⟩)
    rintro x s' (⟨rfl,rfl,hsub⟩|⟨rfl,q25,rfl,hret⟩)
    ·try dsimp only at h
     refine Goes.sub hsub ?_
     refine sq ?_
     refine sh fol (kV [(4,.i r3.2.1),(7,.i 0)]) ?_
     refine Goes.block ?_
     obtain⟨r17,g17,h⟩:=bnd h
     refine Goes.imp (Q:=fun x s'=>(x= .exit 2∧(.inl ())=r17∧Sub s' (ofG 58 (kV []),(kAE e)))∨(x= .ret∧ ∃q18,(.inr q18)=r17∧zy Tryz.prog [.tmp 2] (.i q18) .ret s')) ?_ ?_
     ·refine Goes.loopS (fun M s=> ∃(n16:Int),s=(ofG 58 (kV [(4,.i r3.2.1),(7,.i n16)]),(kAE e))∧zW e r3 M n16=some r17) ?_ (m:=N) ⟨_,rfl,g17⟩
      rintro M s ⟨n16,rfl,g17⟩
      cases M with
      |zero=>simp only[zW]at g17;cases g17
      |succ M=>
       rw[zW]at g17
       refine sq ?_
       refine sh fol (kV [(4,.i r3.2.1),(7,.i n16),(46,.bool (decide (n16<r3.2.1)))]) ?_
       refine ihD g17 (fun c19 g17=>?_) (fun c19 g17=>?_)
       ·refine Goes.skip ?_
        refine sq (Goes.block ?_)
        obtain⟨x20,e_x20,g17⟩:=bnd g17
        obtain⟨r21,e_r21,g17⟩:=bnd g17
        refine sq (gr fol [3,4,5] (kV [(4,.i r3.2.1),(7,.i n16),(54,.bool r21)]) (ac (iv yX encI e_x20) (ac (lv 0 ce3 encI e_x20 rfl) (ac (cv (ji x20 0 999999999 e_r21)) az))) ?_)
        refine ihB g17 (fun c22 g17=>?_) (fun c22 g17=>?_)
        ·refine sh fol [(2,.i 3)] ?_
         refine Goes.ret ?_
         obtain rfl:=si g17
         exact Or.inr (⟨rfl,_,rfl,(gw2 [.i 3] (FzW.still tI))⟩)
        ·refine Goes.skip ?_
         refine gh fol (kV [(4,.i r3.2.1),(7,.i (w64 (n16+1)))]) ?_
         exact⟨M,(ofG 58 (kV [(4,.i r3.2.1),(7,.i (w64 (n16+1)))]),(kAE e)),Nat.lt_succ_self _,(Sub.refl _),_,rfl,g17⟩
       ·refine Goes.exit ?_
        obtain rfl:=si g17
        exact Or.inl (⟨rfl,rfl,(Sub.keep [1] rfl rfl)⟩)
     rintro x s' (⟨rfl,rfl,hsub⟩|⟨rfl,q24,rfl,hret⟩)
     ·try dsimp only at h
      refine Goes.sub hsub ?_
      refine sq ?_
      refine sh fol [(57,.bool (!(e.Text==[])))] ?_
      refine ihB h (fun c23 h=>?_) (fun c23 h=>?_)
      ·refine sh fol [(2,.i 1)] ?_
       refine Goes.ret ?_
       obtain rfl:=si h
       exact(gw2 [.i 1] (FzW.still tI))
      ·refine Goes.skip ?_
       refine sh fol [(2,.i 0)] ?_
       refine Goes.ret ?_
       obtain rfl:=si h
       exact(gw2 [.i 0] (FzW.still tI))
     ·try dsimp only at h
      obtain rfl:=si h
      exact hret
    ·try dsimp only at h
     obtain rfl:=si h
     exact hret
def xm (r:qp) (name:Str):Nat→Int→Option (Unit⊕Int)
 |0,_=>none
 |K+1,n1=>
  if n1<(r.Slings.length:Int)then
  (idx r.Slings n1).bind fun x5=>
  if(x5.Name==name)=true then
  some (.inr n1)
  else
  xm r name K (w64 (n1+1))
  else
  some (.inl ())
def qdt (N:Nat) (r:qp) (name:Str):Option Int:=
 (xm r name N 0).bind (fun
 |(.inl ())=>
 some (-1)
 |(.inr q7)=>
 some q7)
theorem qjD (N:Nat) (r:qp) (name:Str) {res:Int} (h:qdt N r name=some res):qf Tryz.prog (.fn 101) (kAO r.Day r.Slings [.str name]) [] (.i res) []:=by
 unfold qdt at h
 refine Goes.fnW Tryz.func101 rfl rfl (m:=22) rfl (rs:=[.tmp 4]) rfl (l:=(kBX r.Day r.Slings [(1,.str name)])) rfl ?_
 refine sg fol ((1,.str name)::(kR [])) (kC r.Day r.Slings []) ?_
 refine sq ?_
 refine sh fol ((1,.str name)::(kR kBe)) ?_
 refine Goes.block ?_
 obtain⟨r2,g2,h⟩:=bnd h
 refine Goes.imp (Q:=fun x s'=>(x= .exit 0∧(.inl ())=r2∧Sub s' (ofG 22 [],[]))∨(x= .ret∧ ∃q3,(.inr q3)=r2∧zy Tryz.prog [.tmp 4] (.i q3) .ret s')) ?_ ?_
 ·refine Goes.loopS (fun M s=> ∃(n1:Int),s=(ofG 22 ((1,.str name)::(kR (kAn n1))),(kC r.Day r.Slings []))∧xm r name M n1=some r2) ?_ (m:=N) ⟨_,rfl,g2⟩
  rintro M s ⟨n1,rfl,g2⟩
  cases M with
  |zero=>simp only[xm]at g2;cases g2
  |succ M=>
   rw[xm]at g2
   refine sq ?_
   refine sh fol ((1,.str name)::(kR ((5,.i n1)::(kBI (decide (n1<(r.Slings.length:Int))))))) ?_
   refine ihD g2 (fun c4 g2=>?_) (fun c4 g2=>?_)
   ·refine Goes.skip ?_
    refine sq (Goes.block ?_)
    obtain⟨x5,e_x5,g2⟩:=bnd g2
    refine sq (gr fol [3,5] ((1,.str name)::(kR [(5,.i n1),(20,.bool (x5.Name==name))])) (ac (iv qcw qd e_x5) (ac (lv 0 ce9 qd e_x5 rfl) az)) ?_)
    refine ihB g2 (fun c6 g2=>?_) (fun c6 g2=>?_)
    ·refine sh fol (kAq n1) ?_
     refine Goes.ret ?_
     obtain rfl:=si g2
     exact Or.inr (⟨rfl,_,rfl,(gw2 [.i n1] (FzW.still tI))⟩)
    ·refine Goes.skip ?_
     refine gh fol ((1,.str name)::(kR (kAn (w64 (n1+1))))) ?_
     exact⟨M,(ofG 22 ((1,.str name)::(kR (kAn (w64 (n1+1))))),(kC r.Day r.Slings [])),Nat.lt_succ_self _,(Sub.refl _),_,rfl,g2⟩
   ·refine Goes.exit ?_
    obtain rfl:=si g2
    exact Or.inl (⟨rfl,rfl,(Sub.norm [] [] rfl rfl .nil .nil)⟩)
 rintro x s' (⟨rfl,rfl,hsub⟩|⟨rfl,q7,rfl,hret⟩)
 ·try dsimp only at h
  refine Goes.sub hsub ?_
  refine sh fol [(4,.i (-1))] ?_
  refine Goes.ret ?_
  obtain rfl:=si h
  exact(gw2 [.i (-1)] (FzW.still tI))
 ·try dsimp only at h
  obtain rfl:=si h
  exact hret
def yR (s_:qc) (day:Int):Option Bool:=
 (if s_.Gone=true then
 some true
 else
 if day>s_.Last then
 some true
 else
 some (decide (s_.Used=s_.Uses)):Option Bool).bind fun b3=>
 some b3
theorem qcd (s_:qc) (day:Int) {res:Bool} (h:yR s_ day=some res):qf Tryz.prog (.fn 102) [.agg (cS s_),.i day] [] (.bool res) []:=by
 unfold yR at h
 refine Goes.fnW Tryz.func102 rfl rfl (m:=20) rfl (rs:=[.tmp 4]) rfl (l:=[(0,.agg (cS s_)),(1,.i day)]) rfl ?_
 refine sg fol ((1,.i day)::(kR [])) (kBJ s_) ?_
 refine sq ?_
 obtain⟨b3,g_v4,h⟩:=bnd h
 refine Goes.cut (s':=(ofG 20 (kBM b3),(kBJ s_))) ?_ ?_
 ·rcases wyB g_v4 with⟨c1,g_v4⟩|⟨c1,g_v4⟩
  ·obtain rfl:=si g_v4
   exact tr fol [2] kAi (ac (gw c1) az)
  ·rcases wyD g_v4 with⟨c2,g_v4⟩|⟨c2,g_v4⟩
   ·obtain rfl:=si g_v4
    exact tr fol [2,8] kAi (ac (gw c1) (ac (gw c2) az))
   ·obtain rfl:=si g_v4
    exact tr fol [2,8] (kBM (decide (s_.Used=s_.Uses))) (ac (gw c1) (ac (gw c2) az))
 refine Goes.ret ?_
 obtain rfl:=si h
 exact(gw2 [.bool b3] (FzW.still tB))
def qah (s_:qc) (day:Int):Option Bool:=
 (if s_.Limit>0 then
 some (decide (day≤s_.Until))
 else
 some false:Option Bool).bind fun b2=>
 some b2
theorem qgZ (s_:qc) (day:Int) {res:Bool} (h:qah s_ day=some res):qf Tryz.prog (.fn 103) [.agg (cS s_),.i day] [] (.bool res) []:=by
 unfold qah at h
 refine Goes.fnW Tryz.func103 rfl rfl (m:=14) rfl (rs:=[.tmp 4]) rfl (l:=[(0,.agg (cS s_)),(1,.i day)]) rfl ?_
 refine sg fol ((1,.i day)::(kR [])) (kBJ s_) ?_
 refine sq ?_
 obtain⟨b2,g_v3,h⟩:=bnd h
 refine Goes.cut (s':=(ofG 14 (kBM b2),(kBJ s_))) ?_ ?_
 ·rcases wyD g_v3 with⟨c1,g_v3⟩|⟨c1,g_v3⟩
  ·obtain rfl:=si g_v3
   exact tr fol [3] (kBM (decide (day≤s_.Until))) (ac (gw c1) az)
  ·obtain rfl:=si g_v3
   exact tr fol [3] kAf (ac (gw c1) az)
 refine Goes.ret ?_
 obtain rfl:=si h
 exact(gw2 [.bool b2] (FzW.still tB))
def kw (r:qp) (e:qb) (x1:Int):Nat→Bool→Bool→Int→Option (Bool×Bool)
 |0,_,_,_=>none
 |K+1,b19,b20,n21=>
  if n21<(r.Slings.length:Int)then
  (((idx r.Slings n21).bind fun x29=>
  (idx e.Names 0).bind fun x30=>
  if(x29.Batch==x30)=true then
  (if b20=true then
  some true
  else
  (yR x29 x1).bind fun r33=>
  some (!r33):Option Bool).bind fun b34=>
  some (true,b34)
  else
  some (b19,b20):Option (Bool×Bool))).bind fun(b26,b27)=>
  kw r e x1 K b26 b27 (w64 (n21+1))
  else
  some (b19,b20)
def zf (N:Nat) (r:qp) (e:qb):Option Int:=
 (idx e.Values 0).bind fun x1=>
 if x1>99999 then
 some 3
 else
 if x1<r.Day then
 some 19
 else
 (idx e.Names 0).bind fun x4=>
 (qdt N r x4).bind fun r5=>
 if(e.Kind==[109,97,107,101])=true then
 if r5≥0 then
 some 9
 else
 ((idx e.Values 1).bind fun x8=>
 (jo x8 1 9999).bind fun r9=>
 if r9=true then
 some true
 else
 (idx e.Values 2).bind fun x11=>
 (jo x11 1 9999).bind fun r12=>
 if r12=true then
 some true
 else
 some (decide ((w64 (x1+x8))>99999)):Option Bool).bind fun b14=>
 if b14=true then
 some 3
 else
 if(r.Slings.length:Int)≥256 then
 some 5
 else
 some 0
 else
 if(e.Kind==[114,101,99,97,108,108])=true then
 (kw r e x1 N false false 0).bind fun(b22,b23)=>
 if(!b22)=true then
 some 10
 else
 if(!b23)=true then
 some 20
 else
 some 0
 else
 if r5<0 then
 some 10
 else
 (idx r.Slings r5).bind fun x39=>
 (yR x39 x1).bind fun r40=>
 if r40=true then
 some 20
 else
 (if(e.Kind==[116,101,115,116])=true then
 (idx e.Values 1).bind fun x43=>
 (jo x43 2 999999999).bind fun r44=>
 some r44
 else
 some false:Option Bool).bind fun b45=>
 if b45=true then
 some 3
 else
 ((if(e.Kind==[117,115,101])=true then
 (qah x39 x1).bind fun r51=>
 if(!r51)=true then
 some (.inr 24)
 else
 (idx e.Values 1).bind fun x53=>
 if x53>x39.Limit then
 some (.inr 31)
 else
 some (.inl ())
 else
 some (.inl ()):Option (Unit⊕Int))).bind (fun
 |(.inl ())=>
 some 0
 |(.inr q55)=>
 some q55)
theorem qfd (N:Nat) (r:qp) (e:qb) {res:Int} (h:zf N r e=some res):qf Tryz.prog (.fn 51) (kAO r.Day r.Slings [.agg (cE e)]) [] (.i res) []:=by
 unfold zf at h
 refine Goes.fnW Tryz.func51 rfl rfl (m:=127) rfl (rs:=[.tmp 4]) rfl (l:=(kBX r.Day r.Slings [(1,.agg (cE e))])) rfl ?_
 refine sg fol (kI []) (kC r.Day r.Slings (kAE e)) ?_
 obtain⟨x1,e_x1,h⟩:=bnd h
 refine sq (gr fol [2,3] (kI (kAn x1)) (ac (iv yX encI e_x1) (ac (lv 0 ce3 encI e_x1 rfl) az)) ?_)
 refine sq ?_
 refine sh fol (kI [(5,.i x1),(16,.bool (decide (x1>99999)))]) ?_
 refine ihD h (fun c2 h=>?_) (fun c2 h=>?_)
 ·refine sh fol [(4,.i 3)] ?_
  refine Goes.ret ?_
  obtain rfl:=si h
  exact(gw2 [.i 3] (FzW.still tI))
 ·refine Goes.skip ?_
  refine sq ?_
  refine sh fol (kI [(5,.i x1),(20,.bool (decide (x1<r.Day)))]) ?_
  refine ihD h (fun c3 h=>?_) (fun c3 h=>?_)
  ·refine sh fol [(4,.i 19)] ?_
   refine Goes.ret ?_
   obtain rfl:=si h
   exact(gw2 [.i 19] (FzW.still tI))
  ·refine Goes.skip ?_
   obtain⟨x4,e_x4,h⟩:=bnd h
   obtain⟨r5,e_r5,h⟩:=bnd h
   refine sq (gr fol [3,4,5] (kI (kBk x1 r5 [])) (ac (iv vV encS e_x4) (ac (lv 0 ce9 encS e_x4 rfl) (ac (cv (qjD N r x4 e_r5)) az))) ?_)
   refine sq ?_
   refine sh fol (kI (kBk x1 r5 [(28,.str e.Kind)])) ?_
   refine Goes.block ?_
   refine sh fol (kI (kBk x1 r5 [(28,.str e.Kind),(29,.bool (e.Kind==[109,97,107,101]))])) ?_
   refine ihB h (fun c6 h=>?_) (fun c6 h=>?_)
   ·refine sq ?_
    refine sh fol (kI [(5,.i x1),(32,.bool (decide (r5≥0)))]) ?_
    refine ihD h (fun c7 h=>?_) (fun c7 h=>?_)
    ·refine sh fol [(4,.i 9)] ?_
     refine Goes.ret ?_
     obtain rfl:=si h
     exact(gw2 [.i 9] (FzW.still tI))
    ·refine Goes.skip ?_
     refine sq ?_
     refine sq ?_
     obtain⟨b14,g_v15,h⟩:=bnd h
     refine Goes.cut (s':=(ofG 127 (kR [(53,.bool b14)]),(kC r.Day r.Slings (kAE e)))) ?_ ?_
     ·obtain⟨x8,e_x8,g_v15⟩:=bnd g_v15
      obtain⟨r9,e_r9,g_v15⟩:=bnd g_v15
      rcases wyB g_v15 with⟨c10,g_v15⟩|⟨c10,g_v15⟩
      ·obtain rfl:=si g_v15
       exact tr fol [2,3,4,5] (kR [(53,.bool true)]) (ac (iv yX encI e_x8) (ac (lv 0 ce3 encI e_x8 rfl) (ac (cv (ji x8 1 9999 e_r9)) (ac (gw c10) az))))
      ·obtain⟨x11,e_x11,g_v15⟩:=bnd g_v15
       obtain⟨r12,e_r12,g_v15⟩:=bnd g_v15
       rcases wyB g_v15 with⟨c13,g_v15⟩|⟨c13,g_v15⟩
       ·obtain rfl:=si g_v15
        exact tr fol [2,3,4,5,8,9,10,12] (kR [(53,.bool true)]) (ac (iv yX encI e_x8) (ac (lv 0 ce3 encI e_x8 rfl) (ac (cv (ji x8 1 9999 e_r9)) (ac (gw c10) (ac (iv yX encI e_x11) (ac (lv 0 ce3 encI e_x11 rfl) (ac (cv (ji x11 1 9999 e_r12)) (ac (gw c13) az))))))))
       ·obtain rfl:=si g_v15
        exact tr fol [2,3,4,5,8,9,10,12,16,17] (kR [(53,.bool (decide ((w64 (x1+x8))>99999)))]) (ac (iv yX encI e_x8) (ac (lv 0 ce3 encI e_x8 rfl) (ac (cv (ji x8 1 9999 e_r9)) (ac (gw c10) (ac (iv yX encI e_x11) (ac (lv 0 ce3 encI e_x11 rfl) (ac (cv (ji x11 1 9999 e_r12)) (ac (gw c13) (ac (iv yX encI e_x8) (ac (lv 0 ce3 encI e_x8 rfl) az))))))))))
     refine ihB h (fun c16 h=>?_) (fun c16 h=>?_)
     ·refine sh fol [(4,.i 3)] ?_
      refine Goes.ret ?_
      obtain rfl:=si h
      exact(gw2 [.i 3] (FzW.still tI))
     ·refine Goes.skip ?_
      refine sq ?_
      refine sh fol [(57,.bool (decide ((r.Slings.length:Int)≥256)))] ?_
      refine ihD h (fun c17 h=>?_) (fun c17 h=>?_)
      ·refine sh fol [(4,.i 5)] ?_
       refine Goes.ret ?_
       obtain rfl:=si h
       exact(gw2 [.i 5] (FzW.still tI))
      ·refine Goes.skip ?_
       refine sh fol kBR ?_
       refine Goes.ret ?_
       obtain rfl:=si h
       exact(gw2 [.i 0] (FzW.still tI))
   ·refine sh fol (kI (kBk x1 r5 [(58,.bool (e.Kind==[114,101,99,97,108,108]))])) ?_
    refine ihB h (fun c18 h=>?_) (fun c18 h=>?_)
    ·refine sh fol (kI [(5,.i x1),(7,.bool false),(8,.bool false)]) ?_
     refine sq ?_
     refine sh fol (kI [(5,.i x1),(7,.bool false),(8,.bool false),(9,.i 0)]) ?_
     refine Goes.block ?_
     obtain⟨r24,g24,h⟩:=bnd h
     refine Goes.imp (Q:=fun x s'=>(x= .exit 1∧ ∃b22 b23,(b22,b23)=r24∧Sub s' (ofG 127 [(7,.bool b22),(8,.bool b23)],[]))) ?_ ?_
     ·refine Goes.loopS (fun M s=> ∃(b19:Bool) (b20:Bool) (n21:Int),s=(ofG 127 (kI (kBP x1 b19 b20 n21 [])),(kC r.Day r.Slings (kAE e)))∧kw r e x1 M b19 b20 n21=some r24) ?_ (m:=N) ⟨_,_,_,rfl,g24⟩
      rintro M s ⟨b19,b20,n21,rfl,g24⟩
      cases M with
      |zero=>simp only[kw]at g24;cases g24
      |succ M=>
       rw[kw]at g24
       refine sq ?_
       refine sh fol (kI (kBP x1 b19 b20 n21 [(64,.bool (decide (n21<(r.Slings.length:Int))))])) ?_
       refine ihD g24 (fun c25 g24=>?_) (fun c25 g24=>?_)
       ·refine Goes.skip ?_
        refine sq ?_
        obtain⟨r28,g28,g24⟩:=bnd g24
        refine Goes.imp (Q:=fun x s'=>(x= .normal∧ ∃b26 b27,(b26,b27)=r28∧Sub s' (ofG 127 (kI (kBP x1 b26 b27 n21 [])),(kC r.Day r.Slings (kAE e))))) ?_ ?_
        ·refine Goes.block ?_
         obtain⟨x29,e_x29,g28⟩:=bnd g28
         obtain⟨x30,e_x30,g28⟩:=bnd g28
         refine sq (gr fol [3,5,8,9] (kI (kBP x1 b19 b20 n21 [(77,.bool (x29.Batch==x30))])) (ac (iv qcw qd e_x29) (ac (lv 1 ce9 qd e_x29 rfl) (ac (iv vV encS e_x30) (ac (lv 0 ce9 encS e_x30 rfl) az)))) ?_)
         refine ihB g28 (fun c31 g28=>?_) (fun c31 g28=>?_)
         ·refine sh fol (kI [(5,.i x1),(7,.bool true),(8,.bool b20),(9,.i n21)]) ?_
          obtain⟨b34,g_v35,g28⟩:=bnd g28
          refine Goes.cut (s':=(ofG 127 (kI [(5,.i x1),(7,.bool true),(8,.bool b34),(9,.i n21)]),(kC r.Day r.Slings (kAE e)))) ?_ ?_
          ·rcases wyB g_v35 with⟨c32,g_v35⟩|⟨c32,g_v35⟩
           ·obtain rfl:=si g_v35
            exact tr fol [1] (kI [(5,.i x1),(7,.bool true),(8,.bool true),(9,.i n21)]) (ac (gw c32) az)
           ·obtain⟨r33,e_r33,g_v35⟩:=bnd g_v35
            obtain rfl:=si g_v35
            exact tr fol [1,5,6,8] (kI [(5,.i x1),(7,.bool true),(8,.bool (!r33)),(9,.i n21)]) (ac (gw c32) (ac (iv qcw qd e_x29) (ac (la qox qd e_x29) (ac (cv (qcd x29 x1 e_r33)) az))))
          obtain rfl:=si g28
          exact⟨rfl,_,_,rfl,(Sub.refl _)⟩
         ·refine Goes.skip ?_
          obtain rfl:=si g28
          exact⟨rfl,_,_,rfl,(Sub.keep [2,3,5,7,8,9] rfl rfl)⟩
        rintro x s' ⟨rfl,b26,b27,rfl,hsub⟩
        try dsimp only at g24
        refine Goes.sub hsub ?_
        refine gh fol (kI (kBP x1 b26 b27 (w64 (n21+1)) [])) ?_
        exact⟨M,(ofG 127 (kI (kBP x1 b26 b27 (w64 (n21+1)) [])),(kC r.Day r.Slings (kAE e))),Nat.lt_succ_self _,(Sub.refl _),_,_,_,rfl,g24⟩
       ·refine Goes.exit ?_
        obtain rfl:=si g24
        exact⟨rfl,_,_,rfl,(Sub.norm [] [] rfl rfl (.drop (.drop (.drop (.keep (.same nB) (.keep (.same nB) .nil))))) .nil)⟩
     rintro x s' ⟨rfl,b22,b23,rfl,hsub⟩
     try dsimp only at h
     refine Goes.sub hsub ?_
     refine sq ?_
     refine sh fol [(8,.bool b23),(90,.bool (!b22))] ?_
     refine ihB h (fun c36 h=>?_) (fun c36 h=>?_)
     ·refine sh fol [(4,.i 10)] ?_
      refine Goes.ret ?_
      obtain rfl:=si h
      exact(gw2 [.i 10] (FzW.still tI))
     ·refine Goes.skip ?_
      refine sq ?_
      refine sh fol [(92,.bool (!b23))] ?_
      refine ihB h (fun c37 h=>?_) (fun c37 h=>?_)
      ·refine sh fol [(4,.i 20)] ?_
       refine Goes.ret ?_
       obtain rfl:=si h
       exact(gw2 [.i 20] (FzW.still tI))
      ·refine Goes.skip ?_
       refine sh fol kBR ?_
       refine Goes.ret ?_
       obtain rfl:=si h
       exact(gw2 [.i 0] (FzW.still tI))
    ·refine Goes.skip ?_
     refine sq ?_
     refine sh fol (kI (kBk x1 r5 [(94,.bool (decide (r5<0)))])) ?_
     refine ihD h (fun c38 h=>?_) (fun c38 h=>?_)
     ·refine sh fol [(4,.i 10)] ?_
      refine Goes.ret ?_
      obtain rfl:=si h
      exact(gw2 [.i 10] (FzW.still tI))
     ·refine Goes.skip ?_
      obtain⟨x39,e_x39,h⟩:=bnd h
      refine sq (gq fol [3,4] (kA2 x1 []) (kC r.Day r.Slings (kA0 e (kBJ x39))) (ac (iv qcw qd e_x39) (ac (la qox qd e_x39) az)) ?_)
      refine sq ?_
      obtain⟨r40,e_r40,h⟩:=bnd h
      refine sq (gr fol [2] (kA2 x1 [(102,.bool r40)]) (ac (cv (qcd x39 x1 e_r40)) az) ?_)
      refine ihB h (fun c41 h=>?_) (fun c41 h=>?_)
      ·refine sh fol [(4,.i 20)] ?_
       refine Goes.ret ?_
       obtain rfl:=si h
       exact(gw2 [.i 20] (FzW.still tI))
      ·refine Goes.skip ?_
       refine sq ?_
       refine sq ?_
       obtain⟨b45,g_v46,h⟩:=bnd h
       refine Goes.cut (s':=(ofG 127 (kA2 x1 [(112,.bool b45)]),(kC r.Day r.Slings (kA0 e (kBJ x39))))) ?_ ?_
       ·rcases wyB g_v46 with⟨c42,g_v46⟩|⟨c42,g_v46⟩
        ·obtain⟨x43,e_x43,g_v46⟩:=bnd g_v46
         obtain⟨r44,e_r44,g_v46⟩:=bnd g_v46
         obtain rfl:=si g_v46
         exact tr fol [3,6,7,8] (kA2 x1 [(112,.bool r44)]) (ac (gw c42) (ac (iv yX encI e_x43) (ac (lv 0 ce3 encI e_x43 rfl) (ac (cv (ji x43 2 999999999 e_r44)) az))))
        ·obtain rfl:=si g_v46
         exact tr fol [3] (kA2 x1 [(112,.bool false)]) (ac (gw c42) az)
       refine ihB h (fun c47 h=>?_) (fun c47 h=>?_)
       ·refine sh fol [(4,.i 3)] ?_
        refine Goes.ret ?_
        obtain rfl:=si h
        exact(gw2 [.i 3] (FzW.still tI))
       ·refine Goes.skip ?_
        refine sq ?_
        refine sh fol (kA2 x1 [(115,.bool (e.Kind==[117,115,101]))]) ?_
        obtain⟨r48,g48,h⟩:=bnd h
        refine Goes.imp (Q:=fun x s'=>(x= .normal∧(.inl ())=r48∧Sub s' (ofG 127 [],[]))∨(x= .ret∧ ∃q49,(.inr q49)=r48∧zy Tryz.prog [.tmp 4] (.i q49) .ret s')) ?_ ?_
        ·refine ihB g48 (fun c50 g48=>?_) (fun c50 g48=>?_)
         ·refine sq ?_
          obtain⟨r51,e_r51,g48⟩:=bnd g48
          refine sq (gr fol [2] [(3,.ptr 1 0),(10,.ptr 2 0),(119,.bool (!r51))] (ac (cv (qgZ x39 x1 e_r51)) az) ?_)
          refine ihB g48 (fun c52 g48=>?_) (fun c52 g48=>?_)
          ·refine sh fol [(4,.i 24)] ?_
           refine Goes.ret ?_
           obtain rfl:=si g48
           exact Or.inr (⟨rfl,_,rfl,(gw2 [.i 24] (FzW.still tI))⟩)
          ·refine Goes.skip ?_
           obtain⟨x53,e_x53,g48⟩:=bnd g48
           refine sq (gr fol [2,3] [(126,.bool (decide (x53>x39.Limit)))] (ac (iv yX encI e_x53) (ac (lv 0 ce3 encI e_x53 rfl) az)) ?_)
           refine ihD g48 (fun c54 g48=>?_) (fun c54 g48=>?_)
           ·refine sh fol [(4,.i 31)] ?_
            refine Goes.ret ?_
            obtain rfl:=si g48
            exact Or.inr (⟨rfl,_,rfl,(gw2 [.i 31] (FzW.still tI))⟩)
           ·refine Goes.skip ?_
            obtain rfl:=si g48
            exact Or.inl (⟨rfl,rfl,(Sub.norm [] [] rfl rfl .nil .nil)⟩)
         ·refine Goes.skip ?_
          obtain rfl:=si g48
          exact Or.inl (⟨rfl,rfl,(Sub.norm [] [] rfl rfl .nil .nil)⟩)
        rintro x s' (⟨rfl,rfl,hsub⟩|⟨rfl,q55,rfl,hret⟩)
        ·try dsimp only at h
         refine Goes.sub hsub ?_
         refine sh fol kBR ?_
         refine Goes.ret ?_
         obtain rfl:=si h
         exact(gw2 [.i 0] (FzW.still tI))
        ·try dsimp only at h
         obtain rfl:=si h
         exact hret
def zT (N:Nat) (l:List qb):Nat→(List qb)→Int→Option ((List qb)⊕((List qb)×Int×Int))
 |0,_,_=>none
 |K+1,l1,n2=>
  if n2<(l.length:Int)then
  (((idx l n2).bind fun x10=>
  (yA N x10).bind fun r11=>
  (if r11=0 then
  some (!decide (x10.Number=(w64 (n2+1))))
  else
  some false:Option Bool).bind fun b13=>
  ((if b13=true then
  some 11
  else
  some r11:Option Int)).bind fun n15=>
  (if n15=0 then
  if(x10.Kind==[117,110,100,111])=true then
  some (decide ((l1.length:Int)=0))
  else
  some false
  else
  some false:Option Bool).bind fun b20=>
  ((if b20=true then
  some 12
  else
  some n15:Option Int)).bind fun n22=>
  (if n22=0 then
  some (!(x10.Kind==[117,110,100,111]))
  else
  some false:Option Bool).bind fun b26=>
  ((if b26=true then
  (za N l1).bind fun r31=>
  (zf N r31 x10).bind fun r32=>
  some r32
  else
  some n22:Option Int)).bind fun n28=>
  if(!decide (n28=0))=true then
  some (.inr ([],w64 (n2+1),n28))
  else
  if(x10.Kind==[117,110,100,111])=true then
  (cut l1 0 (w64 ((l1.length:Int)-1))).bind fun s35=>
  some (.inl s35)
  else
  (app 88 ([]:List qb) l1).bind fun l36=>
  (app 88 l36 [x10]).bind fun l37=>
  some (.inl l37):Option ((List qb)⊕((List qb)×Int×Int)))).bind (fun
  |(.inl l7)=>
  zT N l K l7 (w64 (n2+1))
  |(.inr q38)=>
  some (.inr q38))
  else
  some (.inl l1)
def yg (N:Nat) (l:List qb):Option ((List qb)×Int×Int):=
 (zT N l N ([]:List qb) 0).bind (fun
 |(.inl l3)=>
 some (l3,0,0)
 |(.inr q39)=>
 some q39)
theorem qcn (N:Nat) (l:List qb) {res:(List qb)×Int×Int} (h:yg N l=some res):qf Tryz.prog (.fn 15) [vl qa l] [] (.tuple [vl qa res.1,.i res.2.1,.i res.2.2]) []:=by
 unfold yg at h
 refine Goes.fnW Tryz.func15 rfl rfl (m:=82) rfl (rs:=[.tmp 2,.tmp 3,.tmp 4]) rfl (l:=(kH l [])) rfl ?_
 refine sh fol (kH l []) ?_
 refine sh fol (kH l [(5,.nilslice)]) ?_
 refine sq ?_
 refine sh fol (kH l [(5,.nilslice),(6,.i 0)]) ?_
 refine Goes.block ?_
 obtain⟨r4,g4,h⟩:=bnd h
 refine Goes.imp (Q:=fun x s'=>(x= .exit 0∧ ∃l3,(.inl l3)=r4∧Sub s' (ofG 82 [(5,vl qa l3)],[]))∨(x= .ret∧ ∃q5,(.inr q5)=r4∧zy Tryz.prog [.tmp 2,.tmp 3,.tmp 4] (.tuple [vl qa q5.1,.i q5.2.1,.i q5.2.2]) .ret s')) ?_ ?_
 ·refine Goes.sub (s':=(ofG 82 (kH l [(5,vl qa ([]:List qb)),(6,.i 0)]),[])) (Sub.norm [] [] rfl rfl (.keep (.same (qw qa _)) (.keep .nilv (.keep (.same nI) .nil))) .nil) ?_
  refine Goes.loopS (fun M s=> ∃(l1:List qb) (n2:Int),s=(ofG 82 (kH l (kX l1 n2 [])),[])∧zT N l M l1 n2=some r4) ?_ (m:=N) ⟨_,_,rfl,g4⟩
  rintro M s ⟨l1,n2,rfl,g4⟩
  cases M with
  |zero=>simp only[zT]at g4;cases g4
  |succ M=>
   rw[zT]at g4
   refine sq ?_
   refine sh fol (kH l (kX l1 n2 [(12,.bool (decide (n2<(l.length:Int))))])) ?_
   refine ihD g4 (fun c6 g4=>?_) (fun c6 g4=>?_)
   ·refine Goes.skip ?_
    refine sq ?_
    obtain⟨r8,g8,g4⟩:=bnd g4
    refine Goes.imp (Q:=fun x s'=>(x= .normal∧ ∃l7,(.inl l7)=r8∧Sub s' (ofG 82 (kH l (kX l7 n2 [])),[]))∨(x= .ret∧ ∃q9,(.inr q9)=r8∧zy Tryz.prog [.tmp 2,.tmp 3,.tmp 4] (.tuple [vl qa q9.1,.i q9.2.1,.i q9.2.2]) .ret s')) ?_ ?_
    ·refine Goes.block ?_
     obtain⟨x10,e_x10,g8⟩:=bnd g8
     obtain⟨r11,e_r11,g8⟩:=bnd g8
     refine sq (gr fol [2,3,4] (kH l (kX l1 n2 [(7,.i r11)])) (ac (iv zV qa e_x10) (ac (la qiv qa e_x10) (ac (cv (qdQ N x10 e_r11)) az))) ?_)
     refine sq ?_
     refine sq ?_
     obtain⟨b13,g_v14,g8⟩:=bnd g8
     refine Goes.cut (s':=(ofG 82 (kH l (kX l1 n2 [(7,.i r11),(31,.bool b13)])),[])) ?_ ?_
     ·rcases wyD g_v14 with⟨c12,g_v14⟩|⟨c12,g_v14⟩
      ·obtain rfl:=si g_v14
       exact tr fol [2,5,7] (kH l (kX l1 n2 [(7,.i r11),(31,.bool (!decide (x10.Number=(w64 (n2+1)))))])) (ac (gw c12) (ac (iv zV qa e_x10) (ac (lv 0 ce3 qa e_x10 rfl) az)))
      ·obtain rfl:=si g_v14
       exact tr fol [2] (kH l (kX l1 n2 [(7,.i r11),(31,.bool false)])) (ac (gw c12) az)
     obtain⟨r16,g16,g8⟩:=bnd g8
     refine Goes.imp (Q:=fun x s'=>(x= .normal∧ ∃n15,n15=r16∧Sub s' (ofG 82 (kH l (kX l1 n2 [(7,.i n15)])),[]))) ?_ ?_
     ·refine ihB g16 (fun c17 g16=>?_) (fun c17 g16=>?_)
      ·refine gh fol (kH l (kX l1 n2 [(7,.i 11)])) ?_
       obtain rfl:=si g16
       exact⟨rfl,_,rfl,(Sub.refl _)⟩
      ·refine Goes.skip ?_
       obtain rfl:=si g16
       exact⟨rfl,_,rfl,(Sub.keep [0,5,6,7] rfl rfl)⟩
     rintro x s' ⟨rfl,n15,rfl,hsub⟩
     refine Goes.sub hsub ?_
     refine sq (gr fol [2,4] (kH l (kX l1 n2 (kBB n15 (x10.Kind==[117,110,100,111]) []))) (ac (iv zV qa e_x10) (ac (lv 1 ce9 qa e_x10 rfl) az)) ?_)
     refine sq ?_
     refine sq ?_
     obtain⟨b20,g_v21,g8⟩:=bnd g8
     refine Goes.cut (s':=(ofG 82 (kH l (kX l1 n2 (kBB n15 (x10.Kind==[117,110,100,111]) [(47,.bool b20)]))),[])) ?_ ?_
     ·rcases wyD g_v21 with⟨c18,g_v21⟩|⟨c18,g_v21⟩
      ·rcases wyB g_v21 with⟨c19,g_v21⟩|⟨c19,g_v21⟩
       ·obtain rfl:=si g_v21
        exact tr fol [2,5] (kH l (kX l1 n2 (kBB n15 (x10.Kind==[117,110,100,111]) [(47,.bool (decide ((l1.length:Int)=0)))]))) (ac (gw c18) (ac (gw c19) az))
       ·obtain rfl:=si g_v21
        exact tr fol [2,5] (kH l (kX l1 n2 (kBB n15 (x10.Kind==[117,110,100,111]) [(47,.bool false)]))) (ac (gw c18) (ac (gw c19) az))
      ·obtain rfl:=si g_v21
       exact tr fol [2] (kH l (kX l1 n2 (kBB n15 (x10.Kind==[117,110,100,111]) [(47,.bool false)]))) (ac (gw c18) az)
     obtain⟨r23,g23,g8⟩:=bnd g8
     refine Goes.imp (Q:=fun x s'=>(x= .normal∧ ∃n22,n22=r23∧Sub s' (ofG 82 (kH l (kX l1 n2 (kBB n22 (x10.Kind==[117,110,100,111]) []))),[]))) ?_ ?_
     ·refine ihB g23 (fun c24 g23=>?_) (fun c24 g23=>?_)
      ·refine gh fol (kH l (kX l1 n2 [(7,.i 12),(8,.bool (x10.Kind==[117,110,100,111]))])) ?_
       obtain rfl:=si g23
       exact⟨rfl,_,rfl,(Sub.refl _)⟩
      ·refine Goes.skip ?_
       obtain rfl:=si g23
       exact⟨rfl,_,rfl,(Sub.keep [0,5,6,7,8] rfl rfl)⟩
     rintro x s' ⟨rfl,n22,rfl,hsub⟩
     refine Goes.sub hsub ?_
     refine sq ?_
     refine sq ?_
     obtain⟨b26,g_v27,g8⟩:=bnd g8
     refine Goes.cut (s':=(ofG 82 (kH l (kX l1 n2 (kBB n22 (x10.Kind==[117,110,100,111]) [(53,.bool b26)]))),[])) ?_ ?_
     ·rcases wyD g_v27 with⟨c25,g_v27⟩|⟨c25,g_v27⟩
      ·obtain rfl:=si g_v27
       exact tr fol [2] (kH l (kX l1 n2 (kBB n22 (x10.Kind==[117,110,100,111]) [(53,.bool (!(x10.Kind==[117,110,100,111])))]))) (ac (gw c25) az)
      ·obtain rfl:=si g_v27
       exact tr fol [2] (kH l (kX l1 n2 (kBB n22 (x10.Kind==[117,110,100,111]) [(53,.bool false)]))) (ac (gw c25) az)
     obtain⟨r29,g29,g8⟩:=bnd g8
     refine Goes.imp (Q:=fun x s'=>(x= .normal∧ ∃n28,n28=r29∧Sub s' (ofG 82 (kH l (kX l1 n2 (kBB n28 (x10.Kind==[117,110,100,111]) []))),[]))) ?_ ?_
     ·refine ihB g29 (fun c30 g29=>?_) (fun c30 g29=>?_)
      ·obtain⟨r31,e_r31,g29⟩:=bnd g29
       obtain⟨r32,e_r32,g29⟩:=bnd g29
       refine gr fol [1,4,5,6] (kH l (kX l1 n2 (kBB r32 (x10.Kind==[117,110,100,111]) []))) (ac (cv (qbE N l1 e_r31)) (ac (iv zV qa e_x10) (ac (la qiv qa e_x10) (ac (cv (qfd N r31 x10 e_r32)) az)))) ?_
       obtain rfl:=si g29
       exact⟨rfl,_,rfl,(Sub.refl _)⟩
      ·refine Goes.skip ?_
       obtain rfl:=si g29
       exact⟨rfl,_,rfl,(Sub.keep [0,5,6,7,8] rfl rfl)⟩
     rintro x s' ⟨rfl,n28,rfl,hsub⟩
     refine Goes.sub hsub ?_
     refine sq ?_
     refine sh fol (kH l (kX l1 n2 (kBB n28 (x10.Kind==[117,110,100,111]) [(62,.bool (!decide (n28=0)))]))) ?_
     refine ihB g8 (fun c33 g8=>?_) (fun c33 g8=>?_)
     ·refine sh fol ((2,.nilslice)::(3,.i (w64 (n2+1)))::(kAq n28)) ?_
      refine Goes.ret ?_
      obtain rfl:=si g8
      exact Or.inr (⟨rfl,_,rfl,(gw2 [.nilslice,.i (w64 (n2+1)),.i n28] (FzW.tuple (qj.cons (FzW.nilv (E:=qa)) (qj.cons (FzW.still tI) (qj.cons (FzW.still tI) qj.nil)))))⟩)
     ·refine Goes.skip ?_
      refine sh fol (kH l (kX l1 n2 [(66,.bool (x10.Kind==[117,110,100,111]))])) ?_
      refine ihB g8 (fun c34 g8=>?_) (fun c34 g8=>?_)
      ·obtain⟨s35,e_s35,g8⟩:=bnd g8
       refine gr fol [4] (kH l (kX s35 n2 [])) (ac (hs (.done (.opt (qz Tryz.prog 22 (vl qa l1) none (some (.i (w64 ((l1.length:Int)-1)))) none)) (vl qa s35)) (qda zV (E:=qa) rfl none (some (w64 ((l1.length:Int)-1))) e_s35)) az) ?_
       obtain rfl:=si g8
       exact Or.inl (⟨rfl,_,rfl,(Sub.refl _)⟩)
      ·obtain⟨l36,e_l36,g8⟩:=bnd g8
       obtain⟨l37,e_l37,g8⟩:=bnd g8
       refine gq fol [2,5,6,8] (kH l [(5,.oslice 3 l37.length 5),(6,.i n2)]) (.dead:: .dead::(kA0 x10 (kK l37 []))) (ac (hs (.run [0] (qR Tryz.prog [22,22] (.slice 0 0 0 0 5) (vl qa l1)) [.cells []] (.oslice 1 l36.length 5) (.dead::(kK l36 [])) true) (jG zV (E:=qa) rfl (qdv (E:=qa) rfl _) (qfz (E:=qa) rfl rfl rfl e_l36 rfl))) (ac (iv zV qa e_x10) (ac (la qiv qa e_x10) (ac (hs (.run [1,2] (qR Tryz.prog [22,22] (.oslice 1 l36.length 5) (.slice 2 0 1 1 5)) (.dead::(kK l36 (kAE x10))) (.oslice 3 l37.length 5) (.dead:: .dead::(kA0 x10 (kK l37 []))) true) (jG zV (E:=qa) rfl (qbH (E:=qa) (ys:=[x10]) rfl rfl rfl rfl) (qgD (E:=qa) (l:=l36) rfl rfl rfl e_l37 rfl))) az)))) ?_
       obtain rfl:=si g8
       exact Or.inl (⟨rfl,_,rfl,(Sub.norm [3] [] rfl rfl (.keep (.same (qw qa _)) (.keep (.frz (Fz.os (E:=qa) rfl rfl (nl rfl)) (qw qa _)) (.keep (.same nI) .nil))) .nil)⟩)
    rintro x s' (⟨rfl,l7,rfl,hsub⟩|⟨rfl,q38,rfl,hret⟩)
    ·try dsimp only at g4
     refine Goes.sub hsub ?_
     refine gh fol (kH l (kX l7 (w64 (n2+1)) [])) ?_
     exact⟨M,(ofG 82 (kH l (kX l7 (w64 (n2+1)) [])),[]),Nat.lt_succ_self _,(Sub.refl _),_,_,rfl,g4⟩
    ·try dsimp only at g4
     obtain rfl:=si g4
     exact Or.inr (⟨rfl,_,rfl,hret⟩)
   ·refine Goes.exit ?_
    obtain rfl:=si g4
    exact Or.inl (⟨rfl,_,rfl,(Sub.keep [5] rfl rfl)⟩)
 rintro x s' (⟨rfl,l3,rfl,hsub⟩|⟨rfl,q39,rfl,hret⟩)
 ·try dsimp only at h
  refine Goes.sub hsub ?_
  refine sh fol ((2,vl qa l3)::(3,.i 0)::kBR) ?_
  refine Goes.ret ?_
  obtain rfl:=si h
  exact(gw2 [vl qa l3,.i 0,.i 0] (FzW.tuple (qj.cons (FzW.still (ko qa _ (nl rfl))) (qj.cons (FzW.still tI) (qj.cons (FzW.still tI) qj.nil)))))
 ·try dsimp only at h
  obtain rfl:=si h
  exact hret
def yF (N:Nat) (l:List qb):Option (qp×Int×Int):=
 if(l.length:Int)>1000 then
 some ((⟨0,[]⟩:qp),0,5)
 else
 (yg N l).bind fun r2=>
 if(!decide (r2.2.2=0))=true then
 some ((⟨0,[]⟩:qp),r2.2.1,r2.2.2)
 else
 (za N r2.1).bind fun r4=>
 some (r4,0,0)
theorem qfK (N:Nat) (l:List qb) {res:qp×Int×Int} (h:yF N l=some res):qf Tryz.prog (.fn 7) [vl qa l] [] (.tuple (kAO res.1.Day res.1.Slings [.i res.2.1,.i res.2.2])) []:=by
 unfold yF at h
 refine Goes.fnW Tryz.func7 rfl rfl (m:=25) rfl (rs:=[.cell 2 28,.tmp 3,.tmp 4]) rfl (l:=(kH l [])) rfl ?_
 refine sg fol (kH l (kR [])) [bZ] ?_
 refine sq ?_
 refine sh fol (kH l (kR (kBI (decide ((l.length:Int)>1000))))) ?_
 refine ihD h (fun c1 h=>?_) (fun c1 h=>?_)
 ·refine sh fol (kR [(3,.i 0),(4,.i 5)]) ?_
  refine Goes.ret ?_
  obtain rfl:=si h
  exact(gw2 [.agg [.i 0,.nilslice],.i 0,.i 5] (FzW.tuple (qj.cons (FzW.agg (qj.cons (FzW.still tI) (qj.cons (FzW.nilv (E:=qd)) qj.nil))) (qj.cons (FzW.still tI) (qj.cons (FzW.still tI) qj.nil)))))
 ·refine Goes.skip ?_
  obtain⟨r2,e_r2,h⟩:=bnd h
  refine sq (gr fol [1] (kR (kX r2.1 r2.2.1 [(7,.i r2.2.2)])) (ac (cv (qcn N l e_r2)) az) ?_)
  refine sq ?_
  refine sh fol (kR (kX r2.1 r2.2.1 [(7,.i r2.2.2),(19,.bool (!decide (r2.2.2=0)))])) ?_
  refine ihB h (fun c3 h=>?_) (fun c3 h=>?_)
  ·refine sh fol (kR ((3,.i r2.2.1)::(kAq r2.2.2))) ?_
   refine Goes.ret ?_
   obtain rfl:=si h
   exact(gw2 [.agg [.i 0,.nilslice],.i r2.2.1,.i r2.2.2] (FzW.tuple (qj.cons (FzW.agg (qj.cons (FzW.still tI) (qj.cons (FzW.nilv (E:=qd)) qj.nil))) (qj.cons (FzW.still tI) (qj.cons (FzW.still tI) qj.nil)))))
  ·refine Goes.skip ?_
   obtain⟨r4,e_r4,h⟩:=bnd h
   refine sq (gq fol [1] (kR ((3,.i 0)::kBR)) (kC r4.Day r4.Slings []) (ac (cv (qbE N r2.1 e_r4)) az) ?_)
   refine Goes.ret ?_
   obtain rfl:=si h
   exact(gw2 (kAO r4.Day r4.Slings [.i 0,.i 0]) (FzW.tuple (qj.cons (FzW.agg (qj.cons (FzW.still tI) (qj.cons (FzW.still (ko qd _ (nl rfl))) qj.nil))) (qj.cons (FzW.still tI) (qj.cons (FzW.still tI) qj.nil)))))
def zi (least:Int):Nat→Int→Str→Option Str
 |0,_,_=>none
 |K+1,n1,s2=>
  (if n1>0 then
  some true
  else
  some (decide ((s2.length:Int)<least)):Option Bool).bind fun b6=>
  if b6=true then
  (cut [48,49,50,51,52,53,54,55,56,57] (n1.tmod 10) (w64 ((n1.tmod 10)+1))).bind fun s9=>
  (cat s9 s2).bind fun s10=>
  zi least K (w64 (n1.tdiv 10)) s10
  else
  some s2
def yT (N:Nat) (n:Int) (least:Int):Option Str:=
 (zi least N n []).bind fun s3=>
 some s3
theorem qb4 (N:Nat) (n:Int) (least:Int) {res:Str} (h:yT N n least=some res):qf Tryz.prog (.fn 240) [.i n,.i least] [] (.str res) []:=by
 unfold yT at h
 refine Goes.fnW Tryz.func240 rfl rfl (m:=25) rfl (rs:=[.tmp 4]) rfl (l:=(kBa n least [])) rfl ?_
 refine sh fol (kBa n least []) ?_
 refine sh fol (kBa n least [(5,.str [])]) ?_
 refine sq (Goes.block ?_)
 obtain⟨r4,g4,h⟩:=bnd h
 refine Goes.imp (Q:=fun x s'=>(x= .exit 0∧ ∃s3,s3=r4∧Sub s' (ofG 25 [(5,.str s3)],[]))) ?_ ?_
 ·refine Goes.loopS (fun M s=> ∃(n1:Int) (s2:Str),s=(ofG 25 (kBa n1 least [(5,.str s2)]),[])∧zi least M n1 s2=some r4) ?_ (m:=N) ⟨_,_,rfl,g4⟩
  rintro M s ⟨n1,s2,rfl,g4⟩
  cases M with
  |zero=>simp only[zi]at g4;cases g4
  |succ M=>
   rw[zi]at g4
   refine sq ?_
   refine sq ?_
   obtain⟨b6,g_v7,g4⟩:=bnd g4
   refine Goes.cut (s':=(ofG 25 (kBa n1 least [(5,.str s2),(13,.bool b6)]),[])) ?_ ?_
   ·rcases wyD g_v7 with⟨c5,g_v7⟩|⟨c5,g_v7⟩
    ·obtain rfl:=si g_v7
     exact tr fol [2] (kBa n1 least [(5,.str s2),(13,.bool true)]) (ac (gw c5) az)
    ·obtain rfl:=si g_v7
     exact tr fol [2] (kBa n1 least [(5,.str s2),(13,.bool (decide ((s2.length:Int)<least)))]) (ac (gw c5) az)
   refine ihB g4 (fun c8 g4=>?_) (fun c8 g4=>?_)
   ·refine Goes.skip ?_
    refine Goes.block ?_
    obtain⟨s9,e_s9,g4⟩:=bnd g4
    obtain⟨s10,e_s10,g4⟩:=bnd g4
    refine sq (gr fol [5,7] (kBa n1 least [(5,.str s10)]) (ac (hs (.done (.opt (qz Tryz.prog 9 (.str [48,49,50,51,52,53,54,55,56,57]) (some (.i (n1.tmod 10))) (some (.i (w64 ((n1.tmod 10)+1)))) none)) (.str s9)) (yK st9 (some (n1.tmod 10)) (some (w64 ((n1.tmod 10)+1))) e_s9)) (ac (hs (.done (.opt (xe Tryz.prog .add 9 (.tmp 19) (.tmp 20) (.str s9) (.str s2))) (.str s10)) (vG e_s10)) az)) ?_)
    refine gh fol (kBa (w64 (n1.tdiv 10)) least [(5,.str s10)]) ?_
    exact⟨M,(ofG 25 (kBa (w64 (n1.tdiv 10)) least [(5,.str s10)]),[]),Nat.lt_succ_self _,(Sub.refl _),_,_,rfl,g4⟩
   ·refine Goes.exit ?_
    obtain rfl:=si g4
    exact⟨rfl,_,rfl,(Sub.keep [5] rfl rfl)⟩
 rintro x s' ⟨rfl,s3,rfl,hsub⟩
 refine Goes.sub hsub ?_
 refine sh fol [(4,.str s3)] ?_
 refine Goes.ret ?_
 obtain rfl:=si h
 exact(gw2 [.str s3] (FzW.still tS))
def yj (N:Nat) (a:qap):Nat→Str→Int→Option Str
 |0,_,_=>none
 |K+1,s4,n5=>
  if n5≥0 then
  (idx a.w n5).bind fun x9=>
  (yT N x9 9).bind fun r10=>
  (cat s4 r10).bind fun s11=>
  yj N a K s11 (w64 (n5-1))
  else
  some s4
def qbo (N:Nat) (a:qap):Option Str:=
 if(a.w.length:Int)=0 then
 some [48]
 else
 (idx a.w (w64 ((a.w.length:Int)-1))).bind fun x2=>
 (yT N x2 1).bind fun r3=>
 (yj N a N r3 (w64 ((a.w.length:Int)-2))).bind fun s6=>
 if a.neg=true then
 (cat [45] s6).bind fun s13=>
 some s13
 else
 some s6
theorem qhi (N:Nat) (a:qap) {res:Str} (h:qbo N a=some res):qf Tryz.prog (.fn 192) [.agg [.bool a.neg,vl encI a.w]] [] (.str res) []:=by
 unfold qbo at h
 refine Goes.fnW Tryz.func192 rfl rfl (m:=39) rfl (rs:=[.tmp 2]) rfl (l:=[(0,.agg [.bool a.neg,vl encI a.w])]) rfl ?_
 refine sg fol (kV []) (kBV a.neg a.w []) ?_
 refine sq ?_
 refine sh fol (kV [(8,.bool (decide ((a.w.length:Int)=0)))]) ?_
 refine ihD h (fun c1 h=>?_) (fun c1 h=>?_)
 ·refine sh fol [(2,.str [48])] ?_
  refine Goes.ret ?_
  obtain rfl:=si h
  exact(gw2 [.str [48]] (FzW.still tS))
 ·refine Goes.skip ?_
  obtain⟨x2,e_x2,h⟩:=bnd h
  obtain⟨r3,e_r3,h⟩:=bnd h
  refine sq (gr fol [6,7,8] (kV [(3,.str r3)]) (ac (iv yX encI e_x2) (ac (lv 0 ce3 encI e_x2 rfl) (ac (cv (qb4 N x2 1 e_r3)) az))) ?_)
  refine sq ?_
  refine sh fol (kV ((3,.str r3)::(kAq (w64 ((a.w.length:Int)-2))))) ?_
  refine Goes.block ?_
  obtain⟨r7,g7,h⟩:=bnd h
  refine Goes.imp (Q:=fun x s'=>(x= .exit 0∧ ∃s6,s6=r7∧Sub s' (ofG 39 (kV [(3,.str s6)]),(kBV a.neg a.w [])))) ?_ ?_
  ·refine Goes.loopS (fun M s=> ∃(s4:Str) (n5:Int),s=(ofG 39 (kV ((3,.str s4)::(kAq n5))),(kBV a.neg a.w []))∧yj N a M s4 n5=some r7) ?_ (m:=N) ⟨_,_,rfl,g7⟩
   rintro M s ⟨s4,n5,rfl,g7⟩
   cases M with
   |zero=>simp only[yj]at g7;cases g7
   |succ M=>
    rw[yj]at g7
    refine sq ?_
    refine sh fol (kV [(3,.str s4),(4,.i n5),(23,.bool (decide (n5≥0)))]) ?_
    refine ihD g7 (fun c8 g7=>?_) (fun c8 g7=>?_)
    ·refine Goes.skip ?_
     refine sq (Goes.block ?_)
     obtain⟨x9,e_x9,g7⟩:=bnd g7
     obtain⟨r10,e_r10,g7⟩:=bnd g7
     obtain⟨s11,e_s11,g7⟩:=bnd g7
     refine gr fol [4,5,6,7] (kV ((3,.str s11)::(kAq n5))) (ac (iv yX encI e_x9) (ac (lv 0 ce3 encI e_x9 rfl) (ac (cv (qb4 N x9 9 e_r10)) (ac (hs (.done (.opt (xe Tryz.prog .add 9 (.tmp 26) (.tmp 32) (.str s4) (.str r10))) (.str s11)) (vG e_s11)) az)))) ?_
     refine gh fol (kV ((3,.str s11)::(kAq (w64 (n5-1))))) ?_
     exact⟨M,(ofG 39 (kV ((3,.str s11)::(kAq (w64 (n5-1))))),(kBV a.neg a.w [])),Nat.lt_succ_self _,(Sub.refl _),_,_,rfl,g7⟩
    ·refine Goes.exit ?_
     obtain rfl:=si g7
     exact⟨rfl,_,rfl,(Sub.keep [1,3] rfl rfl)⟩
  rintro x s' ⟨rfl,s6,rfl,hsub⟩
  refine Goes.sub hsub ?_
  refine sq ?_
  refine sh fol [(3,.str s6),(35,.bool a.neg)] ?_
  refine ihB h (fun c12 h=>?_) (fun c12 h=>?_)
  ·obtain⟨s13,e_s13,h⟩:=bnd h
   refine sq (gr fol [1] [(2,.str s13)] (ac (hs (.done (.opt (xe Tryz.prog .add 9 (.const (.string ⟨#[45]⟩)) (.tmp 36) (.str [45]) (.str s6))) (.str s13)) (vG e_s13)) az) ?_)
   refine Goes.ret ?_
   obtain rfl:=si h
   exact(gw2 [.str s13] (FzW.still tS))
  ·refine Goes.skip ?_
   refine sh fol [(2,.str s6)] ?_
   refine Goes.ret ?_
   obtain rfl:=si h
   exact(gw2 [.str s6] (FzW.still tS))
def jX:Nat→(List Int)→Option (List Int)
 |0,_=>none
 |K+1,l1=>
  (if(l1.length:Int)>0 then
  (idx l1 (w64 ((l1.length:Int)-1))).bind fun x5=>
  some (decide (x5=0))
  else
  some false:Option Bool).bind fun b6=>
  if b6=true then
  (cut l1 0 (w64 ((l1.length:Int)-1))).bind fun s9=>
  jX K s9
  else
  some l1
def qbq (N:Nat) (w:List Int):Option (List Int):=
 (jX N w).bind fun l2=>
 some l2
theorem qg6 (N:Nat) (w:List Int) {res:List Int} (h:qbq N w=some res):qf Tryz.prog (.fn 268) [vl encI w] [] (vl encI res) []:=by
 unfold qbq at h
 refine Goes.fnW Tryz.func268 rfl rfl (m:=21) rfl (rs:=[.tmp 2]) rfl (l:=[(0,vl encI w)]) rfl ?_
 refine sh fol [(0,vl encI w)] ?_
 refine sq (Goes.block ?_)
 obtain⟨r3,g3,h⟩:=bnd h
 refine Goes.imp (Q:=fun x s'=>(x= .exit 0∧ ∃l2,l2=r3∧Sub s' (ofG 21 [(0,vl encI l2)],[]))) ?_ ?_
 ·refine Goes.loopS (fun M s=> ∃(l1:List Int),s=(ofG 21 [(0,vl encI l1)],[])∧jX M l1=some r3) ?_ (m:=N) ⟨_,rfl,g3⟩
  rintro M s ⟨l1,rfl,g3⟩
  cases M with
  |zero=>simp only[jX]at g3;cases g3
  |succ M=>
   rw[jX]at g3
   refine sq ?_
   refine sq ?_
   obtain⟨b6,g_v7,g3⟩:=bnd g3
   refine Goes.cut (s':=(ofG 21 [(0,vl encI l1),(14,.bool b6)],[])) ?_ ?_
   ·rcases wyD g_v7 with⟨c4,g_v7⟩|⟨c4,g_v7⟩
    ·obtain⟨x5,e_x5,g_v7⟩:=bnd g_v7
     obtain rfl:=si g_v7
     exact tr fol [3,8,9] [(0,vl encI l1),(14,.bool (decide (x5=0)))] (ac (gw c4) (ac (iv yX encI e_x5) (ac (lv 0 ce3 encI e_x5 rfl) az)))
    ·obtain rfl:=si g_v7
     exact tr fol [3] [(0,vl encI l1),(14,.bool false)] (ac (gw c4) az)
   refine ihB g3 (fun c8 g3=>?_) (fun c8 g3=>?_)
   ·refine Goes.skip ?_
    refine Goes.block ?_
    obtain⟨s9,e_s9,g3⟩:=bnd g3
    refine gr fol [4] [(0,vl encI s9)] (ac (hs (.done (.opt (qz Tryz.prog 38 (vl encI l1) none (some (.i (w64 ((l1.length:Int)-1)))) none)) (vl encI s9)) (qda yX (E:=encI) rfl none (some (w64 ((l1.length:Int)-1))) e_s9)) az) ?_
    exact⟨M,(ofG 21 [(0,vl encI s9)],[]),Nat.lt_succ_self _,(Sub.refl _),_,rfl,g3⟩
   ·refine Goes.exit ?_
    obtain rfl:=si g3
    exact⟨rfl,_,rfl,(Sub.keep [0] rfl rfl)⟩
 rintro x s' ⟨rfl,l2,rfl,hsub⟩
 refine Goes.sub hsub ?_
 refine sh fol [(2,vl encI l2)] ?_
 refine Goes.ret ?_
 obtain rfl:=si h
 exact(gw2 [vl encI l2] (FzW.still (ko encI _ (nl rfl))))
def qaw (N:Nat) (neg:Bool) (w:List Int):Option qap:=
 (qbq N w).bind fun r1=>
 (if neg=true then
 some (decide ((r1.length:Int)>0))
 else
 some false:Option Bool).bind fun b3=>
 some (⟨b3,r1⟩:qap)
theorem qfG (N:Nat) (neg:Bool) (w:List Int) {res:qap} (h:qaw N neg w=some res):qf Tryz.prog (.fn 241) [.bool neg,vl encI w] [] (.agg [.bool res.neg,vl encI res.w]) []:=by
 unfold qaw at h
 refine Goes.fnW Tryz.func241 rfl rfl (m:=15) rfl (rs:=[.cell 4 240]) rfl (l:=[(0,.bool neg),(1,vl encI w)]) rfl ?_
 refine sg fol ((0,.bool neg)::(1,vl encI w)::(kAw [])) (kAb []) ?_
 obtain⟨r1,e_r1,h⟩:=bnd h
 refine sq (gr fol [1] ((0,.bool neg)::(1,vl encI r1)::(kAw [])) (ac (cv (qg6 N w e_r1)) az) ?_)
 refine sq ?_
 obtain⟨b3,g_v4,h⟩:=bnd h
 refine Goes.cut (s':=(ofG 15 (kAw []),(kBV b3 r1 []))) ?_ ?_
 ·rcases wyB g_v4 with⟨c2,g_v4⟩|⟨c2,g_v4⟩
  ·obtain rfl:=si g_v4
   exact qh.rq fol [1] (kAw []) (kBV (decide ((r1.length:Int)>0)) r1 []) (ac (gw c2) az)
  ·obtain rfl:=si g_v4
   exact qh.rq fol [1] (kAw []) [.cells [.bool false,vl encI r1]] (ac (gw c2) az)
 refine Goes.ret ?_
 obtain rfl:=si h
 exact(gw2 [.agg [.bool b3,vl encI r1]] (FzW.agg (qj.cons (FzW.still tB) (qj.cons (FzW.still (ko encI _ (nl rfl))) qj.nil))))
def zQ:Nat→(List Int)→Int→Option (List Int)
 |0,_,_=>none
 |K+1,l1,n2=>
  if(!decide (n2=0))=true then
  ((if(n2.tmod 1000000000)<0 then
  some (w64 (0-(n2.tmod 1000000000)))
  else
  some (n2.tmod 1000000000):Option Int)).bind fun n6=>
  (app 8 l1 [n6]).bind fun l9=>
  zQ K l9 (w64 (n2.tdiv 1000000000))
  else
  some l1
def qbL (N:Nat) (n:Int):Option qap:=
 (zQ N ([]:List Int) n).bind fun l3=>
 (qaw N (decide (n<0)) l3).bind fun r10=>
 some r10
theorem qgB (N:Nat) (n:Int) {res:qap} (h:qbL N n=some res):qf Tryz.prog (.fn 193) [.i n] [] (.agg [.bool res.neg,vl encI res.w]) []:=by
 unfold qbL at h
 refine Goes.fnW Tryz.func193 rfl rfl (m:=25) rfl (rs:=[.cell 2 240]) rfl (l:=[(0,.i n)]) rfl ?_
 refine sg fol ((0,.i n)::(kR [])) (kAb []) ?_
 refine sh fol ((0,.i n)::(kR [(3,.nilslice)])) ?_
 refine sh fol ((0,.i n)::(kR ((3,.nilslice)::(kBM (decide (n<0)))))) ?_
 refine sq (Goes.block ?_)
 obtain⟨r4,g4,h⟩:=bnd h
 refine Goes.imp (Q:=fun x s'=>(x= .exit 0∧ ∃l3,l3=r4∧Sub s' (ofG 25 (kR (kAr l3 (decide (n<0)) [])),(kAb (kAM l3))))) ?_ ?_
 ·refine Goes.sub (s':=(ofG 25 ((0,.i n)::(kR ((3,.gslice 1 ([]:List Int).length 1)::(kBM (decide (n<0)))))),(kAb [.cells (([]:List Int).flatMap encI.c)]))) (Sub.norm [] [some 0,none] rfl rfl (.keep (.same nI) (.kp (.keep .nil (.keep (.same nB) .nil)))) (.kb rfl (.same sn) (.fresh .nil))) ?_
  refine Goes.loopS (fun M s=> ∃(l1:List Int) (n2:Int),s=(ofG 25 ((0,.i n2)::(kR (kAr l1 (decide (n<0)) []))),(kAb (kAM l1)))∧zQ M l1 n2=some r4) ?_ (m:=N) ⟨_,_,rfl,g4⟩
  rintro M s ⟨l1,n2,rfl,g4⟩
  cases M with
  |zero=>simp only[zQ]at g4;cases g4
  |succ M=>
   rw[zQ]at g4
   refine sq ?_
   refine sh fol ((0,.i n2)::(kR (kAr l1 (decide (n<0)) [(9,.bool (!decide (n2=0)))]))) ?_
   refine ihB g4 (fun c5 g4=>?_) (fun c5 g4=>?_)
   ·refine Goes.skip ?_
    refine Goes.block ?_
    refine sh fol ((0,.i n2)::(kR (kAr l1 (decide (n<0)) (kAn (n2.tmod 1000000000))))) ?_
    refine sq ?_
    refine sh fol ((0,.i n2)::(kR (kAr l1 (decide (n<0)) [(5,.i (n2.tmod 1000000000)),(13,.bool (decide ((n2.tmod 1000000000)<0)))]))) ?_
    obtain⟨r7,g7,g4⟩:=bnd g4
    refine Goes.imp (Q:=fun x s'=>(x= .normal∧ ∃n6,n6=r7∧Sub s' (ofG 25 ((0,.i n2)::(kR (kAr l1 (decide (n<0)) (kAn n6)))),(kAb (kAM l1))))) ?_ ?_
    ·refine ihD g7 (fun c8 g7=>?_) (fun c8 g7=>?_)
     ·refine gh fol ((0,.i n2)::(kR (kAr l1 (decide (n<0)) (kAn (w64 (0-(n2.tmod 1000000000))))))) ?_
      obtain rfl:=si g7
      exact⟨rfl,_,rfl,(Sub.refl _)⟩
     ·refine Goes.skip ?_
      obtain rfl:=si g7
      exact⟨rfl,_,rfl,(Sub.keep [0,2,3,4,5] rfl rfl)⟩
    rintro x s' ⟨rfl,n6,rfl,hsub⟩
    refine Goes.sub hsub ?_
    obtain⟨l9,e_l9,g4⟩:=bnd g4
    refine sq (gq fol [3] ((0,.i n2)::(kR ((3,.gslice 3 l9.length 1)::(kBM (decide (n<0)))))) (kAb (.dead::(kAC n6 (kAM l9)))) (ac (hs (.run [1,2] (qR Tryz.prog [38,38] (.gslice 1 l1.length 1) (.slice 2 0 1 1 1)) (kAb (.cells (l1.flatMap encI.c)::(kAC n6 []))) (.gslice 3 l9.length 1) (kAb (.dead::(kAC n6 (kAM l9)))) true) (jG yX (E:=encI) rfl (qbH (E:=encI) (ys:=[n6]) rfl rfl rfl rfl) (qgQ (E:=encI) (l:=l1) rfl rfl rfl e_l9 rfl))) az) ?_)
    refine gh fol ((0,.i (w64 (n2.tdiv 1000000000)))::(kR ((3,.gslice 3 l9.length 1)::(kBM (decide (n<0)))))) ?_
    exact⟨M,(ofG 25 ((0,.i (w64 (n2.tdiv 1000000000)))::(kR (kAr l9 (decide (n<0)) []))),(kAb (kAM l9))),Nat.lt_succ_self _,(Sub.norm [] [some 0,some 3] rfl rfl (.keep (.same nI) (.kp (.keep (.gslice rfl) (.keep (.same nB) .nil)))) (.kb rfl (.same sn) (.ks .nil))),_,_,rfl,g4⟩
   ·refine Goes.exit ?_
    obtain rfl:=si g4
    exact⟨rfl,_,rfl,(Sub.keep [2,3,4] rfl rfl)⟩
 rintro x s' ⟨rfl,l3,rfl,hsub⟩
 refine Goes.sub hsub ?_
 obtain⟨r10,e_r10,h⟩:=bnd h
 refine sq (gq fol [2] (kR []) (kBV r10.neg r10.w [.frozen (l3.flatMap encI.c)]) (ac (hs (.callF 241 [.bool (decide (n<0)),.gslice 1 l3.length 1] (kAb (kAM l3)) [1] [.bool (decide (n<0)),vl encI l3] (.agg [.bool r10.neg,vl encI r10.w])) (qgK (FzL.cons (Fz.still tB) (FzL.cons (Fz.gs (E:=encI) rfl rfl (nl rfl)) FzL.nil)) (qfG N (decide (n<0)) l3 e_r10) (Still.agg (AllST.cons tB (AllST.cons (ko encI _ (nl rfl)) AllST.nil))))) az) ?_)
 refine Goes.sub (show Sub (ofG 25 (kR []),(kBV r10.neg r10.w [.frozen (l3.flatMap encI.c)])) (ofG 25 (kR []),(kBV r10.neg r10.w []))from(Sub.norm [] [some 0] rfl rfl (.kp .nil) (.kb rfl (.same sn) .nil))) ?_
 refine Goes.ret ?_
 obtain rfl:=si h
 exact(gw2 [.agg [.bool r10.neg,vl encI r10.w]] (FzW.agg (qj.cons (FzW.still tB) (qj.cons (FzW.still (ko encI _ (nl rfl))) qj.nil))))
def qaP (N:Nat) (n:Int):Option Str:=
 (qbL N n).bind fun r1=>
 (qbo N r1).bind fun r2=>
 some r2
theorem qfa (N:Nat) (n:Int) {res:Str} (h:qaP N n=some res):qf Tryz.prog (.fn 139) [.i n] [] (.str res) []:=by
 unfold qaP at h
 refine Goes.fnW Tryz.func139 rfl rfl (m:=6) rfl (rs:=[.tmp 2]) rfl (l:=[(0,.i n)]) rfl ?_
 refine sh fol [(0,.i n)] ?_
 obtain⟨r1,e_r1,h⟩:=bnd h
 obtain⟨r2,e_r2,h⟩:=bnd h
 refine sq (gr fol [1,2] [(2,.str r2)] (ac (cv (qgB N n e_r1)) (ac (cv (qhi N r1 e_r2)) az)) ?_)
 refine Goes.ret ?_
 obtain rfl:=si h
 exact(gw2 [.str r2] (FzW.still tS))
def xu (N:Nat) (n:Int):Option Str:=
 (qaP N n).bind fun r1=>
 some r1
theorem qbQ (N:Nat) (n:Int) {res:Str} (h:xu N n=some res):qf Tryz.prog (.fn 90) [.i n] [] (.str res) []:=by
 unfold xu at h
 refine Goes.fnW Tryz.func90 rfl rfl (m:=5) rfl (rs:=[.tmp 2]) rfl (l:=[(0,.i n)]) rfl ?_
 refine sh fol [(0,.i n)] ?_
 obtain⟨r1,e_r1,h⟩:=bnd h
 refine sq (gr fol [1] [(2,.str r1)] (ac (cv (qfa N n e_r1)) az) ?_)
 refine Goes.ret ?_
 obtain rfl:=si h
 exact(gw2 [.str r1] (FzW.still tS))
def vK (e:qb):Nat→Str→Int→Option Str
 |0,_,_=>none
 |K+1,s4,n5=>
  if n5<(e.Names.length:Int)then
  (cat s4 [32]).bind fun s9=>
  (idx e.Names n5).bind fun x10=>
  (cat s9 x10).bind fun s11=>
  vK e K s11 (w64 (n5+1))
  else
  some s4
def vJ (N:Nat) (e:qb):Nat→Str→Int→Option Str
 |0,_,_=>none
 |K+1,s12,n13=>
  if n13<(e.Values.length:Int)then
  (cat s12 [32]).bind fun s17=>
  (idx e.Values n13).bind fun x18=>
  (xu N x18).bind fun r19=>
  (cat s17 r19).bind fun s20=>
  vJ N e K s20 (w64 (n13+1))
  else
  some s12
def qaF (N:Nat) (e:qb):Option Str:=
 (xu N e.Number).bind fun r1=>
 (cat r1 [32]).bind fun s2=>
 (cat s2 e.Kind).bind fun s3=>
 (vK e N s3 0).bind fun s6=>
 (vJ N e N s6 0).bind fun s14=>
 some s14
theorem qd4 (N:Nat) (e:qb) {res:Str} (h:qaF N e=some res):qf Tryz.prog (.fn 32) [.agg (cE e)] [] (.str res) []:=by
 unfold qaF at h
 refine Goes.fnW Tryz.func32 rfl rfl (m:=45) rfl (rs:=[.tmp 2]) rfl (l:=[(0,.agg (cE e))]) rfl ?_
 refine sg fol (kV []) (kAE e) ?_
 obtain⟨r1,e_r1,h⟩:=bnd h
 obtain⟨s2,e_s2,h⟩:=bnd h
 obtain⟨s3,e_s3,h⟩:=bnd h
 refine sq (gr fol [2,3,6] (kV [(3,.str s3)]) (ac (cv (qbQ N e.Number e_r1)) (ac (hs (.done (.opt (xe Tryz.prog .add 9 (.tmp 8) (.const (.string ⟨#[32]⟩)) (.str r1) (.str [32]))) (.str s2)) (vG e_s2)) (ac (hs (.done (.opt (xe Tryz.prog .add 9 (.tmp 9) (.tmp 11) (.str s2) (.str e.Kind))) (.str s3)) (vG e_s3)) az))) ?_)
 refine sq ?_
 refine sh fol (kV ((3,.str s3)::kBR)) ?_
 refine Goes.block ?_
 obtain⟨r7,g7,h⟩:=bnd h
 refine Goes.imp (Q:=fun x s'=>(x= .exit 0∧ ∃s6,s6=r7∧Sub s' (ofG 45 (kV [(3,.str s6)]),(kAE e)))) ?_ ?_
 ·refine Goes.loopS (fun M s=> ∃(s4:Str) (n5:Int),s=(ofG 45 (kV ((3,.str s4)::(kAq n5))),(kAE e))∧vK e M s4 n5=some r7) ?_ (m:=N) ⟨_,_,rfl,g7⟩
  rintro M s ⟨s4,n5,rfl,g7⟩
  cases M with
  |zero=>simp only[vK]at g7;cases g7
  |succ M=>
   rw[vK]at g7
   refine sq ?_
   refine sh fol (kV [(3,.str s4),(4,.i n5),(17,.bool (decide (n5<(e.Names.length:Int))))]) ?_
   refine ihD g7 (fun c8 g7=>?_) (fun c8 g7=>?_)
   ·refine Goes.skip ?_
    refine sq (Goes.block ?_)
    obtain⟨s9,e_s9,g7⟩:=bnd g7
    obtain⟨x10,e_x10,g7⟩:=bnd g7
    obtain⟨s11,e_s11,g7⟩:=bnd g7
    refine gr fol [1,5,6,7] (kV ((3,.str s11)::(kAq n5))) (ac (hs (.done (.opt (xe Tryz.prog .add 9 (.tmp 20) (.const (.string ⟨#[32]⟩)) (.str s4) (.str [32]))) (.str s9)) (vG e_s9)) (ac (iv vV encS e_x10) (ac (lv 0 ce9 encS e_x10 rfl) (ac (hs (.done (.opt (xe Tryz.prog .add 9 (.tmp 21) (.tmp 26) (.str s9) (.str x10))) (.str s11)) (vG e_s11)) az)))) ?_
    refine gh fol (kV ((3,.str s11)::(kAq (w64 (n5+1))))) ?_
    exact⟨M,(ofG 45 (kV ((3,.str s11)::(kAq (w64 (n5+1))))),(kAE e)),Nat.lt_succ_self _,(Sub.refl _),_,_,rfl,g7⟩
   ·refine Goes.exit ?_
    obtain rfl:=si g7
    exact⟨rfl,_,rfl,(Sub.keep [1,3] rfl rfl)⟩
 rintro x s' ⟨rfl,s6,rfl,hsub⟩
 refine Goes.sub hsub ?_
 refine sq ?_
 refine sh fol (kV ((3,.str s6)::kBe)) ?_
 refine Goes.block ?_
 obtain⟨r15,g15,h⟩:=bnd h
 refine Goes.imp (Q:=fun x s'=>(x= .exit 2∧ ∃s14,s14=r15∧Sub s' (ofG 45 [(3,.str s14)],[]))) ?_ ?_
 ·refine Goes.loopS (fun M s=> ∃(s12:Str) (n13:Int),s=(ofG 45 (kV ((3,.str s12)::(kAn n13))),(kAE e))∧vJ N e M s12 n13=some r15) ?_ (m:=N) ⟨_,_,rfl,g15⟩
  rintro M s ⟨s12,n13,rfl,g15⟩
  cases M with
  |zero=>simp only[vJ]at g15;cases g15
  |succ M=>
   rw[vJ]at g15
   refine sq ?_
   refine sh fol (kV [(3,.str s12),(5,.i n13),(32,.bool (decide (n13<(e.Values.length:Int))))]) ?_
   refine ihD g15 (fun c16 g15=>?_) (fun c16 g15=>?_)
   ·refine Goes.skip ?_
    refine sq (Goes.block ?_)
    obtain⟨s17,e_s17,g15⟩:=bnd g15
    obtain⟨x18,e_x18,g15⟩:=bnd g15
    obtain⟨r19,e_r19,g15⟩:=bnd g15
    obtain⟨s20,e_s20,g15⟩:=bnd g15
    refine gr fol [1,5,6,7,8] (kV ((3,.str s20)::(kAn n13))) (ac (hs (.done (.opt (xe Tryz.prog .add 9 (.tmp 35) (.const (.string ⟨#[32]⟩)) (.str s12) (.str [32]))) (.str s17)) (vG e_s17)) (ac (iv yX encI e_x18) (ac (lv 0 ce3 encI e_x18 rfl) (ac (cv (qbQ N x18 e_r19)) (ac (hs (.done (.opt (xe Tryz.prog .add 9 (.tmp 36) (.tmp 42) (.str s17) (.str r19))) (.str s20)) (vG e_s20)) az))))) ?_
    refine gh fol (kV ((3,.str s20)::(kAn (w64 (n13+1))))) ?_
    exact⟨M,(ofG 45 (kV ((3,.str s20)::(kAn (w64 (n13+1))))),(kAE e)),Nat.lt_succ_self _,(Sub.refl _),_,_,rfl,g15⟩
   ·refine Goes.exit ?_
    obtain rfl:=si g15
    exact⟨rfl,_,rfl,(Sub.norm [] [] rfl rfl (.drop (.keep (.same nS) .nil)) .nil)⟩
 rintro x s' ⟨rfl,s14,rfl,hsub⟩
 refine Goes.sub hsub ?_
 refine sh fol [(2,.str s14)] ?_
 refine Goes.ret ?_
 obtain rfl:=si h
 exact(gw2 [.str s14] (FzW.still tS))
def yc (s_:Str):Nat→Int→Int→Option Int
 |0,_,_=>none
 |K+1,n1,n2=>
  if n2<(s_.length:Int)then
  (idx s_ n2).bind fun c6=>
  yc s_ K ((w64 ((w64 (31*n1))+(w64 (c6.toNat:Int)))).tmod 9999991) (w64 (n2+1))
  else
  some n1
def yH:Nat→Str→Option Str
 |0,_=>none
 |K+1,s8=>
  if(s8.length:Int)<7 then
  (cat [48] s8).bind fun s12=>
  yH K s12
  else
  some s8
def qcb (N:Nat) (s_:Str):Option Str:=
 (yc s_ N 7 0).bind fun n3=>
 (xu N n3).bind fun r7=>
 (yH N r7).bind fun s9=>
 some s9
theorem qih (N:Nat) (s_:Str) {res:Str} (h:qcb N s_=some res):qf Tryz.prog (.fn 33) [.str s_] [] (.str res) []:=by
 unfold qcb at h
 refine Goes.fnW Tryz.func33 rfl rfl (m:=28) rfl (rs:=[.tmp 2]) rfl (l:=(kBF s_)) rfl ?_
 refine sh fol (kBF s_) ?_
 refine sh fol [(0,.str s_),(3,.i 7)] ?_
 refine sq ?_
 refine sh fol ((0,.str s_)::(3,.i 7)::kBR) ?_
 refine Goes.block ?_
 obtain⟨r4,g4,h⟩:=bnd h
 refine Goes.imp (Q:=fun x s'=>(x= .exit 0∧ ∃n3,n3=r4∧Sub s' (ofG 28 [(3,.i n3)],[]))) ?_ ?_
 ·refine Goes.loopS (fun M s=> ∃(n1:Int) (n2:Int),s=(ofG 28 (kAQ s_ n1 (kAq n2)),[])∧yc s_ M n1 n2=some r4) ?_ (m:=N) ⟨_,_,rfl,g4⟩
  rintro M s ⟨n1,n2,rfl,g4⟩
  cases M with
  |zero=>simp only[yc]at g4;cases g4
  |succ M=>
   rw[yc]at g4
   refine sq ?_
   refine sh fol (kAQ s_ n1 [(4,.i n2),(9,.bool (decide (n2<(s_.length:Int))))]) ?_
   refine ihD g4 (fun c5 g4=>?_) (fun c5 g4=>?_)
   ·refine Goes.skip ?_
    refine sq (Goes.block ?_)
    obtain⟨c6,e_c6,g4⟩:=bnd g4
    refine gr fol [4] (kAQ s_ ((w64 ((w64 (31*n1))+(w64 (c6.toNat:Int)))).tmod 9999991) (kAq n2)) (ac (hs (.done (.opt (qaa Tryz.prog 9 (.str s_) (.i n2))) (.int .u8 (c6.toNat:Int))) (qcJ st9 e_c6)) az) ?_
    refine gh fol (kAQ s_ ((w64 ((w64 (31*n1))+(w64 (c6.toNat:Int)))).tmod 9999991) (kAq (w64 (n2+1)))) ?_
    exact⟨M,(ofG 28 (kAQ s_ ((w64 ((w64 (31*n1))+(w64 (c6.toNat:Int)))).tmod 9999991) (kAq (w64 (n2+1)))),[]),Nat.lt_succ_self _,(Sub.refl _),_,_,rfl,g4⟩
   ·refine Goes.exit ?_
    obtain rfl:=si g4
    exact⟨rfl,_,rfl,(Sub.keep [3] rfl rfl)⟩
 rintro x s' ⟨rfl,n3,rfl,hsub⟩
 refine Goes.sub hsub ?_
 obtain⟨r7,e_r7,h⟩:=bnd h
 refine sq (gr fol [1] [(5,.str r7)] (ac (cv (qbQ N n3 e_r7)) az) ?_)
 refine sq (Goes.block ?_)
 obtain⟨r10,g10,h⟩:=bnd h
 refine Goes.imp (Q:=fun x s'=>(x= .exit 2∧ ∃s9,s9=r10∧Sub s' (ofG 28 [(5,.str s9)],[]))) ?_ ?_
 ·refine Goes.loopS (fun M s=> ∃(s8:Str),s=(ofG 28 [(5,.str s8)],[])∧yH M s8=some r10) ?_ (m:=N) ⟨_,rfl,g10⟩
  rintro M s ⟨s8,rfl,g10⟩
  cases M with
  |zero=>simp only[yH]at g10;cases g10
  |succ M=>
   rw[yH]at g10
   refine sq ?_
   refine sh fol [(5,.str s8),(24,.bool (decide ((s8.length:Int)<7)))] ?_
   refine ihD g10 (fun c11 g10=>?_) (fun c11 g10=>?_)
   ·refine Goes.skip ?_
    refine Goes.block ?_
    obtain⟨s12,e_s12,g10⟩:=bnd g10
    refine gr fol [1] [(5,.str s12)] (ac (hs (.done (.opt (xe Tryz.prog .add 9 (.const (.string ⟨#[48]⟩)) (.tmp 25) (.str [48]) (.str s8))) (.str s12)) (vG e_s12)) az) ?_
    exact⟨M,(ofG 28 [(5,.str s12)],[]),Nat.lt_succ_self _,(Sub.refl _),_,rfl,g10⟩
   ·refine Goes.exit ?_
    obtain rfl:=si g10
    exact⟨rfl,_,rfl,(Sub.keep [5] rfl rfl)⟩
 rintro x s' ⟨rfl,s9,rfl,hsub⟩
 refine Goes.sub hsub ?_
 refine sh fol [(2,.str s9)] ?_
 refine Goes.ret ?_
 obtain rfl:=si h
 exact(gw2 [.str s9] (FzW.still tS))
def vZ (N:Nat) (l:List qb):Nat→Str→Int→Option Str
 |0,_,_=>none
 |K+1,s1,n2=>
  if n2<(l.length:Int)then
  (idx l n2).bind fun x6=>
  (qaF N x6).bind fun r7=>
  (cat s1 r7).bind fun s8=>
  (cat s8 [59]).bind fun s9=>
  (qaF N x6).bind fun r10=>
  (qcb N r10).bind fun r11=>
  (cat s9 r11).bind fun s12=>
  (cat s12 [10]).bind fun s13=>
  vZ N l K s13 (w64 (n2+1))
  else
  some s1
def qcj (N:Nat) (l:List qb):Option Str:=
 (vZ N l N [] 0).bind fun s3=>
 some s3
theorem qh6 (N:Nat) (l:List qb) {res:Str} (h:qcj N l=some res):qf Tryz.prog (.fn 8) [vl qa l] [] (.str res) []:=by
 unfold qcj at h
 refine Goes.fnW Tryz.func8 rfl rfl (m:=28) rfl (rs:=[.tmp 2]) rfl (l:=(kH l [])) rfl ?_
 refine sh fol (kH l []) ?_
 refine sh fol (kH l [(3,.str [])]) ?_
 refine sq ?_
 refine sh fol (kH l ((3,.str [])::kBR)) ?_
 refine Goes.block ?_
 obtain⟨r4,g4,h⟩:=bnd h
 refine Goes.imp (Q:=fun x s'=>(x= .exit 0∧ ∃s3,s3=r4∧Sub s' (ofG 28 [(3,.str s3)],[]))) ?_ ?_
 ·refine Goes.loopS (fun M s=> ∃(s1:Str) (n2:Int),s=(ofG 28 (kH l ((3,.str s1)::(kAq n2))),[])∧vZ N l M s1 n2=some r4) ?_ (m:=N) ⟨_,_,rfl,g4⟩
  rintro M s ⟨s1,n2,rfl,g4⟩
  cases M with
  |zero=>simp only[vZ]at g4;cases g4
  |succ M=>
   rw[vZ]at g4
   refine sq ?_
   refine sh fol (kH l [(3,.str s1),(4,.i n2),(8,.bool (decide (n2<(l.length:Int))))]) ?_
   refine ihD g4 (fun c5 g4=>?_) (fun c5 g4=>?_)
   ·refine Goes.skip ?_
    refine sq (Goes.block ?_)
    obtain⟨x6,e_x6,g4⟩:=bnd g4
    obtain⟨r7,e_r7,g4⟩:=bnd g4
    obtain⟨s8,e_s8,g4⟩:=bnd g4
    obtain⟨s9,e_s9,g4⟩:=bnd g4
    obtain⟨r10,e_r10,g4⟩:=bnd g4
    obtain⟨r11,e_r11,g4⟩:=bnd g4
    obtain⟨s12,e_s12,g4⟩:=bnd g4
    obtain⟨s13,e_s13,g4⟩:=bnd g4
    refine gr fol [3,4,5,6,7,10,11,12,13,14,15] (kH l ((3,.str s13)::(kAq n2))) (ac (iv zV qa e_x6) (ac (la qiv qa e_x6) (ac (cv (qd4 N x6 e_r7)) (ac (hs (.done (.opt (xe Tryz.prog .add 9 (.tmp 11) (.tmp 16) (.str s1) (.str r7))) (.str s8)) (vG e_s8)) (ac (hs (.done (.opt (xe Tryz.prog .add 9 (.tmp 17) (.const (.string ⟨#[59]⟩)) (.str s8) (.str [59]))) (.str s9)) (vG e_s9)) (ac (iv zV qa e_x6) (ac (la qiv qa e_x6) (ac (cv (qd4 N x6 e_r10)) (ac (cv (qih N r10 e_r11)) (ac (hs (.done (.opt (xe Tryz.prog .add 9 (.tmp 18) (.tmp 24) (.str s9) (.str r11))) (.str s12)) (vG e_s12)) (ac (hs (.done (.opt (xe Tryz.prog .add 9 (.tmp 25) (.const (.string ⟨#[10]⟩)) (.str s12) (.str [10]))) (.str s13)) (vG e_s13)) az))))))))))) ?_
    refine gh fol (kH l ((3,.str s13)::(kAq (w64 (n2+1))))) ?_
    exact⟨M,(ofG 28 (kH l ((3,.str s13)::(kAq (w64 (n2+1))))),[]),Nat.lt_succ_self _,(Sub.refl _),_,_,rfl,g4⟩
   ·refine Goes.exit ?_
    obtain rfl:=si g4
    exact⟨rfl,_,rfl,(Sub.keep [3] rfl rfl)⟩
 rintro x s' ⟨rfl,s3,rfl,hsub⟩
 refine Goes.sub hsub ?_
 refine sh fol [(2,.str s3)] ?_
 refine Goes.ret ?_
 obtain rfl:=si h
 exact(gw2 [.str s3] (FzW.still tS))
def stringslite_IndexByte (s_:Str) (c:Int):Option Int:=
 (qgs s_ c).bind fun r1=>
 some r1
theorem xP (s_:Str) (c:Int) {res:Int} (h:stringslite_IndexByte s_ c=some res):qf Tryz.prog (.fn 140) [.str s_,.int .u8 c] [] (.i res) []:=by
 unfold stringslite_IndexByte at h
 refine Goes.fnW Tryz.func140 rfl rfl (m:=8) rfl (rs:=[.tmp 4]) rfl (l:=[(0,.str s_),(1,.int .u8 c)]) rfl ?_
 refine sh fol [(0,.str s_),(1,.int .u8 c)] ?_
 obtain⟨r1,e_r1,h⟩:=bnd h
 refine sq (gr fol [2] (kAq r1) (ac (cv (qlZ s_ c e_r1)) az) ?_)
 refine Goes.ret ?_
 obtain rfl:=si h
 exact(gw2 [.i r1] (FzW.still tI))
def strings_IndexByte (s_:Str) (c:Int):Option Int:=
 (stringslite_IndexByte s_ c).bind fun r1=>
 some r1
theorem qaX (s_:Str) (c:Int) {res:Int} (h:strings_IndexByte s_ c=some res):qf Tryz.prog (.fn 92) [.str s_,.int .u8 c] [] (.i res) []:=by
 unfold strings_IndexByte at h
 refine Goes.fnW Tryz.func92 rfl rfl (m:=8) rfl (rs:=[.tmp 4]) rfl (l:=[(0,.str s_),(1,.int .u8 c)]) rfl ?_
 refine sh fol [(0,.str s_),(1,.int .u8 c)] ?_
 obtain⟨r1,e_r1,h⟩:=bnd h
 refine sq (gr fol [2] (kAq r1) (ac (cv (xP s_ c e_r1)) az) ?_)
 refine Goes.ret ?_
 obtain rfl:=si h
 exact(gw2 [.i r1] (FzW.still tI))
def stringslite_HasSuffix (s_:Str) (suffix:Str):Option Bool:=
 (if(s_.length:Int)≥(suffix.length:Int)then
 (cut s_ (w64 ((s_.length:Int)-(suffix.length:Int))) (s_.length:Int)).bind fun s2=>
 some (s2==suffix)
 else
 some false:Option Bool).bind fun b3=>
 some b3
theorem qbY (s_:Str) (suffix:Str) {res:Bool} (h:stringslite_HasSuffix s_ suffix=some res):qf Tryz.prog (.fn 141) [.str s_,.str suffix] [] (.bool res) []:=by
 unfold stringslite_HasSuffix at h
 refine Goes.fnW Tryz.func141 rfl rfl (m:=21) rfl (rs:=[.tmp 4]) rfl (l:=(kT s_ suffix [])) rfl ?_
 refine sh fol (kT s_ suffix []) ?_
 refine sq ?_
 obtain⟨b3,g_v4,h⟩:=bnd h
 refine Goes.cut (s':=(ofG 21 (kBM b3),[])) ?_ ?_
 ·rcases wyD g_v4 with⟨c1,g_v4⟩|⟨c1,g_v4⟩
  ·obtain⟨s2,e_s2,g_v4⟩:=bnd g_v4
   obtain rfl:=si g_v4
   exact tr fol [5,12] (kBM (s2==suffix)) (ac (gw c1) (ac (hs (.done (.opt (qz Tryz.prog 9 (.str s_) (some (.i (w64 ((s_.length:Int)-(suffix.length:Int))))) none none)) (.str s2)) (yK st9 (some (w64 ((s_.length:Int)-(suffix.length:Int)))) none e_s2)) az))
  ·obtain rfl:=si g_v4
   exact tr fol [5] kAf (ac (gw c1) az)
 refine Goes.ret ?_
 obtain rfl:=si h
 exact(gw2 [.bool b3] (FzW.still tB))
def stringslite_CutSuffix (s_:Str) (suffix:Str):Option (Str×Bool):=
 (stringslite_HasSuffix s_ suffix).bind fun r1=>
 if(!r1)=true then
 some (s_,false)
 else
 (cut s_ 0 (w64 ((s_.length:Int)-(suffix.length:Int)))).bind fun s3=>
 some (s3,true)
theorem qbX (s_:Str) (suffix:Str) {res:Str×Bool} (h:stringslite_CutSuffix s_ suffix=some res):qf Tryz.prog (.fn 93) [.str s_,.str suffix] [] (.tuple [.str res.1,.bool res.2]) []:=by
 unfold stringslite_CutSuffix at h
 refine Goes.fnW Tryz.func93 rfl rfl (m:=18) rfl (rs:=[.tmp 4,.tmp 5]) rfl (l:=(kT s_ suffix [])) rfl ?_
 refine sh fol (kT s_ suffix []) ?_
 refine sq ?_
 obtain⟨r1,e_r1,h⟩:=bnd h
 refine sq (gr fol [2] (kT s_ suffix [(9,.bool (!r1))]) (ac (cv (qbY s_ suffix e_r1)) az) ?_)
 refine ihB h (fun c2 h=>?_) (fun c2 h=>?_)
 ·refine sh fol [(4,.str s_),(5,.bool false)] ?_
  refine Goes.ret ?_
  obtain rfl:=si h
  exact(gw2 [.str s_,.bool false] (FzW.tuple (qj.cons (FzW.still tS) (qj.cons (FzW.still tB) qj.nil))))
 ·refine Goes.skip ?_
  obtain⟨s3,e_s3,h⟩:=bnd h
  refine sq (gr fol [6] [(4,.str s3),(5,.bool true)] (ac (hs (.done (.opt (qz Tryz.prog 9 (.str s_) none (some (.i (w64 ((s_.length:Int)-(suffix.length:Int))))) none)) (.str s3)) (yK st9 none (some (w64 ((s_.length:Int)-(suffix.length:Int)))) e_s3)) az) ?_)
  refine Goes.ret ?_
  obtain rfl:=si h
  exact(gw2 (.str s3::kA3) (FzW.tuple (qj.cons (FzW.still tS) (qj.cons (FzW.still tB) qj.nil))))
def strings_CutSuffix (s_:Str) (suffix:Str):Option (Str×Bool):=
 (stringslite_CutSuffix s_ suffix).bind fun r1=>
 some (r1.1,r1.2)
theorem qaV (s_:Str) (suffix:Str) {res:Str×Bool} (h:strings_CutSuffix s_ suffix=some res):qf Tryz.prog (.fn 35) [.str s_,.str suffix] [] (.tuple [.str res.1,.bool res.2]) []:=by
 unfold strings_CutSuffix at h
 refine Goes.fnW Tryz.func35 rfl rfl (m:=11) rfl (rs:=[.tmp 4,.tmp 5]) rfl (l:=(kT s_ suffix [])) rfl ?_
 refine sh fol (kT s_ suffix []) ?_
 obtain⟨r1,e_r1,h⟩:=bnd h
 refine sq (gr fol [2] [(4,.str r1.1),(5,.bool r1.2)] (ac (cv (qbX s_ suffix e_r1)) az) ?_)
 refine Goes.ret ?_
 obtain rfl:=si h
 exact(gw2 [.str r1.1,.bool r1.2] (FzW.tuple (qj.cons (FzW.still tS) (qj.cons (FzW.still tB) qj.nil))))
def vz (l:List Int):Nat→Int→Option (Unit⊕Int)
 |0,_=>none
 |K+1,n1=>
  if n1<(l.length:Int)then
  (idx l n1).bind fun x5=>
  if(!decide (x5=0))=true then
  some (.inr x5)
  else
  vz l K (w64 (n1+1))
  else
  some (.inl ())
def zH (N:Nat) (l:List Int):Option Int:=
 (vz l N 0).bind (fun
 |(.inl ())=>
 some 0
 |(.inr q7)=>
 some q7)
theorem jd (N:Nat) (l:List Int) {res:Int} (h:zH N l=some res):qf Tryz.prog (.fn 37) [vl encI l] [] (.i res) []:=by
 unfold zH at h
 refine Goes.fnW Tryz.func37 rfl rfl (m:=15) rfl (rs:=[.tmp 2]) rfl (l:=[(0,vl encI l)]) rfl ?_
 refine sh fol [(0,vl encI l)] ?_
 refine sq ?_
 refine sh fol [(5,vl encI l),(6,.i (l.length:Int)),(7,.i 0)] ?_
 refine Goes.block ?_
 obtain⟨r2,g2,h⟩:=bnd h
 refine Goes.imp (Q:=fun x s'=>(x= .exit 0∧(.inl ())=r2∧Sub s' (ofG 15 [],[]))∨(x= .ret∧ ∃q3,(.inr q3)=r2∧zy Tryz.prog [.tmp 2] (.i q3) .ret s')) ?_ ?_
 ·refine Goes.loopS (fun M s=> ∃(n1:Int),s=(ofG 15 ((5,vl encI l)::(kAv (l.length:Int) n1 [])),[])∧vz l M n1=some r2) ?_ (m:=N) ⟨_,rfl,g2⟩
  rintro M s ⟨n1,rfl,g2⟩
  cases M with
  |zero=>simp only[vz]at g2;cases g2
  |succ M=>
   rw[vz]at g2
   refine sh fol ((5,vl encI l)::(kAv (l.length:Int) n1 [(8,.bool (decide (n1<(l.length:Int))))])) ?_
   refine sq ?_
   refine ihD g2 (fun c4 g2=>?_) (fun c4 g2=>?_)
   ·refine Goes.skip ?_
    refine sq (Goes.block ?_)
    obtain⟨x5,e_x5,g2⟩:=bnd g2
    refine sq (gr fol [0,1] ((4,.i x5)::(5,vl encI l)::(kAv (l.length:Int) n1 [])) (ac (iv sl167 encI e_x5) (ac (lv 0 ce32 encI e_x5 rfl) az)) ?_)
    refine sh fol ((4,.i x5)::(5,vl encI l)::(kAv (l.length:Int) n1 [(12,.bool (!decide (x5=0)))])) ?_
    refine ihB g2 (fun c6 g2=>?_) (fun c6 g2=>?_)
    ·refine sh fol [(2,.i x5)] ?_
     refine Goes.ret ?_
     obtain rfl:=si g2
     exact Or.inr (⟨rfl,_,rfl,(gw2 [.i x5] (FzW.still tI))⟩)
    ·refine Goes.skip ?_
     refine gh fol ((5,vl encI l)::(kAv (l.length:Int) (w64 (n1+1)) [])) ?_
     exact⟨M,(ofG 15 ((5,vl encI l)::(kAv (l.length:Int) (w64 (n1+1)) [])),[]),Nat.lt_succ_self _,(Sub.refl _),_,rfl,g2⟩
   ·refine Goes.exit ?_
    obtain rfl:=si g2
    exact Or.inl (⟨rfl,rfl,(Sub.keep [] rfl rfl)⟩)
 rintro x s' (⟨rfl,rfl,hsub⟩|⟨rfl,q7,rfl,hret⟩)
 ·try dsimp only at h
  refine Goes.sub hsub ?_
  refine sh fol [(2,.i 0)] ?_
  refine Goes.ret ?_
  obtain rfl:=si h
  exact(gw2 [.i 0] (FzW.still tI))
 ·try dsimp only at h
  obtain rfl:=si h
  exact hret
def qX (holds:Bool) (e:Int):Option Int:=
 if holds=true then
 some e
 else
 some 0
theorem qH (holds:Bool) (e:Int) {res:Int} (h:qX holds e=some res):qf Tryz.prog (.fn 39) [.bool holds,.i e] [] (.i res) []:=by
 unfold qX at h
 refine Goes.fnW Tryz.func39 rfl rfl (m:=7) rfl (rs:=[.tmp 4]) rfl (l:=[(0,.bool holds),(1,.i e)]) rfl ?_
 refine sh fol [(0,.bool holds),(1,.i e)] ?_
 refine sq ?_
 refine sh fol [(1,.i e),(5,.bool holds)] ?_
 refine ihB h (fun c1 h=>?_) (fun c1 h=>?_)
 ·refine sh fol (kAq e) ?_
  refine Goes.ret ?_
  obtain rfl:=si h
  exact(gw2 [.i e] (FzW.still tI))
 ·refine Goes.skip ?_
  refine sh fol kBR ?_
  refine Goes.ret ?_
  obtain rfl:=si h
  exact(gw2 [.i 0] (FzW.still tI))
def vW (s_:Str):Option Bool:=
 (if(!(s_==[]))=true then
 (qjv s_ [48,49,50,51,52,53,54,55,56,57]).bind fun r2=>
 some (r2==[])
 else
 some false:Option Bool).bind fun b3=>
 some b3
theorem yJ (s_:Str) {res:Bool} (h:vW s_=some res):qf Tryz.prog (.fn 94) [.str s_] [] (.bool res) []:=by
 unfold vW at h
 refine Goes.fnW Tryz.func94 rfl rfl (m:=10) rfl (rs:=[.tmp 2]) rfl (l:=(kBF s_)) rfl ?_
 refine sh fol (kBF s_) ?_
 refine sq ?_
 obtain⟨b3,g_v4,h⟩:=bnd h
 refine Goes.cut (s':=(ofG 10 [(2,.bool b3)],[])) ?_ ?_
 ·rcases wyB g_v4 with⟨c1,g_v4⟩|⟨c1,g_v4⟩
  ·obtain⟨r2,e_r2,g_v4⟩:=bnd g_v4
   obtain rfl:=si g_v4
   exact tr fol [2,4] [(2,.bool (r2==[]))] (ac (gw c1) (ac (cv (qms s_ [48,49,50,51,52,53,54,55,56,57] e_r2)) az))
  ·obtain rfl:=si g_v4
   exact tr fol [2] kBf (ac (gw c1) az)
 refine Goes.ret ?_
 obtain rfl:=si h
 exact(gw2 [.bool b3] (FzW.still tB))
def vL (s_:Str):Nat→Int→Int→Option Int
 |0,_,_=>none
 |K+1,n1,n2=>
  if n2<(s_.length:Int)then
  (idx s_ n2).bind fun c6=>
  vL s_ K ((w64 ((w64 (31*n1))+(w64 (c6.toNat:Int)))).tmod 9999991) (w64 (n2+1))
  else
  some n1
def qaB (N:Nat) (s_:Str):Option Str:=
 (vL s_ N 7 0).bind fun n3=>
 (qdW n3).bind fun r7=>
 (qfN [48] (w64 (7-(r7.length:Int)))).bind fun r8=>
 (cat r8 r7).bind fun s9=>
 some s9
theorem qd6 (N:Nat) (s_:Str) {res:Str} (h:qaB N s_=some res):qf Tryz.prog (.fn 95) [.str s_] [] (.str res) []:=by
 unfold qaB at h
 refine Goes.fnW Tryz.func95 rfl rfl (m:=28) rfl (rs:=[.tmp 2]) rfl (l:=(kBF s_)) rfl ?_
 refine sh fol (kBF s_) ?_
 refine sh fol [(0,.str s_),(3,.i 7)] ?_
 refine sq ?_
 refine sh fol [(0,.str s_),(3,.i 7),(7,.i (s_.length:Int)),(8,.i 0)] ?_
 refine Goes.block ?_
 obtain⟨r4,g4,h⟩:=bnd h
 refine Goes.imp (Q:=fun x s'=>(x= .exit 0∧ ∃n3,n3=r4∧Sub s' (ofG 28 [(3,.i n3)],[]))) ?_ ?_
 ·refine Goes.loopS (fun M s=> ∃(n1:Int) (n2:Int),s=(ofG 28 (kAQ s_ n1 (kA6 (s_.length:Int) n2)),[])∧vL s_ M n1 n2=some r4) ?_ (m:=N) ⟨_,_,rfl,g4⟩
  rintro M s ⟨n1,n2,rfl,g4⟩
  cases M with
  |zero=>simp only[vL]at g4;cases g4
  |succ M=>
   rw[vL]at g4
   refine sh fol (kAQ s_ n1 [(7,.i (s_.length:Int)),(8,.i n2),(9,.bool (decide (n2<(s_.length:Int))))]) ?_
   refine sq ?_
   refine ihD g4 (fun c5 g4=>?_) (fun c5 g4=>?_)
   ·refine Goes.skip ?_
    refine sq (Goes.block ?_)
    refine sh fol (kAQ s_ n1 ((4,.i n2)::(kA6 (s_.length:Int) n2))) ?_
    obtain⟨c6,e_c6,g4⟩:=bnd g4
    refine gr fol [4] (kAQ s_ ((w64 ((w64 (31*n1))+(w64 (c6.toNat:Int)))).tmod 9999991) (kA6 (s_.length:Int) n2)) (ac (hs (.done (.opt (qaa Tryz.prog 9 (.str s_) (.i n2))) (.int .u8 (c6.toNat:Int))) (qcJ st9 e_c6)) az) ?_
    refine gh fol (kAQ s_ ((w64 ((w64 (31*n1))+(w64 (c6.toNat:Int)))).tmod 9999991) (kA6 (s_.length:Int) (w64 (n2+1)))) ?_
    exact⟨M,(ofG 28 (kAQ s_ ((w64 ((w64 (31*n1))+(w64 (c6.toNat:Int)))).tmod 9999991) (kA6 (s_.length:Int) (w64 (n2+1)))),[]),Nat.lt_succ_self _,(Sub.refl _),_,_,rfl,g4⟩
   ·refine Goes.exit ?_
    obtain rfl:=si g4
    exact⟨rfl,_,rfl,(Sub.keep [3] rfl rfl)⟩
 rintro x s' ⟨rfl,n3,rfl,hsub⟩
 refine Goes.sub hsub ?_
 obtain⟨r7,e_r7,h⟩:=bnd h
 refine sq (gr fol [1] [(5,.str r7)] (ac (cv (qgR n3 e_r7)) az) ?_)
 obtain⟨r8,e_r8,h⟩:=bnd h
 obtain⟨s9,e_s9,h⟩:=bnd h
 refine sq (gr fol [3,5] [(2,.str s9)] (ac (cv (qke [48] (w64 (7-(r7.length:Int))) e_r8)) (ac (hs (.done (.opt (xe Tryz.prog .add 9 (.tmp 25) (.tmp 26) (.str r8) (.str r7))) (.str s9)) (vG e_s9)) az)) ?_)
 refine Goes.ret ?_
 obtain rfl:=si h
 exact(gw2 [.str s9] (FzW.still tS))
def jm (n:Int) (low:Int) (high:Int):Option Int:=
 (if n<low then
 (qX true 3).bind fun r2=>
 some r2
 else
 (qX (decide (n>high)) 3).bind fun r3=>
 some r3:Option Int).bind fun n4=>
 some n4
theorem jM (n:Int) (low:Int) (high:Int) {res:Int} (h:jm n low high=some res):qf Tryz.prog (.fn 97) [.i n,.i low,.i high] [] (.i res) []:=by
 unfold jm at h
 refine Goes.fnW Tryz.func97 rfl rfl (m:=16) rfl (rs:=[.tmp 6]) rfl (l:=(kBa n low [(2,.i high)])) rfl ?_
 refine sh fol (kBa n low [(2,.i high)]) ?_
 refine sq ?_
 obtain⟨n4,g_v5,h⟩:=bnd h
 refine Goes.cut (s':=(ofG 16 [(6,.i n4)],[])) ?_ ?_
 ·rcases wyD g_v5 with⟨c1,g_v5⟩|⟨c1,g_v5⟩
  ·obtain⟨r2,e_r2,g_v5⟩:=bnd g_v5
   obtain rfl:=si g_v5
   exact tr fol [3,8] [(6,.i r2)] (ac (gw c1) (ac (cv (qH true 3 e_r2)) az))
  ·obtain⟨r3,e_r3,g_v5⟩:=bnd g_v5
   obtain rfl:=si g_v5
   exact tr fol [3,8] [(6,.i r3)] (ac (gw c1) (ac (cv (qH (decide (n>high)) 3 e_r3)) az))
 refine Goes.ret ?_
 obtain rfl:=si h
 exact(gw2 [.i n4] (FzW.still tI))
def vw (n:Int):Option Int:=
 (jm n 0 99999).bind fun r1=>
 some r1
theorem xY (n:Int) {res:Int} (h:vw n=some res):qf Tryz.prog (.fn 42) [.i n] [] (.i res) []:=by
 unfold vw at h
 refine Goes.fnW Tryz.func42 rfl rfl (m:=5) rfl (rs:=[.tmp 2]) rfl (l:=[(0,.i n)]) rfl ?_
 refine sh fol [(0,.i n)] ?_
 obtain⟨r1,e_r1,h⟩:=bnd h
 refine sq (gr fol [1] [(2,.i r1)] (ac (cv (jM n 0 99999 e_r1)) az) ?_)
 refine Goes.ret ?_
 obtain rfl:=si h
 exact(gw2 [.i r1] (FzW.still tI))
def jy (a0_:qc) (a1_:Str):Option Bool:=
 some (!(ltL a0_.Name a1_))
theorem qaS (a0_:qc) (a1_:Str) {res:Bool} (h:jy a0_ a1_=some res):qf Tryz.prog (.fn 172) [.agg (cS a0_),.fptr [.str a1_] 0] [] (.bool res) []:=by
 unfold jy at h
 refine Goes.fnW Tryz.func172 rfl rfl (m:=8) rfl (rs:=[.tmp 3]) rfl (l:=[(0,.agg (cS a0_)),(1,.fptr [.str a1_] 0)]) rfl ?_
 refine sg fol ((1,.fptr [.str a1_] 0)::(kR [])) (kBJ a0_) ?_
 refine sh fol [(3,.bool (!(ltL a0_.Name a1_)))] ?_
 refine Goes.ret ?_
 obtain rfl:=si h
 exact(gw2 [.bool (!(ltL a0_.Name a1_))] (FzW.still tB))
def qL (a0_:List qc) (a1_:Str):Nat→Int→Option (Unit⊕Int)
 |0,_=>none
 |K+1,n1=>
  if n1<(a0_.length:Int)then
  (idx a0_ n1).bind fun x5=>
  (jy x5 a1_).bind fun r6=>
  if r6=true then
  some (.inr n1)
  else
  qL a0_ a1_ K (w64 (n1+1))
  else
  some (.inl ())
def jF (N:Nat) (a0_:List qc) (a1_:Str):Option Int:=
 (qL a0_ a1_ N 0).bind (fun
 |(.inl ())=>
 some (-1)
 |(.inr q8)=>
 some q8)
theorem qa6 (N:Nat) (a0_:List qc) (a1_:Str) {res:Int} (h:jF N a0_ a1_=some res):qf Tryz.prog (.fn 171) [vl qd a0_,.func (.func 172) [] [.fptr [.str a1_] 0]] [] (.i res) []:=by
 unfold jF at h
 refine Goes.fnW Tryz.func171 rfl rfl (m:=19) rfl (rs:=[.tmp 4]) rfl (l:=(kBY a0_ [(1,.func (.func 172) [] [.fptr [.str a1_] 0])])) rfl ?_
 refine sh fol (kBY a0_ [(1,.func (.func 172) [] [.fptr [.str a1_] 0])]) ?_
 refine sq ?_
 refine sh fol (kBY a0_ [(1,.func (.func 172) [] [.fptr [.str a1_] 0]),(7,.i (a0_.length:Int)),(8,.i 0)]) ?_
 refine Goes.block ?_
 obtain⟨r2,g2,h⟩:=bnd h
 refine Goes.imp (Q:=fun x s'=>(x= .exit 0∧(.inl ())=r2∧Sub s' (ofG 19 [],[]))∨(x= .ret∧ ∃q3,(.inr q3)=r2∧zy Tryz.prog [.tmp 4] (.i q3) .ret s')) ?_ ?_
 ·refine Goes.loopS (fun M s=> ∃(n1:Int),s=(ofG 19 (kBY a0_ ((1,.func (.func 172) [] [.fptr [.str a1_] 0])::(kA6 (a0_.length:Int) n1))),[])∧qL a0_ a1_ M n1=some r2) ?_ (m:=N) ⟨_,rfl,g2⟩
  rintro M s ⟨n1,rfl,g2⟩
  cases M with
  |zero=>simp only[qL]at g2;cases g2
  |succ M=>
   rw[qL]at g2
   refine sh fol (kBY a0_ [(1,.func (.func 172) [] [.fptr [.str a1_] 0]),(7,.i (a0_.length:Int)),(8,.i n1),(9,.bool (decide (n1<(a0_.length:Int))))]) ?_
   refine sq ?_
   refine ihD g2 (fun c4 g2=>?_) (fun c4 g2=>?_)
   ·refine Goes.skip ?_
    refine sq (Goes.block ?_)
    refine sh fol (kBY a0_ ((1,.func (.func 172) [] [.fptr [.str a1_] 0])::(5,.i n1)::(kA6 (a0_.length:Int) n1))) ?_
    obtain⟨x5,e_x5,g2⟩:=bnd g2
    obtain⟨r6,e_r6,g2⟩:=bnd g2
    refine sq (gr fol [3,4,5] (kBY a0_ [(1,.func (.func 172) [] [.fptr [.str a1_] 0]),(5,.i n1),(7,.i (a0_.length:Int)),(8,.i n1),(16,.bool r6)]) (ac (iv qbu qd e_x5) (ac (la qf6 qd e_x5) (ac (hs (.call 172 [.agg (cS x5),.fptr [.str a1_] 0] [] [] [.agg (cS x5),.fptr [.str a1_] 0] (.bool r6)) (qjQ (FzL.cons (Fz.still (Still.agg (AllST.cons tS (AllST.cons tS (AllST.cons tI (AllST.cons tI (AllST.cons tI (AllST.cons tI (AllST.cons tI (AllST.cons tI (AllST.cons tB AllST.nil))))))))))) (FzL.cons (Fz.still (Still.fptr (AllST.cons tS AllST.nil))) FzL.nil)) (qaS x5 a1_ e_r6) tB)) az))) ?_)
    refine ihB g2 (fun c7 g2=>?_) (fun c7 g2=>?_)
    ·refine sh fol (kAq n1) ?_
     refine Goes.ret ?_
     obtain rfl:=si g2
     exact Or.inr (⟨rfl,_,rfl,(gw2 [.i n1] (FzW.still tI))⟩)
    ·refine Goes.skip ?_
     refine gh fol (kBY a0_ ((1,.func (.func 172) [] [.fptr [.str a1_] 0])::(kA6 (a0_.length:Int) (w64 (n1+1))))) ?_
     exact⟨M,(ofG 19 (kBY a0_ ((1,.func (.func 172) [] [.fptr [.str a1_] 0])::(kA6 (a0_.length:Int) (w64 (n1+1))))),[]),Nat.lt_succ_self _,(Sub.refl _),_,rfl,g2⟩
   ·refine Goes.exit ?_
    obtain rfl:=si g2
    exact Or.inl (⟨rfl,rfl,(Sub.keep [] rfl rfl)⟩)
 rintro x s' (⟨rfl,rfl,hsub⟩|⟨rfl,q8,rfl,hret⟩)
 ·try dsimp only at h
  refine Goes.sub hsub ?_
  refine sh fol [(4,.i (-1))] ?_
  refine Goes.ret ?_
  obtain rfl:=si h
  exact(gw2 [.i (-1)] (FzW.still tI))
 ·try dsimp only at h
  obtain rfl:=si h
  exact hret
def jg (N:Nat) (r:qJ) (name:Str):Option (Int×Bool):=
 (jF N r.Slings name).bind fun r1=>
 if r1<0 then
 some ((r.Slings.length:Int),false)
 else
 (idx r.Slings r1).bind fun x3=>
 some (r1,x3.Name==name)
theorem qaf (N:Nat) (r:qJ) (name:Str) {res:Int×Bool} (h:jg N r name=some res):qf Tryz.prog (.fn 128) (kAO r.Day r.Slings [.str name]) [] (.tuple [.i res.1,.bool res.2]) []:=by
 unfold jg at h
 refine Goes.fnW Tryz.func128 rfl rfl (m:=25) rfl (rs:=[.tmp 4,.tmp 5]) rfl (l:=(kBX r.Day r.Slings [(1,.str name)])) rfl ?_
 refine sg fol (kI []) (kC r.Day r.Slings (kAp name [])) ?_
 obtain⟨r1,e_r1,h⟩:=bnd h
 refine sq (gr fol [3] (kI [(6,.i r1)]) (ac (hs (.call 171 [vl qd r.Slings,.func (.func 172) [] [.ptr 1 0]] (kC r.Day r.Slings (kAp name [])) [1] [vl qd r.Slings,.func (.func 172) [] [.fptr [.str name] 0]] (.i r1)) (qa4 (FzL.cons (Fz.still (ko qd _ (nl rfl))) (FzL.cons (Fz.func FzL.nil (FzL.cons (Fz.ptr rfl rfl (FzL.cons (Fz.still tS) FzL.nil)) FzL.nil)) FzL.nil)) (qa6 N r.Slings name e_r1) tI rfl)) az) ?_)
 refine sq ?_
 refine sh fol (kI [(6,.i r1),(12,.bool (decide (r1<0)))]) ?_
 refine ihD h (fun c2 h=>?_) (fun c2 h=>?_)
 ·refine sh fol [(4,.i (r.Slings.length:Int)),(5,.bool false)] ?_
  refine Goes.ret ?_
  obtain rfl:=si h
  exact(gw2 [.i (r.Slings.length:Int),.bool false] (FzW.tuple (qj.cons (FzW.still tI) (qj.cons (FzW.still tB) qj.nil))))
 ·refine Goes.skip ?_
  obtain⟨x3,e_x3,h⟩:=bnd h
  refine sq (gr fol [4,6] [(4,.i r1),(5,.bool (x3.Name==name))] (ac (iv qbu qd e_x3) (ac (lv 0 ce9 qd e_x3 rfl) az)) ?_)
  refine Goes.ret ?_
  obtain rfl:=si h
  exact(gw2 [.i r1,.bool (x3.Name==name)] (FzW.tuple (qj.cons (FzW.still tI) (qj.cons (FzW.still tB) qj.nil))))
def zR (s_:qc) (day:Int):Option Bool:=
 (if s_.Gone=true then
 some true
 else
 if day>s_.Last then
 some true
 else
 some (decide (s_.Used=s_.Uses)):Option Bool).bind fun b3=>
 some b3
theorem vg (s_:qc) (day:Int) {res:Bool} (h:zR s_ day=some res):qf Tryz.prog (.fn 78) [.agg (cS s_),.i day] [] (.bool res) []:=by
 unfold zR at h
 refine Goes.fnW Tryz.func78 rfl rfl (m:=20) rfl (rs:=[.tmp 4]) rfl (l:=[(0,.agg (cS s_)),(1,.i day)]) rfl ?_
 refine sg fol ((1,.i day)::(kR [])) (kBJ s_) ?_
 refine sq ?_
 obtain⟨b3,g_v4,h⟩:=bnd h
 refine Goes.cut (s':=(ofG 20 (kBM b3),(kBJ s_))) ?_ ?_
 ·rcases wyB g_v4 with⟨c1,g_v4⟩|⟨c1,g_v4⟩
  ·obtain rfl:=si g_v4
   exact tr fol [2] kAi (ac (gw c1) az)
  ·rcases wyD g_v4 with⟨c2,g_v4⟩|⟨c2,g_v4⟩
   ·obtain rfl:=si g_v4
    exact tr fol [2,8] kAi (ac (gw c1) (ac (gw c2) az))
   ·obtain rfl:=si g_v4
    exact tr fol [2,8] (kBM (decide (s_.Used=s_.Uses))) (ac (gw c1) (ac (gw c2) az))
 refine Goes.ret ?_
 obtain rfl:=si h
 exact(gw2 [.bool b3] (FzW.still tB))
def jK (s_:qc) (day:Int):Option Bool:=
 (if s_.Limit>0 then
 some (decide (day≤s_.Until))
 else
 some false:Option Bool).bind fun b2=>
 some b2
theorem qay (s_:qc) (day:Int) {res:Bool} (h:jK s_ day=some res):qf Tryz.prog (.fn 79) [.agg (cS s_),.i day] [] (.bool res) []:=by
 unfold jK at h
 refine Goes.fnW Tryz.func79 rfl rfl (m:=14) rfl (rs:=[.tmp 4]) rfl (l:=[(0,.agg (cS s_)),(1,.i day)]) rfl ?_
 refine sg fol ((1,.i day)::(kR [])) (kBJ s_) ?_
 refine sq ?_
 obtain⟨b2,g_v3,h⟩:=bnd h
 refine Goes.cut (s':=(ofG 14 (kBM b2),(kBJ s_))) ?_ ?_
 ·rcases wyD g_v3 with⟨c1,g_v3⟩|⟨c1,g_v3⟩
  ·obtain rfl:=si g_v3
   exact tr fol [3] (kBM (decide (day≤s_.Until))) (ac (gw c1) az)
  ·obtain rfl:=si g_v3
   exact tr fol [3] kAf (ac (gw c1) az)
 refine Goes.ret ?_
 obtain rfl:=si h
 exact(gw2 [.bool b2] (FzW.still tB))
def zF:Option Unit:=
 some ()
theorem qy {res:Unit} (h:zF=some res):qf Tryz.prog (.fn 73) [] [] (fm1) []:=by
 unfold zF at h
 refine Goes.fnW Tryz.func73 rfl rfl (m:=9) rfl (rs:=[.tmp 0]) rfl (l:=[]) rfl ?_
 refine sh fol [] ?_
 refine sg fol [(0,.map 0)] [.map kAt (.agg [.i 2,.i 3,.func (.func 117) [] []]:: .agg [.i 1,.i 2,.func (.func 118) [] []]:: .agg [.i 1,.i 2,.func (.func 119) [] []]:: .agg [.i 1,.i 1,.func (.func 120) [] []]:: .agg [.i 1,.i 1,.func (.func 121) [] []]::(kBQ []))] ?_
 refine Goes.ret ?_
 obtain rfl:=si h
 exact(gw2 [.map 0] (FzW.of (by kernel_rfl)))
def vX (c:Int):Option Bool:=
 (if c≥97 then
 if c≤122 then
 some true
 else
 if c≥65 then
 some (decide (c≤90))
 else
 some false
 else
 if c≥65 then
 some (decide (c≤90))
 else
 some false:Option Bool).bind fun b5=>
 some b5
theorem vU (c:Int) {res:Bool} (h:vX c=some res):qf Tryz.prog (.fn 207) [.int .i32 c] [] (.bool res) []:=by
 unfold vX at h
 refine Goes.fnW Tryz.func207 rfl rfl (m:=17) rfl (rs:=[.tmp 2]) rfl (l:=[(0,.int .i32 c)]) rfl ?_
 refine sh fol [(0,.int .i32 c)] ?_
 refine sq ?_
 obtain⟨b5,g_v6,h⟩:=bnd h
 refine Goes.cut (s':=(ofG 17 [(2,.bool b5)],[])) ?_ ?_
 ·rcases wyD g_v6 with⟨c1,g_v6⟩|⟨c1,g_v6⟩
  ·rcases wyD g_v6 with⟨c2,g_v6⟩|⟨c2,g_v6⟩
   ·obtain rfl:=si g_v6
    exact tr fol [2,6] [(2,.bool true)] (ac (gw c1) (ac (gw c2) az))
   ·rcases wyD g_v6 with⟨c3,g_v6⟩|⟨c3,g_v6⟩
    ·obtain rfl:=si g_v6
     exact tr fol [2,6,9] [(2,.bool (decide (c≤90)))] (ac (gw c1) (ac (gw c2) (ac (gw c3) az)))
    ·obtain rfl:=si g_v6
     exact tr fol [2,6,9] kBf (ac (gw c1) (ac (gw c2) (ac (gw c3) az)))
  ·rcases wyD g_v6 with⟨c4,g_v6⟩|⟨c4,g_v6⟩
   ·obtain rfl:=si g_v6
    exact tr fol [2,9] [(2,.bool (decide (c≤90)))] (ac (gw c1) (ac (gw c4) az))
   ·obtain rfl:=si g_v6
    exact tr fol [2,9] kBf (ac (gw c1) (ac (gw c4) az))
 refine Goes.ret ?_
 obtain rfl:=si h
 exact(gw2 [.bool b5] (FzW.still tB))
end Go.Av
