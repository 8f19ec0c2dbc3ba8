/-
  Walks of functions: what each computes, as a plain function.
-/
import Derived.Test.YtjflombnfhlkaaaGreatDoorAvJn
import Derived.Test.YtjflombnfhlkaaaGreatDoorAvPq
import Derived.Test.YtjflombnfhlkaaaGreatDoorAvDv
noncomputable section
namespace Go.Av
open Go.Proofs Go.RowKit
set_option linter.unusedSectionVars false
set_option linter.unusedVariables false
set_option linter.unusedSimpArgs false
set_option maxRecDepth 100000
theorem fol:Tryz.prog.follows .mixedOrders=true:=by kernel_rfl
structure qb where
 Number:Int
 Kind:Str
 Names:List Str
 Values:List Int
 Text:Str
def qa:Enc qb:=(encI.prod (encS.prod ((yj encS).prod ((yj encI).prod encS)))).comap fun x=>(x.Number,x.Kind,x.Names,x.Values,x.Text)
instance:SE qa:=⟨nl rfl⟩
structure qc where
 Name:Str
 Batch:Str
 Born:Int
 Last:Int
 Uses:Int
 Used:Int
 Limit:Int
 Until:Int
 Gone:Bool
def qd:Enc qc:=(encS.prod (encS.prod (encI.prod (encI.prod (encI.prod (encI.prod (encI.prod (encI.prod qn1)))))))).comap fun x=>(x.Name,x.Batch,x.Born,x.Last,x.Uses,x.Used,x.Limit,x.Until,x.Gone)
instance:SE qd:=⟨nl rfl⟩
abbrev cS (x:qc):List AV:=[.str x.Name,.str x.Batch,.i x.Born,.i x.Last,.i x.Uses,.i x.Used,.i x.Limit,.i x.Until,.bool x.Gone]
abbrev cE (x:qb):List AV:=[.i x.Number,.str x.Kind,vl encS x.Names,vl encI x.Values,.str x.Text]
abbrev bS (l:List qc):Blk:= .cells (l.flatMap qd.c)
abbrev cF (a:Int) (b:Str) (c:List Str) (d:List Int) (e:Str):List AV:=[.i a,.str b,vl encS c,vl encI d,.str e]
abbrev cT (a b:Str) (c d e f g h:Int) (i:Bool):List AV:=[.str a,.str b,.i c,.i d,.i e,.i f,.i g,.i h,.bool i]
structure jO where
 Day:Int
 Slings:List qc
def qfy:Enc jO:=(encI.prod (yj qd)).comap fun x=>(x.Day,x.Slings)
instance:SE qfy:=⟨nl rfl⟩
structure StateT where
 number:Int
 register:jO
def jm:Enc StateT:=(encI.prod qfy).comap fun x=>(x.number,x.register)
instance:SE jm:=⟨nl rfl⟩
structure qD where
 Day:Int
 Slings:List qc
def qhX:Enc qD:=(encI.prod (yj qd)).comap fun x=>(x.Day,x.Slings)
instance:SE qhX:=⟨nl rfl⟩
structure qaU where
 neg:Bool
 w:List Int
def qjZ:Enc qaU:=(qn1.prod (yj encI)).comap fun x=>(x.neg,x.w)
instance:SE qjZ:=⟨nl rfl⟩
abbrev kA (a:List qb) (b:Option (List StateT)) (x:List Blk):List Blk:= .cells [.gslice 1 a.length 5,hsl 2 3 b]:: .cells (a.flatMap qa.c):: .cells ((hof b).flatMap jm.c)::x
abbrev kB (a:List qb) (b:Option (List StateT)) (x:List Blk):List Blk:= .cells (a.flatMap qa.c):: .cells ((hof b).flatMap jm.c)::x
abbrev kC {α2:Type} (a:List qb) (b:Str) (c:List α2) (x:List (Nat×AV)):List (Nat×AV):=(0,vl qa a)::(3,.ptr 0 0)::(8,.str b)::(9,.gslice 1 c.length 1)::x
abbrev kD {α1:Type} (a:Int) (b:List α1) (x:List Blk):List Blk:= .cells [.i a,.slice 0 0 b.length b.length 9]::x
abbrev kE (x:List (Nat×AV)):List (Nat×AV):=(2,.ptr 1 0)::(3,.ptr 2 0)::(4,.ptr 3 0)::x
abbrev kF (a:Int) (b:Int) (c:Int) (d:List Int) (x:List Blk):List Blk:= .cells [.int .u16 a,.int .u16 b,.int .u16 c]:: .cells (d.flatMap encI.c)::x
abbrev kG (a:Int) (b:List qc) (x:List Blk):List Blk:= .cells [.i a,vl qd b]::x
abbrev kH {α1:Type} (a:Int) (b:List α1) (c:Int) (x:List (Nat×AV)):List (Nat×AV):=(2,.ptr 0 0)::(3,.ptr 1 0)::(4,.ptr 2 0)::(5,.i a)::(6,.oslice 3 b.length 9)::(9,.i c)::x
abbrev kI (a:Int) (b:Int) (x:List Blk):List Blk:= .cells [.nilslice]:: .cells [.i a]:: .cells [.i b]::x
abbrev kJ (a:List qb) (x:List Blk):List Blk:= .cells (a.flatMap qa.c)::x
abbrev kK (a:Option (List qb)) (b:Int) (c:Str):List Blk:=[.cells [hsl 7 5 a],.cells [.i b],.cells [.str c],.cells ((hof a).flatMap qa.c)]
abbrev kL (a:List Str):List Blk:=[.cells (a.flatMap encS.c)]
abbrev kM {α0:Type} {α1:Type} {α2:Type} {α3:Type} (a:List α0) (b:Option (List α1)) (c:List α2) (d:Option (List α3)) (x:List Blk):List Blk:= .cells [.gslice 8 a.length 5,hsl 9 3 b]:: .dead:: .dead:: .cells [.gslice 10 c.length 5,hsl 11 3 d]:: .dead:: .dead::x
abbrev kN (x:List Blk):List Blk:= .cells [.i 0,.str [],.nilslice,.nilslice,.str []]::x
abbrev kO (x:List (Nat×AV)):List (Nat×AV):=(2,.ptr 0 0)::(3,.ptr 1 0)::x
abbrev kP (a:List qb) (x:List (Nat×AV)):List (Nat×AV):=(0,vl qa a)::x
abbrev kQ (a:Int) (b:Str) (c:List Str) (d:List Int) (e:Str) (f:Int) (g:Int) (x:List Blk):List Blk:= .cells (cF a b c d e)::bZ:: .cells [.i f,.i g]::x
abbrev kR {α1:Type} (a:Int) (b:List α1) (x:List AV):List AV:= .agg [.i a,.slice 0 0 b.length b.length 9]::x
abbrev kS {α4:Type} (a:Str) (b:Str) (c:Int) (d:Int) (e:List α4) (x:List (Nat×AV)):List (Nat×AV):=(0,.str a)::(1,.str b)::(2,.i c)::(3,.i d)::(9,.slice 0 0 e.length e.length 1)::x
abbrev kT {α0:Type} {α1:Type} (a:List α0) (b:Option (List α1)) (x:List Blk):List Blk:= .cells [.gslice 3 a.length 5,hsl 4 3 b]::x
abbrev kU (x:List (Nat×AV)):List (Nat×AV):=(2,.ptr 0 0)::x
abbrev kV (a:Int) (b:Int):List (Nat×AV):=[(11,.i a),(12,.i b)]
abbrev kW (a:qb) (x:List Blk):List Blk:= .cells (cE a)::x
abbrev kX (a:List Str) (x:List (Nat×AV)):List (Nat×AV):=(0,.ptr 0 0)::(7,vl encS a)::(10,.ptr 3 0)::x
abbrev kY (a:Str) (b:Str) (x:List (Nat×AV)):List (Nat×AV):=(0,.str a)::(1,.str b)::x
abbrev kZ {α0:Type} (a:List α0) (b:Int) (x:List (Nat×AV)):List (Nat×AV):=(0,.slice 0 0 a.length a.length 9)::(1,.i b)::x
abbrev kAA (x:List (Nat×AV)):List (Nat×AV):=(1,.ptr 0 0)::x
abbrev kAB (a:Int) (b:Str) (c:List Str) (d:List Int) (e:Str) (x:List Blk):List Blk:= .cells [.i a,.str b,vl encS c,vl encI d,.str e]::x
abbrev kAC (x:List Blk):List Blk:= .cells [.nilslice]:: .cells [.i 0]::x
abbrev kAD (a:List qb) (b:Int) (x:List (Nat×AV)):List (Nat×AV):=(5,vl qa a)::(6,.i b)::x
abbrev kAE (a:Str) (b:Str) (c:Int) (d:Int) (e:Int) (x:List Blk):List Blk:= .cells [.str a,.str b,.i c,.i d,.i e,.i 0,.i 0,.i 0,.bool false]::x
abbrev kAF (a:Option (List qb)) (b:Int) (x:List Blk):List Blk:= .cells [hsl 5 5 a]:: .cells ((hof a).flatMap qa.c):: .cells [.i b]::x
abbrev kAG (a:Int) (x:List (Nat×AV)):List (Nat×AV):=(5,.ptr 4 0)::(6,.ptr 6 0)::(7,.i a)::x
abbrev kAH (a:Int) (x:List Blk):List Blk:= .cells [.i a]::x
abbrev kAI:List (Nat×AV):=[(4,.bool false)]
abbrev kAJ {α0:Type} {α1:Type} (a:List α0) (b:Option (List α1)) (x:List Blk):List Blk:= .cells [.gslice 6 a.length 5,hsl 7 3 b]::x
abbrev kAK (x:List (Nat×AV)):List (Nat×AV):=(0,.ptr 0 0)::x
abbrev kAL (x:List (Nat×AV)):List (Nat×AV):=(2,.ptr 1 0)::(4,.ptr 3 0)::x
abbrev kAM (a:List Int) (x:List Blk):List Blk:= .cells (a.flatMap encI.c)::x
abbrev kAN {α0:Type} (a:List α0) (x:List (Nat×AV)):List (Nat×AV):=(7,.gslice 0 a.length 1)::x
abbrev kAO (a:Int) (b:Str) (c:List Str) (d:List Int) (e:Str):List Blk:=[.cells (cF a b c d e),bZ]
abbrev kAP {α0:Type} {α1:Type} (a:List α0) (b:List α1) (x:List Blk):List Blk:= .cells [.gslice 1 a.length 5,.oslice 2 b.length 3]::x
abbrev kAQ (a:Int) (b:Bool) (c:Bool):List (Nat×AV):=[(15,.i a),(21,pz b 2 0),(23,pz c 5 0),(165,.bool true)]
abbrev kAR (x:List (Nat×AV)):List (Nat×AV):=(5,.ptr 4 0)::(6,.ptr 5 0)::x
abbrev kAS {α0:Type} (a:List α0) (x:List (Nat×AV)):List (Nat×AV):=(10,.gslice 0 a.length 5)::x
abbrev kAT {α0:Type} (a:List α0) (x:List (Nat×AV)):List (Nat×AV):=(4,.ptr 1 0)::(6,.oslice 2 a.length 9)::(7,.ptr 3 0)::x
abbrev kAU (x:List (Nat×AV)):List (Nat×AV):=(21,.ptr 2 0)::(23,.ptr 5 0)::x
abbrev kAV {α2:Type} (a:Int) (b:Int) (c:List α2) (d:Int) (e:Int) (x:List (Nat×AV)):List (Nat×AV):=(14,.i a)::(15,.i b)::(104,.gslice 1 c.length 1)::(105,.i d)::(106,.i e)::x
abbrev kAW (a:List StateT) (x:List Blk):List Blk:= .cells (a.flatMap jm.c)::x
abbrev kAX {α1:Type} (a:Int) (b:List α1) (x:List AV):List AV:= .agg [.i a,.slice 4 0 b.length b.length 9]::x
abbrev kAY {α0:Type} (a:List α0):List (Nat×AV):=[(9,.oslice 2 a.length 9)]
abbrev kAZ (a:Int) (x:List (Nat×AV)):List (Nat×AV):=(8,.ptr 0 ((a:Int).toNat*9+0))::x
abbrev kAa (a:List qb) (b:Int) (c:Int) (x:List (Nat×AV)):List (Nat×AV):=(69,vl qa a)::(70,.i b)::(71,.i c)::x
abbrev kAb {α0:Type} {α1:Type} (a:List α0) (b:Option (List α1)) (x:List Blk):List Blk:= .cells [.gslice 2 a.length 5,hsl 3 3 b]::x
abbrev kAc (a:Str) (x:List Blk):List Blk:= .cells [.str a]::x
abbrev kAd (x:List Blk):List Blk:= .cells [.nilslice]::x
abbrev kAe (a:Int) (b:Str) (c:List Str) (d:List Int) (e:Str) (x:List Blk):List Blk:= .cells (cF a b c d e):: .cells (cF a b c d e)::x
abbrev kAf {α2:Type} (a:Str) (b:List Str) (c:List α2) (x:List Blk):List Blk:= .cells [.i 0,.str a,vl encS b,.gslice 2 c.length 1,.str []]::x
abbrev kAg {α0:Type} (a:List α0) (x:List Blk):List Blk:= .cells [.oslice 5 a.length 5]::x
abbrev kAh (a:Int) (b:List qc) (x:List AV):List AV:= .agg [.i a,vl qd b]::x
abbrev kAi (x:List (Nat×AV)):List (Nat×AV):=(4,.ptr 2 0)::x
abbrev kAj (a:Str) (b:Str) (c:Int) (d:Int) (e:Int) (x:List Blk):List Blk:= .cells (cT a b c d e 0 0 0 false)::x
abbrev kAk (x:List Blk):List Blk:= .cells [.bool false,.nilslice]::x
abbrev kAl (a:Int) (x:List (Nat×AV)):List (Nat×AV):=(1,.ptr 6 0)::(3,.i a)::x
abbrev kAm {α0:Type} (a:List α0) (x:List (Nat×AV)):List (Nat×AV):=(6,.slice 0 0 a.length a.length 1)::x
abbrev kAn {α0:Type} {α1:Type} (a:List α0) (b:Option (List α1)) (x:List Blk):List Blk:= .cells [.gslice 4 a.length 5,hsl 5 3 b]:: .dead:: .dead::x
abbrev kAo (a:List Str) (x:List (Nat×AV)):List (Nat×AV):=(4,vl encS a)::(5,.ptr 1 0)::x
abbrev kAp (a:Str) (b:Int) (x:List (Nat×AV)):List (Nat×AV):=(0,.str a)::(3,.i b)::x
abbrev kAq:List (Nat×AV):=[(4,.bool true)]
abbrev kAr (a:Int) (b:List qc):List AV:=[.i a,vl qd b]
abbrev kAs (a:Int):List (Nat×AV):=[(5,.i a)]
abbrev kAt:List AV:=[.bool true]
abbrev kAu (a:Option (List qb)) (x:List Blk):List Blk:= .cells ((hof a).flatMap qa.c)::x
abbrev kAv (a:Str) (b:Int) (x:List (Nat×AV)):List (Nat×AV):=(0,.str a)::(1,.i b)::x
abbrev kAw (a:List qc) (b:Str) (c:Str) (d:Int) (e:Int) (f:Int) (g:Int) (h:Int) (i:Int) (j:Bool) (k:List qc):List Blk:=[bS a,.cells (cT b c d e f g h i j),bS k]
abbrev kAx (a:List qc) (x:List (Nat×AV)):List (Nat×AV):=(10,vl qd a)::x
abbrev kAy (a:List qb) (b:Int) (c:Int) (x:List (Nat×AV)):List (Nat×AV):=(168,vl qa a)::(169,.i b)::(170,.i c)::x
abbrev kAz (a:Int) (b:Int) (x:List Blk):List Blk:= .cells [.i a,.i b]::x
abbrev kA0 (a:Str) (x:List (Nat×AV)):List (Nat×AV):=(0,.str a)::(6,.ptr 0 0)::x
abbrev kA1 {α0:Type} (a:List α0) (b:Bool) (x:List (Nat×AV)):List (Nat×AV):=(3,.gslice 1 a.length 1)::(4,.bool b)::x
abbrev kA2 {α1:Type} (a:Int) (b:List α1) (x:List (Nat×AV)):List (Nat×AV):=(0,.agg [.i a,.slice 0 0 b.length b.length 9])::x
abbrev kA3:List AV:=[.str [109,97,107,101],.str [116,101,115,116],.str [117,115,101],.str [102,97,105,108],.str [114,101,99,97,108,108],.str [117,110,100,111]]
abbrev kA4 (x:List (Nat×AV)):List (Nat×AV):=(21,.ptr 2 0)::x
abbrev kA5 (a:Int):List (Nat×AV):=[(11,.i a),(12,.i 0)]
abbrev kA6 (a:Int) (b:Int) (x:List (Nat×AV)):List (Nat×AV):=(6,.i a)::(7,.i b)::x
abbrev kA7 (a:Str) (b:List Str):List (Nat×AV):=[(1,.str a),(7,vl encS b),(9,.bool true)]
abbrev kA8 (x:List (Nat×AV)):List (Nat×AV):=(4,.ptr 0 0)::x
abbrev kA9 {α1:Type} (a:Int) (b:List α1) (x:List Blk):List Blk:= .cells [.i a,.slice 4 0 b.length b.length 9]::x
abbrev kBA (a:List qb) (b:Int) (x:List (Nat×AV)):List (Nat×AV):=(5,.ptr 0 0)::(14,vl qa a)::(15,.i b)::x
abbrev kBB (a:Option (List Str)):List Blk:=[.cells ((hof a).flatMap encS.c)]
abbrev kBC (a:Int) (b:Int) (x:List (Nat×AV)):List (Nat×AV):=(21,.ptr 0 0)::(298,.i a)::(299,.i b)::x
abbrev kBD (a:Str):List (Nat×AV):=[(4,.str a),(5,.i 0)]
abbrev kBE (x:List AV):List AV:= .agg [.i 0,.i 0,.nilfunc]::x
abbrev kBF (a:Int) (x:List (Nat×AV)):List (Nat×AV):=(3,.ptr 1 0)::(5,.i a)::(10,.ptr 2 0)::x
abbrev kBG (a:Int):List (Nat×AV):=[(4,.i a)]
abbrev kBH (a:Int) (b:Bool) (x:List (Nat×AV)):List (Nat×AV):=(7,.i a)::(8,.bool b)::x
abbrev kBI (a:Bool):List (Nat×AV):=[(4,.bool a)]
abbrev kBJ:List Blk:=[.cells [.i 0,.i 0,.nilfunc]]
abbrev kBK (a:List Str) (b:Int) (c:Int) (x:List (Nat×AV)):List (Nat×AV):=(54,vl encS a)::(55,.i b)::(56,.i c)::x
abbrev kBL (a:qc):List Blk:=[.cells (cS a)]
abbrev kBM (x:List AV):List AV:= .agg [.i 0,.str [],.nilslice,.nilslice,.str []]::x
abbrev kBN (x:List Blk):List Blk:= .dead:: .dead::x
abbrev kBO (a:Int) (b:Int):List (Nat×AV):=[(7,.i a),(8,.i b)]
abbrev kBP (a:List Str) (b:Str) (x:List (Nat×AV)):List (Nat×AV):=(0,vl encS a)::(1,.str b)::x
abbrev kBQ {α1:Type} (a:Int) (b:List α1):List AV:=[.i a,.slice 4 0 b.length b.length 9]
abbrev kBR {α0:Type} (a:List α0):List (Nat×AV):=[(2,.ptr 1 0),(3,.slice 2 0 a.length a.length 9)]
abbrev kBS (x:List (Nat×AV)):List (Nat×AV):=(2,.slice 1 0 1 1 9)::(7,.i 1)::x
abbrev kBT (a:List qc) (x:List (Nat×AV)):List (Nat×AV):=(0,vl qd a)::x
abbrev kBU (a:List qc):List Blk:=[bZ,bS a]
abbrev kBV (a:List Int) (b:List Int) (x:List (Nat×AV)):List (Nat×AV):=(0,vl encI a)::(1,vl encI b)::x
abbrev kBW (a:List Str) (b:List Str) (x:List (Nat×AV)):List (Nat×AV):=(0,vl encS a)::(1,vl encS b)::x
abbrev kBX {α0:Type} (a:Option (List α0)) (x:List Blk):List Blk:= .cells [hsl 7 5 a]::x
abbrev kBY (a:Int) (b:Int) (c:Int) (x:List Blk):List Blk:= .cells [.int .u16 a,.int .u16 b,.int .u16 c]::x
abbrev kBZ (a:Str):List (Nat×AV):=[(0,.str a)]
abbrev kBa (a:List qb) (x:List (Nat×AV)):List (Nat×AV):=(1,vl qa a)::x
abbrev kBb (a:Int) (b:Str) (c:List Str) (d:List Int) (e:Str) (x:List Blk):List Blk:= .cells (cF a b c d e)::x
abbrev kBc:List Blk:=[.cells (([]:List Str).flatMap encS.c)]
abbrev kBd (a:Int) (b:Int) (x:List (Nat×AV)):List (Nat×AV):=(11,.i a)::(12,.i b)::x
abbrev kBe (a:List Str) (b:Int) (c:Int) (x:List (Nat×AV)):List (Nat×AV):=(46,vl encS a)::(47,.i b)::(48,.i c)::x
abbrev kBf (a:List Int) (b:Int) (c:Int) (x:List (Nat×AV)):List (Nat×AV):=(59,vl encI a)::(60,.i b)::(61,.i c)::x
abbrev kBg (x:List (Nat×AV)):List (Nat×AV):=(3,.ptr 0 0)::x
abbrev kBh (a:Int) (b:Int):List (Nat×AV):=[(10,.i a),(11,.i b)]
abbrev kBi (a:Int) (x:List (Nat×AV)):List (Nat×AV):=(11,.ptr 7 0)::(12,.i a)::x
abbrev kBj (x:List (Nat×AV)):List (Nat×AV):=(3,.ptr 3 0)::x
abbrev kBk (a:Int) (b:Bool) (c:Bool) (d:Int) (x:List (Nat×AV)):List (Nat×AV):=(5,.i a)::(7,.bool b)::(8,.bool c)::(9,.i d)::x
abbrev kBl (a:Bool):List (Nat×AV):=[(10,.bool a)]
abbrev kBm:List (Nat×AV):=[(6,.bool true)]
abbrev kBn {α0:Type} (a:List α0) (b:Int):List (Nat×AV):=[(9,.slice 0 0 a.length a.length 1),(10,.i b)]
abbrev kBo (a:List Str) (x:List Blk):List Blk:= .cells (a.flatMap encS.c)::x
abbrev kBp (a:Bool) (b:List Int) (x:List Blk):List Blk:= .cells [.bool a,vl encI b]::x
abbrev kBq {α0:Type} (a:List α0) (x:List (Nat×AV)):List (Nat×AV):=(7,.gslice 1 a.length 1)::x
abbrev kBr {α0:Type} (a:List α0) (x:List (Nat×AV)):List (Nat×AV):=(7,.gslice 1 a.length 5)::x
abbrev kBs:List AV:=[.str [115,108,105,110,103],.str [115,108,105,110,103,115],.str [100,117,101]]
abbrev kBt (x:List Blk):List Blk:= .cells [.i 0]::x
abbrev kBu:List (Nat×AV):=[(4,.i 0)]
abbrev kBv (a:Int) (b:Int) (x:List (Nat×AV)):List (Nat×AV):=(0,.i a)::(1,.i b)::x
abbrev kBw:List AV:=[.bool false]
abbrev kBx (a:Int) (b:Int):List (Nat×AV):=[(6,.i a),(8,.ptr 5 0),(9,.i b)]
abbrev kBy (x:List (Nat×AV)):List (Nat×AV):=(5,.ptr 3 0)::(6,.ptr 4 0)::x
abbrev kBz:List (Nat×AV):=[(2,.bool false)]
abbrev kB0 (a:Int) (b:Int) (x:List Blk):List Blk:= .cells [.i a,.i b,.undef]::x
abbrev kB1 {α0:Type} (a:List α0) (x:List (Nat×AV)):List (Nat×AV):=(9,.gslice 1 a.length 1)::x
abbrev kB2 {α0:Type} (a:List α0) (x:List Blk):List Blk:= .cells [.gslice 1 a.length 5,.nilslice]::x
abbrev kB3 (a:Int) (b:Int) (x:List (Nat×AV)):List (Nat×AV):=(5,.i a)::(6,.i b)::x
abbrev kB4 (a:Bool):List (Nat×AV):=[(13,.bool a)]
abbrev kB5:List Blk:=[.cells (([]:List Int).flatMap encI.c)]
abbrev kB6:List (Nat×AV):=[(165,.bool true)]
abbrev kB7 (a:Int) (b:List qc) (x:List (Nat×AV)):List (Nat×AV):=(0,.agg [.i a,vl qd b])::x
theorem zV:SlT Tryz.prog 22 26 5 88:=⟨by kernel_rfl,by kernel_rfl,by kernel_rfl,by kernel_rfl⟩
theorem ce9:CeT Tryz.prog 9:=⟨by kernel_rfl,by kernel_rfl⟩
theorem qfS:CeT Tryz.prog 23:=⟨by kernel_rfl,by kernel_rfl⟩
theorem qmP:CeT Tryz.prog 24:=⟨by kernel_rfl,by kernel_rfl⟩
theorem jE:SlT Tryz.prog 23 9 1 16:=⟨by kernel_rfl,by kernel_rfl,by kernel_rfl,by kernel_rfl⟩
theorem sl218:SlT Tryz.prog 218 32 1 8:=⟨by kernel_rfl,by kernel_rfl,by kernel_rfl,by kernel_rfl⟩
theorem ce32:CeT Tryz.prog 32:=⟨by kernel_rfl,by kernel_rfl⟩
theorem qcj:SlT Tryz.prog 29 68 9 88:=⟨by kernel_rfl,by kernel_rfl,by kernel_rfl,by kernel_rfl⟩
theorem qkU:AgT Tryz.prog 68 9:=⟨by kernel_rfl,by kernel_rfl⟩
theorem xk:qnR Tryz.prog 154 9 152 (.agg [.i 0,.i 0,.nilfunc]):=⟨by kernel_rfl,by kernel_rfl,by kernel_rfl⟩
theorem y7:SlT Tryz.prog 24 3 1 8:=⟨by kernel_rfl,by kernel_rfl,by kernel_rfl,by kernel_rfl⟩
theorem ce3:CeT Tryz.prog 3:=⟨by kernel_rfl,by kernel_rfl⟩
theorem qjb:AgT Tryz.prog 26 5:=⟨by kernel_rfl,by kernel_rfl⟩
theorem qlM:SlT Tryz.prog 163 167 3 40:=⟨by kernel_rfl,by kernel_rfl,by kernel_rfl,by kernel_rfl⟩
theorem ag31:AgT Tryz.prog 31 2:=⟨by kernel_rfl,by kernel_rfl⟩
theorem it3:Tryz.prog.underlying 3=some (.int .i64):=by kernel_rfl
theorem st9:Tryz.prog.underlying 9=some .string:=by kernel_rfl
theorem qdo:SlT Tryz.prog 35 60 9 88:=⟨by kernel_rfl,by kernel_rfl,by kernel_rfl,by kernel_rfl⟩
theorem ag60:AgT Tryz.prog 60 9:=⟨by kernel_rfl,by kernel_rfl⟩
noncomputable abbrev qf:Code:=(Tryz.f43.body.getD .skip).x2.x2.x2.x2.x1.x2.x1
theorem qpe:SlT Tryz.prog 277 23 1 24:=⟨by kernel_rfl,by kernel_rfl,by kernel_rfl,by kernel_rfl⟩
theorem qlU:qnR Tryz.prog 194 9 192 (.agg [.i 0,.nilfunc]):=⟨by kernel_rfl,by kernel_rfl,by kernel_rfl⟩
abbrev fm1:AV:= .fmap kA3 (.agg [.i 2,.i 3,.func (.func 141) [] []]:: .agg [.i 1,.i 2,.func (.func 142) [] []]:: .agg [.i 1,.i 2,.func (.func 143) [] []]:: .agg [.i 1,.i 1,.func (.func 144) [] []]:: .agg [.i 1,.i 1,.func (.func 145) [] []]::(kBE []))
instance:SC 12 fm1:=⟨Still.fmap SX.h (AllST.cons SC.h (AllST.cons SC.h (AllST.cons SC.h (AllST.cons SC.h (AllST.cons SC.h (AllST.cons SC.h AllST.nil))))))⟩
abbrev fm2:AV:= .fmap kBs [.agg [.i 1,.func (.func 161) [] []],.agg [.i 0,.func (.func 162) [] []],.agg [.i 1,.func (.func 163) [] []]]
instance:SC 12 fm2:=⟨Still.fmap SX.h (AllST.cons SC.h (AllST.cons SC.h (AllST.cons SC.h AllST.nil)))⟩
def zg (l:List qb) (n2:Int):Nat→Int→Option (Unit⊕Bool)
 |0,_=>none
 |K+1,n13=>
  (idx l n2).bind fun x16=>
  if n13<(x16.Names.length:Int)then
  (idx x16.Names n13).bind fun x18=>
  if(x18.length:Int)>60 then
  some (.inr false)
  else
  zg l n2 K (w64 (n13+1))
  else
  some (.inl ())
def zh (N:Nat) (l:List qb):Nat→Int→Option (Unit⊕Bool)
 |0,_=>none
 |K+1,n2=>
  if n2<(l.length:Int)then
  ((idx l n2).bind fun x6=>
  if(x6.Kind.length:Int)>60 then
  some true
  else
  if(x6.Names.length:Int)>5 then
  some true
  else
  if(x6.Values.length:Int)>5 then
  some true
  else
  some (decide ((x6.Text.length:Int)>60)):Option Bool).bind fun b10=>
  if b10=true then
  some (.inr false)
  else
  (zg l n2 N 0).bind (fun
  |(.inl ())=>
  zh N l K (w64 (n2+1))
  |(.inr q20)=>
  some (.inr q20))
  else
  some (.inl ())
def vT (N:Nat) (l:List qb) (n:Int):Option Bool:=
 if(l.length:Int)>n then
 some false
 else
 (zh N l N 0).bind (fun
 |(.inl ())=>
 some true
 |(.inr q21)=>
 some q21)
theorem qec (N:Nat) (l:List qb) (n:Int) {res:Bool} (h:vT N l n=some res):qg Tryz.prog (.fn 14) [vl qa l,.i n] [] (.bool res) []:=by
 unfold vT at h
 refine Goes.fnW Tryz.func14 rfl rfl (m:=71) rfl (rs:=[.tmp 4]) rfl (l:=(kP l [(1,.i n)])) rfl ?_
 refine sh fol (kP l [(1,.i n)]) ?_
 refine sq ?_
 refine sh fol (kP l (kBl (decide ((l.length:Int)>n)))) ?_
 refine ihD h (fun c1 h=>?_) (fun c1 h=>?_)
 ·refine sh fol kAI ?_
  refine Goes.ret ?_
  obtain rfl:=si h
  exact(gw2 [.bool false] (FzW.still tB))
 ·refine Goes.skip ?_
  refine sq ?_
  refine sh fol (kP l [(5,.i 0)]) ?_
  refine Goes.block ?_
  obtain⟨r3,g3,h⟩:=bnd h
  refine Goes.imp (Q:=fun x s'=>(x= .exit 0∧(.inl ())=r3∧Sub s' (ofG 71 [],[]))∨(x= .ret∧ ∃q4,(.inr q4)=r3∧zl Tryz.prog [.tmp 4] (.bool q4) .ret s')) ?_ ?_
  ·refine Goes.loopS (fun M s=> ∃(n2:Int),s=(ofG 71 (kP l (kAs n2)),[])∧zh N l M n2=some r3) ?_ (m:=N) ⟨_,rfl,g3⟩
   rintro M s ⟨n2,rfl,g3⟩
   cases M with
   |zero=>simp only[zh]at g3;cases g3
   |succ M=>
    rw[zh]at g3
    refine sq ?_
    refine sh fol (kP l [(5,.i n2),(14,.bool (decide (n2<(l.length:Int))))]) ?_
    refine ihD g3 (fun c5 g3=>?_) (fun c5 g3=>?_)
    ·refine Goes.skip ?_
     refine sq (Goes.block ?_)
     refine sq ?_
     refine sq ?_
     obtain⟨b10,g_v11,g3⟩:=bnd g3
     refine Goes.cut (s':=(ofG 71 (kP l [(5,.i n2),(50,.bool b10)]),[])) ?_ ?_
     ·obtain⟨x6,e_x6,g_v11⟩:=bnd g_v11
      rcases wyD g_v11 with⟨c7,g_v11⟩|⟨c7,g_v11⟩
      ·obtain rfl:=si g_v11
       exact tr fol [2,4,7] (kP l [(5,.i n2),(50,.bool true)]) (ac (iv zV qa e_x6) (ac (lv 1 ce9 qa e_x6 rfl) (ac (gw c7) az)))
      ·rcases wyD g_v11 with⟨c8,g_v11⟩|⟨c8,g_v11⟩
       ·obtain rfl:=si g_v11
        exact tr fol [2,4,7,10,12,16] (kP l [(5,.i n2),(50,.bool true)]) (ac (iv zV qa e_x6) (ac (lv 1 ce9 qa e_x6 rfl) (ac (gw c7) (ac (iv zV qa e_x6) (ac (lv 2 qfS qa e_x6 rfl) (ac (gw c8) az))))))
       ·rcases wyD g_v11 with⟨c9,g_v11⟩|⟨c9,g_v11⟩
        ·obtain rfl:=si g_v11
         exact tr fol [2,4,7,10,12,16,19,21,25] (kP l [(5,.i n2),(50,.bool true)]) (ac (iv zV qa e_x6) (ac (lv 1 ce9 qa e_x6 rfl) (ac (gw c7) (ac (iv zV qa e_x6) (ac (lv 2 qfS qa e_x6 rfl) (ac (gw c8) (ac (iv zV qa e_x6) (ac (lv 3 qmP qa e_x6 rfl) (ac (gw c9) az)))))))))
        ·obtain rfl:=si g_v11
         exact tr fol [2,4,7,10,12,16,19,21,25,28,30] (kP l [(5,.i n2),(50,.bool (decide ((x6.Text.length:Int)>60)))]) (ac (iv zV qa e_x6) (ac (lv 1 ce9 qa e_x6 rfl) (ac (gw c7) (ac (iv zV qa e_x6) (ac (lv 2 qfS qa e_x6 rfl) (ac (gw c8) (ac (iv zV qa e_x6) (ac (lv 3 qmP qa e_x6 rfl) (ac (gw c9) (ac (iv zV qa e_x6) (ac (lv 4 ce9 qa e_x6 rfl) az)))))))))))
     refine ihB g3 (fun c12 g3=>?_) (fun c12 g3=>?_)
     ·refine sh fol kAI ?_
      refine Goes.ret ?_
      obtain rfl:=si g3
      exact Or.inr (⟨rfl,_,rfl,(gw2 [.bool false] (FzW.still tB))⟩)
     ·refine Goes.skip ?_
      refine sh fol (kP l [(5,.i n2),(6,.i 0)]) ?_
      refine Goes.block ?_
      obtain⟨r14,g14,g3⟩:=bnd g3
      refine Goes.imp (Q:=fun x s'=>(x= .exit 2∧(.inl ())=r14∧Sub s' (ofG 71 (kP l (kAs n2)),[]))∨(x= .ret∧ ∃q15,(.inr q15)=r14∧zl Tryz.prog [.tmp 4] (.bool q15) .ret s')) ?_ ?_
      ·refine Goes.loopS (fun M s=> ∃(n13:Int),s=(ofG 71 (kP l (kB3 n2 n13 [])),[])∧zg l n2 M n13=some r14) ?_ (m:=N) ⟨_,rfl,g14⟩
       rintro M s ⟨n13,rfl,g14⟩
       cases M with
       |zero=>simp only[zg]at g14;cases g14
       |succ M=>
        rw[zg]at g14
        refine sq ?_
        obtain⟨x16,e_x16,g14⟩:=bnd g14
        refine sq (gr fol [3,5] (kP l (kB3 n2 n13 [(58,.bool (decide (n13<(x16.Names.length:Int))))])) (ac (iv zV qa e_x16) (ac (lv 2 qfS qa e_x16 rfl) az)) ?_)
        refine ihD g14 (fun c17 g14=>?_) (fun c17 g14=>?_)
        ·refine Goes.skip ?_
         refine sq (Goes.block ?_)
         obtain⟨x18,e_x18,g14⟩:=bnd g14
         refine sq (gr fol [2,4,6,7] (kP l (kB3 n2 n13 [(70,.bool (decide ((x18.length:Int)>60)))])) (ac (iv zV qa e_x16) (ac (lv 2 qfS qa e_x16 rfl) (ac (iv jE encS e_x18) (ac (lv 0 ce9 encS e_x18 rfl) az)))) ?_)
         refine ihD g14 (fun c19 g14=>?_) (fun c19 g14=>?_)
         ·refine sh fol kAI ?_
          refine Goes.ret ?_
          obtain rfl:=si g14
          exact Or.inr (⟨rfl,_,rfl,(gw2 [.bool false] (FzW.still tB))⟩)
         ·refine Goes.skip ?_
          refine gh fol (kP l (kB3 n2 (w64 (n13+1)) [])) ?_
          exact⟨M,(ofG 71 (kP l (kB3 n2 (w64 (n13+1)) [])),[]),Nat.lt_succ_self _,(Sub.refl _),_,rfl,g14⟩
        ·refine Goes.exit ?_
         obtain rfl:=si g14
         exact Or.inl (⟨rfl,rfl,(Sub.keep [0,5] rfl rfl)⟩)
      rintro x s' (⟨rfl,rfl,hsub⟩|⟨rfl,q20,rfl,hret⟩)
      ·try dsimp only at g3
       refine Goes.sub hsub ?_
       refine gh fol (kP l (kAs (w64 (n2+1)))) ?_
       exact⟨M,(ofG 71 (kP l (kAs (w64 (n2+1)))),[]),Nat.lt_succ_self _,(Sub.refl _),_,rfl,g3⟩
      ·try dsimp only at g3
       obtain rfl:=si g3
       exact Or.inr (⟨rfl,_,rfl,hret⟩)
    ·refine Goes.exit ?_
     obtain rfl:=si g3
     exact Or.inl (⟨rfl,rfl,(Sub.keep [] rfl rfl)⟩)
  rintro x s' (⟨rfl,rfl,hsub⟩|⟨rfl,q21,rfl,hret⟩)
  ·try dsimp only at h
   refine Goes.sub hsub ?_
   refine sh fol kAq ?_
   refine Goes.ret ?_
   obtain rfl:=si h
   exact(gw2 [.bool true] (FzW.still tB))
  ·try dsimp only at h
   obtain rfl:=si h
   exact hret
def vY (l:List Int):Nat→Int→Option (Unit⊕Int)
 |0,_=>none
 |K+1,n1=>
  if n1<(l.length:Int)then
  (idx l n1).bind fun x5=>
  if(!decide (x5=0))=true then
  some (.inr x5)
  else
  vY l K (w64 (n1+1))
  else
  some (.inl ())
def zo (N:Nat) (l:List Int):Option Int:=
 (vY l N 0).bind (fun
 |(.inl ())=>
 some 0
 |(.inr q7)=>
 some q7)
theorem zD (N:Nat) (l:List Int) {res:Int} (h:zo N l=some res):qg Tryz.prog (.fn 86) [vl encI l] [] (.i res) []:=by
 unfold zo at h
 refine Goes.fnW Tryz.func86 rfl rfl (m:=15) rfl (rs:=[.tmp 2]) rfl (l:=[(0,vl encI l)]) rfl ?_
 refine sh fol [(0,vl encI l)] ?_
 refine sq ?_
 refine sh fol [(5,vl encI l),(6,.i (l.length:Int)),(7,.i 0)] ?_
 refine Goes.block ?_
 obtain⟨r2,g2,h⟩:=bnd h
 refine Goes.imp (Q:=fun x s'=>(x= .exit 0∧(.inl ())=r2∧Sub s' (ofG 15 [],[]))∨(x= .ret∧ ∃q3,(.inr q3)=r2∧zl Tryz.prog [.tmp 2] (.i q3) .ret s')) ?_ ?_
 ·refine Goes.loopS (fun M s=> ∃(n1:Int),s=(ofG 15 ((5,vl encI l)::(kA6 (l.length:Int) n1 [])),[])∧vY l M n1=some r2) ?_ (m:=N) ⟨_,rfl,g2⟩
  rintro M s ⟨n1,rfl,g2⟩
  cases M with
  |zero=>simp only[vY]at g2;cases g2
  |succ M=>
   rw[vY]at g2
   refine sh fol ((5,vl encI l)::(kA6 (l.length:Int) n1 [(8,.bool (decide (n1<(l.length:Int))))])) ?_
   refine sq ?_
   refine ihD g2 (fun c4 g2=>?_) (fun c4 g2=>?_)
   ·refine Goes.skip ?_
    refine sq (Goes.block ?_)
    obtain⟨x5,e_x5,g2⟩:=bnd g2
    refine sq (gr fol [0,1] ((4,.i x5)::(5,vl encI l)::(kA6 (l.length:Int) n1 [])) (ac (iv sl218 encI e_x5) (ac (lv 0 ce32 encI e_x5 rfl) az)) ?_)
    refine sh fol ((4,.i x5)::(5,vl encI l)::(kA6 (l.length:Int) n1 [(12,.bool (!decide (x5=0)))])) ?_
    refine ihB g2 (fun c6 g2=>?_) (fun c6 g2=>?_)
    ·refine sh fol [(2,.i x5)] ?_
     refine Goes.ret ?_
     obtain rfl:=si g2
     exact Or.inr (⟨rfl,_,rfl,(gw2 [.i x5] (FzW.still tI))⟩)
    ·refine Goes.skip ?_
     refine gh fol ((5,vl encI l)::(kA6 (l.length:Int) (w64 (n1+1)) [])) ?_
     exact⟨M,(ofG 15 ((5,vl encI l)::(kA6 (l.length:Int) (w64 (n1+1)) [])),[]),Nat.lt_succ_self _,(Sub.refl _),_,rfl,g2⟩
   ·refine Goes.exit ?_
    obtain rfl:=si g2
    exact Or.inl (⟨rfl,rfl,(Sub.keep [] rfl rfl)⟩)
 rintro x s' (⟨rfl,rfl,hsub⟩|⟨rfl,q7,rfl,hret⟩)
 ·try dsimp only at h
  refine Goes.sub hsub ?_
  refine sh fol [(2,.i 0)] ?_
  refine Goes.ret ?_
  obtain rfl:=si h
  exact(gw2 [.i 0] (FzW.still tI))
 ·try dsimp only at h
  obtain rfl:=si h
  exact hret
def qI (holds:Bool) (e:Int):Option Int:=
 if holds=true then
 some e
 else
 some 0
theorem qA (holds:Bool) (e:Int) {res:Int} (h:qI holds e=some res):qg Tryz.prog (.fn 88) [.bool holds,.i e] [] (.i res) []:=by
 unfold qI at h
 refine Goes.fnW Tryz.func88 rfl rfl (m:=7) rfl (rs:=[.tmp 4]) rfl (l:=[(0,.bool holds),(1,.i e)]) rfl ?_
 refine sh fol [(0,.bool holds),(1,.i e)] ?_
 refine sq ?_
 refine sh fol [(1,.i e),(5,.bool holds)] ?_
 refine ihB h (fun c1 h=>?_) (fun c1 h=>?_)
 ·refine sh fol (kBG e) ?_
  refine Goes.ret ?_
  obtain rfl:=si h
  exact(gw2 [.i e] (FzW.still tI))
 ·refine Goes.skip ?_
  refine sh fol kBu ?_
  refine Goes.ret ?_
  obtain rfl:=si h
  exact(gw2 [.i 0] (FzW.still tI))
def jQ (n:Int) (low:Int) (high:Int):Option Int:=
 (if n<low then
 (qI true 3).bind fun r2=>
 some r2
 else
 (qI (decide (n>high)) 3).bind fun r3=>
 some r3:Option Int).bind fun n4=>
 some n4
theorem vB (n:Int) (low:Int) (high:Int) {res:Int} (h:jQ n low high=some res):qg Tryz.prog (.fn 87) [.i n,.i low,.i high] [] (.i res) []:=by
 unfold jQ at h
 refine Goes.fnW Tryz.func87 rfl rfl (m:=16) rfl (rs:=[.tmp 6]) rfl (l:=(kBv n low [(2,.i high)])) rfl ?_
 refine sh fol (kBv n low [(2,.i high)]) ?_
 refine sq ?_
 obtain⟨n4,g_v5,h⟩:=bnd h
 refine Goes.cut (s':=(ofG 16 [(6,.i n4)],[])) ?_ ?_
 ·rcases wyD g_v5 with⟨c1,g_v5⟩|⟨c1,g_v5⟩
  ·obtain⟨r2,e_r2,g_v5⟩:=bnd g_v5
   obtain rfl:=si g_v5
   exact tr fol [3,8] [(6,.i r2)] (ac (gw c1) (ac (cv (qA true 3 e_r2)) az))
  ·obtain⟨r3,e_r3,g_v5⟩:=bnd g_v5
   obtain rfl:=si g_v5
   exact tr fol [3,8] [(6,.i r3)] (ac (gw c1) (ac (cv (qA (decide (n>high)) 3 e_r3)) az))
 refine Goes.ret ?_
 obtain rfl:=si h
 exact(gw2 [.i n4] (FzW.still tI))
def jT (a0_:qc) (a1_:Str):Option Bool:=
 some (!(ltL a0_.Name a1_))
theorem qbu (a0_:qc) (a1_:Str) {res:Bool} (h:jT a0_ a1_=some res):qg Tryz.prog (.fn 149) [.agg (cS a0_),.fptr [.str a1_] 0] [] (.bool res) []:=by
 unfold jT at h
 refine Goes.fnW Tryz.func149 rfl rfl (m:=8) rfl (rs:=[.tmp 3]) rfl (l:=[(0,.agg (cS a0_)),(1,.fptr [.str a1_] 0)]) rfl ?_
 refine sg fol ((1,.fptr [.str a1_] 0)::(kU [])) (kBL a0_) ?_
 refine sh fol [(3,.bool (!(ltL a0_.Name a1_)))] ?_
 refine Goes.ret ?_
 obtain rfl:=si h
 exact(gw2 [.bool (!(ltL a0_.Name a1_))] (FzW.still tB))
def qQ (a0_:List qc) (a1_:Str):Nat→Int→Option (Unit⊕Int)
 |0,_=>none
 |K+1,n1=>
  if n1<(a0_.length:Int)then
  (idx a0_ n1).bind fun x5=>
  (jT x5 a1_).bind fun r6=>
  if r6=true then
  some (.inr n1)
  else
  qQ a0_ a1_ K (w64 (n1+1))
  else
  some (.inl ())
def j4 (N:Nat) (a0_:List qc) (a1_:Str):Option Int:=
 (qQ a0_ a1_ N 0).bind (fun
 |(.inl ())=>
 some (-1)
 |(.inr q8)=>
 some q8)
theorem qbB (N:Nat) (a0_:List qc) (a1_:Str) {res:Int} (h:j4 N a0_ a1_=some res):qg Tryz.prog (.fn 148) [vl qd a0_,.func (.func 149) [] [.fptr [.str a1_] 0]] [] (.i res) []:=by
 unfold j4 at h
 refine Goes.fnW Tryz.func148 rfl rfl (m:=19) rfl (rs:=[.tmp 4]) rfl (l:=(kBT a0_ [(1,.func (.func 149) [] [.fptr [.str a1_] 0])])) rfl ?_
 refine sh fol (kBT a0_ [(1,.func (.func 149) [] [.fptr [.str a1_] 0])]) ?_
 refine sq ?_
 refine sh fol (kBT a0_ [(1,.func (.func 149) [] [.fptr [.str a1_] 0]),(7,.i (a0_.length:Int)),(8,.i 0)]) ?_
 refine Goes.block ?_
 obtain⟨r2,g2,h⟩:=bnd h
 refine Goes.imp (Q:=fun x s'=>(x= .exit 0∧(.inl ())=r2∧Sub s' (ofG 19 [],[]))∨(x= .ret∧ ∃q3,(.inr q3)=r2∧zl Tryz.prog [.tmp 4] (.i q3) .ret s')) ?_ ?_
 ·refine Goes.loopS (fun M s=> ∃(n1:Int),s=(ofG 19 (kBT a0_ ((1,.func (.func 149) [] [.fptr [.str a1_] 0])::(kBO (a0_.length:Int) n1))),[])∧qQ a0_ a1_ M n1=some r2) ?_ (m:=N) ⟨_,rfl,g2⟩
  rintro M s ⟨n1,rfl,g2⟩
  cases M with
  |zero=>simp only[qQ]at g2;cases g2
  |succ M=>
   rw[qQ]at g2
   refine sh fol (kBT a0_ [(1,.func (.func 149) [] [.fptr [.str a1_] 0]),(7,.i (a0_.length:Int)),(8,.i n1),(9,.bool (decide (n1<(a0_.length:Int))))]) ?_
   refine sq ?_
   refine ihD g2 (fun c4 g2=>?_) (fun c4 g2=>?_)
   ·refine Goes.skip ?_
    refine sq (Goes.block ?_)
    refine sh fol (kBT a0_ ((1,.func (.func 149) [] [.fptr [.str a1_] 0])::(5,.i n1)::(kBO (a0_.length:Int) n1))) ?_
    obtain⟨x5,e_x5,g2⟩:=bnd g2
    obtain⟨r6,e_r6,g2⟩:=bnd g2
    refine sq (gr fol [3,4,5] (kBT a0_ [(1,.func (.func 149) [] [.fptr [.str a1_] 0]),(5,.i n1),(7,.i (a0_.length:Int)),(8,.i n1),(16,.bool r6)]) (ac (iv qcj qd e_x5) (ac (la qkU qd e_x5) (ac (hs (.call 149 [.agg (cS x5),.fptr [.str a1_] 0] [] [] [.agg (cS x5),.fptr [.str a1_] 0] (.bool r6)) (qi2 (FzL.cons (Fz.still (Still.agg (AllST.cons tS (AllST.cons tS (AllST.cons tI (AllST.cons tI (AllST.cons tI (AllST.cons tI (AllST.cons tI (AllST.cons tI (AllST.cons tB AllST.nil))))))))))) (FzL.cons (Fz.still (Still.fptr (AllST.cons tS AllST.nil))) FzL.nil)) (qbu x5 a1_ e_r6) tB)) az))) ?_)
    refine ihB g2 (fun c7 g2=>?_) (fun c7 g2=>?_)
    ·refine sh fol (kBG n1) ?_
     refine Goes.ret ?_
     obtain rfl:=si g2
     exact Or.inr (⟨rfl,_,rfl,(gw2 [.i n1] (FzW.still tI))⟩)
    ·refine Goes.skip ?_
     refine gh fol (kBT a0_ ((1,.func (.func 149) [] [.fptr [.str a1_] 0])::(kBO (a0_.length:Int) (w64 (n1+1))))) ?_
     exact⟨M,(ofG 19 (kBT a0_ ((1,.func (.func 149) [] [.fptr [.str a1_] 0])::(kBO (a0_.length:Int) (w64 (n1+1))))),[]),Nat.lt_succ_self _,(Sub.refl _),_,rfl,g2⟩
   ·refine Goes.exit ?_
    obtain rfl:=si g2
    exact Or.inl (⟨rfl,rfl,(Sub.keep [] rfl rfl)⟩)
 rintro x s' (⟨rfl,rfl,hsub⟩|⟨rfl,q8,rfl,hret⟩)
 ·try dsimp only at h
  refine Goes.sub hsub ?_
  refine sh fol [(4,.i (-1))] ?_
  refine Goes.ret ?_
  obtain rfl:=si h
  exact(gw2 [.i (-1)] (FzW.still tI))
 ·try dsimp only at h
  obtain rfl:=si h
  exact hret
def jh (N:Nat) (r:jO) (name:Str):Option (Int×Bool):=
 (j4 N r.Slings name).bind fun r1=>
 if r1<0 then
 some ((r.Slings.length:Int),false)
 else
 (idx r.Slings r1).bind fun x3=>
 some (r1,x3.Name==name)
theorem y9 (N:Nat) (r:jO) (name:Str) {res:Int×Bool} (h:jh N r name=some res):qg Tryz.prog (.fn 93) (kAh r.Day r.Slings [.str name]) [] (.tuple [.i res.1,.bool res.2]) []:=by
 unfold jh at h
 refine Goes.fnW Tryz.func93 rfl rfl (m:=25) rfl (rs:=[.tmp 4,.tmp 5]) rfl (l:=(kB7 r.Day r.Slings [(1,.str name)])) rfl ?_
 refine sg fol (kO []) (kG r.Day r.Slings (kAc name [])) ?_
 obtain⟨r1,e_r1,h⟩:=bnd h
 refine sq (gr fol [3] (kO [(6,.i r1)]) (ac (hs (.call 148 [vl qd r.Slings,.func (.func 149) [] [.ptr 1 0]] (kG r.Day r.Slings (kAc name [])) [1] [vl qd r.Slings,.func (.func 149) [] [.fptr [.str name] 0]] (.i r1)) (qak (FzL.cons (Fz.still (ko qd _ (nl rfl))) (FzL.cons (Fz.func FzL.nil (FzL.cons (Fz.ptr rfl rfl (FzL.cons (Fz.still tS) FzL.nil)) FzL.nil)) FzL.nil)) (qbB N r.Slings name e_r1) tI rfl)) az) ?_)
 refine sq ?_
 refine sh fol (kO [(6,.i r1),(12,.bool (decide (r1<0)))]) ?_
 refine ihD h (fun c2 h=>?_) (fun c2 h=>?_)
 ·refine sh fol [(4,.i (r.Slings.length:Int)),(5,.bool false)] ?_
  refine Goes.ret ?_
  obtain rfl:=si h
  exact(gw2 (.i (r.Slings.length:Int)::kBw) (FzW.tuple (qo.cons (FzW.still tI) (qo.cons (FzW.still tB) qo.nil))))
 ·refine Goes.skip ?_
  obtain⟨x3,e_x3,h⟩:=bnd h
  refine sq (gr fol [4,6] [(4,.i r1),(5,.bool (x3.Name==name))] (ac (iv qcj qd e_x3) (ac (lv 0 ce9 qd e_x3 rfl) az)) ?_)
  refine Goes.ret ?_
  obtain rfl:=si h
  exact(gw2 [.i r1,.bool (x3.Name==name)] (FzW.tuple (qo.cons (FzW.still tI) (qo.cons (FzW.still tB) qo.nil))))
def yc (n:Int):Option Int:=
 (jQ n 0 99999).bind fun r1=>
 some r1
theorem qaH (n:Int) {res:Int} (h:yc n=some res):qg Tryz.prog (.fn 94) [.i n] [] (.i res) []:=by
 unfold yc at h
 refine Goes.fnW Tryz.func94 rfl rfl (m:=5) rfl (rs:=[.tmp 2]) rfl (l:=[(0,.i n)]) rfl ?_
 refine sh fol [(0,.i n)] ?_
 obtain⟨r1,e_r1,h⟩:=bnd h
 refine sq (gr fol [1] [(2,.i r1)] (ac (cv (vB n 0 99999 e_r1)) az) ?_)
 refine Goes.ret ?_
 obtain rfl:=si h
 exact(gw2 [.i r1] (FzW.still tI))
def jd (s_:qc) (day:Int):Option Bool:=
 (if s_.Gone=true then
 some true
 else
 if day>s_.Last then
 some true
 else
 some (decide (s_.Used=s_.Uses)):Option Bool).bind fun b3=>
 some b3
theorem vR (s_:qc) (day:Int) {res:Bool} (h:jd s_ day=some res):qg Tryz.prog (.fn 95) [.agg (cS s_),.i day] [] (.bool res) []:=by
 unfold jd at h
 refine Goes.fnW Tryz.func95 rfl rfl (m:=20) rfl (rs:=[.tmp 4]) rfl (l:=[(0,.agg (cS s_)),(1,.i day)]) rfl ?_
 refine sg fol ((1,.i day)::(kU [])) (kBL s_) ?_
 refine sq ?_
 obtain⟨b3,g_v4,h⟩:=bnd h
 refine Goes.cut (s':=(ofG 20 (kBI b3),(kBL s_))) ?_ ?_
 ·rcases wyB g_v4 with⟨c1,g_v4⟩|⟨c1,g_v4⟩
  ·obtain rfl:=si g_v4
   exact tr fol [2] kAq (ac (gw c1) az)
  ·rcases wyD g_v4 with⟨c2,g_v4⟩|⟨c2,g_v4⟩
   ·obtain rfl:=si g_v4
    exact tr fol [2,8] kAq (ac (gw c1) (ac (gw c2) az))
   ·obtain rfl:=si g_v4
    exact tr fol [2,8] (kBI (decide (s_.Used=s_.Uses))) (ac (gw c1) (ac (gw c2) az))
 refine Goes.ret ?_
 obtain rfl:=si h
 exact(gw2 [.bool b3] (FzW.still tB))
def vw (s_:qc) (day:Int):Option Bool:=
 (if s_.Limit>0 then
 some (decide (day≤s_.Until))
 else
 some false:Option Bool).bind fun b2=>
 some b2
theorem qba (s_:qc) (day:Int) {res:Bool} (h:vw s_ day=some res):qg Tryz.prog (.fn 96) [.agg (cS s_),.i day] [] (.bool res) []:=by
 unfold vw at h
 refine Goes.fnW Tryz.func96 rfl rfl (m:=14) rfl (rs:=[.tmp 4]) rfl (l:=[(0,.agg (cS s_)),(1,.i day)]) rfl ?_
 refine sg fol ((1,.i day)::(kU [])) (kBL s_) ?_
 refine sq ?_
 obtain⟨b2,g_v3,h⟩:=bnd h
 refine Goes.cut (s':=(ofG 14 (kBI b2),(kBL s_))) ?_ ?_
 ·rcases wyD g_v3 with⟨c1,g_v3⟩|⟨c1,g_v3⟩
  ·obtain rfl:=si g_v3
   exact tr fol [3] (kBI (decide (day≤s_.Until))) (ac (gw c1) az)
  ·obtain rfl:=si g_v3
   exact tr fol [3] kAI (ac (gw c1) az)
 refine Goes.ret ?_
 obtain rfl:=si h
 exact(gw2 [.bool b2] (FzW.still tB))
def zq:Option Unit:=
 some ()
theorem qw {res:Unit} (h:zq=some res):qg Tryz.prog (.fn 85) [] [] (fm1) []:=by
 unfold zq at h
 refine Goes.fnW Tryz.func85 rfl rfl (m:=9) rfl (rs:=[.tmp 0]) rfl (l:=[]) rfl ?_
 refine sh fol [] ?_
 refine sg fol [(0,.map 0)] [.map kA3 (.agg [.i 2,.i 3,.func (.func 141) [] []]:: .agg [.i 1,.i 2,.func (.func 142) [] []]:: .agg [.i 1,.i 2,.func (.func 143) [] []]:: .agg [.i 1,.i 1,.func (.func 144) [] []]:: .agg [.i 1,.i 1,.func (.func 145) [] []]::(kBE []))] ?_
 refine Goes.ret ?_
 obtain rfl:=si h
 exact(gw2 [.map 0] (FzW.of (by kernel_rfl)))
def yG (c:Int):Option Bool:=
 (if c≥97 then
 if c≤122 then
 some true
 else
 if c≥65 then
 some (decide (c≤90))
 else
 some false
 else
 if c≥65 then
 some (decide (c≤90))
 else
 some false:Option Bool).bind fun b5=>
 some b5
theorem yu (c:Int) {res:Bool} (h:yG c=some res):qg Tryz.prog (.fn 183) [.int .i32 c] [] (.bool res) []:=by
 unfold yG at h
 refine Goes.fnW Tryz.func183 rfl rfl (m:=17) rfl (rs:=[.tmp 2]) rfl (l:=[(0,.int .i32 c)]) rfl ?_
 refine sh fol [(0,.int .i32 c)] ?_
 refine sq ?_
 obtain⟨b5,g_v6,h⟩:=bnd h
 refine Goes.cut (s':=(ofG 17 [(2,.bool b5)],[])) ?_ ?_
 ·rcases wyD g_v6 with⟨c1,g_v6⟩|⟨c1,g_v6⟩
  ·rcases wyD g_v6 with⟨c2,g_v6⟩|⟨c2,g_v6⟩
   ·obtain rfl:=si g_v6
    exact tr fol [2,6] [(2,.bool true)] (ac (gw c1) (ac (gw c2) az))
   ·rcases wyD g_v6 with⟨c3,g_v6⟩|⟨c3,g_v6⟩
    ·obtain rfl:=si g_v6
     exact tr fol [2,6,9] [(2,.bool (decide (c≤90)))] (ac (gw c1) (ac (gw c2) (ac (gw c3) az)))
    ·obtain rfl:=si g_v6
     exact tr fol [2,6,9] kBz (ac (gw c1) (ac (gw c2) (ac (gw c3) az)))
  ·rcases wyD g_v6 with⟨c4,g_v6⟩|⟨c4,g_v6⟩
   ·obtain rfl:=si g_v6
    exact tr fol [2,9] [(2,.bool (decide (c≤90)))] (ac (gw c1) (ac (gw c4) az))
   ·obtain rfl:=si g_v6
    exact tr fol [2,9] kBz (ac (gw c1) (ac (gw c4) az))
 refine Goes.ret ?_
 obtain rfl:=si h
 exact(gw2 [.bool b5] (FzW.still tB))
def vz (s_:Str):Nat→Nat→Option (Unit⊕Bool)
 |0,_=>none
 |K+1,k1=>
  if k1<s_.length then
  ((yG (yx s_ k1)).bind fun r5=>
  if(!r5)=true then
  if(k1:Int)=0 then
  some true
  else
  if(!decide ((yx s_ k1)=95))=true then
  if(yx s_ k1)<48 then
  some true
  else
  some (decide ((yx s_ k1)>57))
  else
  some false
  else
  some false:Option Bool).bind fun b10=>
  if b10=true then
  some (.inr false)
  else
  vz s_ K (k1+runeLen s_ k1)
  else
  some (.inl ())
def qaz (N:Nat) (s_:Str):Option Bool:=
 (vz s_ N 0).bind (fun
 |(.inl ())=>
 (if(!(s_==[]))=true then
 some (decide ((s_.length:Int)≤24))
 else
 some false:Option Bool).bind fun b14=>
 some b14
 |(.inr q16)=>
 some q16)
theorem qfP (N:Nat) (s_:Str) {res:Bool} (h:qaz N s_=some res):qg Tryz.prog (.fn 146) [.str s_] [] (.bool res) []:=by
 unfold qaz at h
 refine Goes.fnW Tryz.func146 rfl rfl (m:=37) rfl (rs:=[.tmp 2]) rfl (l:=(kBZ s_)) rfl ?_
 refine sh fol (kBZ s_) ?_
 refine sq ?_
 refine sg fol (kA0 s_ []) [.iter s_ 0] ?_
 refine Goes.block ?_
 obtain⟨r2,g2,h⟩:=bnd h
 refine Goes.imp (Q:=fun x s'=>(x= .exit 0∧(.inl ())=r2∧Sub s' (ofG 37 (kBZ s_),[]))∨(x= .ret∧ ∃q3,(.inr q3)=r2∧zl Tryz.prog [.tmp 2] (.bool q3) .ret s')) ?_ ?_
 ·refine Goes.sub (s':=(ofG 37 (kA0 s_ []),[.iter s_ 0])) (Sub.keep [0,6] rfl rfl) ?_
  refine Goes.loopS (fun M s=> ∃(k1:Nat),s=(ofG 37 (kA0 s_ []),[.iter s_ k1])∧vz s_ M k1=some r2) ?_ (m:=N) ⟨_,rfl,g2⟩
  rintro M s ⟨k1,rfl,g2⟩
  cases M with
  |zero=>simp only[vz]at g2;cases g2
  |succ M=>
   rw[vz]at g2
   refine sq ?_
   rcases Classical.em (k1<s_.length)with c4|c4
   ·rw[if_pos c4]at g2
    refine gq fol [0] (kA0 s_ [(7,.tuple [.bool true,.i (k1:Int),.int .i32 (yx s_ k1)]),(8,.bool true)]) [.iter s_ (k1+runeLen s_ k1)] (ac (hs (.run [0] (qdV (.ptr 0 0) true) [.iter s_ k1] (.tuple [.bool true,.i (k1:Int),.int .i32 (yx s_ k1)]) [.iter s_ (k1+runeLen s_ k1)] true) (qic rfl c4 rfl)) az) ?_
    refine sq ?_
    refine Goes.ifB (b:=true) (by kernel_rfl) (fun _=>?_) (fun c=>(by cases c))
    refine Goes.skip ?_
    refine Goes.block ?_
    refine sh fol (kAp s_ (k1:Int) [(4,.int .i32 (yx s_ k1)),(6,.ptr 0 0)]) ?_
    refine sq ?_
    obtain⟨b10,g_v11,g2⟩:=bnd g2
    refine Goes.cut (s':=(ofG 37 (kA0 s_ [(29,.bool b10)]),[.iter s_ (k1+runeLen s_ k1)])) ?_ ?_
    ·obtain⟨r5,e_r5,g_v11⟩:=bnd g_v11
     rcases wyB g_v11 with⟨c6,g_v11⟩|⟨c6,g_v11⟩
     ·rcases wyD g_v11 with⟨c7,g_v11⟩|⟨c7,g_v11⟩
      ·obtain rfl:=si g_v11
       exact tr fol [1,3,6] (kA0 s_ [(29,.bool true)]) (ac (cv (yu (yx s_ k1) e_r5)) (ac (gw c6) (ac (gw c7) az)))
      ·rcases wyB g_v11 with⟨c8,g_v11⟩|⟨c8,g_v11⟩
       ·rcases wyD g_v11 with⟨c9,g_v11⟩|⟨c9,g_v11⟩
        ·obtain rfl:=si g_v11
         exact tr fol [1,3,6,9,12] (kA0 s_ [(29,.bool true)]) (ac (cv (yu (yx s_ k1) e_r5)) (ac (gw c6) (ac (gw c7) (ac (gw c8) (ac (gw c9) az)))))
        ·obtain rfl:=si g_v11
         exact tr fol [1,3,6,9,12] (kA0 s_ [(29,.bool (decide ((yx s_ k1)>57)))]) (ac (cv (yu (yx s_ k1) e_r5)) (ac (gw c6) (ac (gw c7) (ac (gw c8) (ac (gw c9) az)))))
       ·obtain rfl:=si g_v11
        exact tr fol [1,3,6,9] (kA0 s_ [(29,.bool false)]) (ac (cv (yu (yx s_ k1) e_r5)) (ac (gw c6) (ac (gw c7) (ac (gw c8) az))))
     ·obtain rfl:=si g_v11
      exact tr fol [1,3] (kA0 s_ [(29,.bool false)]) (ac (cv (yu (yx s_ k1) e_r5)) (ac (gw c6) az))
    refine ihB g2 (fun c12 g2=>?_) (fun c12 g2=>?_)
    ·refine sh fol kBz ?_
     refine Goes.ret ?_
     obtain rfl:=si g2
     exact Or.inr (⟨rfl,_,rfl,(gw2 [.bool false] (FzW.still tB))⟩)
    ·refine Goes.skip ?_
     exact⟨M,(ofG 37 (kA0 s_ []),[.iter s_ (k1+runeLen s_ k1)]),Nat.lt_succ_self _,(Sub.keep [0,6] rfl rfl),_,rfl,g2⟩
   ·rw[if_neg c4]at g2
    refine gr fol [0] (kA0 s_ [(7,.tuple [.bool false]),(8,.bool false)]) (ac (hs (.run [0] (qdV (.ptr 0 0) true) [.iter s_ k1] (.tuple [.bool false]) [.iter s_ k1] false) (qik rfl c4)) az) ?_
    refine sq ?_
    refine Goes.ifB (b:=false) (by kernel_rfl) (fun c=>(by cases c)) (fun _=>?_)
    refine Goes.exit ?_
    obtain rfl:=si g2
    exact Or.inl (⟨rfl,rfl,(Sub.norm [] [] rfl rfl (.keep (.same nS) .nil) .nil)⟩)
 rintro x s' (⟨rfl,rfl,hsub⟩|⟨rfl,q16,rfl,hret⟩)
 ·try dsimp only at h
  refine Goes.sub hsub ?_
  refine sq ?_
  obtain⟨b14,g_v15,h⟩:=bnd h
  refine Goes.cut (s':=(ofG 37 [(2,.bool b14)],[])) ?_ ?_
  ·rcases wyB g_v15 with⟨c13,g_v15⟩|⟨c13,g_v15⟩
   ·obtain rfl:=si g_v15
    exact tr fol [2] [(2,.bool (decide ((s_.length:Int)≤24)))] (ac (gw c13) az)
   ·obtain rfl:=si g_v15
    exact tr fol [2] kBz (ac (gw c13) az)
  refine Goes.ret ?_
  obtain rfl:=si h
  exact(gw2 [.bool b14] (FzW.still tB))
 ·try dsimp only at h
  obtain rfl:=si h
  exact hret
def qaY (N:Nat) (s_:Str):Option Int:=
 (qaz N s_).bind fun r1=>
 (qI (!r1) 8).bind fun r2=>
 some r2
theorem qgv (N:Nat) (s_:Str) {res:Int} (h:qaY N s_=some res):qg Tryz.prog (.fn 89) [.str s_] [] (.i res) []:=by
 unfold qaY at h
 refine Goes.fnW Tryz.func89 rfl rfl (m:=7) rfl (rs:=[.tmp 2]) rfl (l:=(kBZ s_)) rfl ?_
 refine sh fol (kBZ s_) ?_
 obtain⟨r1,e_r1,h⟩:=bnd h
 obtain⟨r2,e_r2,h⟩:=bnd h
 refine sq (gr fol [1,3] [(2,.i r2)] (ac (cv (qfP N s_ e_r1)) (ac (cv (qA (!r1) 8 e_r2)) az)) ?_)
 refine Goes.ret ?_
 obtain rfl:=si h
 exact(gw2 [.i r2] (FzW.still tI))
def jb (N:Nat) (e:qb):Nat→Int→Option (Unit⊕Int)
 |0,_=>none
 |K+1,n22=>
  if n22<(e.Names.length:Int)then
  (idx e.Names n22).bind fun x26=>
  (qaY N x26).bind fun r27=>
  if(!decide (r27=0))=true then
  some (.inr r27)
  else
  jb N e K (w64 (n22+1))
  else
  some (.inl ())
def jc (e:qb):Nat→Int→Option (Unit⊕Int)
 |0,_=>none
 |K+1,n29=>
  if n29<(e.Values.length:Int)then
  (idx e.Values n29).bind fun x33=>
  (jQ x33 0 999999999).bind fun r34=>
  if(!decide (r34=0))=true then
  some (.inr r34)
  else
  jc e K (w64 (n29+1))
  else
  some (.inl ())
def jS (N:Nat) (e:qb):Option Int:=
 ((zq).bind fun r1=>
 if(e.Kind==[109,97,107,101])=true then
 some (2,3,true)
 else
 if(e.Kind==[116,101,115,116])=true then
 some (1,2,true)
 else
 if(e.Kind==[117,115,101])=true then
 some (1,2,true)
 else
 if(e.Kind==[102,97,105,108])=true then
 some (1,1,true)
 else
 if(e.Kind==[114,101,99,97,108,108])=true then
 some (1,1,true)
 else
 if(e.Kind==[117,110,100,111])=true then
 some (0,0,true)
 else
 some (0,0,false):Option (Int×Int×Bool)).bind fun(n8,n9,b10)=>
 ((jQ e.Number 1 1000).bind fun r12=>
 (qI (!b10) 13).bind fun r13=>
 if(!decide ((e.Names.length:Int)=n8))=true then
 (qI true 2).bind fun r15=>
 (zo N ([r12,r13,r15]:List Int)).bind fun r16=>
 some r16
 else
 (qI (!decide ((e.Values.length:Int)=n9)) 2).bind fun r17=>
 (zo N ([r12,r13,r17]:List Int)).bind fun r18=>
 some r18:Option Int).bind fun n19=>
 if(!decide (n19=0))=true then
 some n19
 else
 (jb N e N 0).bind (fun
 |(.inl ())=>
 (jc e N 0).bind (fun
 |(.inl ())=>
 (qI (!(e.Text==[])) 1).bind fun r36=>
 some r36
 |(.inr q37)=>
 some q37)
 |(.inr q38)=>
 some q38)
theorem qao (N:Nat) (e:qb) {res:Int} (h:jS N e=some res):qg Tryz.prog (.fn 18) [.agg (cE e)] [] (.i res) []:=by
 unfold jS at h
 refine Goes.fnW Tryz.func18 rfl rfl (m:=75) rfl (rs:=[.tmp 2]) rfl (l:=[(0,.agg (cE e))]) rfl ?_
 refine sg fol (kAA []) (kW e []) ?_
 refine sq ?_
 obtain⟨⟨n8,n9,b10⟩,g_v11,h⟩:=bnd h
 refine Goes.cutS (s':=(ofG 75 (kAA ((3,.ptr 1 0)::(kBI b10))),(kW e (kB0 n8 n9 [])))) ?_ ?_
 ·obtain⟨r1,e_r1,g_v11⟩:=bnd g_v11
  rcases wyB g_v11 with⟨c2,g_v11⟩|⟨c2,g_v11⟩
  ·simp only[Option.some.injEq,Prod.mk.injEq]at g_v11
   obtain⟨rfl,rfl,rfl⟩:=g_v11
   exact qj.sub (qj.rq fol [0,3] (kAA ((3,.ptr 1 0)::kAq)) (kW e [.cells [.i 2,.i 3,.func (.func 141) [] []]]) (ac (cv (qw e_r1)) (ac (hs (.done (qW Tryz.prog 154 (fm1) (.str e.Kind) true) (.tuple (.agg [.i 2,.i 3,.func (.func 141) [] []]::kAt))) (yO xk [[109,97,107,101],[116,101,115,116],[117,115,101],[102,97,105,108],[114,101,99,97,108,108],[117,110,100,111]] (ky c2) rfl)) az))) (Sub.norm [] [some 0,some 1] rfl rfl (.kp (.kp (.keep (.same nB) .nil))) (.kb rfl (.same sn) (.kb rfl (.cells (rc (.same nI) (rc (.same nI) (rc (.undef) rn)))) .nil)))
  ·rcases wyB g_v11 with⟨c3,g_v11⟩|⟨c3,g_v11⟩
   ·simp only[Option.some.injEq,Prod.mk.injEq]at g_v11
    obtain⟨rfl,rfl,rfl⟩:=g_v11
    exact qj.sub (qj.rq fol [0,3] (kAA ((3,.ptr 1 0)::kAq)) (kW e [.cells [.i 1,.i 2,.func (.func 142) [] []]]) (ac (cv (qw e_r1)) (ac (hs (.done (qW Tryz.prog 154 (fm1) (.str e.Kind) true) (.tuple (.agg [.i 1,.i 2,.func (.func 142) [] []]::kAt))) (yO xk [[109,97,107,101],[116,101,115,116],[117,115,101],[102,97,105,108],[114,101,99,97,108,108],[117,110,100,111]] (qh c2 (ky c3)) rfl)) az))) (Sub.norm [] [some 0,some 1] rfl rfl (.kp (.kp (.keep (.same nB) .nil))) (.kb rfl (.same sn) (.kb rfl (.cells (rc (.same nI) (rc (.same nI) (rc (.undef) rn)))) .nil)))
   ·rcases wyB g_v11 with⟨c4,g_v11⟩|⟨c4,g_v11⟩
    ·simp only[Option.some.injEq,Prod.mk.injEq]at g_v11
     obtain⟨rfl,rfl,rfl⟩:=g_v11
     exact qj.sub (qj.rq fol [0,3] (kAA ((3,.ptr 1 0)::kAq)) (kW e [.cells [.i 1,.i 2,.func (.func 143) [] []]]) (ac (cv (qw e_r1)) (ac (hs (.done (qW Tryz.prog 154 (fm1) (.str e.Kind) true) (.tuple (.agg [.i 1,.i 2,.func (.func 143) [] []]::kAt))) (yO xk [[109,97,107,101],[116,101,115,116],[117,115,101],[102,97,105,108],[114,101,99,97,108,108],[117,110,100,111]] (qh c2 (qh c3 (ky c4))) rfl)) az))) (Sub.norm [] [some 0,some 1] rfl rfl (.kp (.kp (.keep (.same nB) .nil))) (.kb rfl (.same sn) (.kb rfl (.cells (rc (.same nI) (rc (.same nI) (rc (.undef) rn)))) .nil)))
    ·rcases wyB g_v11 with⟨c5,g_v11⟩|⟨c5,g_v11⟩
     ·simp only[Option.some.injEq,Prod.mk.injEq]at g_v11
      obtain⟨rfl,rfl,rfl⟩:=g_v11
      exact qj.sub (qj.rq fol [0,3] (kAA ((3,.ptr 1 0)::kAq)) (kW e [.cells [.i 1,.i 1,.func (.func 144) [] []]]) (ac (cv (qw e_r1)) (ac (hs (.done (qW Tryz.prog 154 (fm1) (.str e.Kind) true) (.tuple (.agg [.i 1,.i 1,.func (.func 144) [] []]::kAt))) (yO xk [[109,97,107,101],[116,101,115,116],[117,115,101],[102,97,105,108],[114,101,99,97,108,108],[117,110,100,111]] (qh c2 (qh c3 (qh c4 (ky c5)))) rfl)) az))) (Sub.norm [] [some 0,some 1] rfl rfl (.kp (.kp (.keep (.same nB) .nil))) (.kb rfl (.same sn) (.kb rfl (.cells (rc (.same nI) (rc (.same nI) (rc (.undef) rn)))) .nil)))
     ·rcases wyB g_v11 with⟨c6,g_v11⟩|⟨c6,g_v11⟩
      ·simp only[Option.some.injEq,Prod.mk.injEq]at g_v11
       obtain⟨rfl,rfl,rfl⟩:=g_v11
       exact qj.sub (qj.rq fol [0,3] (kAA ((3,.ptr 1 0)::kAq)) (kW e [.cells [.i 1,.i 1,.func (.func 145) [] []]]) (ac (cv (qw e_r1)) (ac (hs (.done (qW Tryz.prog 154 (fm1) (.str e.Kind) true) (.tuple (.agg [.i 1,.i 1,.func (.func 145) [] []]::kAt))) (yO xk [[109,97,107,101],[116,101,115,116],[117,115,101],[102,97,105,108],[114,101,99,97,108,108],[117,110,100,111]] (qh c2 (qh c3 (qh c4 (qh c5 (ky c6))))) rfl)) az))) (Sub.norm [] [some 0,some 1] rfl rfl (.kp (.kp (.keep (.same nB) .nil))) (.kb rfl (.same sn) (.kb rfl (.cells (rc (.same nI) (rc (.same nI) (rc (.undef) rn)))) .nil)))
      ·rcases wyB g_v11 with⟨c7,g_v11⟩|⟨c7,g_v11⟩
       ·simp only[Option.some.injEq,Prod.mk.injEq]at g_v11
        obtain⟨rfl,rfl,rfl⟩:=g_v11
        exact qj.sub (qj.rq fol [0,3] (kAA ((3,.ptr 1 0)::kAq)) (kW e kBJ) (ac (cv (qw e_r1)) (ac (hs (.done (qW Tryz.prog 154 (fm1) (.str e.Kind) true) (.tuple (kBE kAt))) (yO xk [[109,97,107,101],[116,101,115,116],[117,115,101],[102,97,105,108],[114,101,99,97,108,108],[117,110,100,111]] (qh c2 (qh c3 (qh c4 (qh c5 (qh c6 (ky c7)))))) rfl)) az))) (Sub.norm [] [some 0,some 1] rfl rfl (.kp (.kp (.keep (.same nB) .nil))) (.kb rfl (.same sn) (.kb rfl (.cells (rc (.same nI) (rc (.same nI) (rc (.undef) rn)))) .nil)))
       ·simp only[Option.some.injEq,Prod.mk.injEq]at g_v11
        obtain⟨rfl,rfl,rfl⟩:=g_v11
        exact qj.sub (qj.rq fol [0,3] (kAA ((3,.ptr 1 0)::kAI)) (kW e kBJ) (ac (cv (qw e_r1)) (ac (hs (.done (qW Tryz.prog 154 (fm1) (.str e.Kind) true) (.tuple (kBE kBw))) (qgS xk [[109,97,107,101],[116,101,115,116],[117,115,101],[102,97,105,108],[114,101,99,97,108,108],[117,110,100,111]] (qh c2 (qh c3 (qh c4 (qh c5 (qh c6 (qh c7 (rfl))))))))) az))) (Sub.norm [] [some 0,some 1] rfl rfl (.kp (.kp (.keep (.same nB) .nil))) (.kb rfl (.same sn) (.kb rfl (.cells (rc (.same nI) (rc (.same nI) (rc (.undef) rn)))) .nil)))
 intro _ hsub
 try dsimp only at h
 refine Goes.sub hsub ?_
 refine sq ?_
 refine sq ?_
 obtain⟨n19,g_v20,h⟩:=bnd h
 refine Goes.cutS (s':=(ofG 75 (kAA (kAs n19)),(kW e []))) ?_ ?_
 ·obtain⟨r12,e_r12,g_v20⟩:=bnd g_v20
  obtain⟨r13,e_r13,g_v20⟩:=bnd g_v20
  rcases wyB g_v20 with⟨c14,g_v20⟩|⟨c14,g_v20⟩
  ·obtain⟨r15,e_r15,g_v20⟩:=bnd g_v20
   obtain⟨r16,e_r16,g_v20⟩:=bnd g_v20
   obtain rfl:=si g_v20
   exact qj.sub (qj.rq fol [2,5,12,20,22] (kAA (kAs r16)) (kW e (kB0 n8 n9 [.cells [.i r12,.i r13,.i r15]])) (ac (cv (vB e.Number 1 1000 e_r12)) (ac (cv (qA (!b10) 13 e_r13)) (ac (gw c14) (ac (cv (qA true 2 e_r15)) (ac (hs (.call 86 [.slice 2 0 3 3 1] (kW e (kB0 n8 n9 [.cells [.i r12,.i r13,.i r15]])) [2] [vl encI ([r12,r13,r15]:List Int)] (.i r16)) (qak (FzL.cons (Fz.lit rfl rfl (FzL.still (AllST.cons tI (AllST.cons tI (AllST.cons tI AllST.nil))))) FzL.nil) (zD N ([r12,r13,r15]:List Int) e_r16) tI rfl)) az)))))) (Sub.norm [] [some 0] rfl rfl (.kp (.keep (.same nI) .nil)) (.kb rfl (.same sn) .nil))
  ·obtain⟨r17,e_r17,g_v20⟩:=bnd g_v20
   obtain⟨r18,e_r18,g_v20⟩:=bnd g_v20
   obtain rfl:=si g_v20
   exact qj.sub (qj.rq fol [2,5,12,20,22] (kAA (kAs r18)) (kW e (kB0 n8 n9 [.cells [.i r12,.i r13,.i r17]])) (ac (cv (vB e.Number 1 1000 e_r12)) (ac (cv (qA (!b10) 13 e_r13)) (ac (gw c14) (ac (cv (qA (!decide ((e.Values.length:Int)=n9)) 2 e_r17)) (ac (hs (.call 86 [.slice 2 0 3 3 1] (kW e (kB0 n8 n9 [.cells [.i r12,.i r13,.i r17]])) [2] [vl encI ([r12,r13,r17]:List Int)] (.i r18)) (qak (FzL.cons (Fz.lit rfl rfl (FzL.still (AllST.cons tI (AllST.cons tI (AllST.cons tI AllST.nil))))) FzL.nil) (zD N ([r12,r13,r17]:List Int) e_r18) tI rfl)) az)))))) (Sub.norm [] [some 0] rfl rfl (.kp (.keep (.same nI) .nil)) (.kb rfl (.same sn) .nil))
 intro _ hsub
 refine Goes.sub hsub ?_
 refine sh fol (kAA [(5,.i n19),(43,.bool (!decide (n19=0)))]) ?_
 refine ihB h (fun c21 h=>?_) (fun c21 h=>?_)
 ·refine sh fol [(2,.i n19)] ?_
  refine Goes.ret ?_
  obtain rfl:=si h
  exact(gw2 [.i n19] (FzW.still tI))
 ·refine Goes.skip ?_
  refine sq ?_
  refine sh fol (kAA [(46,vl encS e.Names),(47,.i (e.Names.length:Int)),(48,.i 0)]) ?_
  refine Goes.block ?_
  obtain⟨r23,g23,h⟩:=bnd h
  refine Goes.imp (Q:=fun x s'=>(x= .exit 0∧(.inl ())=r23∧Sub s' (ofG 75 (kAA []),(kW e [])))∨(x= .ret∧ ∃q24,(.inr q24)=r23∧zl Tryz.prog [.tmp 2] (.i q24) .ret s')) ?_ ?_
  ·refine Goes.loopS (fun M s=> ∃(n22:Int),s=(ofG 75 (kAA (kBe e.Names (e.Names.length:Int) n22 [])),(kW e []))∧jb N e M n22=some r23) ?_ (m:=N) ⟨_,rfl,g23⟩
   rintro M s ⟨n22,rfl,g23⟩
   cases M with
   |zero=>simp only[jb]at g23;cases g23
   |succ M=>
    rw[jb]at g23
    refine sh fol (kAA (kBe e.Names (e.Names.length:Int) n22 [(49,.bool (decide (n22<(e.Names.length:Int))))])) ?_
    refine sq ?_
    refine ihD g23 (fun c25 g23=>?_) (fun c25 g23=>?_)
    ·refine Goes.skip ?_
     refine sq (Goes.block ?_)
     obtain⟨x26,e_x26,g23⟩:=bnd g23
     refine sq (gr fol [0,1] (kAA ((7,.str x26)::(kBe e.Names (e.Names.length:Int) n22 []))) (ac (iv jE encS e_x26) (ac (lv 0 ce9 encS e_x26 rfl) az)) ?_)
     obtain⟨r27,e_r27,g23⟩:=bnd g23
     refine sq (gr fol [1] (kAA ((8,.i r27)::(kBe e.Names (e.Names.length:Int) n22 []))) (ac (cv (qgv N x26 e_r27)) az) ?_)
     refine sh fol (kAA ((8,.i r27)::(kBe e.Names (e.Names.length:Int) n22 [(55,.bool (!decide (r27=0)))]))) ?_
     refine ihB g23 (fun c28 g23=>?_) (fun c28 g23=>?_)
     ·refine sh fol [(2,.i r27)] ?_
      refine Goes.ret ?_
      obtain rfl:=si g23
      exact Or.inr (⟨rfl,_,rfl,(gw2 [.i r27] (FzW.still tI))⟩)
     ·refine Goes.skip ?_
      refine gh fol (kAA (kBe e.Names (e.Names.length:Int) (w64 (n22+1)) [])) ?_
      exact⟨M,(ofG 75 (kAA (kBe e.Names (e.Names.length:Int) (w64 (n22+1)) [])),(kW e [])),Nat.lt_succ_self _,(Sub.refl _),_,rfl,g23⟩
    ·refine Goes.exit ?_
     obtain rfl:=si g23
     exact Or.inl (⟨rfl,rfl,(Sub.keep [1] rfl rfl)⟩)
  rintro x s' (⟨rfl,rfl,hsub⟩|⟨rfl,q38,rfl,hret⟩)
  ·try dsimp only at h
   refine Goes.sub hsub ?_
   refine sq ?_
   refine sh fol (kAA [(59,vl encI e.Values),(60,.i (e.Values.length:Int)),(61,.i 0)]) ?_
   refine Goes.block ?_
   obtain⟨r30,g30,h⟩:=bnd h
   refine Goes.imp (Q:=fun x s'=>(x= .exit 2∧(.inl ())=r30∧Sub s' (ofG 75 (kAA []),(kW e [])))∨(x= .ret∧ ∃q31,(.inr q31)=r30∧zl Tryz.prog [.tmp 2] (.i q31) .ret s')) ?_ ?_
   ·refine Goes.loopS (fun M s=> ∃(n29:Int),s=(ofG 75 (kAA (kBf e.Values (e.Values.length:Int) n29 [])),(kW e []))∧jc e M n29=some r30) ?_ (m:=N) ⟨_,rfl,g30⟩
    rintro M s ⟨n29,rfl,g30⟩
    cases M with
    |zero=>simp only[jc]at g30;cases g30
    |succ M=>
     rw[jc]at g30
     refine sh fol (kAA (kBf e.Values (e.Values.length:Int) n29 [(62,.bool (decide (n29<(e.Values.length:Int))))])) ?_
     refine sq ?_
     refine ihD g30 (fun c32 g30=>?_) (fun c32 g30=>?_)
     ·refine Goes.skip ?_
      refine sq (Goes.block ?_)
      obtain⟨x33,e_x33,g30⟩:=bnd g30
      refine sq (gr fol [0,1] (kAA ((10,.i x33)::(kBf e.Values (e.Values.length:Int) n29 []))) (ac (iv y7 encI e_x33) (ac (lv 0 ce3 encI e_x33 rfl) az)) ?_)
      obtain⟨r34,e_r34,g30⟩:=bnd g30
      refine sq (gr fol [1] (kAA ((11,.i r34)::(kBf e.Values (e.Values.length:Int) n29 []))) (ac (cv (vB x33 0 999999999 e_r34)) az) ?_)
      refine sh fol (kAA ((11,.i r34)::(kBf e.Values (e.Values.length:Int) n29 [(68,.bool (!decide (r34=0)))]))) ?_
      refine ihB g30 (fun c35 g30=>?_) (fun c35 g30=>?_)
      ·refine sh fol [(2,.i r34)] ?_
       refine Goes.ret ?_
       obtain rfl:=si g30
       exact Or.inr (⟨rfl,_,rfl,(gw2 [.i r34] (FzW.still tI))⟩)
      ·refine Goes.skip ?_
       refine gh fol (kAA (kBf e.Values (e.Values.length:Int) (w64 (n29+1)) [])) ?_
       exact⟨M,(ofG 75 (kAA (kBf e.Values (e.Values.length:Int) (w64 (n29+1)) [])),(kW e [])),Nat.lt_succ_self _,(Sub.refl _),_,rfl,g30⟩
     ·refine Goes.exit ?_
      obtain rfl:=si g30
      exact Or.inl (⟨rfl,rfl,(Sub.keep [1] rfl rfl)⟩)
   rintro x s' (⟨rfl,rfl,hsub⟩|⟨rfl,q37,rfl,hret⟩)
   ·try dsimp only at h
    refine Goes.sub hsub ?_
    obtain⟨r36,e_r36,h⟩:=bnd h
    refine sq (gr fol [3] [(2,.i r36)] (ac (cv (qA (!(e.Text==[])) 1 e_r36)) az) ?_)
    refine Goes.ret ?_
    obtain rfl:=si h
    exact(gw2 [.i r36] (FzW.still tI))
   ·try dsimp only at h
    obtain rfl:=si h
    exact hret
  ·try dsimp only at h
   obtain rfl:=si h
   exact hret
def ve:Option (List Str):=
 qhm (some []) ((app 16 ([]:List Str) ([]:List Str)).bind fun l1=>
 some l1)
theorem qcH {res:List Str} (h:ve=some res):qg Tryz.prog (.fn 165) [vl encS ([]:List Str)] [] (vl encS res) []:=by
 unfold ve at h
 refine Goes.fnW Tryz.func165 rfl rfl (m:=8) rfl (rs:=[.tmp 2]) rfl (l:=[(0,vl encS ([]:List Str))]) rfl ?_
 refine sh fol [(0,vl encS ([]:List Str))] ?_
 refine sq ?_
 refine sh fol [(0,vl encS ([]:List Str)),(4,.anyb)] ?_
 refine Goes.condAny (by kernel_rfl) ?_ ?_
 ·replace h:=(qdv h).1
  refine sh fol [(2,.nilslice)] ?_
  refine Goes.ret ?_
  obtain rfl:=si h
  exact(gw2 [.nilslice] (FzW.nilv (E:=encS)))
 ·replace h:=(qdv h).2
  refine Goes.skip ?_
  obtain⟨l1,e_l1,h⟩:=bnd h
  refine sq (gq fol [2] [(2,.oslice 1 l1.length 1)] (.dead::(kL l1)) (ac (hs (.run [0] (qP Tryz.prog [23,23] (.slice 0 0 0 0 1) (vl encS ([]:List Str))) [.cells []] (.oslice 1 l1.length 1) (.dead::(kL l1)) true) (jH jE (E:=encS) rfl (qeN (E:=encS) rfl _) (qhL (E:=encS) rfl rfl rfl e_l1 rfl))) az) ?_)
  refine Goes.ret ?_
  obtain rfl:=si h
  exact(gw2 [.oslice 1 l1.length 1] (FzW.fz (Fz.os (E:=encS) rfl rfl (nl rfl))))
def jB (x:Str) (xs:List Str):Option (List Str):=
 (app 16 ([]:List Str) (x::xs)).bind fun l1=>
 some l1
theorem qcE (x:Str) (xs:List Str) {res:List Str} (h:jB x xs=some res):qg Tryz.prog (.fn 165) [vl encS (x::xs)] [] (vl encS res) []:=by
 unfold jB at h
 refine Goes.fnW Tryz.func165 rfl rfl (m:=8) rfl (rs:=[.tmp 2]) rfl (l:=[(0,vl encS (x::xs))]) rfl ?_
 refine sh fol [(0,vl encS (x::xs))] ?_
 refine sq ?_
 refine sh fol ((0,vl encS (x::xs))::kAI) ?_
 refine Goes.ifB (b:=false) (by kernel_rfl) (fun c=>(by cases c)) (fun _=>?_)
 refine Goes.skip ?_
 obtain⟨l1,e_l1,h⟩:=bnd h
 refine sq (gq fol [2] [(2,.oslice 1 l1.length 1)] (.dead::(kL l1)) (ac (hs (.run [0] (qP Tryz.prog [23,23] (.slice 0 0 0 0 1) (vl encS (x::xs))) [.cells []] (.oslice 1 l1.length 1) (.dead::(kL l1)) true) (jH jE (E:=encS) rfl (qeN (E:=encS) rfl _) (qhL (E:=encS) rfl rfl rfl e_l1 rfl))) az) ?_)
 refine Goes.ret ?_
 obtain rfl:=si h
 exact(gw2 [.oslice 1 l1.length 1] (FzW.fz (Fz.os (E:=encS) rfl rfl (nl rfl))))
def slices_Clone_string:List Str→Option (List Str)
 |[]=>ve
 |x::xs=>jB x xs
theorem qa4 (l:List Str) {res:List Str} (h:slices_Clone_string l=some res):qg Tryz.prog (.fn 165) [vl encS l] [] (vl encS res) []:=by
 cases l with
 |nil=>exact qcH h
 |cons x xs=>exact qcE x xs h
def xx:Option (List Int):=
 qhm (some []) ((app 8 ([]:List Int) ([]:List Int)).bind fun l1=>
 some l1)
theorem qdN {res:List Int} (h:xx=some res):qg Tryz.prog (.fn 166) [vl encI ([]:List Int)] [] (vl encI res) []:=by
 unfold xx at h
 refine Goes.fnW Tryz.func166 rfl rfl (m:=8) rfl (rs:=[.tmp 2]) rfl (l:=[(0,vl encI ([]:List Int))]) rfl ?_
 refine sh fol [(0,vl encI ([]:List Int))] ?_
 refine sq ?_
 refine sh fol [(0,vl encI ([]:List Int)),(4,.anyb)] ?_
 refine Goes.condAny (by kernel_rfl) ?_ ?_
 ·replace h:=(qdv h).1
  refine sh fol [(2,.nilslice)] ?_
  refine Goes.ret ?_
  obtain rfl:=si h
  exact(gw2 [.nilslice] (FzW.nilv (E:=encI)))
 ·replace h:=(qdv h).2
  refine Goes.skip ?_
  obtain⟨l1,e_l1,h⟩:=bnd h
  refine sq (gq fol [2] [(2,.oslice 1 l1.length 1)] (.dead::(kAM l1 [])) (ac (hs (.run [0] (qP Tryz.prog [24,24] (.slice 0 0 0 0 1) (vl encI ([]:List Int))) [.cells []] (.oslice 1 l1.length 1) (.dead::(kAM l1 [])) true) (jH y7 (E:=encI) rfl (qeN (E:=encI) rfl _) (qhL (E:=encI) rfl rfl rfl e_l1 rfl))) az) ?_)
  refine Goes.ret ?_
  obtain rfl:=si h
  exact(gw2 [.oslice 1 l1.length 1] (FzW.fz (Fz.os (E:=encI) rfl rfl (nl rfl))))
def xC (x:Int) (xs:List Int):Option (List Int):=
 (app 8 ([]:List Int) (x::xs)).bind fun l1=>
 some l1
theorem qdG (x:Int) (xs:List Int) {res:List Int} (h:xC x xs=some res):qg Tryz.prog (.fn 166) [vl encI (x::xs)] [] (vl encI res) []:=by
 unfold xC at h
 refine Goes.fnW Tryz.func166 rfl rfl (m:=8) rfl (rs:=[.tmp 2]) rfl (l:=[(0,vl encI (x::xs))]) rfl ?_
 refine sh fol [(0,vl encI (x::xs))] ?_
 refine sq ?_
 refine sh fol ((0,vl encI (x::xs))::kAI) ?_
 refine Goes.ifB (b:=false) (by kernel_rfl) (fun c=>(by cases c)) (fun _=>?_)
 refine Goes.skip ?_
 obtain⟨l1,e_l1,h⟩:=bnd h
 refine sq (gq fol [2] [(2,.oslice 1 l1.length 1)] (.dead::(kAM l1 [])) (ac (hs (.run [0] (qP Tryz.prog [24,24] (.slice 0 0 0 0 1) (vl encI (x::xs))) [.cells []] (.oslice 1 l1.length 1) (.dead::(kAM l1 [])) true) (jH y7 (E:=encI) rfl (qeN (E:=encI) rfl _) (qhL (E:=encI) rfl rfl rfl e_l1 rfl))) az) ?_)
 refine Goes.ret ?_
 obtain rfl:=si h
 exact(gw2 [.oslice 1 l1.length 1] (FzW.fz (Fz.os (E:=encI) rfl rfl (nl rfl))))
def slices_Clone_int:List Int→Option (List Int)
 |[]=>xx
 |x::xs=>xC x xs
theorem qez (l:List Int) {res:List Int} (h:slices_Clone_int l=some res):qg Tryz.prog (.fn 166) [vl encI l] [] (vl encI res) []:=by
 cases l with
 |nil=>exact qdN h
 |cons x xs=>exact qdG x xs h
def ja (e:qb):Option qb:=
 (slices_Clone_string e.Names).bind fun r1=>
 (slices_Clone_int e.Values).bind fun r2=>
 some (⟨e.Number,e.Kind,r1,r2,e.Text⟩:qb)
theorem xU (e:qb) {res:qb} (h:ja e=some res):qg Tryz.prog (.fn 115) [.agg (cE e)] [] (.agg (cE res)) []:=by
 unfold ja at h
 refine Goes.fnW Tryz.func115 rfl rfl (m:=12) rfl (rs:=[.cell 2 26]) rfl (l:=[(0,.agg (cE e))]) rfl ?_
 refine sg fol (kAA [(2,.ptr 1 0)]) (kW e (kN [])) ?_
 obtain⟨r1,e_r1,h⟩:=bnd h
 obtain⟨r2,e_r2,h⟩:=bnd h
 refine sq (gq fol [2,5] (kAA [(2,.ptr 1 0)]) (kAB e.Number e.Kind r1 r2 e.Text (kN [])) (ac (cv (qa4 e.Names e_r1)) (ac (cv (qez e.Values e_r2)) az)) ?_)
 refine sg fol [(2,.ptr 1 0)] (kAB e.Number e.Kind r1 r2 e.Text (kAB e.Number e.Kind r1 r2 e.Text [])) ?_
 refine Goes.ret ?_
 obtain rfl:=si h
 exact(gw2 [.agg [.i e.Number,.str e.Kind,vl encS r1,vl encI r2,.str e.Text]] (FzW.agg (qo.cons (FzW.still tI) (qo.cons (FzW.still tS) (qo.cons (FzW.still (ko encS _ (nl rfl))) (qo.cons (FzW.still (ko encI _ (nl rfl))) (qo.cons (FzW.still tS) qo.nil)))))))
def qy (a0_:List qb) (a1_:Option (List StateT)):Option ((Option (List StateT))×Int×(List qc)):=
 ((match a1_ with
 |none=>
 some ((none:Option (List StateT)),decide (0=0))
 |some l4=>
 some ((some l4),decide ((l4.length:Int)=0))):Option ((Option (List StateT))×Bool)).bind fun(o5,b6)=>
 if b6=true then
 some (o5,0,[])
 else
 ((match o5 with
 |none=>
 (idx ([]:List StateT) (w64 (0-1))).bind fun x10=>
 some ((none:Option (List StateT)),x10.register.Day,x10.register.Slings)
 |some l9=>
 (idx l9 (w64 ((l9.length:Int)-1))).bind fun x11=>
 some ((some l9),x11.register.Day,x11.register.Slings)):Option ((Option (List StateT))×Int×(List qc))).bind fun(o12,n13,l14)=>
 some (o12,n13,l14)
theorem zR (a0_:List qb) (a1_:Option (List StateT)) {o1:Option (List StateT)} {n2:Int} {l3:List qc} (h:qy a0_ a1_=some (o1,n2,l3)):qg Tryz.prog (.fn 81) [.ptr 0 0] (kA a0_ a1_ []) (.agg (kAr n2 l3)) (kA a0_ o1 []):=by
 unfold qy at h
 refine Goes.fnH Tryz.func81 rfl rfl (m:=23) rfl (rs:=[.cell 2 31]) rfl (l:=(kAK [])) rfl ?_
 intro B hB
 refine sg fol (kAK [(2,.ptr 3 0)]) (kA a0_ a1_ [bZ]) ?_
 refine sq ?_
 refine sq ?_
 obtain⟨⟨o5,b6⟩,g_v7,h⟩:=bnd h
 refine Goes.cutS (s':=(ofG 23 (kAK [(2,.ptr 3 0),(8,.bool b6)]),(kA a0_ o5 [bZ]))) ?_ ?_
 ·rcases a1_ with _|l4
  ·try dsimp only at g_v7
   simp only[Option.some.injEq,Prod.mk.injEq]at g_v7
   obtain⟨rfl,rfl⟩:=g_v7
   exact qj.sub (qj.rg fol (kAK [(2,.ptr 3 0),(8,.bool (decide (0=0)))]) (kB2 a0_ (kJ a0_ [.cells ((hof (none:Option (List StateT))).flatMap jm.c),bZ]))) (Sub.norm [] [some 0,some 1,some 2,some 3] (by rw[hB];rfl) rfl (.kp (.kp (.keep (.same nB) .nil))) (.kb rfl (.cells (rc (.gslice rfl) (rc .hs0 rn))) (.ks (.ks (.kb rfl (.same sn) .nil)))))
  ·try dsimp only at g_v7
   simp only[Option.some.injEq,Prod.mk.injEq]at g_v7
   obtain⟨rfl,rfl⟩:=g_v7
   exact qj.sub (qj.rg fol (kAK [(2,.ptr 3 0),(8,.bool (decide ((l4.length:Int)=0)))]) (kAP a0_ l4 (kJ a0_ (kAW l4 [bZ])))) (Sub.norm [] [some 0,some 1,some 2,some 3] (by rw[hB];rfl) rfl (.kp (.kp (.keep (.same nB) .nil))) (.kb rfl (.cells (rc (.gslice rfl) (rc ((qX.hs1 rfl)) rn))) (.ks (.ks (.kb rfl (.same sn) .nil)))))
 intro _ hsub
 try dsimp only at h
 refine Goes.sub hsub ?_
 refine ihB h (fun c8 h=>?_) (fun c8 h=>?_)
 ·refine sh fol [(2,.ptr 3 0)] ?_
  refine Goes.ret ?_
  simp only[Option.some.injEq,Prod.mk.injEq]at h
  obtain⟨rfl,rfl,rfl⟩:=h
  exact(gh2 [.agg [.i 0,.nilslice]] (Sub.norm [] [some 0,some 1,some 2] (by rw[hB];rfl) rfl (.keep (.aggL (rc (.same nI) (rc (.nilv) rn))) .nil) (.kb rfl (.cells (rc (.gslice rfl) (rc (.hs rfl) rn))) (.ks (.ks .nil)))))
 ·refine Goes.skip ?_
  refine sq ?_
  obtain⟨⟨o12,n13,l14⟩,g_v15,h⟩:=bnd h
  refine Goes.cutS (s':=(ofG 23 [(2,.ptr 3 0)],(kA a0_ o12 (kG n13 l14 [])))) ?_ ?_
  ·rcases o5 with _|l9
   ·try dsimp only at g_v15
    obtain⟨x10,e_x10,g_v15⟩:=bnd g_v15
    simp only[Option.some.injEq,Prod.mk.injEq]at g_v15
    obtain⟨rfl,rfl,rfl⟩:=g_v15
    exact qj.sub (qj.rq fol [10,12] [(2,.ptr 3 0)] (kB2 a0_ (kJ a0_ (.cells ((hof (none:Option (List StateT))).flatMap jm.c)::(kG x10.register.Day x10.register.Slings [])))) (ac (hs (.done (.opt (qz Tryz.prog 163 (.nilslice) (.i (w64 (0-1))))) (.fptr (([]:List StateT).flatMap jm.c) ((w64 (0-1):Int).toNat*3+0))) (qpl e_x10)) (ac (hs (.done (jJ Tryz.prog 31 (.fptr (([]:List StateT).flatMap jm.c) ((w64 (0-1):Int).toNat*3+1))) (.agg (kAr x10.register.Day x10.register.Slings))) (ld_vp ag31 (E:=jm) rfl e_x10 rfl rfl)) az))) (Sub.norm [] [some 0,some 1,some 2,some 3] (by rw[hB];rfl) rfl (.kp .nil) (.kb rfl (.cells (rc (.gslice rfl) (rc .hs0 rn))) (.ks (.ks (.kb rfl (.same sn) .nil)))))
   ·try dsimp only at g_v15
    obtain⟨x11,e_x11,g_v15⟩:=bnd g_v15
    simp only[Option.some.injEq,Prod.mk.injEq]at g_v15
    obtain⟨rfl,rfl,rfl⟩:=g_v15
    exact qj.sub (qj.rq fol [10,12] [(2,.ptr 3 0)] (kAP a0_ l9 (kJ a0_ (kAW l9 (kG x11.register.Day x11.register.Slings [])))) (ac (hs (.done (.opt (qz Tryz.prog 163 (.oslice 2 l9.length 3) (.i (w64 ((l9.length:Int)-1))))) (.ptr 2 ((w64 ((l9.length:Int)-1):Int).toNat*3+0))) (qeP qlM e_x11)) (ac (hs (.run [2] (jJ Tryz.prog 31 (.ptr 2 ((w64 ((l9.length:Int)-1):Int).toNat*3+1))) (kAP a0_ l9 (kJ a0_ (kAW l9 [bZ]))) (.agg (kAr x11.register.Day x11.register.Slings)) (kAP a0_ l9 (kJ a0_ (kAW l9 [bZ]))) false) (ld_pp ag31 (E:=jm) (l:=l9) rfl rfl e_x11 rfl rfl)) az))) (Sub.norm [] [some 0,some 1,some 2,some 3] (by rw[hB];rfl) rfl (.kp .nil) (.kb rfl (.cells (rc (.gslice rfl) (rc ((qX.hs1 rfl)) rn))) (.ks (.ks (.kb rfl (.same sn) .nil)))))
  intro _ hsub
  try dsimp only at h
  refine Goes.sub hsub ?_
  refine Goes.ret ?_
  simp only[Option.some.injEq,Prod.mk.injEq]at h
  obtain⟨rfl,rfl,rfl⟩:=h
  exact(gh2 [.agg (kAr n13 l14)] (Sub.norm [] [some 0,some 1,some 2] (by rw[hB];rfl) rfl (.keep (.aggL (rc (.same nI) (rc (.same (qm qd _)) rn))) .nil) (.kb rfl (.cells (rc (.gslice rfl) (rc (.hs rfl) rn))) (.ks (.ks .nil)))))
def qp (a0_:Int) (a1_:List qc):Option (List qc):=
 (mk 88 (a1_.length:Int) (⟨[],[],0,0,0,0,0,0,false⟩:qc)).bind fun l2=>
 (some (cpy l2 a1_)).bind fun l3=>
 some l3
theorem ze (a0_:Int) (a1_:List qc) {l1:List qc} (h:qp a0_ a1_=some l1):qg Tryz.prog (.fn 82) [.agg (kAr a0_ a1_)] [] (.agg [.i a0_,.slice 0 0 l1.length l1.length 9]) [bS l1]:=by
 unfold qp at h
 refine Goes.fnH Tryz.func82 rfl rfl (m:=16) rfl (rs:=[.cell 2 31]) rfl (l:=(kB7 a0_ a1_ [])) rfl ?_
 intro B hB
 refine sg fol (kAA [(2,.ptr 1 0)]) (kG a0_ a1_ [bZ]) ?_
 obtain⟨l2,e_l2,h⟩:=bnd h
 refine sq (gq fol [3] (kAA (kBR l2)) (kG a0_ a1_ (kBU l2)) (ac (hs (.run [] (xY Tryz.prog 29 (.i (a1_.length:Int)) (.i (a1_.length:Int))) (kG a0_ a1_ [bZ]) (.slice 2 0 l2.length l2.length 9) (kG a0_ a1_ (kBU l2)) false) (qkP qcj (E:=qd) (z:=(⟨[],[],0,0,0,0,0,0,false⟩:qc)) rfl (by kernel_rfl) e_l2 rfl)) az) ?_)
 obtain⟨l3,e_l3,h⟩:=bnd h
 refine sq (gq fol [3] (kAA (kBR l2)) (kG a0_ a1_ (kBU l3)) (ac (hs (.run [2] (qcv Tryz.prog [29,29] (.slice 2 0 l2.length l2.length 9) (vl qd a1_)) (kG a0_ a1_ (kBU l2)) (.i ((Nat.min a1_.length l2.length:Nat):Int)) (kG a0_ a1_ (kBU l3)) true) (qku qcj (E:=qd) (l:=l2) rfl (qeN (E:=qd) rfl _) (.inl rfl) rfl rfl e_l3 rfl)) az) ?_)
 refine Goes.sub (show Sub (ofG 16 (kAA (kBR l2)),(kG a0_ a1_ (kBU l3))) (ofG 16 (kAA (kBR l3)),(kG a0_ a1_ (kBU l3)))from(Sub.norm [] [some 0,some 1,some 2] (by rw[hB];rfl) rfl (.kp (.kp (.keep (.sliceE rfl (qgA e_l3)) .nil))) (.kb rfl (.same sn) (.kb rfl (.same sn) (.ks .nil))))) ?_
 refine sg fol [(2,.ptr 1 0)] (kG a0_ a1_ [.cells [.i a0_,.slice 2 0 l3.length l3.length 9],bS l3]) ?_
 refine Goes.ret ?_
 obtain rfl:=si h
 exact(gh2 [.agg [.i a0_,.slice 2 0 l3.length l3.length 9]] (Sub.norm [] [some 2] (by rw[hB];rfl) rfl (.keep (.aggL (rc (.same nI) (rc (.slice rfl) rn))) .nil) (.ks .nil)))
def jU (a0_:List qc) (a1_:Int) (a2_:Str) (a3_:Str) (a4_:Int) (a5_:Int) (a6_:Int) (a7_:Int) (a8_:Int) (a9_:Int) (a10_:Bool):Option (List qc):=
 (at' a0_ a1_).bind fun j2=>
 if 1=0 then
 some a0_
 else
 if a1_=(a0_.length:Int)then
 ((match a0_ with
 |[]=>
 some ([(⟨a2_,a3_,a4_,a5_,a6_,a7_,a8_,a9_,a10_⟩:qc)]:List qc)
 |x5::xs6=>
 (app 88 (x5::xs6) [(⟨a2_,a3_,a4_,a5_,a6_,a7_,a8_,a9_,a10_⟩:qc)]).bind fun l7=>
 some l7):Option (List qc)).bind fun l8=>
 some l8
 else
 if(w64 ((a0_.length:Int)+1))>(a0_.length:Int)then
 (qmL 88 a0_ j2 (w64 ((w64 ((a0_.length:Int)+1))-a1_)) (⟨[],[],0,0,0,0,0,0,false⟩:qc)).bind fun l11=>
 (if a1_=0 then
 (some (cpy l11 ([(⟨a2_,a3_,a4_,a5_,a6_,a7_,a8_,a9_,a10_⟩:qc)]:List qc))).bind fun l13=>
 some l13
 else
 (at' l11 a1_).bind fun j14=>
 ((if j14<l11.length then some ()else none:Option Unit)).bind fun u15=>
 (some (qfd l11 j14 ([(⟨a2_,a3_,a4_,a5_,a6_,a7_,a8_,a9_,a10_⟩:qc)]:List qc))).bind fun l16=>
 some l16:Option (List qc)).bind fun l17=>
 (if(w64 (a1_+1))=0 then
 (some (cpy l17 (a0_.drop j2))).bind fun l20=>
 some l20
 else
 (at' l17 (w64 (a1_+1))).bind fun j21=>
 ((if j21<l17.length then some ()else none:Option Unit)).bind fun u22=>
 (some (qfd l17 j21 (a0_.drop j2))).bind fun l23=>
 some l23:Option (List qc)).bind fun l24=>
 some l24
 else
 none
theorem qcn (a0_:List qc) (a1_:Int) (a2_:Str) (a3_:Str) (a4_:Int) (a5_:Int) (a6_:Int) (a7_:Int) (a8_:Int) (a9_:Int) (a10_:Bool) {l1:List qc} (h:jU a0_ a1_ a2_ a3_ a4_ a5_ a6_ a7_ a8_ a9_ a10_=some l1):qg Tryz.prog (.fn 181) [.slice 0 0 a0_.length a0_.length 9,.i a1_,.slice 1 0 1 1 9] [bS a0_,.cells (cT a2_ a3_ a4_ a5_ a6_ a7_ a8_ a9_ a10_)] (vl qd l1) [.dead,.cells (cT a2_ a3_ a4_ a5_ a6_ a7_ a8_ a9_ a10_)]:=by
 unfold jU at h
 refine Goes.fnH Tryz.func181 rfl rfl (m:=95) rfl (rs:=[.tmp 6]) rfl (l:=(kZ a0_ a1_ [(2,.slice 1 0 1 1 9)])) rfl ?_
 intro B hB
 refine sh fol (kZ a0_ a1_ [(2,.slice 1 0 1 1 9)]) ?_
 obtain⟨j2,e_j2,h⟩:=bnd h
 refine sq (gr fol [2] (kZ a0_ a1_ [(2,.slice 1 0 1 1 9)]) (ac (hs (.done (.opt (qx Tryz.prog 29 (.slice 0 0 a0_.length a0_.length 9) (some (.i a1_)) none none)) (qft 0 9 a0_.length j2)) (qg1 qcj e_j2)) az) ?_)
 refine sh fol (kZ a0_ a1_ (kBS [])) ?_
 refine sq ?_
 refine sh fol (kZ a0_ a1_ (kBS [(16,.bool (decide (1=0)))])) ?_
 refine ihD h (fun c3 h=>?_) (fun c3 h=>?_)
 ·refine sh fol [(6,.slice 0 0 a0_.length a0_.length 9)] ?_
  refine Goes.ret ?_
  obtain rfl:=si h
  exact(gh2 [.slice 0 0 a0_.length a0_.length 9] (Sub.norm [0] [some 0,some 1] (by rw[hB];rfl) rfl (.keep (.frz (Fz.sl (E:=qd) rfl rfl (nl rfl)) (qm qd _)) .nil) (.lost (.kb rfl (.same sn) .nil))))
 ·refine Goes.skip ?_
  refine sh fol (kZ a0_ a1_ (kBS [(8,.i (a0_.length:Int))])) ?_
  refine sq ?_
  refine sh fol (kZ a0_ a1_ (kBS [(8,.i (a0_.length:Int)),(22,.bool (decide (a1_=(a0_.length:Int))))])) ?_
  refine ihD h (fun c4 h=>?_) (fun c4 h=>?_)
  ·refine sq ?_
   obtain⟨l8,g_v9,h⟩:=bnd h
   refine Goes.cutS (s':=(ofG 95 [(6,.oslice 2 l8.length 9)],[.dead,.cells (cT a2_ a3_ a4_ a5_ a6_ a7_ a8_ a9_ a10_),bS l8])) ?_ ?_
   ·rcases a0_ with _|⟨x5,xs6⟩
    ·try dsimp only at g_v9
     obtain rfl:=si g_v9
     exact qj.sub (qj.rg fol [(6,.oslice 2 1 9)] [.dead,.cells (cT a2_ a3_ a4_ a5_ a6_ a7_ a8_ a9_ a10_),.cells (cT a2_ a3_ a4_ a5_ a6_ a7_ a8_ a9_ a10_)]) (Sub.norm [] [some 0,some 1,some 2] (by rw[hB];rfl) rfl (.keep (qX.osliceE rfl rfl) .nil) (.lost (.kb rfl (.same sn) (.ks .nil))))
    ·try dsimp only at g_v9
     obtain⟨l7,e_l7,g_v9⟩:=bnd g_v9
     obtain rfl:=si g_v9
     exact qj.sub (qj.rq fol [2] [(6,.oslice 2 l7.length 9)] [.cells ((x5::xs6).flatMap qd.c),.cells (cT a2_ a3_ a4_ a5_ a6_ a7_ a8_ a9_ a10_),bS l7] (ac (hs (.run [0,1] (qP Tryz.prog [29,29] (.slice 0 0 (x5::xs6).length (x5::xs6).length 9) (.slice 1 0 1 1 9)) [.cells ((x5::xs6).flatMap qd.c),.cells (cT a2_ a3_ a4_ a5_ a6_ a7_ a8_ a9_ a10_)] (.oslice 2 l7.length 9) [.cells ((x5::xs6).flatMap qd.c),.cells (cT a2_ a3_ a4_ a5_ a6_ a7_ a8_ a9_ a10_),bS l7] false) (qpy qcj (E:=qd) (l:=(x5::xs6)) (ys:=[(⟨a2_,a3_,a4_,a5_,a6_,a7_,a8_,a9_,a10_⟩:qc)]) rfl rfl rfl rfl rfl rfl rfl rfl e_l7 rfl)) az)) (Sub.norm [] [some 0,some 1,some 2] (by rw[hB];rfl) rfl (.keep (.oslice rfl) .nil) (.lost (.kb rfl (.same sn) (.ks .nil))))
   intro _ hsub
   refine Goes.sub hsub ?_
   refine Goes.ret ?_
   obtain rfl:=si h
   exact(gh2 [.oslice 2 l8.length 9] (Sub.norm [2] [some 0,some 1] (by rw[hB];rfl) rfl (.keep (.frz (Fz.os (E:=qd) rfl rfl (nl rfl)) (qm qd _)) .nil) (.lost (.kb rfl (.same sn) .nil))))
  ·refine Goes.skip ?_
   refine sq ?_
   refine sh fol (kZ a0_ a1_ (kBS [(8,.i (a0_.length:Int)),(31,.bool (decide ((w64 ((a0_.length:Int)+1))>(a0_.length:Int))))])) ?_
   refine ihD h (fun c10 h=>?_) (fun c10 h=>?_)
   ·obtain⟨l11,e_l11,h⟩:=bnd h
    refine sq (gq fol [2,8] (kZ a0_ a1_ (kBS (kAY l11))) (kAw a0_ a2_ a3_ a4_ a5_ a6_ a7_ a8_ a9_ a10_ l11) (ac (hs (.done (.opt (qx Tryz.prog 29 (.slice 0 0 a0_.length a0_.length 9) none (some (.i a1_)) none)) (.slice 0 0 j2 a0_.length 9)) (qp0 qcj e_j2)) (ac (hs (.run [0] (qP Tryz.prog [29,3] (.slice 0 0 j2 a0_.length 9) (.i (w64 ((w64 ((a0_.length:Int)+1))-a1_)))) [bS a0_,.cells (cT a2_ a3_ a4_ a5_ a6_ a7_ a8_ a9_ a10_)] (.oslice 2 l11.length 9) (kAw a0_ a2_ a3_ a4_ a5_ a6_ a7_ a8_ a9_ a10_ l11) false) (qoM qcj it3 (E:=qd) rfl (z:=(⟨[],[],0,0,0,0,0,0,false⟩:qc)) (by kernel_rfl) rfl rfl e_l11 rfl)) az)) ?_)
    refine sq ?_
    obtain⟨l17,g_v18,h⟩:=bnd h
    refine Goes.cutS (s':=(ofG 95 (kZ a0_ a1_ ((7,.i 1)::(kAY l17))),(kAw a0_ a2_ a3_ a4_ a5_ a6_ a7_ a8_ a9_ a10_ l17))) ?_ ?_
    ·rcases wyD g_v18 with⟨c12,g_v18⟩|⟨c12,g_v18⟩
     ·obtain⟨l13,e_l13,g_v18⟩:=bnd g_v18
      obtain rfl:=si g_v18
      exact qj.sub (qj.rq fol [2,4] (kZ a0_ a1_ ((7,.i 1)::(kAY l11))) (kAw a0_ a2_ a3_ a4_ a5_ a6_ a7_ a8_ a9_ a10_ l13) (ac (hs (.done (.opt (qx Tryz.prog 29 (.oslice 2 l11.length 9) (some (.i a1_)) none none)) (.oslice 2 l11.length 9)) (qlV qcj (ot c12))) (ac (hs (.run [2,1] (qcv Tryz.prog [29,29] (.oslice 2 l11.length 9) (.slice 1 0 1 1 9)) (kAw a0_ a2_ a3_ a4_ a5_ a6_ a7_ a8_ a9_ a10_ l11) (.i ((Nat.min ([(⟨a2_,a3_,a4_,a5_,a6_,a7_,a8_,a9_,a10_⟩:qc)]:List qc).length l11.length:Nat):Int)) (kAw a0_ a2_ a3_ a4_ a5_ a6_ a7_ a8_ a9_ a10_ l13) true) (qku qcj (E:=qd) (l:=l11) rfl (qa8 (E:=qd) (ys:=([(⟨a2_,a3_,a4_,a5_,a6_,a7_,a8_,a9_,a10_⟩:qc)]:List qc)) rfl rfl rfl rfl) (.inr rfl) rfl rfl e_l13 rfl)) az))) ((show Sub (ofG 95 (kZ a0_ a1_ ((7,.i 1)::(kAY l11))),(kAw a0_ a2_ a3_ a4_ a5_ a6_ a7_ a8_ a9_ a10_ l13)) (ofG 95 (kZ a0_ a1_ ((7,.i 1)::(kAY l13))),(kAw a0_ a2_ a3_ a4_ a5_ a6_ a7_ a8_ a9_ a10_ l13))from(Sub.norm [] [some 0,some 1,some 2] (by rw[hB];rfl) rfl (.keep (.slice rfl) (.keep (.same nI) (.keep (.same nI) (.keep (.osliceE rfl (qgA e_l13)) .nil)))) (.ks (.kb rfl (.same sn) (.ks .nil))))).trans (Sub.refl _))
     ·obtain⟨j14,e_j14,g_v18⟩:=bnd g_v18
      obtain⟨u15,e_u15,g_v18⟩:=bnd g_v18
      obtain⟨l16,e_l16,g_v18⟩:=bnd g_v18
      obtain rfl:=si g_v18
      exact qj.sub (qj.rq fol [2,4] (kZ a0_ a1_ ((7,.i 1)::(kAY l11))) (kAw a0_ a2_ a3_ a4_ a5_ a6_ a7_ a8_ a9_ a10_ l16) (ac (hs (.done (.opt (qx Tryz.prog 29 (.oslice 2 l11.length 9) (some (.i a1_)) none none)) (.wslice 2 (j14*9) (l11.length-j14) 9)) (qjF qcj (of_decide_eq_false c12) e_j14 (qlP e_u15))) (ac (hs (.run [2,1] (qcv Tryz.prog [29,29] (.wslice 2 (j14*9) (l11.length-j14) 9) (.slice 1 0 1 1 9)) (kAw a0_ a2_ a3_ a4_ a5_ a6_ a7_ a8_ a9_ a10_ l11) (.i ((Nat.min ([(⟨a2_,a3_,a4_,a5_,a6_,a7_,a8_,a9_,a10_⟩:qc)]:List qc).length (l11.length-j14):Nat):Int)) (kAw a0_ a2_ a3_ a4_ a5_ a6_ a7_ a8_ a9_ a10_ l16) true) (qlx qcj (E:=qd) rfl (l:=l11) (qa8 (E:=qd) (ys:=([(⟨a2_,a3_,a4_,a5_,a6_,a7_,a8_,a9_,a10_⟩:qc)]:List qc)) rfl rfl rfl rfl) (qir e_j14) rfl rfl e_l16 rfl)) az))) ((show Sub (ofG 95 (kZ a0_ a1_ ((7,.i 1)::(kAY l11))),(kAw a0_ a2_ a3_ a4_ a5_ a6_ a7_ a8_ a9_ a10_ l16)) (ofG 95 (kZ a0_ a1_ ((7,.i 1)::(kAY l16))),(kAw a0_ a2_ a3_ a4_ a5_ a6_ a7_ a8_ a9_ a10_ l16))from(Sub.norm [] [some 0,some 1,some 2] (by rw[hB];rfl) rfl (.keep (.slice rfl) (.keep (.same nI) (.keep (.same nI) (.keep (.osliceE rfl (qil (qir e_j14) e_l16)) .nil)))) (.ks (.kb rfl (.same sn) (.ks .nil))))).trans (Sub.refl _))
    intro _ hsub
    refine Goes.sub hsub ?_
    refine sq ?_
    obtain⟨l24,g_v25,h⟩:=bnd h
    refine Goes.cutS (s':=(ofG 95 (kAY l24),(kAw a0_ a2_ a3_ a4_ a5_ a6_ a7_ a8_ a9_ a10_ l24))) ?_ ?_
    ·rcases wyD g_v25 with⟨c19,g_v25⟩|⟨c19,g_v25⟩
     ·obtain⟨l20,e_l20,g_v25⟩:=bnd g_v25
      obtain rfl:=si g_v25
      exact qj.sub (qj.rq fol [4,7,8] (kAY l17) (kAw a0_ a2_ a3_ a4_ a5_ a6_ a7_ a8_ a9_ a10_ l20) (ac (hs (.done (.opt (qx Tryz.prog 29 (.oslice 2 l17.length 9) (some (.i (w64 (a1_+1)))) none none)) (.oslice 2 l17.length 9)) (qlV qcj (ot c19))) (ac (hs (.done (.opt (qx Tryz.prog 29 (.slice 0 0 a0_.length a0_.length 9) (some (.i a1_)) none none)) (qft 0 9 a0_.length j2)) (qg1 qcj e_j2)) (ac (hs (.run [2,0] (qcv Tryz.prog [29,29] (.oslice 2 l17.length 9) (qft 0 9 a0_.length j2)) (kAw a0_ a2_ a3_ a4_ a5_ a6_ a7_ a8_ a9_ a10_ l17) (.i ((Nat.min (a0_.drop j2).length l17.length:Nat):Int)) (kAw a0_ a2_ a3_ a4_ a5_ a6_ a7_ a8_ a9_ a10_ l20) true) (qku qcj (E:=qd) (l:=l17) rfl (qis (E:=qd) rfl rfl rfl (qir e_j2)) (.inr rfl) rfl rfl e_l20 rfl)) az)))) ((show Sub (ofG 95 (kAY l17),(kAw a0_ a2_ a3_ a4_ a5_ a6_ a7_ a8_ a9_ a10_ l20)) (ofG 95 (kAY l20),(kAw a0_ a2_ a3_ a4_ a5_ a6_ a7_ a8_ a9_ a10_ l20))from(Sub.norm [] [some 0,some 1,some 2] (by rw[hB];rfl) rfl (.keep (.osliceE rfl (qgA e_l20)) .nil) (.ks (.kb rfl (.same sn) (.ks .nil))))).trans (Sub.refl _))
     ·obtain⟨j21,e_j21,g_v25⟩:=bnd g_v25
      obtain⟨u22,e_u22,g_v25⟩:=bnd g_v25
      obtain⟨l23,e_l23,g_v25⟩:=bnd g_v25
      obtain rfl:=si g_v25
      exact qj.sub (qj.rq fol [4,7,8] (kAY l17) (kAw a0_ a2_ a3_ a4_ a5_ a6_ a7_ a8_ a9_ a10_ l23) (ac (hs (.done (.opt (qx Tryz.prog 29 (.oslice 2 l17.length 9) (some (.i (w64 (a1_+1)))) none none)) (.wslice 2 (j21*9) (l17.length-j21) 9)) (qjF qcj (of_decide_eq_false c19) e_j21 (qlP e_u22))) (ac (hs (.done (.opt (qx Tryz.prog 29 (.slice 0 0 a0_.length a0_.length 9) (some (.i a1_)) none none)) (qft 0 9 a0_.length j2)) (qg1 qcj e_j2)) (ac (hs (.run [2,0] (qcv Tryz.prog [29,29] (.wslice 2 (j21*9) (l17.length-j21) 9) (qft 0 9 a0_.length j2)) (kAw a0_ a2_ a3_ a4_ a5_ a6_ a7_ a8_ a9_ a10_ l17) (.i ((Nat.min (a0_.drop j2).length (l17.length-j21):Nat):Int)) (kAw a0_ a2_ a3_ a4_ a5_ a6_ a7_ a8_ a9_ a10_ l23) true) (qlx qcj (E:=qd) rfl (l:=l17) (qis (E:=qd) rfl rfl rfl (qir e_j2)) (qir e_j21) rfl rfl e_l23 rfl)) az)))) ((show Sub (ofG 95 (kAY l17),(kAw a0_ a2_ a3_ a4_ a5_ a6_ a7_ a8_ a9_ a10_ l23)) (ofG 95 (kAY l23),(kAw a0_ a2_ a3_ a4_ a5_ a6_ a7_ a8_ a9_ a10_ l23))from(Sub.norm [] [some 0,some 1,some 2] (by rw[hB];rfl) rfl (.keep (.osliceE rfl (qil (qir e_j21) e_l23)) .nil) (.ks (.kb rfl (.same sn) (.ks .nil))))).trans (Sub.refl _))
    intro _ hsub
    refine Goes.sub hsub ?_
    refine sh fol [(6,.oslice 2 l24.length 9)] ?_
    refine Goes.ret ?_
    obtain rfl:=si h
    exact(gh2 [.oslice 2 l24.length 9] (Sub.norm [2] [some 0,some 1] (by rw[hB];rfl) rfl (.keep (.frz (Fz.os (E:=qd) rfl rfl (nl rfl)) (qm qd _)) .nil) (.lost (.kb rfl (.same sn) .nil))))
   ·cases h
def qal (N:Nat) (a0_:Int) (a1_:List qc) (a2_:Int) (a3_:Str) (a4_:List Str) (a5_:List Int) (a6_:Str):Option ((List qc)×Int):=
 (idx a5_ 0).bind fun x3=>
 (idx a5_ 1).bind fun x4=>
 (idx a5_ 2).bind fun x5=>
 (idx a4_ 0).bind fun x6=>
 (jh N (⟨a0_,a1_⟩:jO) x6).bind fun r7=>
 (qI r7.2 9).bind fun r8=>
 (jQ x4 1 9999).bind fun r9=>
 (jQ x5 1 9999).bind fun r10=>
 (yc (w64 (x3+x4))).bind fun r11=>
 (qI (decide ((a1_.length:Int)≥256)) 5).bind fun r12=>
 (zo N ([r8,r9,r10,r11,r12]:List Int)).bind fun r13=>
 if(!decide (r13=0))=true then
 some (a1_,r13)
 else
 (idx a4_ 1).bind fun x15=>
 (jU a1_ r7.1 x6 x15 x3 (w64 (x3+x4)) x5 0 0 0 false).bind fun l17=>
 some (l17,0)
theorem qff (N:Nat) (a0_:Int) (a1_:List qc) (a2_:Int) (a3_:Str) (a4_:List Str) (a5_:List Int) (a6_:Str) {l1:List qc} {n2:Int} (h:qal N a0_ a1_ a2_ a3_ a4_ a5_ a6_=some (l1,n2)):qg Tryz.prog (.fn 141) (kR a0_ a1_ [.agg (cF a2_ a3_ a4_ a5_ a6_)]) [bS a1_] (.tuple (kAh a0_ l1 [.i n2])) [.dead]:=by
 unfold qal at h
 refine Goes.fnH Tryz.func141 rfl rfl (m:=77) rfl (rs:=[.cell 4 31,.tmp 5]) rfl (l:=(kA2 a0_ a1_ [(1,.agg (cF a2_ a3_ a4_ a5_ a6_))])) rfl ?_
 intro B hB
 refine sg fol (kE []) (bS a1_::(kD a0_ a1_ (kAO a2_ a3_ a4_ a5_ a6_))) ?_
 obtain⟨x3,e_x3,h⟩:=bnd h
 obtain⟨x4,e_x4,h⟩:=bnd h
 obtain⟨x5,e_x5,h⟩:=bnd h
 refine sq (gr fol [2,3,6,7,10,11] (kE (kA6 x3 x4 [(8,.i x5)])) (ac (iv y7 encI e_x3) (ac (lv 0 ce3 encI e_x3 rfl) (ac (iv y7 encI e_x4) (ac (lv 0 ce3 encI e_x4 rfl) (ac (iv y7 encI e_x5) (ac (lv 0 ce3 encI e_x5 rfl) az)))))) ?_)
 obtain⟨x6,e_x6,h⟩:=bnd h
 obtain⟨r7,e_r7,h⟩:=bnd h
 refine sq (gr fol [3,4,5] (kE (kA6 x3 x4 ((8,.i x5)::(9,.i r7.1)::(kBl r7.2)))) (ac (iv jE encS e_x6) (ac (lv 0 ce9 encS e_x6 rfl) (ac (hs (.call 93 (kR a0_ a1_ [.str x6]) (bS a1_::(kD a0_ a1_ (kAO a2_ a3_ a4_ a5_ a6_))) [0] (kAh a0_ a1_ [.str x6]) (.tuple [.i r7.1,.bool r7.2])) (qak (FzL.cons (Fz.agg (FzL.cons (Fz.still tI) (FzL.cons (Fz.sl (E:=qd) rfl rfl (nl rfl)) FzL.nil))) (FzL.cons (Fz.still tS) FzL.nil)) (y9 N (⟨a0_,a1_⟩:jO) x6 e_r7) (Still.tuple (AllST.cons tI (AllST.cons tB AllST.nil))) rfl)) az))) ?_)
 refine sq ?_
 obtain⟨r8,e_r8,h⟩:=bnd h
 obtain⟨r9,e_r9,h⟩:=bnd h
 obtain⟨r10,e_r10,h⟩:=bnd h
 obtain⟨r11,e_r11,h⟩:=bnd h
 obtain⟨r12,e_r12,h⟩:=bnd h
 obtain⟨r13,e_r13,h⟩:=bnd h
 refine sq (gq fol [1,3,5,9,14,16] (kE (kA6 x3 x4 [(8,.i x5),(9,.i r7.1),(11,.i r13)])) (bS a1_::(kD a0_ a1_ (kBb a2_ a3_ a4_ a5_ a6_ [bZ,.cells [.i r8,.i r9,.i r10,.i r11,.i r12]]))) (ac (cv (qA r7.2 9 e_r8)) (ac (cv (vB x4 1 9999 e_r9)) (ac (cv (vB x5 1 9999 e_r10)) (ac (cv (qaH (w64 (x3+x4)) e_r11)) (ac (cv (qA (decide ((a1_.length:Int)≥256)) 5 e_r12)) (ac (hs (.call 86 [.slice 4 0 5 5 1] (bS a1_::(kD a0_ a1_ (kBb a2_ a3_ a4_ a5_ a6_ [bZ,.cells [.i r8,.i r9,.i r10,.i r11,.i r12]]))) [4] [vl encI ([r8,r9,r10,r11,r12]:List Int)] (.i r13)) (qak (FzL.cons (Fz.lit rfl rfl (FzL.still (AllST.cons tI (AllST.cons tI (AllST.cons tI (AllST.cons tI (AllST.cons tI AllST.nil))))))) FzL.nil) (zD N ([r8,r9,r10,r11,r12]:List Int) e_r13) tI rfl)) az)))))) ?_)
 refine sh fol (kE (kA6 x3 x4 [(8,.i x5),(9,.i r7.1),(11,.i r13),(52,.bool (!decide (r13=0)))])) ?_
 refine ihB h (fun c14 h=>?_) (fun c14 h=>?_)
 ·refine sg fol ((4,.ptr 3 0)::(kAs r13)) (bS a1_::(kD a0_ a1_ (kBb a2_ a3_ a4_ a5_ a6_ (kD a0_ a1_ [.cells [.i r8,.i r9,.i r10,.i r11,.i r12]])))) ?_
  refine Goes.ret ?_
  simp only[Option.some.injEq,Prod.mk.injEq]at h
  obtain⟨rfl,rfl⟩:=h
  exact(gh2 (kR a0_ a1_ [.i r13]) (Sub.norm [0] [some 0] (by rw[hB];rfl) rfl (.keep (.tupleL (rc (.aggL (rc (.same nI) (rc (.frz (Fz.sl (E:=qd) rfl rfl (nl rfl)) (qm qd _)) rn))) (rc (.same nI) rn))) .nil) (.lost .nil)))
 ·refine Goes.skip ?_
  obtain⟨x15,e_x15,h⟩:=bnd h
  refine sq (gq fol [2,3,6,7] (kAL [(9,.i r7.1),(12,.ptr 5 0)]) (bS a1_::(kD a0_ a1_ (kBb a2_ a3_ a4_ a5_ a6_ (bZ:: .cells [.i r8,.i r9,.i r10,.i r11,.i r12]::(kAE x6 x15 x3 (w64 (x3+x4)) x5 []))))) (ac (iv jE encS e_x6) (ac (lv 0 ce9 encS e_x6 rfl) (ac (iv jE encS e_x15) (ac (lv 0 ce9 encS e_x15 rfl) az)))) ?_)
  obtain⟨l17,e_r16,h⟩:=bnd h
  refine sq (gq fol [5] (kAL []) (.dead::(kG a0_ l17 (kBb a2_ a3_ a4_ a5_ a6_ (bZ:: .cells [.i r8,.i r9,.i r10,.i r11,.i r12]::(kAE x6 x15 x3 (w64 (x3+x4)) x5 (kAE x6 x15 x3 (w64 (x3+x4)) x5 [])))))) (ac (hs (.callH 181 [.slice 0 0 a1_.length a1_.length 9,.i r7.1,.slice 6 0 1 1 9] (bS a1_::(kD a0_ a1_ (kBb a2_ a3_ a4_ a5_ a6_ (bZ:: .cells [.i r8,.i r9,.i r10,.i r11,.i r12]::(kAE x6 x15 x3 (w64 (x3+x4)) x5 (kAE x6 x15 x3 (w64 (x3+x4)) x5 [])))))) [0,6] (vl qd l17) (.dead::(kD a0_ a1_ (kBb a2_ a3_ a4_ a5_ a6_ (bZ:: .cells [.i r8,.i r9,.i r10,.i r11,.i r12]::(kAE x6 x15 x3 (w64 (x3+x4)) x5 (kAE x6 x15 x3 (w64 (x3+x4)) x5 []))))))) (kg [some 0,some 6] [none,none,none,none,none,none,some 1] (qcn a1_ r7.1 x6 x15 x3 (w64 (x3+x4)) x5 0 0 0 false e_r16) (.ks (.kb rfl (.cells (rc (.same nS) (rc (.same nS) (rc (.same nI) (rc (.same nI) (rc (.same nI) (rc (.same nI) (rc (.same nI) (rc (.same nI) (rc (.same nB) rn)))))))))) .nil)) rfl rfl (.dead (.old rfl rfl (.old rfl rfl (.old rfl rfl (.old rfl rfl (.old rfl rfl (.back rfl rfl (.cells (rc (.same nS) (rc (.same nS) (rc (.same nI) (rc (.same nI) (rc (.same nI) (rc (.same nI) (rc (.same nI) (rc (.same nI) (rc (.same nB) rn)))))))))) rfl .nil))))))) (rc (.slice rfl) (rc (.same nI) (rc (.slice rfl) rn))) (.same (qm qd _)) rfl)) az) ?_)
  refine sg fol [(4,.ptr 3 0),(5,.i 0)] (.dead::(kG a0_ l17 (kBb a2_ a3_ a4_ a5_ a6_ (kG a0_ l17 (.cells [.i r8,.i r9,.i r10,.i r11,.i r12]::(kAE x6 x15 x3 (w64 (x3+x4)) x5 (kAE x6 x15 x3 (w64 (x3+x4)) x5 []))))))) ?_
  refine Goes.ret ?_
  simp only[Option.some.injEq,Prod.mk.injEq]at h
  obtain⟨rfl,rfl⟩:=h
  exact(gh2 (kAh a0_ l17 [.i 0]) (Sub.norm [] [some 0] (by rw[hB];rfl) rfl (.keep (.tupleL (rc (.aggL (rc (.same nI) (rc (.same (qm qd _)) rn))) (rc (.same nI) rn))) .nil) (.lost .nil)))
def zx (N:Nat) (a0_:Int) (a1_:List qc) (a2_:Str) (a3_:Int):Option (Int×Bool×Int):=
 (jh N (⟨a0_,a1_⟩:jO) a2_).bind fun r4=>
 if(!r4.2)=true then
 some (0,false,10)
 else
 (idx a1_ r4.1).bind fun x6=>
 (jd x6 a3_).bind fun r7=>
 (qI r7 20).bind fun r8=>
 some (r4.1,true,r8)
theorem yw (N:Nat) (a0_:Int) (a1_:List qc) (a2_:Str) (a3_:Int) {i1:Int} {ok2:Bool} {n3:Int} (h:zx N a0_ a1_ a2_ a3_=some (i1,ok2,n3)):qg Tryz.prog (.fn 182) (kR a0_ a1_ [.str a2_,.i a3_]) [bS a1_] (.tuple [pz ok2 0 ((i1:Int).toNat*9+0),.i n3]) [bS a1_]:=by
 unfold zx at h
 refine Goes.fnH Tryz.func182 rfl rfl (m:=30) rfl (rs:=[.tmp 6,.tmp 7]) rfl (l:=(kA2 a0_ a1_ [(1,.str a2_),(2,.i a3_)])) rfl ?_
 intro B hB
 refine sg fol [(1,.str a2_),(2,.i a3_),(3,.ptr 1 0)] (bS a1_::(kD a0_ a1_ [])) ?_
 obtain⟨r4,e_r4,h⟩:=bnd h
 refine sq (gr fol [2] [(2,.i a3_),(3,.ptr 1 0),(8,.i r4.1),(9,.bool r4.2)] (ac (hs (.call 93 (kR a0_ a1_ [.str a2_]) (bS a1_::(kD a0_ a1_ [])) [0] (kAh a0_ a1_ [.str a2_]) (.tuple [.i r4.1,.bool r4.2])) (qak (FzL.cons (Fz.agg (FzL.cons (Fz.still tI) (FzL.cons (Fz.sl (E:=qd) rfl rfl (nl rfl)) FzL.nil))) (FzL.cons (Fz.still tS) FzL.nil)) (y9 N (⟨a0_,a1_⟩:jO) a2_ e_r4) (Still.tuple (AllST.cons tI (AllST.cons tB AllST.nil))) rfl)) az) ?_)
 refine sq ?_
 refine sh fol [(2,.i a3_),(3,.ptr 1 0),(8,.i r4.1),(18,.bool (!r4.2))] ?_
 refine ihB h (fun c5 h=>?_) (fun c5 h=>?_)
 ·refine sh fol [(6,.nilptr),(7,.i 10)] ?_
  refine Goes.ret ?_
  simp only[Option.some.injEq,Prod.mk.injEq]at h
  obtain⟨rfl,rfl,rfl⟩:=h
  exact(gh2 [.nilptr,.i 10] (Sub.norm [] [some 0] (by rw[hB];rfl) rfl (.keep (.tupleL (rc (qX.pz0) (rc (.same nI) rn))) .nil) (.ks .nil)))
 ·refine Goes.skip ?_
  obtain⟨x6,e_x6,h⟩:=bnd h
  refine sq (gr fol [3] [(2,.i a3_),(10,.ptr 0 ((r4.1:Int).toNat*9+0))] (ac (hs (.done (.opt (qz Tryz.prog 29 (.slice 0 0 a1_.length a1_.length 9) (.i r4.1))) (.ptr 0 ((r4.1:Int).toNat*9+0))) (qj5 qcj e_x6)) az) ?_)
  obtain⟨r7,e_r7,h⟩:=bnd h
  obtain⟨r8,e_r8,h⟩:=bnd h
  refine sq (gr fol [3,5,6] [(6,.ptr 0 ((r4.1:Int).toNat*9+0)),(7,.i r8)] (ac (hs (.run [0] (jJ Tryz.prog 68 (.ptr 0 ((r4.1:Int).toNat*9+0))) (bS a1_::(kD a0_ a1_ [])) (.agg (cS x6)) (bS a1_::(kD a0_ a1_ [])) false) (qjD qkU (E:=qd) (l:=a1_) rfl rfl e_x6)) (ac (cv (vR x6 a3_ e_r7)) (ac (cv (qA r7 20 e_r8)) az))) ?_)
  refine Goes.ret ?_
  simp only[Option.some.injEq,Prod.mk.injEq]at h
  obtain⟨rfl,rfl,rfl⟩:=h
  exact(gh2 [.ptr 0 ((r4.1:Int).toNat*9+0),.i r8] (Sub.norm [] [some 0] (by rw[hB];rfl) rfl (.keep (.tupleL (rc ((qX.pz1 rfl)) (rc (.same nI) rn))) .nil) (.ks .nil)))
def xg (N:Nat) (a0_:Int) (a1_:List qc) (a2_:Int) (a3_:Str) (a4_:List Str) (a5_:List Int) (a6_:Str):Option ((List qc)×Int):=
 (idx a5_ 0).bind fun x3=>
 (idx a5_ 1).bind fun x4=>
 (idx a4_ 0).bind fun x5=>
 (zx N a0_ a1_ x5 x3).bind fun(i7,ok8,n9)=>
 (jQ x4 2 999999999).bind fun r10=>
 (zo N ([n9,r10]:List Int)).bind fun r11=>
 if(!decide (r11=0))=true then
 some (a1_,r11)
 else
 ((match ok8 with
 |false=>
 none
 |true=>
 (idx a1_ i7).bind fun x13=>
 (put a1_ i7 (⟨x13.Name,x13.Batch,x13.Born,x13.Last,x13.Uses,x13.Used,w64 (x4.tdiv 2),x13.Until,x13.Gone⟩:qc)).bind fun l14=>
 (idx l14 i7).bind fun x15=>
 (put l14 i7 (⟨x15.Name,x15.Batch,x15.Born,x15.Last,x15.Uses,x15.Used,x15.Limit,(if x13.Last<(w64 (x3+365))then x13.Last else(w64 (x3+365))),x15.Gone⟩:qc)).bind fun l16=>
 some l16):Option (List qc)).bind fun l17=>
 some (l17,0)
theorem qeA (N:Nat) (a0_:Int) (a1_:List qc) (a2_:Int) (a3_:Str) (a4_:List Str) (a5_:List Int) (a6_:Str) {l1:List qc} {n2:Int} (h:xg N a0_ a1_ a2_ a3_ a4_ a5_ a6_=some (l1,n2)):qg Tryz.prog (.fn 142) (kR a0_ a1_ [.agg (cF a2_ a3_ a4_ a5_ a6_)]) [bS a1_] (.tuple (kR a0_ l1 [.i n2])) [bS l1]:=by
 unfold xg at h
 refine Goes.fnH Tryz.func142 rfl rfl (m:=53) rfl (rs:=[.cell 4 31,.tmp 5]) rfl (l:=(kA2 a0_ a1_ [(1,.agg (cF a2_ a3_ a4_ a5_ a6_))])) rfl ?_
 intro B hB
 refine sg fol (kE []) (bS a1_::(kD a0_ a1_ (kAO a2_ a3_ a4_ a5_ a6_))) ?_
 obtain⟨x3,e_x3,h⟩:=bnd h
 obtain⟨x4,e_x4,h⟩:=bnd h
 refine sq (gr fol [2,3,6,7] (kE (kA6 x3 x4 [])) (ac (iv y7 encI e_x3) (ac (lv 0 ce3 encI e_x3 rfl) (ac (iv y7 encI e_x4) (ac (lv 0 ce3 encI e_x4 rfl) az)))) ?_)
 obtain⟨x5,e_x5,h⟩:=bnd h
 obtain⟨⟨i7,ok8,n9⟩,e_r6,h⟩:=bnd h
 try dsimp only at h
 refine sq (gr fol [3,4,6] (kAL (kA6 x3 x4 [(8,pz ok8 0 ((i7:Int).toNat*9+0)),(9,.i n9)])) (ac (iv jE encS e_x5) (ac (lv 0 ce9 encS e_x5 rfl) (ac (hs (.callH 182 (kR a0_ a1_ [.str x5,.i x3]) (bS a1_::(kD a0_ a1_ (kAO a2_ a3_ a4_ a5_ a6_))) [0] (.tuple [pz ok8 0 ((i7:Int).toNat*9+0),.i n9]) (bS a1_::(kD a0_ a1_ (kAO a2_ a3_ a4_ a5_ a6_)))) (kg [some 0] [some 0,none,none,none] (yw N a0_ a1_ x5 x3 e_r6) (.ks .nil) rfl rfl (.back rfl rfl (.same fa) rfl (.old rfl rfl (.old rfl rfl (.old rfl rfl .nil)))) (rc (.aggL (rc (.same nI) (rc (.slice rfl) rn))) (rc (.same nS) (rc (.same nI) rn))) (.tupleL (rc ((qX.pz rfl)) (rc (.same nI) rn))) rfl)) az))) ?_)
 refine sq ?_
 obtain⟨r10,e_r10,h⟩:=bnd h
 obtain⟨r11,e_r11,h⟩:=bnd h
 refine sq (gq fol [2,4] (kAL (kA6 x3 x4 [(8,pz ok8 0 ((i7:Int).toNat*9+0)),(9,.i r11)])) (bS a1_::(kD a0_ a1_ (kQ a2_ a3_ a4_ a5_ a6_ n9 r10 []))) (ac (cv (vB x4 2 999999999 e_r10)) (ac (hs (.call 86 [.slice 4 0 2 2 1] (bS a1_::(kD a0_ a1_ (kQ a2_ a3_ a4_ a5_ a6_ n9 r10 []))) [4] [vl encI ([n9,r10]:List Int)] (.i r11)) (qak (FzL.cons (Fz.lit rfl rfl (FzL.still (AllST.cons tI (AllST.cons tI AllST.nil)))) FzL.nil) (zD N ([n9,r10]:List Int) e_r11) tI rfl)) az)) ?_)
 refine sh fol (kAL (kA6 x3 x4 [(8,pz ok8 0 ((i7:Int).toNat*9+0)),(9,.i r11),(34,.bool (!decide (r11=0)))])) ?_
 refine ihB h (fun c12 h=>?_) (fun c12 h=>?_)
 ·refine sg fol ((4,.ptr 3 0)::(kAs r11)) (bS a1_::(kD a0_ a1_ (kBb a2_ a3_ a4_ a5_ a6_ (kD a0_ a1_ (kAz n9 r10 []))))) ?_
  refine Goes.ret ?_
  simp only[Option.some.injEq,Prod.mk.injEq]at h
  obtain⟨rfl,rfl⟩:=h
  exact(gh2 (kR a0_ a1_ [.i r11]) (Sub.norm [] [some 0] (by rw[hB];rfl) rfl (.keep (.tupleL (rc (.aggL (rc (.same nI) (rc (.slice rfl) rn))) (rc (.same nI) rn))) .nil) (.ks .nil)))
 ·refine Goes.skip ?_
  refine sq ?_
  obtain⟨l17,g_v18,h⟩:=bnd h
  refine Goes.cutS (s':=(ofG 53 ((2,.ptr 1 0)::(kAi [])),(bS l17::(kD a0_ l17 [bZ])))) ?_ ?_
  ·rcases ok8 with _|_
   ·try dsimp only at g_v18
    cases g_v18
   ·try dsimp only at g_v18
    obtain⟨x13,e_x13,g_v18⟩:=bnd g_v18
    obtain⟨l14,e_l14,g_v18⟩:=bnd g_v18
    obtain⟨x15,e_x15,g_v18⟩:=bnd g_v18
    obtain⟨l16,e_l16,g_v18⟩:=bnd g_v18
    obtain rfl:=si g_v18
    exact qj.sub (qj.rq fol [9,13,16] (kAL []) (bS l16::(kD a0_ a1_ (kQ a2_ a3_ a4_ a5_ a6_ n9 r10 []))) (ac (hs (.run [0] (jJ Tryz.prog 3 (.ptr 0 ((i7:Int).toNat*9+3))) (bS a1_::(kD a0_ a1_ (kQ a2_ a3_ a4_ a5_ a6_ n9 r10 []))) (.i x13.Last) (bS a1_::(kD a0_ a1_ (kQ a2_ a3_ a4_ a5_ a6_ n9 r10 []))) false) (qgo ce3 (E:=qd) (l:=a1_) rfl rfl e_x13 (nl rfl) rfl)) (ac (hs (.run [0] (qan Tryz.prog 3 (.ptr 0 ((i7:Int).toNat*9+6)) (.i (w64 (x4.tdiv 2)))) (bS a1_::(kD a0_ a1_ (kQ a2_ a3_ a4_ a5_ a6_ n9 r10 []))) .undef (bS l14::(kD a0_ a1_ (kQ a2_ a3_ a4_ a5_ a6_ n9 r10 []))) true) (qdF (E:=qd) (l:=a1_) (y:=(⟨x13.Name,x13.Batch,x13.Born,x13.Last,x13.Uses,x13.Used,w64 (x4.tdiv 2),x13.Until,x13.Gone⟩:qc)) rfl (show _=some 1 by kernel_rfl) rfl e_x13 rfl rfl rfl rfl rfl e_l14 rfl)) (ac (hs (.run [0] (qan Tryz.prog 3 (.ptr 0 ((i7:Int).toNat*9+7)) (.i (if x13.Last<(w64 (x3+365))then x13.Last else(w64 (x3+365))))) (bS l14::(kD a0_ a1_ (kQ a2_ a3_ a4_ a5_ a6_ n9 r10 []))) .undef (bS l16::(kD a0_ a1_ (kQ a2_ a3_ a4_ a5_ a6_ n9 r10 []))) true) (qdF (E:=qd) (l:=l14) (y:=(⟨x15.Name,x15.Batch,x15.Born,x15.Last,x15.Uses,x15.Used,x15.Limit,(if x13.Last<(w64 (x3+365))then x13.Last else(w64 (x3+365))),x15.Gone⟩:qc)) rfl (show _=some 1 by kernel_rfl) rfl e_x15 rfl rfl rfl rfl rfl e_l16 rfl)) az)))) ((show Sub (ofG 53 (kAL []),(bS l16::(kD a0_ a1_ (kQ a2_ a3_ a4_ a5_ a6_ n9 r10 [])))) (ofG 53 ((2,.ptr 1 0)::(kAi [])),(bS l16::(kD a0_ l16 [bZ])))from(Sub.norm [] [some 0,some 1,some 3] (by rw[hB];rfl) rfl (.kp (.kp .nil)) (.ks (.kb rfl (.cells (rc (.same nI) (rc (.sliceE rfl ((qaC e_l14).trans (qaC e_l16))) rn))) (.kb rfl (.same sn) .nil))))).trans (Sub.refl _))
  intro _ hsub
  refine Goes.sub hsub ?_
  refine sg fol (kAi [(5,.i 0)]) (bS l17::(kD a0_ l17 (kD a0_ l17 []))) ?_
  refine Goes.ret ?_
  simp only[Option.some.injEq,Prod.mk.injEq]at h
  obtain⟨rfl,rfl⟩:=h
  exact(gh2 (kR a0_ l17 [.i 0]) (Sub.norm [] [some 0] (by rw[hB];rfl) rfl (.keep (.tupleL (rc (.aggL (rc (.same nI) (rc (.slice rfl) rn))) (rc (.same nI) rn))) .nil) (.ks .nil)))
def qaj (N:Nat) (a0_:Int) (a1_:List qc) (a2_:Int) (a3_:Str) (a4_:List Str) (a5_:List Int) (a6_:Str):Option ((List qc)×Int):=
 (idx a5_ 0).bind fun x3=>
 (idx a5_ 1).bind fun x4=>
 (idx a4_ 0).bind fun x5=>
 (zx N a0_ a1_ x5 x3).bind fun(i7,ok8,n9)=>
 if(!decide (n9=0))=true then
 some (a1_,n9)
 else
 ((match ok8 with
 |false=>
 none
 |true=>
 (idx a1_ i7).bind fun x11=>
 (vw x11 x3).bind fun r12=>
 (qI (!r12) 24).bind fun r13=>
 (qI (decide (x4>x11.Limit)) 31).bind fun r14=>
 (zo N ([r13,r14]:List Int)).bind fun r15=>
 some (r13,r14,r15)):Option (Int×Int×Int)).bind fun(n16,n17,n18)=>
 if(!decide (n18=0))=true then
 some (a1_,n18)
 else
 (idx a1_ i7).bind fun x21=>
 (put a1_ i7 (⟨x21.Name,x21.Batch,x21.Born,x21.Last,x21.Uses,w64 (x21.Used+1),x21.Limit,x21.Until,x21.Gone⟩:qc)).bind fun l22=>
 some (l22,0)
theorem qfE (N:Nat) (a0_:Int) (a1_:List qc) (a2_:Int) (a3_:Str) (a4_:List Str) (a5_:List Int) (a6_:Str) {l1:List qc} {n2:Int} (h:qaj N a0_ a1_ a2_ a3_ a4_ a5_ a6_=some (l1,n2)):qg Tryz.prog (.fn 143) (kR a0_ a1_ [.agg (cF a2_ a3_ a4_ a5_ a6_)]) [bS a1_] (.tuple (kR a0_ l1 [.i n2])) [bS l1]:=by
 unfold qaj at h
 refine Goes.fnH Tryz.func143 rfl rfl (m:=60) rfl (rs:=[.cell 4 31,.tmp 5]) rfl (l:=(kA2 a0_ a1_ [(1,.agg (cF a2_ a3_ a4_ a5_ a6_))])) rfl ?_
 intro B hB
 refine sg fol (kE []) (bS a1_::(kD a0_ a1_ (kAO a2_ a3_ a4_ a5_ a6_))) ?_
 obtain⟨x3,e_x3,h⟩:=bnd h
 obtain⟨x4,e_x4,h⟩:=bnd h
 refine sq (gr fol [2,3,6,7] (kE (kA6 x3 x4 [])) (ac (iv y7 encI e_x3) (ac (lv 0 ce3 encI e_x3 rfl) (ac (iv y7 encI e_x4) (ac (lv 0 ce3 encI e_x4 rfl) az)))) ?_)
 obtain⟨x5,e_x5,h⟩:=bnd h
 obtain⟨⟨i7,ok8,n9⟩,e_r6,h⟩:=bnd h
 try dsimp only at h
 refine sq (gr fol [3,4,6] (kAL (kA6 x3 x4 [(8,pz ok8 0 ((i7:Int).toNat*9+0)),(9,.i n9)])) (ac (iv jE encS e_x5) (ac (lv 0 ce9 encS e_x5 rfl) (ac (hs (.callH 182 (kR a0_ a1_ [.str x5,.i x3]) (bS a1_::(kD a0_ a1_ (kAO a2_ a3_ a4_ a5_ a6_))) [0] (.tuple [pz ok8 0 ((i7:Int).toNat*9+0),.i n9]) (bS a1_::(kD a0_ a1_ (kAO a2_ a3_ a4_ a5_ a6_)))) (kg [some 0] [some 0,none,none,none] (yw N a0_ a1_ x5 x3 e_r6) (.ks .nil) rfl rfl (.back rfl rfl (.same fa) rfl (.old rfl rfl (.old rfl rfl (.old rfl rfl .nil)))) (rc (.aggL (rc (.same nI) (rc (.slice rfl) rn))) (rc (.same nS) (rc (.same nI) rn))) (.tupleL (rc ((qX.pz rfl)) (rc (.same nI) rn))) rfl)) az))) ?_)
 refine sq ?_
 refine sh fol (kAL (kA6 x3 x4 [(8,pz ok8 0 ((i7:Int).toNat*9+0)),(9,.i n9),(29,.bool (!decide (n9=0)))])) ?_
 refine ihB h (fun c10 h=>?_) (fun c10 h=>?_)
 ·refine sg fol ((4,.ptr 3 0)::(kAs n9)) (bS a1_::(kD a0_ a1_ (kBb a2_ a3_ a4_ a5_ a6_ (kD a0_ a1_ [])))) ?_
  refine Goes.ret ?_
  simp only[Option.some.injEq,Prod.mk.injEq]at h
  obtain⟨rfl,rfl⟩:=h
  exact(gh2 (kR a0_ a1_ [.i n9]) (Sub.norm [] [some 0] (by rw[hB];rfl) rfl (.keep (.tupleL (rc (.aggL (rc (.same nI) (rc (.slice rfl) rn))) (rc (.same nI) rn))) .nil) (.ks .nil)))
 ·refine Goes.skip ?_
  refine sq ?_
  refine sq ?_
  obtain⟨⟨n16,n17,n18⟩,g_v19,h⟩:=bnd h
  refine Goes.cut (s':=(ofG 60 (kAL (kAZ i7 [(9,.i n18)])),(bS a1_::(kD a0_ a1_ (kQ a2_ a3_ a4_ a5_ a6_ n16 n17 []))))) ?_ ?_
  ·rcases ok8 with _|_
   ·try dsimp only at g_v19
    cases g_v19
   ·try dsimp only at g_v19
    obtain⟨x11,e_x11,g_v19⟩:=bnd g_v19
    obtain⟨r12,e_r12,g_v19⟩:=bnd g_v19
    obtain⟨r13,e_r13,g_v19⟩:=bnd g_v19
    obtain⟨r14,e_r14,g_v19⟩:=bnd g_v19
    obtain⟨r15,e_r15,g_v19⟩:=bnd g_v19
    simp only[Option.some.injEq,Prod.mk.injEq]at g_v19
    obtain⟨rfl,rfl,rfl⟩:=g_v19
    exact qj.rq fol [2,4,6,11,13,15] (kAL (kAZ i7 [(9,.i r15)])) (bS a1_::(kD a0_ a1_ (kQ a2_ a3_ a4_ a5_ a6_ r13 r14 []))) (ac (hs (.run [0] (jJ Tryz.prog 68 (.ptr 0 ((i7:Int).toNat*9+0))) (bS a1_::(kD a0_ a1_ (kAO a2_ a3_ a4_ a5_ a6_))) (.agg (cS x11)) (bS a1_::(kD a0_ a1_ (kAO a2_ a3_ a4_ a5_ a6_))) false) (qjD qkU (E:=qd) (l:=a1_) rfl rfl e_x11)) (ac (cv (qba x11 x3 e_r12)) (ac (cv (qA (!r12) 24 e_r13)) (ac (hs (.run [0] (jJ Tryz.prog 3 (.ptr 0 ((i7:Int).toNat*9+6))) (bS a1_::(kD a0_ a1_ (kAO a2_ a3_ a4_ a5_ a6_))) (.i x11.Limit) (bS a1_::(kD a0_ a1_ (kAO a2_ a3_ a4_ a5_ a6_))) false) (qgo ce3 (E:=qd) (l:=a1_) rfl rfl e_x11 (nl rfl) rfl)) (ac (cv (qA (decide (x4>x11.Limit)) 31 e_r14)) (ac (hs (.call 86 [.slice 4 0 2 2 1] (bS a1_::(kD a0_ a1_ (kQ a2_ a3_ a4_ a5_ a6_ r13 r14 []))) [4] [vl encI ([r13,r14]:List Int)] (.i r15)) (qak (FzL.cons (Fz.lit rfl rfl (FzL.still (AllST.cons tI (AllST.cons tI AllST.nil)))) FzL.nil) (zD N ([r13,r14]:List Int) e_r15) tI rfl)) az))))))
  try dsimp only at h
  refine sh fol (kAL (kAZ i7 [(9,.i n18),(49,.bool (!decide (n18=0)))])) ?_
  refine ihB h (fun c20 h=>?_) (fun c20 h=>?_)
  ·refine sg fol ((4,.ptr 3 0)::(kAs n18)) (bS a1_::(kD a0_ a1_ (kBb a2_ a3_ a4_ a5_ a6_ (kD a0_ a1_ (kAz n16 n17 []))))) ?_
   refine Goes.ret ?_
   simp only[Option.some.injEq,Prod.mk.injEq]at h
   obtain⟨rfl,rfl⟩:=h
   exact(gh2 (kR a0_ a1_ [.i n18]) (Sub.norm [] [some 0] (by rw[hB];rfl) rfl (.keep (.tupleL (rc (.aggL (rc (.same nI) (rc (.slice rfl) rn))) (rc (.same nI) rn))) .nil) (.ks .nil)))
  ·refine Goes.skip ?_
   obtain⟨x21,e_x21,h⟩:=bnd h
   obtain⟨l22,e_l22,h⟩:=bnd h
   refine sq (gq fol [3,7] (kAL []) (bS l22::(kD a0_ a1_ (kQ a2_ a3_ a4_ a5_ a6_ n16 n17 []))) (ac (hs (.run [0] (jJ Tryz.prog 3 (.ptr 0 ((i7:Int).toNat*9+5))) (bS a1_::(kD a0_ a1_ (kQ a2_ a3_ a4_ a5_ a6_ n16 n17 []))) (.i x21.Used) (bS a1_::(kD a0_ a1_ (kQ a2_ a3_ a4_ a5_ a6_ n16 n17 []))) false) (qgo ce3 (E:=qd) (l:=a1_) rfl rfl e_x21 (nl rfl) rfl)) (ac (hs (.run [0] (qan Tryz.prog 3 (.ptr 0 ((i7:Int).toNat*9+5)) (.i (w64 (x21.Used+1)))) (bS a1_::(kD a0_ a1_ (kQ a2_ a3_ a4_ a5_ a6_ n16 n17 []))) .undef (bS l22::(kD a0_ a1_ (kQ a2_ a3_ a4_ a5_ a6_ n16 n17 []))) true) (qdF (E:=qd) (l:=a1_) (y:=(⟨x21.Name,x21.Batch,x21.Born,x21.Last,x21.Uses,w64 (x21.Used+1),x21.Limit,x21.Until,x21.Gone⟩:qc)) rfl (show _=some 1 by kernel_rfl) rfl e_x21 rfl rfl rfl rfl rfl e_l22 rfl)) az)) ?_)
   refine Goes.sub (show Sub (ofG 60 (kAL []),(bS l22::(kD a0_ a1_ (kQ a2_ a3_ a4_ a5_ a6_ n16 n17 [])))) (ofG 60 ((2,.ptr 1 0)::(kAi [])),(bS l22::(kD a0_ l22 [bZ])))from(Sub.norm [] [some 0,some 1,some 3] (by rw[hB];rfl) rfl (.kp (.kp .nil)) (.ks (.kb rfl (.cells (rc (.same nI) (rc (.sliceE rfl (qaC e_l22)) rn))) (.kb rfl (.same sn) .nil))))) ?_
   refine sg fol (kAi [(5,.i 0)]) (bS l22::(kD a0_ l22 (kD a0_ l22 []))) ?_
   refine Goes.ret ?_
   simp only[Option.some.injEq,Prod.mk.injEq]at h
   obtain⟨rfl,rfl⟩:=h
   exact(gh2 (kR a0_ l22 [.i 0]) (Sub.norm [] [some 0] (by rw[hB];rfl) rfl (.keep (.tupleL (rc (.aggL (rc (.same nI) (rc (.slice rfl) rn))) (rc (.same nI) rn))) .nil) (.ks .nil)))
def yV (N:Nat) (a0_:Int) (a1_:List qc) (a2_:Int) (a3_:Str) (a4_:List Str) (a5_:List Int) (a6_:Str):Option ((List qc)×Int):=
 (idx a4_ 0).bind fun x3=>
 (idx a5_ 0).bind fun x4=>
 (zx N a0_ a1_ x3 x4).bind fun(i6,ok7,n8)=>
 if(!decide (n8=0))=true then
 some (a1_,n8)
 else
 ((match ok7 with
 |false=>
 none
 |true=>
 (idx a1_ i6).bind fun x10=>
 (put a1_ i6 (⟨x10.Name,x10.Batch,x10.Born,x10.Last,x10.Uses,x10.Used,x10.Limit,x10.Until,true⟩:qc)).bind fun l11=>
 some l11):Option (List qc)).bind fun l12=>
 some (l12,0)
theorem qey (N:Nat) (a0_:Int) (a1_:List qc) (a2_:Int) (a3_:Str) (a4_:List Str) (a5_:List Int) (a6_:Str) {l1:List qc} {n2:Int} (h:yV N a0_ a1_ a2_ a3_ a4_ a5_ a6_=some (l1,n2)):qg Tryz.prog (.fn 144) (kR a0_ a1_ [.agg (cF a2_ a3_ a4_ a5_ a6_)]) [bS a1_] (.tuple (kR a0_ l1 [.i n2])) [bS l1]:=by
 unfold yV at h
 refine Goes.fnH Tryz.func144 rfl rfl (m:=29) rfl (rs:=[.cell 4 31,.tmp 5]) rfl (l:=(kA2 a0_ a1_ [(1,.agg (cF a2_ a3_ a4_ a5_ a6_))])) rfl ?_
 intro B hB
 refine sg fol (kE []) (bS a1_::(kD a0_ a1_ (kAO a2_ a3_ a4_ a5_ a6_))) ?_
 obtain⟨x3,e_x3,h⟩:=bnd h
 obtain⟨x4,e_x4,h⟩:=bnd h
 obtain⟨⟨i6,ok7,n8⟩,e_r5,h⟩:=bnd h
 try dsimp only at h
 refine sq (gr fol [3,4,7,8,9] (kAL [(6,pz ok7 0 ((i6:Int).toNat*9+0)),(7,.i n8)]) (ac (iv jE encS e_x3) (ac (lv 0 ce9 encS e_x3 rfl) (ac (iv y7 encI e_x4) (ac (lv 0 ce3 encI e_x4 rfl) (ac (hs (.callH 182 (kR a0_ a1_ [.str x3,.i x4]) (bS a1_::(kD a0_ a1_ (kAO a2_ a3_ a4_ a5_ a6_))) [0] (.tuple [pz ok7 0 ((i6:Int).toNat*9+0),.i n8]) (bS a1_::(kD a0_ a1_ (kAO a2_ a3_ a4_ a5_ a6_)))) (kg [some 0] [some 0,none,none,none] (yw N a0_ a1_ x3 x4 e_r5) (.ks .nil) rfl rfl (.back rfl rfl (.same fa) rfl (.old rfl rfl (.old rfl rfl (.old rfl rfl .nil)))) (rc (.aggL (rc (.same nI) (rc (.slice rfl) rn))) (rc (.same nS) (rc (.same nI) rn))) (.tupleL (rc ((qX.pz rfl)) (rc (.same nI) rn))) rfl)) az))))) ?_)
 refine sq ?_
 refine sh fol (kAL [(6,pz ok7 0 ((i6:Int).toNat*9+0)),(7,.i n8),(22,.bool (!decide (n8=0)))]) ?_
 refine ihB h (fun c9 h=>?_) (fun c9 h=>?_)
 ·refine sg fol ((4,.ptr 3 0)::(kAs n8)) (bS a1_::(kD a0_ a1_ (kBb a2_ a3_ a4_ a5_ a6_ (kD a0_ a1_ [])))) ?_
  refine Goes.ret ?_
  simp only[Option.some.injEq,Prod.mk.injEq]at h
  obtain⟨rfl,rfl⟩:=h
  exact(gh2 (kR a0_ a1_ [.i n8]) (Sub.norm [] [some 0] (by rw[hB];rfl) rfl (.keep (.tupleL (rc (.aggL (rc (.same nI) (rc (.slice rfl) rn))) (rc (.same nI) rn))) .nil) (.ks .nil)))
 ·refine Goes.skip ?_
  refine sq ?_
  obtain⟨l12,g_v13,h⟩:=bnd h
  refine Goes.cutS (s':=(ofG 29 ((2,.ptr 1 0)::(kAi [])),(bS l12::(kD a0_ l12 [bZ])))) ?_ ?_
  ·rcases ok7 with _|_
   ·try dsimp only at g_v13
    cases g_v13
   ·try dsimp only at g_v13
    obtain⟨x10,e_x10,g_v13⟩:=bnd g_v13
    obtain⟨l11,e_l11,g_v13⟩:=bnd g_v13
    obtain rfl:=si g_v13
    exact qj.sub (qj.rq fol [3] (kAL []) (bS l11::(kD a0_ a1_ (kAO a2_ a3_ a4_ a5_ a6_))) (ac (hs (.run [0] (qan Tryz.prog 4 (.ptr 0 ((i6:Int).toNat*9+8)) (.bool true)) (bS a1_::(kD a0_ a1_ (kAO a2_ a3_ a4_ a5_ a6_))) .undef (bS l11::(kD a0_ a1_ (kAO a2_ a3_ a4_ a5_ a6_))) true) (qdF (E:=qd) (l:=a1_) (y:=(⟨x10.Name,x10.Batch,x10.Born,x10.Last,x10.Uses,x10.Used,x10.Limit,x10.Until,true⟩:qc)) rfl (show _=some 1 by kernel_rfl) rfl e_x10 rfl rfl rfl rfl rfl e_l11 rfl)) az)) ((show Sub (ofG 29 (kAL []),(bS l11::(kD a0_ a1_ (kAO a2_ a3_ a4_ a5_ a6_)))) (ofG 29 ((2,.ptr 1 0)::(kAi [])),(bS l11::(kD a0_ l11 [bZ])))from(Sub.norm [] [some 0,some 1,some 3] (by rw[hB];rfl) rfl (.kp (.kp .nil)) (.ks (.kb rfl (.cells (rc (.same nI) (rc (.sliceE rfl (qaC e_l11)) rn))) (.kb rfl (.same sn) .nil))))).trans (Sub.refl _))
  intro _ hsub
  refine Goes.sub hsub ?_
  refine sg fol (kAi [(5,.i 0)]) (bS l12::(kD a0_ l12 (kD a0_ l12 []))) ?_
  refine Goes.ret ?_
  simp only[Option.some.injEq,Prod.mk.injEq]at h
  obtain⟨rfl,rfl⟩:=h
  exact(gh2 (kR a0_ l12 [.i 0]) (Sub.norm [] [some 0] (by rw[hB];rfl) rfl (.keep (.tupleL (rc (.aggL (rc (.same nI) (rc (.slice rfl) rn))) (rc (.same nI) rn))) .nil) (.ks .nil)))
def kr (a1_:List qc) (a4_:List Str) (a5_:List Int):Nat→(List qc)→Int→Int→Option ((List qc)×Int)
 |0,_,_,_=>none
 |K+1,l3,n4,n5=>
  if n4<(a1_.length:Int)then
  (((idx l3 n4).bind fun x13=>
  (idx a4_ 0).bind fun x14=>
  if(!(x13.Batch==x14))=true then
  some (l3,n5)
  else
  ((if n5=10 then
  some 20
  else
  some n5:Option Int)).bind fun n16=>
  (idx a5_ 0).bind fun x19=>
  (jd x13 x19).bind fun r20=>
  ((if(!r20)=true then
  some 0
  else
  some n16:Option Int)).bind fun n21=>
  (put l3 n4 (⟨x13.Name,x13.Batch,x13.Born,x13.Last,x13.Uses,x13.Used,x13.Limit,x13.Until,true⟩:qc)).bind fun l24=>
  some (l24,n21):Option ((List qc)×Int))).bind fun(l10,n11)=>
  kr a1_ a4_ a5_ K l10 (w64 (n4+1)) n11
  else
  some (l3,n5)
def yz (N:Nat) (a0_:Int) (a1_:List qc) (a2_:Int) (a3_:Str) (a4_:List Str) (a5_:List Int) (a6_:Str):Option ((List qc)×Int):=
 (kr a1_ a4_ a5_ N a1_ 0 10).bind fun(l6,n7)=>
 some (l6,n7)
theorem qdK (N:Nat) (a0_:Int) (a1_:List qc) (a2_:Int) (a3_:Str) (a4_:List Str) (a5_:List Int) (a6_:Str) {l1:List qc} {n2:Int} (h:yz N a0_ a1_ a2_ a3_ a4_ a5_ a6_=some (l1,n2)):qg Tryz.prog (.fn 145) (kR a0_ a1_ [.agg (cF a2_ a3_ a4_ a5_ a6_)]) [bS a1_] (.tuple (kR a0_ l1 [.i n2])) [bS l1]:=by
 unfold yz at h
 refine Goes.fnH Tryz.func145 rfl rfl (m:=45) rfl (rs:=[.cell 4 31,.tmp 5]) rfl (l:=(kA2 a0_ a1_ [(1,.agg (cF a2_ a3_ a4_ a5_ a6_))])) rfl ?_
 intro B hB
 refine sg fol (kE []) (bS a1_::(kD a0_ a1_ (kAO a2_ a3_ a4_ a5_ a6_))) ?_
 refine sh fol (kE [(6,.i 10)]) ?_
 refine sq ?_
 refine sh fol (kE ((6,.i 10)::(kA5 (a1_.length:Int)))) ?_
 refine Goes.block ?_
 obtain⟨r8,g8,h⟩:=bnd h
 refine Goes.imp (Q:=fun x s'=>(x= .exit 0∧ ∃l6 n7,(l6,n7)=r8∧Sub s' (ofG 45 ((2,.ptr 1 0)::(kAi [(6,.i n7)])),(bS l6::(kD a0_ l6 [bZ]))))) ?_ ?_
 ·refine Goes.loopS (fun M s=> ∃(l3:List qc) (n4:Int) (n5:Int),s=(ofG 45 (kE ((6,.i n5)::(kV (a1_.length:Int) n4))),(bS l3::(kD a0_ l3 (kAO a2_ a3_ a4_ a5_ a6_))))∧kr a1_ a4_ a5_ M l3 n4 n5=some r8) ?_ (m:=N) ⟨_,_,_,rfl,g8⟩
  rintro M s ⟨l3,n4,n5,rfl,g8⟩
  cases M with
  |zero=>simp only[kr]at g8;cases g8
  |succ M=>
   rw[kr]at g8
   refine sh fol (kE ((6,.i n5)::(kBd (a1_.length:Int) n4 (kB4 (decide (n4<(a1_.length:Int))))))) ?_
   refine sq ?_
   refine ihD g8 (fun c9 g8=>?_) (fun c9 g8=>?_)
   ·refine Goes.skip ?_
    refine sq ?_
    obtain⟨r12,g12,g8⟩:=bnd g8
    refine Goes.imp (Q:=fun x s'=>(x= .normal∧ ∃l10 n11,(l10,n11)=r12∧Sub s' (ofG 45 (kE ((6,.i n11)::(kV (a1_.length:Int) n4))),(bS l10::(kD a0_ l10 (kAO a2_ a3_ a4_ a5_ a6_)))))) ?_ ?_
    ·refine Goes.block ?_
     refine sh fol (kE (kA6 n5 n4 (kV (a1_.length:Int) n4))) ?_
     obtain⟨x13,e_x13,g12⟩:=bnd g12
     refine sq (gr fol [3] (kE ((6,.i n5)::(kAZ n4 (kV (a1_.length:Int) n4)))) (ac (hs (.done (.opt (qz Tryz.prog 29 (.slice 0 0 l3.length l3.length 9) (.i n4))) (.ptr 0 ((n4:Int).toNat*9+0))) (qj5 qcj e_x13)) az) ?_)
     refine sq ?_
     obtain⟨x14,e_x14,g12⟩:=bnd g12
     refine sq (gr fol [3,6,7] (kE ((6,.i n5)::(kAZ n4 (kBd (a1_.length:Int) n4 [(27,.bool (!(x13.Batch==x14)))])))) (ac (hs (.run [0] (jJ Tryz.prog 9 (.ptr 0 ((n4:Int).toNat*9+1))) (bS l3::(kD a0_ l3 (kAO a2_ a3_ a4_ a5_ a6_))) (.str x13.Batch) (bS l3::(kD a0_ l3 (kAO a2_ a3_ a4_ a5_ a6_))) false) (qgo ce9 (E:=qd) (l:=l3) rfl rfl e_x13 (nl rfl) rfl)) (ac (iv jE encS e_x14) (ac (lv 0 ce9 encS e_x14 rfl) az))) ?_)
     refine ihB g12 (fun c15 g12=>?_) (fun c15 g12=>?_)
     ·refine Goes.exit ?_
      obtain rfl:=si g12
      exact⟨rfl,_,_,rfl,(Sub.keep [2,3,4,6,11,12] rfl rfl)⟩
     ·refine Goes.skip ?_
      refine sq ?_
      refine sh fol (kE ((6,.i n5)::(kAZ n4 (kBd (a1_.length:Int) n4 [(29,.bool (decide (n5=10)))])))) ?_
      obtain⟨r17,g17,g12⟩:=bnd g12
      refine Goes.imp (Q:=fun x s'=>(x= .normal∧ ∃n16,n16=r17∧Sub s' (ofG 45 (kE ((6,.i n16)::(kAZ n4 (kV (a1_.length:Int) n4)))),(bS l3::(kD a0_ l3 (kAO a2_ a3_ a4_ a5_ a6_)))))) ?_ ?_
      ·refine ihD g17 (fun c18 g17=>?_) (fun c18 g17=>?_)
       ·refine gh fol (kE ((6,.i 20)::(kAZ n4 (kV (a1_.length:Int) n4)))) ?_
        obtain rfl:=si g17
        exact⟨rfl,_,rfl,(Sub.refl _)⟩
       ·refine Goes.skip ?_
        obtain rfl:=si g17
        exact⟨rfl,_,rfl,(Sub.keep [2,3,4,6,8,11,12] rfl rfl)⟩
      rintro x s' ⟨rfl,n16,rfl,hsub⟩
      refine Goes.sub hsub ?_
      refine sq ?_
      obtain⟨x19,e_x19,g12⟩:=bnd g12
      obtain⟨r20,e_r20,g12⟩:=bnd g12
      refine sq (gr fol [2,5,6,7] (kE ((6,.i n16)::(kAZ n4 (kBd (a1_.length:Int) n4 [(38,.bool (!r20))])))) (ac (hs (.run [0] (jJ Tryz.prog 68 (.ptr 0 ((n4:Int).toNat*9+0))) (bS l3::(kD a0_ l3 (kAO a2_ a3_ a4_ a5_ a6_))) (.agg (cS x13)) (bS l3::(kD a0_ l3 (kAO a2_ a3_ a4_ a5_ a6_))) false) (qjD qkU (E:=qd) (l:=l3) rfl rfl e_x13)) (ac (iv y7 encI e_x19) (ac (lv 0 ce3 encI e_x19 rfl) (ac (cv (vR x13 x19 e_r20)) az)))) ?_)
      obtain⟨r22,g22,g12⟩:=bnd g12
      refine Goes.imp (Q:=fun x s'=>(x= .normal∧ ∃n21,n21=r22∧Sub s' (ofG 45 (kE ((6,.i n21)::(kAZ n4 (kV (a1_.length:Int) n4)))),(bS l3::(kD a0_ l3 (kAO a2_ a3_ a4_ a5_ a6_)))))) ?_ ?_
      ·refine ihB g22 (fun c23 g22=>?_) (fun c23 g22=>?_)
       ·refine gh fol (kE ((6,.i 0)::(kAZ n4 (kV (a1_.length:Int) n4)))) ?_
        obtain rfl:=si g22
        exact⟨rfl,_,rfl,(Sub.refl _)⟩
       ·refine Goes.skip ?_
        obtain rfl:=si g22
        exact⟨rfl,_,rfl,(Sub.keep [2,3,4,6,8,11,12] rfl rfl)⟩
      rintro x s' ⟨rfl,n21,rfl,hsub⟩
      refine Goes.sub hsub ?_
      obtain⟨l24,e_l24,g12⟩:=bnd g12
      refine gq fol [3] (kE ((6,.i n21)::(kV (a1_.length:Int) n4))) (bS l24::(kD a0_ l3 (kAO a2_ a3_ a4_ a5_ a6_))) (ac (hs (.run [0] (qan Tryz.prog 4 (.ptr 0 ((n4:Int).toNat*9+8)) (.bool true)) (bS l3::(kD a0_ l3 (kAO a2_ a3_ a4_ a5_ a6_))) .undef (bS l24::(kD a0_ l3 (kAO a2_ a3_ a4_ a5_ a6_))) true) (qdF (E:=qd) (l:=l3) (y:=(⟨x13.Name,x13.Batch,x13.Born,x13.Last,x13.Uses,x13.Used,x13.Limit,x13.Until,true⟩:qc)) rfl (show _=some 1 by kernel_rfl) rfl e_x13 rfl rfl rfl rfl rfl e_l24 rfl)) az) ?_
      obtain rfl:=si g12
      exact⟨rfl,_,_,rfl,((show Sub (ofG 45 (kE ((6,.i n21)::(kV (a1_.length:Int) n4))),(bS l24::(kD a0_ l3 (kAO a2_ a3_ a4_ a5_ a6_)))) (ofG 45 (kE ((6,.i n21)::(kV (a1_.length:Int) n4))),(bS l24::(kD a0_ l24 (kAO a2_ a3_ a4_ a5_ a6_))))from(Sub.norm [] [some 0,some 1,some 2,some 3] (by rw[hB];rfl) rfl (.kp (.kp (.kp (.keep (.same nI) (.keep (.same nI) (.keep (.same nI) .nil)))))) (.ks (.kb rfl (.cells (rc (.same nI) (rc (.sliceE rfl (qaC e_l24)) rn))) (.kb rfl (.same sn) (.kb rfl (.same sn) .nil)))))).trans (Sub.refl _))⟩
    rintro x s' ⟨rfl,l10,n11,rfl,hsub⟩
    try dsimp only at g8
    refine Goes.sub hsub ?_
    refine gh fol (kE ((6,.i n11)::(kV (a1_.length:Int) (w64 (n4+1))))) ?_
    exact⟨M,(ofG 45 (kE ((6,.i n11)::(kV (a1_.length:Int) (w64 (n4+1))))),(bS l10::(kD a0_ l10 (kAO a2_ a3_ a4_ a5_ a6_)))),Nat.lt_succ_self _,(Sub.refl _),_,_,_,rfl,g8⟩
   ·refine Goes.exit ?_
    obtain rfl:=si g8
    exact⟨rfl,_,_,rfl,(Sub.norm [] [some 0,some 1,some 3] (by rw[hB];rfl) rfl (.kp (.drop (.kp (.keep (.same nI) .nil)))) (.ks (.kb rfl (.cells (rc (.same nI) (rc (.slice rfl) rn))) (.kb rfl (.same sn) .nil))))⟩
 rintro x s' ⟨rfl,l6,n7,rfl,hsub⟩
 try dsimp only at h
 refine Goes.sub hsub ?_
 refine sg fol (kAi (kAs n7)) (bS l6::(kD a0_ l6 (kD a0_ l6 []))) ?_
 refine Goes.ret ?_
 simp only[Option.some.injEq,Prod.mk.injEq]at h
 obtain⟨rfl,rfl⟩:=h
 exact(gh2 (kR a0_ l6 [.i n7]) (Sub.norm [] [some 0] (by rw[hB];rfl) rfl (.keep (.tupleL (rc (.aggL (rc (.same nI) (rc (.slice rfl) rn))) (rc (.same nI) rn))) .nil) (.ks .nil)))
def qC (N:Nat) (a0_:Int) (a1_:List qc) (a2_:Int) (a3_:Str) (a4_:List Str) (a5_:List Int) (a6_:Str):Option (Int×(List qc)×Int):=
 (idx a5_ 0).bind fun x4=>
 (yc x4).bind fun r5=>
 (qI (decide (x4<a0_)) 19).bind fun r6=>
 (zo N ([r5,r6]:List Int)).bind fun r7=>
 if(!decide (r7=0))=true then
 some (0,[],r7)
 else
 ((zq).bind fun r9=>
 if(a3_==[109,97,107,101])=true then
 (qp a0_ a1_).bind fun l12=>
 (qal N a0_ l12 a2_ a3_ a4_ a5_ a6_).bind fun(l14,n15)=>
 some (l14,n15)
 else
 if(a3_==[116,101,115,116])=true then
 (qp a0_ a1_).bind fun l18=>
 (xg N a0_ l18 a2_ a3_ a4_ a5_ a6_).bind fun(l20,n21)=>
 some (l20,n21)
 else
 if(a3_==[117,115,101])=true then
 (qp a0_ a1_).bind fun l24=>
 (qaj N a0_ l24 a2_ a3_ a4_ a5_ a6_).bind fun(l26,n27)=>
 some (l26,n27)
 else
 if(a3_==[102,97,105,108])=true then
 (qp a0_ a1_).bind fun l30=>
 (yV N a0_ l30 a2_ a3_ a4_ a5_ a6_).bind fun(l32,n33)=>
 some (l32,n33)
 else
 if(a3_==[114,101,99,97,108,108])=true then
 (qp a0_ a1_).bind fun l36=>
 (yz N a0_ l36 a2_ a3_ a4_ a5_ a6_).bind fun(l38,n39)=>
 some (l38,n39)
 else
 if(a3_==[117,110,100,111])=true then
 none
 else
 none:Option ((List qc)×Int)).bind fun(l45,n46)=>
 some (x4,l45,n46)
theorem qbR (N:Nat) (a0_:Int) (a1_:List qc) (a2_:Int) (a3_:Str) (a4_:List Str) (a5_:List Int) (a6_:Str) {n1:Int} {l2:List qc} {n3:Int} (h:qC N a0_ a1_ a2_ a3_ a4_ a5_ a6_=some (n1,l2,n3)):qg Tryz.prog (.fn 147) (kAh a0_ a1_ [.agg (cF a2_ a3_ a4_ a5_ a6_)]) [] (.tuple (kAh n1 l2 [.i n3])) []:=by
 unfold qC at h
 refine Goes.fnH Tryz.func147 rfl rfl (m:=43) rfl (rs:=[.cell 4 31,.tmp 5]) rfl (l:=(kB7 a0_ a1_ [(1,.agg (cF a2_ a3_ a4_ a5_ a6_))])) rfl ?_
 intro B hB
 refine sg fol (kO (kAi [])) (kG a0_ a1_ (kAO a2_ a3_ a4_ a5_ a6_)) ?_
 obtain⟨x4,e_x4,h⟩:=bnd h
 refine sq (gr fol [2,3] (kO (kAi [(6,.i x4)])) (ac (iv y7 encI e_x4) (ac (lv 0 ce3 encI e_x4 rfl) az)) ?_)
 refine sq ?_
 obtain⟨r5,e_r5,h⟩:=bnd h
 obtain⟨r6,e_r6,h⟩:=bnd h
 obtain⟨r7,e_r7,h⟩:=bnd h
 refine sq (gq fol [1,6,8] (kO (kAi (kA6 x4 r7 []))) (kG a0_ a1_ (kQ a2_ a3_ a4_ a5_ a6_ r5 r6 [])) (ac (cv (qaH x4 e_r5)) (ac (cv (qA (decide (x4<a0_)) 19 e_r6)) (ac (hs (.call 86 [.slice 3 0 2 2 1] (kG a0_ a1_ (kQ a2_ a3_ a4_ a5_ a6_ r5 r6 [])) [3] [vl encI ([r5,r6]:List Int)] (.i r7)) (qak (FzL.cons (Fz.lit rfl rfl (FzL.still (AllST.cons tI (AllST.cons tI AllST.nil)))) FzL.nil) (zD N ([r5,r6]:List Int) e_r7) tI rfl)) az))) ?_)
 refine sh fol (kO (kAi (kA6 x4 r7 [(24,.bool (!decide (r7=0)))]))) ?_
 refine ihB h (fun c8 h=>?_) (fun c8 h=>?_)
 ·refine sh fol (kAi (kAs r7)) ?_
  refine Goes.ret ?_
  simp only[Option.some.injEq,Prod.mk.injEq]at h
  obtain⟨rfl,rfl,rfl⟩:=h
  exact(gh2 [.agg [.i 0,.nilslice],.i r7] (Sub.norm [] [] (by rw[hB];rfl) rfl (.keep (.tupleL (rc (.aggL (rc (.same nI) (rc (.nilv) rn))) (rc (.same nI) rn))) .nil) .nil))
 ·refine Goes.skip ?_
  refine sq ?_
  obtain⟨⟨l45,n46⟩,g_v47,h⟩:=bnd h
  refine Goes.cutS (s':=(ofG 43 (kA8 [(6,.i x4),(8,.ptr 1 0),(9,.i n46)]),(bZ::(kG a0_ l45 [])))) ?_ ?_
  ·obtain⟨r9,e_r9,g_v47⟩:=bnd g_v47
   rcases wyB g_v47 with⟨c10,g_v47⟩|⟨c10,g_v47⟩
   ·obtain⟨l12,e_r11,g_v47⟩:=bnd g_v47
    obtain⟨⟨l14,n15⟩,e_r13,g_v47⟩:=bnd g_v47
    try dsimp only at g_v47
    simp only[Option.some.injEq,Prod.mk.injEq]at g_v47
    obtain⟨rfl,rfl⟩:=g_v47
    exact qj.sub (qj.rq fol [0,3,6,8] (kAi (kBx x4 n15)) (kG a0_ a1_ (kQ a2_ a3_ a4_ a5_ a6_ r5 r6 (.dead::(kG a0_ l14 [])))) (ac (cv (qw e_r9)) (ac (hs (.done (qW Tryz.prog 154 (fm1) (.str a3_) false) (.agg [.i 2,.i 3,.func (.func 141) [] []])) (qfb xk [[109,97,107,101],[116,101,115,116],[117,115,101],[102,97,105,108],[114,101,99,97,108,108],[117,110,100,111]] (ky c10) rfl)) (ac (hs (.callH 82 [.agg (kAr a0_ a1_)] (kG a0_ a1_ (kQ a2_ a3_ a4_ a5_ a6_ r5 r6 [])) [] (.agg (kBQ a0_ l12)) (kG a0_ a1_ (kQ a2_ a3_ a4_ a5_ a6_ r5 r6 [bS l12]))) (kg [] [none,none,none,none,some 0] (ze a0_ a1_ e_r11) .nil rfl rfl (.old rfl rfl (.old rfl rfl (.old rfl rfl (.old rfl rfl (.new rfl rfl (.same fa) rfl .nil))))) (rc (.same (ql.agg sn)) rn) (.aggL (rc (.same nI) (rc (.slice rfl) rn))) rfl)) (ac (hs (.callH 141 (kAX a0_ l12 [.agg (cF a2_ a3_ a4_ a5_ a6_)]) (kG a0_ a1_ (kQ a2_ a3_ a4_ a5_ a6_ r5 r6 [bS l12])) [4] (.tuple (kAh a0_ l14 [.i n15])) (kG a0_ a1_ (kQ a2_ a3_ a4_ a5_ a6_ r5 r6 [.dead]))) (kg [some 4] [none,none,none,none,none] (qff N a0_ l12 a2_ a3_ a4_ a5_ a6_ e_r13) (.ks .nil) rfl rfl (.old rfl rfl (.old rfl rfl (.old rfl rfl (.old rfl rfl (.dead .nil))))) (rc (.aggL (rc (.same nI) (rc (.slice rfl) rn))) (rc (.same (ql.agg sn)) rn)) (.same (ql.tuple sn)) rfl)) az))))) (Sub.norm [] [some 2,some 5] (by rw[hB];rfl) rfl (.kp (.keep (.same nI) (.kp (.keep (.same nI) .nil)))) (.kb rfl (.same sn) (.kb rfl (.same sn) .nil)))
   ·rcases wyB g_v47 with⟨c16,g_v47⟩|⟨c16,g_v47⟩
    ·obtain⟨l18,e_r17,g_v47⟩:=bnd g_v47
     obtain⟨⟨l20,n21⟩,e_r19,g_v47⟩:=bnd g_v47
     try dsimp only at g_v47
     simp only[Option.some.injEq,Prod.mk.injEq]at g_v47
     obtain⟨rfl,rfl⟩:=g_v47
     exact qj.sub (qj.rq fol [0,3,6,8] (kAi (kBx x4 n21)) (kG a0_ a1_ (kQ a2_ a3_ a4_ a5_ a6_ r5 r6 (bS l20::(kA9 a0_ l20 [])))) (ac (cv (qw e_r9)) (ac (hs (.done (qW Tryz.prog 154 (fm1) (.str a3_) false) (.agg [.i 1,.i 2,.func (.func 142) [] []])) (qfb xk [[109,97,107,101],[116,101,115,116],[117,115,101],[102,97,105,108],[114,101,99,97,108,108],[117,110,100,111]] (qh c10 (ky c16)) rfl)) (ac (hs (.callH 82 [.agg (kAr a0_ a1_)] (kG a0_ a1_ (kQ a2_ a3_ a4_ a5_ a6_ r5 r6 [])) [] (.agg (kBQ a0_ l18)) (kG a0_ a1_ (kQ a2_ a3_ a4_ a5_ a6_ r5 r6 [bS l18]))) (kg [] [none,none,none,none,some 0] (ze a0_ a1_ e_r17) .nil rfl rfl (.old rfl rfl (.old rfl rfl (.old rfl rfl (.old rfl rfl (.new rfl rfl (.same fa) rfl .nil))))) (rc (.same (ql.agg sn)) rn) (.aggL (rc (.same nI) (rc (.slice rfl) rn))) rfl)) (ac (hs (.callH 142 (kAX a0_ l18 [.agg (cF a2_ a3_ a4_ a5_ a6_)]) (kG a0_ a1_ (kQ a2_ a3_ a4_ a5_ a6_ r5 r6 [bS l18])) [4] (.tuple (kAX a0_ l20 [.i n21])) (kG a0_ a1_ (kQ a2_ a3_ a4_ a5_ a6_ r5 r6 [bS l20]))) (kg [some 4] [none,none,none,none,some 0] (qeA N a0_ l18 a2_ a3_ a4_ a5_ a6_ e_r19) (.ks .nil) rfl rfl (.old rfl rfl (.old rfl rfl (.old rfl rfl (.old rfl rfl (.back rfl rfl (.same fa) rfl .nil))))) (rc (.aggL (rc (.same nI) (rc (.slice rfl) rn))) (rc (.same (ql.agg sn)) rn)) (.tupleL (rc (.aggL (rc (.same nI) (rc (.slice rfl) rn))) (rc (.same nI) rn))) rfl)) az))))) (Sub.norm [4] [some 2,some 5] (by rw[hB];rfl) rfl (.kp (.keep (.same nI) (.kp (.keep (.same nI) .nil)))) (.kb rfl (.same sn) (.kb rfl (.cells (rc (.same nI) (rc (.frz (Fz.sl (E:=qd) rfl rfl (nl rfl)) (qm qd _)) rn))) .nil)))
    ·rcases wyB g_v47 with⟨c22,g_v47⟩|⟨c22,g_v47⟩
     ·obtain⟨l24,e_r23,g_v47⟩:=bnd g_v47
      obtain⟨⟨l26,n27⟩,e_r25,g_v47⟩:=bnd g_v47
      try dsimp only at g_v47
      simp only[Option.some.injEq,Prod.mk.injEq]at g_v47
      obtain⟨rfl,rfl⟩:=g_v47
      exact qj.sub (qj.rq fol [0,3,6,8] (kAi (kBx x4 n27)) (kG a0_ a1_ (kQ a2_ a3_ a4_ a5_ a6_ r5 r6 (bS l26::(kA9 a0_ l26 [])))) (ac (cv (qw e_r9)) (ac (hs (.done (qW Tryz.prog 154 (fm1) (.str a3_) false) (.agg [.i 1,.i 2,.func (.func 143) [] []])) (qfb xk [[109,97,107,101],[116,101,115,116],[117,115,101],[102,97,105,108],[114,101,99,97,108,108],[117,110,100,111]] (qh c10 (qh c16 (ky c22))) rfl)) (ac (hs (.callH 82 [.agg (kAr a0_ a1_)] (kG a0_ a1_ (kQ a2_ a3_ a4_ a5_ a6_ r5 r6 [])) [] (.agg (kBQ a0_ l24)) (kG a0_ a1_ (kQ a2_ a3_ a4_ a5_ a6_ r5 r6 [bS l24]))) (kg [] [none,none,none,none,some 0] (ze a0_ a1_ e_r23) .nil rfl rfl (.old rfl rfl (.old rfl rfl (.old rfl rfl (.old rfl rfl (.new rfl rfl (.same fa) rfl .nil))))) (rc (.same (ql.agg sn)) rn) (.aggL (rc (.same nI) (rc (.slice rfl) rn))) rfl)) (ac (hs (.callH 143 (kAX a0_ l24 [.agg (cF a2_ a3_ a4_ a5_ a6_)]) (kG a0_ a1_ (kQ a2_ a3_ a4_ a5_ a6_ r5 r6 [bS l24])) [4] (.tuple (kAX a0_ l26 [.i n27])) (kG a0_ a1_ (kQ a2_ a3_ a4_ a5_ a6_ r5 r6 [bS l26]))) (kg [some 4] [none,none,none,none,some 0] (qfE N a0_ l24 a2_ a3_ a4_ a5_ a6_ e_r25) (.ks .nil) rfl rfl (.old rfl rfl (.old rfl rfl (.old rfl rfl (.old rfl rfl (.back rfl rfl (.same fa) rfl .nil))))) (rc (.aggL (rc (.same nI) (rc (.slice rfl) rn))) (rc (.same (ql.agg sn)) rn)) (.tupleL (rc (.aggL (rc (.same nI) (rc (.slice rfl) rn))) (rc (.same nI) rn))) rfl)) az))))) (Sub.norm [4] [some 2,some 5] (by rw[hB];rfl) rfl (.kp (.keep (.same nI) (.kp (.keep (.same nI) .nil)))) (.kb rfl (.same sn) (.kb rfl (.cells (rc (.same nI) (rc (.frz (Fz.sl (E:=qd) rfl rfl (nl rfl)) (qm qd _)) rn))) .nil)))
     ·rcases wyB g_v47 with⟨c28,g_v47⟩|⟨c28,g_v47⟩
      ·obtain⟨l30,e_r29,g_v47⟩:=bnd g_v47
       obtain⟨⟨l32,n33⟩,e_r31,g_v47⟩:=bnd g_v47
       try dsimp only at g_v47
       simp only[Option.some.injEq,Prod.mk.injEq]at g_v47
       obtain⟨rfl,rfl⟩:=g_v47
       exact qj.sub (qj.rq fol [0,3,6,8] (kAi (kBx x4 n33)) (kG a0_ a1_ (kQ a2_ a3_ a4_ a5_ a6_ r5 r6 (bS l32::(kA9 a0_ l32 [])))) (ac (cv (qw e_r9)) (ac (hs (.done (qW Tryz.prog 154 (fm1) (.str a3_) false) (.agg [.i 1,.i 1,.func (.func 144) [] []])) (qfb xk [[109,97,107,101],[116,101,115,116],[117,115,101],[102,97,105,108],[114,101,99,97,108,108],[117,110,100,111]] (qh c10 (qh c16 (qh c22 (ky c28)))) rfl)) (ac (hs (.callH 82 [.agg (kAr a0_ a1_)] (kG a0_ a1_ (kQ a2_ a3_ a4_ a5_ a6_ r5 r6 [])) [] (.agg (kBQ a0_ l30)) (kG a0_ a1_ (kQ a2_ a3_ a4_ a5_ a6_ r5 r6 [bS l30]))) (kg [] [none,none,none,none,some 0] (ze a0_ a1_ e_r29) .nil rfl rfl (.old rfl rfl (.old rfl rfl (.old rfl rfl (.old rfl rfl (.new rfl rfl (.same fa) rfl .nil))))) (rc (.same (ql.agg sn)) rn) (.aggL (rc (.same nI) (rc (.slice rfl) rn))) rfl)) (ac (hs (.callH 144 (kAX a0_ l30 [.agg (cF a2_ a3_ a4_ a5_ a6_)]) (kG a0_ a1_ (kQ a2_ a3_ a4_ a5_ a6_ r5 r6 [bS l30])) [4] (.tuple (kAX a0_ l32 [.i n33])) (kG a0_ a1_ (kQ a2_ a3_ a4_ a5_ a6_ r5 r6 [bS l32]))) (kg [some 4] [none,none,none,none,some 0] (qey N a0_ l30 a2_ a3_ a4_ a5_ a6_ e_r31) (.ks .nil) rfl rfl (.old rfl rfl (.old rfl rfl (.old rfl rfl (.old rfl rfl (.back rfl rfl (.same fa) rfl .nil))))) (rc (.aggL (rc (.same nI) (rc (.slice rfl) rn))) (rc (.same (ql.agg sn)) rn)) (.tupleL (rc (.aggL (rc (.same nI) (rc (.slice rfl) rn))) (rc (.same nI) rn))) rfl)) az))))) (Sub.norm [4] [some 2,some 5] (by rw[hB];rfl) rfl (.kp (.keep (.same nI) (.kp (.keep (.same nI) .nil)))) (.kb rfl (.same sn) (.kb rfl (.cells (rc (.same nI) (rc (.frz (Fz.sl (E:=qd) rfl rfl (nl rfl)) (qm qd _)) rn))) .nil)))
      ·rcases wyB g_v47 with⟨c34,g_v47⟩|⟨c34,g_v47⟩
       ·obtain⟨l36,e_r35,g_v47⟩:=bnd g_v47
        obtain⟨⟨l38,n39⟩,e_r37,g_v47⟩:=bnd g_v47
        try dsimp only at g_v47
        simp only[Option.some.injEq,Prod.mk.injEq]at g_v47
        obtain⟨rfl,rfl⟩:=g_v47
        exact qj.sub (qj.rq fol [0,3,6,8] (kAi (kBx x4 n39)) (kG a0_ a1_ (kQ a2_ a3_ a4_ a5_ a6_ r5 r6 (bS l38::(kA9 a0_ l38 [])))) (ac (cv (qw e_r9)) (ac (hs (.done (qW Tryz.prog 154 (fm1) (.str a3_) false) (.agg [.i 1,.i 1,.func (.func 145) [] []])) (qfb xk [[109,97,107,101],[116,101,115,116],[117,115,101],[102,97,105,108],[114,101,99,97,108,108],[117,110,100,111]] (qh c10 (qh c16 (qh c22 (qh c28 (ky c34))))) rfl)) (ac (hs (.callH 82 [.agg (kAr a0_ a1_)] (kG a0_ a1_ (kQ a2_ a3_ a4_ a5_ a6_ r5 r6 [])) [] (.agg (kBQ a0_ l36)) (kG a0_ a1_ (kQ a2_ a3_ a4_ a5_ a6_ r5 r6 [bS l36]))) (kg [] [none,none,none,none,some 0] (ze a0_ a1_ e_r35) .nil rfl rfl (.old rfl rfl (.old rfl rfl (.old rfl rfl (.old rfl rfl (.new rfl rfl (.same fa) rfl .nil))))) (rc (.same (ql.agg sn)) rn) (.aggL (rc (.same nI) (rc (.slice rfl) rn))) rfl)) (ac (hs (.callH 145 (kAX a0_ l36 [.agg (cF a2_ a3_ a4_ a5_ a6_)]) (kG a0_ a1_ (kQ a2_ a3_ a4_ a5_ a6_ r5 r6 [bS l36])) [4] (.tuple (kAX a0_ l38 [.i n39])) (kG a0_ a1_ (kQ a2_ a3_ a4_ a5_ a6_ r5 r6 [bS l38]))) (kg [some 4] [none,none,none,none,some 0] (qdK N a0_ l36 a2_ a3_ a4_ a5_ a6_ e_r37) (.ks .nil) rfl rfl (.old rfl rfl (.old rfl rfl (.old rfl rfl (.old rfl rfl (.back rfl rfl (.same fa) rfl .nil))))) (rc (.aggL (rc (.same nI) (rc (.slice rfl) rn))) (rc (.same (ql.agg sn)) rn)) (.tupleL (rc (.aggL (rc (.same nI) (rc (.slice rfl) rn))) (rc (.same nI) rn))) rfl)) az))))) (Sub.norm [4] [some 2,some 5] (by rw[hB];rfl) rfl (.kp (.keep (.same nI) (.kp (.keep (.same nI) .nil)))) (.kb rfl (.same sn) (.kb rfl (.cells (rc (.same nI) (rc (.frz (Fz.sl (E:=qd) rfl rfl (nl rfl)) (qm qd _)) rn))) .nil)))
       ·rcases wyB g_v47 with⟨c40,g_v47⟩|⟨c40,g_v47⟩
        ·cases g_v47
        ·cases g_v47
  intro _ hsub
  try dsimp only at h
  refine Goes.sub hsub ?_
  refine sg fol (kA8 [(8,.ptr 1 0),(9,.i n46)]) (bZ::(kG x4 l45 [])) ?_
  refine sg fol (kA8 (kAs n46)) (kG x4 l45 (kG x4 l45 [])) ?_
  refine Goes.ret ?_
  simp only[Option.some.injEq,Prod.mk.injEq]at h
  obtain⟨rfl,rfl,rfl⟩:=h
  exact(gh2 (kAh x4 l45 [.i n46]) (Sub.norm [] [] (by rw[hB];rfl) rfl (.keep (.tupleL (rc (.aggL (rc (.same nI) (rc (.same (qm qd _)) rn))) (rc (.same nI) rn))) .nil) .nil))
end Go.Av
