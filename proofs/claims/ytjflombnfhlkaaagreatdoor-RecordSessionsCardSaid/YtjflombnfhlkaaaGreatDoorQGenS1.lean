/-
  Walks of functions: what each computes, as a plain function.
-/
import Derived.Test.YtjflombnfhlkaaaGreatDoorAvJn
import Derived.Test.YtjflombnfhlkaaaGreatDoorAvPq
noncomputable section
namespace Go.Av
open Go.Proofs Go.RowKit
set_option linter.unusedSectionVars false
set_option linter.unusedVariables false
set_option linter.unusedSimpArgs false
set_option maxRecDepth 100000
theorem fol:Tryz.prog.follows .mixedOrders=true:=by kernel_rfl
structure qb where
 Number:Int
 Kind:Str
 Names:List Str
 Values:List Int
 Text:Str
def qa:Enc qb:=(encI.prod (encS.prod ((yH encS).prod ((yH encI).prod encS)))).comap fun x=>(x.Number,x.Kind,x.Names,x.Values,x.Text)
instance:SE qa:=⟨nl rfl⟩
structure qc where
 Name:Str
 Batch:Str
 Born:Int
 Last:Int
 Uses:Int
 Used:Int
 Limit:Int
 Until:Int
 Gone:Bool
def qd:Enc qc:=(encS.prod (encS.prod (encI.prod (encI.prod (encI.prod (encI.prod (encI.prod (encI.prod qof)))))))).comap fun x=>(x.Name,x.Batch,x.Born,x.Last,x.Uses,x.Used,x.Limit,x.Until,x.Gone)
instance:SE qd:=⟨nl rfl⟩
abbrev cS (x:qc):List AV:=[.str x.Name,.str x.Batch,.i x.Born,.i x.Last,.i x.Uses,.i x.Used,.i x.Limit,.i x.Until,.bool x.Gone]
abbrev cE (x:qb):List AV:=[.i x.Number,.str x.Kind,vl encS x.Names,vl encI x.Values,.str x.Text]
abbrev bS (l:List qc):Blk:= .cells (l.flatMap qd.c)
abbrev cF (a:Int) (b:Str) (c:List Str) (d:List Int) (e:Str):List AV:=[.i a,.str b,vl encS c,vl encI d,.str e]
abbrev cT (a b:Str) (c d e f g h:Int) (i:Bool):List AV:=[.str a,.str b,.i c,.i d,.i e,.i f,.i g,.i h,.bool i]
structure yD where
 Day:Int
 Slings:List qc
def qfW:Enc yD:=(encI.prod (yH qd)).comap fun x=>(x.Day,x.Slings)
instance:SE qfW:=⟨nl rfl⟩
structure qy where
 Day:Int
 Slings:List qc
def qiv:Enc qy:=(encI.prod (yH qd)).comap fun x=>(x.Day,x.Slings)
instance:SE qiv:=⟨nl rfl⟩
structure qbb where
 neg:Bool
 w:List Int
def qkE:Enc qbb:=(qof.prod (yH encI)).comap fun x=>(x.neg,x.w)
instance:SE qkE:=⟨nl rfl⟩
structure StateT where
 number:Int
 register:yD
def jI:Enc StateT:=(encI.prod qfW).comap fun x=>(x.number,x.register)
instance:SE jI:=⟨nl rfl⟩
abbrev kA (a:List qb) (b:Option (List StateT)) (x:List Blk):List Blk:= .cells [.gslice 1 a.length 5,hsl 2 3 b]:: .cells (a.flatMap qa.c):: .cells ((hof b).flatMap jI.c)::x
abbrev kB (a:List qb) (x:List Blk):List Blk:= .cells (a.flatMap qa.c)::x
abbrev kC {α1:Type} (a:Int) (b:List α1) (x:List Blk):List Blk:= .cells [.i a,.slice 0 0 b.length b.length 9]::x
abbrev kD (x:List (Nat×AV)):List (Nat×AV):=(2,.ptr 1 0)::(3,.ptr 2 0)::(4,.ptr 3 0)::x
abbrev kE (a:Int) (b:List qc) (x:List Blk):List Blk:= .cells [.i a,vl qd b]::x
abbrev kF {α1:Type} (a:Int) (b:List α1) (c:Int) (x:List (Nat×AV)):List (Nat×AV):=(2,.ptr 0 0)::(3,.ptr 1 0)::(4,.ptr 2 0)::(5,.i a)::(6,.oslice 3 b.length 9)::(9,.i c)::x
abbrev kG (x:List Blk):List Blk:= .cells [.i 0,.str [],.nilslice,.nilslice,.str []]::x
abbrev kH (a:List Str) (x:List Blk):List Blk:= .cells (a.flatMap encS.c)::x
abbrev kI (a:Int) (b:Int) (x:List Blk):List Blk:= .cells [.nilslice]:: .cells [.i a]:: .cells [.i b]::x
abbrev kJ (a:Option (List qb)) (b:Int) (c:Str):List Blk:=[.cells [hsl 7 5 a],.cells [.i b],.cells [.str c],.cells ((hof a).flatMap qa.c)]
abbrev kK (x:List (Nat×AV)):List (Nat×AV):=(2,.ptr 0 0)::x
abbrev kL (a:List qb) (x:List (Nat×AV)):List (Nat×AV):=(0,vl qa a)::x
abbrev kM (a:Int) (b:Str) (c:List Str) (d:List Int) (e:Str) (f:Int) (g:Int) (x:List Blk):List Blk:= .cells (cF a b c d e)::bZ:: .cells [.i f,.i g]::x
abbrev kN (a:Int) (b:Str) (c:List Str) (d:List Int) (e:Str) (x:List Blk):List Blk:= .cells [.i a,.str b,vl encS c,vl encI d,.str e]::x
abbrev kO {α1:Type} (a:Int) (b:List α1) (x:List AV):List AV:= .agg [.i a,.slice 0 0 b.length b.length 9]::x
abbrev kP {α4:Type} (a:Str) (b:Str) (c:Int) (d:Int) (e:List α4) (x:List (Nat×AV)):List (Nat×AV):=(0,.str a)::(1,.str b)::(2,.i c)::(3,.i d)::(9,.slice 0 0 e.length e.length 1)::x
abbrev kQ (a:qb) (x:List Blk):List Blk:= .cells (cE a)::x
abbrev kR (a:Int) (b:Int):List (Nat×AV):=[(11,.i a),(12,.i b)]
abbrev kS (a:List Str) (x:List (Nat×AV)):List (Nat×AV):=(0,.ptr 0 0)::(7,vl encS a)::(10,.ptr 3 0)::x
abbrev kT (a:Str) (b:Str) (x:List (Nat×AV)):List (Nat×AV):=(0,.str a)::(1,.str b)::x
abbrev kU {α0:Type} (a:List α0) (b:Int) (x:List (Nat×AV)):List (Nat×AV):=(0,.slice 0 0 a.length a.length 9)::(1,.i b)::x
abbrev kV (x:List (Nat×AV)):List (Nat×AV):=(1,.ptr 0 0)::x
abbrev kW (a:List qb) (x:List (Nat×AV)):List (Nat×AV):=(5,vl qa a)::x
abbrev kX {α1:Type} {α2:Type} (a:Str) (b:List α1) (c:List α2) (x:List Blk):List Blk:= .cells [.i 0,.str a,.gslice 2 b.length 1,.gslice 3 c.length 1,.str []]::x
abbrev kY (x:List Blk):List Blk:= .cells [.nilslice]:: .cells [.i 0]::x
abbrev kZ (a:Int) (b:Int) (x:List (Nat×AV)):List (Nat×AV):=(6,.i a)::(7,.i b)::x
abbrev kAA (x:List AV):List AV:= .agg [.i 0,.str [],.nilslice,.nilslice,.str []]::x
abbrev kAB (a:Str) (b:Str) (c:Int) (d:Int) (e:Int) (x:List Blk):List Blk:= .cells [.str a,.str b,.i c,.i d,.i e,.i 0,.i 0,.i 0,.bool false]::x
abbrev kAC (a:Option (List StateT)) (x:List Blk):List Blk:= .cells ((hof a).flatMap jI.c)::x
abbrev kAD (x:List (Nat×AV)):List (Nat×AV):=(3,.ptr 1 0)::(4,.ptr 2 0)::x
abbrev kAE (a:Option (List qb)) (b:Int) (x:List Blk):List Blk:= .cells [hsl 5 5 a]:: .cells ((hof a).flatMap qa.c):: .cells [.i b]::x
abbrev kAF (a:List Int):List Blk:=[.cells (a.flatMap encI.c)]
abbrev kAG (a:Int) (x:List (Nat×AV)):List (Nat×AV):=(5,.ptr 4 0)::(6,.ptr 6 0)::(7,.i a)::x
abbrev kAH (a:Int) (x:List Blk):List Blk:= .cells [.i a]::x
abbrev kAI (a:Int) (x:List (Nat×AV)):List (Nat×AV):=(3,.ptr 1 0)::(5,.i a)::x
abbrev kAJ (a:Str) (x:List (Nat×AV)):List (Nat×AV):=(0,.str a)::x
abbrev kAK (x:List (Nat×AV)):List (Nat×AV):=(0,.ptr 0 0)::x
abbrev kAL (x:List (Nat×AV)):List (Nat×AV):=(2,.ptr 1 0)::(4,.ptr 3 0)::x
abbrev kAM (a:Str) (x:List Blk):List Blk:= .cells [.str a]::x
abbrev kAN:List (Nat×AV):=[(4,.bool false)]
abbrev kAO {α0:Type} (a:List α0) (x:List (Nat×AV)):List (Nat×AV):=(7,.gslice 0 a.length 1)::x
abbrev kAP (a:List Str) (b:Int) (x:List (Nat×AV)):List (Nat×AV):=(4,vl encS a)::(5,.i b)::(8,.ptr 1 0)::x
abbrev kAQ (a:Int) (b:Str) (c:List Str) (d:List Int) (e:Str):List Blk:=[.cells (cF a b c d e),bZ]
abbrev kAR {α0:Type} {α1:Type} (a:List α0) (b:List α1) (x:List Blk):List Blk:= .cells [.gslice 1 a.length 5,.oslice 2 b.length 3]::x
abbrev kAS (x:List (Nat×AV)):List (Nat×AV):=(5,.ptr 4 0)::(6,.ptr 5 0)::x
abbrev kAT {α0:Type} {α1:Type} (a:List α0) (b:Option (List α1)) (x:List Blk):List Blk:= .cells [.gslice 3 a.length 5,hsl 4 3 b]:: .dead:: .dead::x
abbrev kAU {α0:Type} (a:List α0) (x:List (Nat×AV)):List (Nat×AV):=(10,.gslice 0 a.length 5)::x
abbrev kAV {α0:Type} (a:List α0) (x:List (Nat×AV)):List (Nat×AV):=(4,.ptr 1 0)::(6,.oslice 2 a.length 9)::(7,.ptr 3 0)::x
abbrev kAW (a:List StateT) (x:List Blk):List Blk:= .cells (a.flatMap jI.c)::x
abbrev kAX {α0:Type} (a:List α0):List (Nat×AV):=[(9,.oslice 2 a.length 9)]
abbrev kAY (a:Int) (x:List (Nat×AV)):List (Nat×AV):=(8,.ptr 0 ((a:Int).toNat*9+0))::x
abbrev kAZ (x:List Blk):List Blk:= .cells [.nilslice]::x
abbrev kAa (a:Int) (b:Str) (c:List Str) (d:List Int) (e:Str) (x:List Blk):List Blk:= .cells (cF a b c d e):: .cells (cF a b c d e)::x
abbrev kAb (a:Int):List (Nat×AV):=[(5,.i a)]
abbrev kAc {α2:Type} (a:Str) (b:List Str) (c:List α2) (x:List Blk):List Blk:= .cells [.i 0,.str a,vl encS b,.gslice 2 c.length 1,.str []]::x
abbrev kAd {α0:Type} (a:List α0) (x:List Blk):List Blk:= .cells [.oslice 5 a.length 5]::x
abbrev kAe (a:Int) (b:List qc) (x:List AV):List AV:= .agg [.i a,vl qd b]::x
abbrev kAf (a:Str) (b:Str) (c:Int) (d:Int) (e:Int) (x:List Blk):List Blk:= .cells (cT a b c d e 0 0 0 false)::x
abbrev kAg (x:List Blk):List Blk:= .cells [.bool false,.nilslice]::x
abbrev kAh {α1:Type} (a:Int) (b:List α1) (x:List AV):List AV:= .agg [.i a,.slice 4 0 b.length b.length 9]::x
abbrev kAi (a:Int) (x:List (Nat×AV)):List (Nat×AV):=(1,.ptr 6 0)::(3,.i a)::x
abbrev kAj (a:List Str) (b:Int) (c:Int) (x:List (Nat×AV)):List (Nat×AV):=(72,vl encS a)::(73,.i b)::(74,.i c)::x
abbrev kAk:List (Nat×AV):=[(4,.bool true)]
abbrev kAl {α0:Type} (a:List α0) (x:List (Nat×AV)):List (Nat×AV):=(6,.slice 0 0 a.length a.length 1)::x
abbrev kAm (x:List Blk):List Blk:= .cells (([]:List Str).flatMap encS.c)::x
abbrev kAn (a:List Str) (x:List (Nat×AV)):List (Nat×AV):=(4,vl encS a)::(5,.ptr 1 0)::x
abbrev kAo (x:List (Nat×AV)):List (Nat×AV):=(13,.ptr 1 0)::(81,.slice 2 0 6 6 1)::(82,.i 6)::x
abbrev kAp:List AV:=[.bool true]
abbrev kAq {α0:Type} (a:List α0) (x:List (Nat×AV)):List (Nat×AV):=(5,.gslice 0 a.length 5)::x
abbrev kAr (a:Int) (b:Int) (x:List Blk):List Blk:= .cells [.i a,.i b]::x
abbrev kAs (a:Option (List qb)) (x:List Blk):List Blk:= .cells ((hof a).flatMap qa.c)::x
abbrev kAt (a:List qc) (b:Str) (c:Str) (d:Int) (e:Int) (f:Int) (g:Int) (h:Int) (i:Int) (j:Bool) (k:List qc):List Blk:=[bS a,.cells (cT b c d e f g h i j),bS k]
abbrev kAu (a:List qc) (x:List (Nat×AV)):List (Nat×AV):=(10,vl qd a)::x
abbrev kAv (a:Int):List (Nat×AV):=[(4,.i a)]
abbrev kAw (a:qc) (x:List Blk):List Blk:= .cells (cS a)::x
abbrev kAx (a:Int) (b:List qc):List AV:=[.i a,vl qd b]
abbrev kAy (a:Bool):List (Nat×AV):=[(4,.bool a)]
abbrev kAz {α1:Type} (a:Int) (b:List α1) (x:List (Nat×AV)):List (Nat×AV):=(0,.agg [.i a,.slice 0 0 b.length b.length 9])::x
abbrev kA0:List AV:=[.str [109,97,107,101],.str [116,101,115,116],.str [117,115,101],.str [102,97,105,108],.str [114,101,99,97,108,108],.str [117,110,100,111]]
abbrev kA1 (a:Int):List (Nat×AV):=[(11,.i a),(12,.i 0)]
abbrev kA2 (a:Str) (b:List Str):List (Nat×AV):=[(1,.str a),(7,vl encS b),(9,.bool true)]
abbrev kA3 (x:List (Nat×AV)):List (Nat×AV):=(4,.ptr 0 0)::x
abbrev kA4:List (Nat×AV):=[(5,.i 0)]
abbrev kA5 (a:List qb) (x:List AV):List AV:=vl qa a::x
abbrev kA6 (a:List qb) (b:Int) (x:List (Nat×AV)):List (Nat×AV):=(5,.ptr 0 0)::(14,vl qa a)::(15,.i b)::x
abbrev kA7 (x:List (Nat×AV)):List (Nat×AV):=(3,.ptr 1 0)::x
abbrev kA8 (a:List Str) (x:List (Nat×AV)):List (Nat×AV):=(1,vl encS a)::x
abbrev kA9 (a:Option (List Str)):List Blk:=[.cells ((hof a).flatMap encS.c)]
abbrev kBA (a:Int) (b:Int):List (Nat×AV):=[(4,.ptr 2 0),(6,.i a),(8,.ptr 5 0),(9,.i b)]
abbrev kBB {α0:Type} (a:List α0) (b:Int) (x:List (Nat×AV)):List (Nat×AV):=(3,.gslice 0 a.length 1)::(4,.i b)::x
abbrev kBC {α0:Type} (a:List α0) (b:Int) (x:List (Nat×AV)):List (Nat×AV):=(5,.gslice 1 a.length 1)::(6,.i b)::x
abbrev kBD (x:List AV):List AV:= .agg [.i 0,.i 0,.nilfunc]::x
abbrev kBE:List Blk:=[.cells [.i 0,.i 0,.nilfunc]]
abbrev kBF (a:List Str) (b:Int) (c:Int) (x:List (Nat×AV)):List (Nat×AV):=(54,vl encS a)::(55,.i b)::(56,.i c)::x
abbrev kBG (a:List Str) (x:List (Nat×AV)):List (Nat×AV):=(6,vl encS a)::(8,.ptr 1 0)::(11,.nilslice)::x
abbrev kBH (a:List qc) (b:Int) (x:List (Nat×AV)):List (Nat×AV):=(104,vl qd a)::(105,.i b)::x
abbrev kBI (a:Int) (b:Int):List (Nat×AV):=[(7,.i a),(8,.i b)]
abbrev kBJ (a:List Str) (b:Str) (x:List (Nat×AV)):List (Nat×AV):=(0,vl encS a)::(1,.str b)::x
abbrev kBK {α0:Type} (a:List α0):List (Nat×AV):=[(2,.ptr 1 0),(3,.slice 2 0 a.length a.length 9)]
abbrev kBL (x:List (Nat×AV)):List (Nat×AV):=(2,.slice 1 0 1 1 9)::(7,.i 1)::x
abbrev kBM:List AV:=[.bool false]
abbrev kBN (a:List qc) (x:List (Nat×AV)):List (Nat×AV):=(0,vl qd a)::x
abbrev kBO (a:List qc):List Blk:=[bZ,bS a]
abbrev kBP:List (Nat×AV):=[(3,.bool false)]
abbrev kBQ (a:List Int) (b:List Int) (x:List (Nat×AV)):List (Nat×AV):=(0,vl encI a)::(1,vl encI b)::x
abbrev kBR (a:Int) (b:Int) (c:Int) (d:Int) (e:Int) (f:Int) (x:List Blk):List Blk:= .cells [.i a,.i b,.i c,.i d,.i e,.i f]::x
abbrev kBS {α0:Type} (a:Option (List α0)) (x:List Blk):List Blk:= .cells [hsl 7 5 a]::x
abbrev kBT (a:List qc) (b:Int):List Blk:=[bS a,.cells [.i b,.slice 4 0 a.length a.length 9]]
abbrev kBU (a:Bool):List (Nat×AV):=[(8,.bool a)]
abbrev kBV (a:List qb) (x:List (Nat×AV)):List (Nat×AV):=(1,vl qa a)::x
abbrev kBW:List (Nat×AV):=[(4,.i 0)]
abbrev kBX (a:Int) (b:Str) (c:List Str) (d:List Int) (e:Str) (x:List Blk):List Blk:= .cells (cF a b c d e)::x
abbrev kBY (a:Int) (b:Int) (x:List (Nat×AV)):List (Nat×AV):=(11,.i a)::(12,.i b)::x
abbrev kBZ (x:List Blk):List Blk:= .dead:: .dead::x
abbrev kBa (a:List Str) (b:Int) (c:Int) (x:List (Nat×AV)):List (Nat×AV):=(46,vl encS a)::(47,.i b)::(48,.i c)::x
abbrev kBb (a:List Int) (b:Int) (c:Int) (x:List (Nat×AV)):List (Nat×AV):=(59,vl encI a)::(60,.i b)::(61,.i c)::x
abbrev kBc (a:Int) (b:Int):List (Nat×AV):=[(10,.i a),(11,.i b)]
abbrev kBd (x:List (Nat×AV)):List (Nat×AV):=(2,.ptr 1 0)::(4,.ptr 2 0)::x
abbrev kBe (a:Int) (x:List (Nat×AV)):List (Nat×AV):=(11,.ptr 7 0)::(12,.i a)::x
abbrev kBf (x:List (Nat×AV)):List (Nat×AV):=(3,.ptr 3 0)::x
abbrev kBg (a:Bool):List (Nat×AV):=[(10,.bool a)]
abbrev kBh:List (Nat×AV):=[(6,.bool true)]
abbrev kBi (a:Int):List (Nat×AV):=[(9,.i a)]
abbrev kBj {α0:Type} (a:List α0) (b:Int):List (Nat×AV):=[(9,.slice 0 0 a.length a.length 1),(10,.i b)]
abbrev kBk (x:List (Nat×AV)):List (Nat×AV):=(8,.ptr 1 0)::x
abbrev kBl (a:Bool) (b:List Int) (x:List Blk):List Blk:= .cells [.bool a,vl encI b]::x
abbrev kBm {α0:Type} (a:List α0) (x:List (Nat×AV)):List (Nat×AV):=(3,.gslice 1 a.length 1)::x
abbrev kBn {α1:Type} (a:Int) (b:List α1):List AV:=[.i a,.slice 4 0 b.length b.length 9]
abbrev kBo {α0:Type} (a:List α0) (x:List (Nat×AV)):List (Nat×AV):=(7,.gslice 1 a.length 5)::x
abbrev kBp {α0:Type} (a:List α0) (x:List (Nat×AV)):List (Nat×AV):=(7,.gslice 1 a.length 1)::x
abbrev kBq (x:List (Nat×AV)):List (Nat×AV):=(8,.ptr 0 0)::x
abbrev kBr (x:List (Nat×AV)):List (Nat×AV):=(4,.str [])::x
abbrev kBs (a:Int) (b:List qc) (x:List (Nat×AV)):List (Nat×AV):=(0,.agg [.i a,vl qd b])::x
abbrev kBt (a:Bool):List (Nat×AV):=[(9,.bool a)]
abbrev kBu (a:Int):List (Nat×AV):=[(6,.i a)]
abbrev kBv:List AV:=[.str [115,108,105,110,103],.str [115,108,105,110,103,115],.str [100,117,101]]
abbrev kBw (x:List Blk):List Blk:= .cells [.i 0]::x
abbrev kBx (a:List Int):List (Nat×AV):=[(0,vl encI a)]
abbrev kBy {α0:Type} (a:List α0) (x:List (Nat×AV)):List (Nat×AV):=(11,.oslice 0 a.length 1)::x
abbrev kBz (a:Int) (b:Int) (x:List (Nat×AV)):List (Nat×AV):=(0,.i a)::(1,.i b)::x
abbrev kB0 (a:Bool):List (Nat×AV):=[(13,.bool a)]
abbrev kB1 (x:List (Nat×AV)):List (Nat×AV):=(5,.ptr 3 0)::(6,.ptr 4 0)::x
abbrev kB2:List (Nat×AV):=[(2,.bool false)]
abbrev kB3 (x:List Blk):List Blk:= .cells (([]:List qb).flatMap qa.c)::x
abbrev kB4 (a:Int) (b:Int) (x:List Blk):List Blk:= .cells [.i a,.i b,.undef]::x
abbrev kB5 {α0:Type} (a:List α0) (x:List Blk):List Blk:= .cells [.gslice 1 a.length 5,.nilslice]::x
abbrev kB6 (a:Int) (b:Int) (x:List (Nat×AV)):List (Nat×AV):=(3,.i a)::(4,.i b)::x
abbrev kB7:List Blk:=[.cells (([]:List Int).flatMap encI.c)]
abbrev kB8 (x:List (Nat×AV)):List (Nat×AV):=(6,.ptr 0 0)::x
theorem jo:SlT Tryz.prog 22 26 5 88:=⟨by kernel_rfl,by kernel_rfl,by kernel_rfl,by kernel_rfl⟩
theorem ce9:CeT Tryz.prog 9:=⟨by kernel_rfl,by kernel_rfl⟩
theorem qgH:CeT Tryz.prog 23:=⟨by kernel_rfl,by kernel_rfl⟩
theorem qm2:CeT Tryz.prog 24:=⟨by kernel_rfl,by kernel_rfl⟩
theorem zi:SlT Tryz.prog 23 9 1 16:=⟨by kernel_rfl,by kernel_rfl,by kernel_rfl,by kernel_rfl⟩
theorem st9:Tryz.prog.underlying 9=some .string:=by kernel_rfl
theorem xI:SlT Tryz.prog 24 3 1 8:=⟨by kernel_rfl,by kernel_rfl,by kernel_rfl,by kernel_rfl⟩
theorem ce3:CeT Tryz.prog 3:=⟨by kernel_rfl,by kernel_rfl⟩
theorem qb2:SlT Tryz.prog 35 60 9 88:=⟨by kernel_rfl,by kernel_rfl,by kernel_rfl,by kernel_rfl⟩
theorem qjl:AgT Tryz.prog 26 5:=⟨by kernel_rfl,by kernel_rfl⟩
theorem qlj:AgT Tryz.prog 60 9:=⟨by kernel_rfl,by kernel_rfl⟩
theorem sl218:SlT Tryz.prog 218 32 1 8:=⟨by kernel_rfl,by kernel_rfl,by kernel_rfl,by kernel_rfl⟩
theorem ce32:CeT Tryz.prog 32:=⟨by kernel_rfl,by kernel_rfl⟩
theorem qcx:SlT Tryz.prog 29 68 9 88:=⟨by kernel_rfl,by kernel_rfl,by kernel_rfl,by kernel_rfl⟩
theorem qlk:AgT Tryz.prog 68 9:=⟨by kernel_rfl,by kernel_rfl⟩
theorem xJ:qn4 Tryz.prog 154 9 152 (.agg [.i 0,.i 0,.nilfunc]):=⟨by kernel_rfl,by kernel_rfl,by kernel_rfl⟩
noncomputable abbrev qf:Code:=(Tryz.f43.body.getD .skip).x2.x2.x2.x2.x1.x2.x1
theorem qmn:MpT Tryz.prog 65 9 3 .string (.i 0):=⟨by kernel_rfl,by kernel_rfl,by kernel_rfl⟩
theorem qpD:SlT Tryz.prog 277 23 1 24:=⟨by kernel_rfl,by kernel_rfl,by kernel_rfl,by kernel_rfl⟩
theorem it3:Tryz.prog.underlying 3=some (.int .i64):=by kernel_rfl
theorem qmh:SlT Tryz.prog 163 167 3 40:=⟨by kernel_rfl,by kernel_rfl,by kernel_rfl,by kernel_rfl⟩
theorem ag31:AgT Tryz.prog 31 2:=⟨by kernel_rfl,by kernel_rfl⟩
theorem ql9:qn4 Tryz.prog 194 9 192 (.agg [.i 0,.nilfunc]):=⟨by kernel_rfl,by kernel_rfl,by kernel_rfl⟩
abbrev fm1:AV:= .fmap kA0 (.agg [.i 2,.i 3,.func (.func 141) [] []]:: .agg [.i 1,.i 2,.func (.func 142) [] []]:: .agg [.i 1,.i 2,.func (.func 143) [] []]:: .agg [.i 1,.i 1,.func (.func 144) [] []]:: .agg [.i 1,.i 1,.func (.func 145) [] []]::(kBD []))
instance:SC 12 fm1:=⟨Still.fmap SX.h (AllST.cons SC.h (AllST.cons SC.h (AllST.cons SC.h (AllST.cons SC.h (AllST.cons SC.h (AllST.cons SC.h AllST.nil))))))⟩
abbrev fm2:AV:= .fmap kBv [.agg [.i 1,.func (.func 161) [] []],.agg [.i 0,.func (.func 162) [] []],.agg [.i 1,.func (.func 163) [] []]]
instance:SC 12 fm2:=⟨Still.fmap SX.h (AllST.cons SC.h (AllST.cons SC.h (AllST.cons SC.h AllST.nil)))⟩
def zg (l:List qb) (n2:Int):Nat→Int→Option (Unit⊕Bool)
 |0,_=>none
 |K+1,n13=>
  (idx l n2).bind fun x16=>
  if n13<(x16.Names.length:Int)then
  (idx x16.Names n13).bind fun x18=>
  if(x18.length:Int)>60 then
  some (.inr false)
  else
  zg l n2 K (w64 (n13+1))
  else
  some (.inl ())
def zh (N:Nat) (l:List qb):Nat→Int→Option (Unit⊕Bool)
 |0,_=>none
 |K+1,n2=>
  if n2<(l.length:Int)then
  ((idx l n2).bind fun x6=>
  if(x6.Kind.length:Int)>60 then
  some true
  else
  if(x6.Names.length:Int)>5 then
  some true
  else
  if(x6.Values.length:Int)>5 then
  some true
  else
  some (decide ((x6.Text.length:Int)>60)):Option Bool).bind fun b10=>
  if b10=true then
  some (.inr false)
  else
  (zg l n2 N 0).bind (fun
  |(.inl ())=>
  zh N l K (w64 (n2+1))
  |(.inr q20)=>
  some (.inr q20))
  else
  some (.inl ())
def vZ (N:Nat) (l:List qb) (n:Int):Option Bool:=
 if(l.length:Int)>n then
 some false
 else
 (zh N l N 0).bind (fun
 |(.inl ())=>
 some true
 |(.inr q21)=>
 some q21)
theorem qek (N:Nat) (l:List qb) (n:Int) {res:Bool} (h:vZ N l n=some res):qg Tryz.prog (.fn 14) (kA5 l [.i n]) [] (.bool res) []:=by
 unfold vZ at h
 refine Goes.fnW Tryz.func14 rfl rfl (m:=71) rfl (rs:=[.tmp 4]) rfl (l:=(kL l [(1,.i n)])) rfl ?_
 refine sh fol (kL l [(1,.i n)]) ?_
 refine sq ?_
 refine sh fol (kL l (kBg (decide ((l.length:Int)>n)))) ?_
 refine ihD h (fun c1 h=>?_) (fun c1 h=>?_)
 ·refine sh fol kAN ?_
  refine Goes.ret ?_
  obtain rfl:=si h
  exact(gw2 [.bool false] (FzW.still tB))
 ·refine Goes.skip ?_
  refine sq ?_
  refine sh fol (kL l kA4) ?_
  refine Goes.block ?_
  obtain⟨r3,g3,h⟩:=bnd h
  refine Goes.imp (Q:=fun x s'=>(x= .exit 0∧(.inl ())=r3∧Sub s' (ofG 71 [],[]))∨(x= .ret∧ ∃q4,(.inr q4)=r3∧qW Tryz.prog [.tmp 4] (.bool q4) .ret s')) ?_ ?_
  ·refine Goes.loopS (fun M s=> ∃(n2:Int),s=(ofG 71 (kL l (kAb n2)),[])∧zh N l M n2=some r3) ?_ (m:=N) ⟨_,rfl,g3⟩
   rintro M s ⟨n2,rfl,g3⟩
   cases M with
   |zero=>simp only[zh]at g3;cases g3
   |succ M=>
    rw[zh]at g3
    refine sq ?_
    refine sh fol (kL l [(5,.i n2),(14,.bool (decide (n2<(l.length:Int))))]) ?_
    refine ihD g3 (fun c5 g3=>?_) (fun c5 g3=>?_)
    ·refine Goes.skip ?_
     refine sq (Goes.block ?_)
     refine sq ?_
     refine sq ?_
     obtain⟨b10,g_v11,g3⟩:=bnd g3
     refine Goes.cut (s':=(ofG 71 (kL l [(5,.i n2),(50,.bool b10)]),[])) ?_ ?_
     ·obtain⟨x6,e_x6,g_v11⟩:=bnd g_v11
      rcases wyD g_v11 with⟨c7,g_v11⟩|⟨c7,g_v11⟩
      ·obtain rfl:=si g_v11
       exact tr fol [2,4,7] (kL l [(5,.i n2),(50,.bool true)]) (ac (iv jo qa e_x6) (ac (lv 1 ce9 qa e_x6 rfl) (ac (gw c7) az)))
      ·rcases wyD g_v11 with⟨c8,g_v11⟩|⟨c8,g_v11⟩
       ·obtain rfl:=si g_v11
        exact tr fol [2,4,7,10,12,16] (kL l [(5,.i n2),(50,.bool true)]) (ac (iv jo qa e_x6) (ac (lv 1 ce9 qa e_x6 rfl) (ac (gw c7) (ac (iv jo qa e_x6) (ac (lv 2 qgH qa e_x6 rfl) (ac (gw c8) az))))))
       ·rcases wyD g_v11 with⟨c9,g_v11⟩|⟨c9,g_v11⟩
        ·obtain rfl:=si g_v11
         exact tr fol [2,4,7,10,12,16,19,21,25] (kL l [(5,.i n2),(50,.bool true)]) (ac (iv jo qa e_x6) (ac (lv 1 ce9 qa e_x6 rfl) (ac (gw c7) (ac (iv jo qa e_x6) (ac (lv 2 qgH qa e_x6 rfl) (ac (gw c8) (ac (iv jo qa e_x6) (ac (lv 3 qm2 qa e_x6 rfl) (ac (gw c9) az)))))))))
        ·obtain rfl:=si g_v11
         exact tr fol [2,4,7,10,12,16,19,21,25,28,30] (kL l [(5,.i n2),(50,.bool (decide ((x6.Text.length:Int)>60)))]) (ac (iv jo qa e_x6) (ac (lv 1 ce9 qa e_x6 rfl) (ac (gw c7) (ac (iv jo qa e_x6) (ac (lv 2 qgH qa e_x6 rfl) (ac (gw c8) (ac (iv jo qa e_x6) (ac (lv 3 qm2 qa e_x6 rfl) (ac (gw c9) (ac (iv jo qa e_x6) (ac (lv 4 ce9 qa e_x6 rfl) az)))))))))))
     refine ihB g3 (fun c12 g3=>?_) (fun c12 g3=>?_)
     ·refine sh fol kAN ?_
      refine Goes.ret ?_
      obtain rfl:=si g3
      exact Or.inr (⟨rfl,_,rfl,(gw2 [.bool false] (FzW.still tB))⟩)
     ·refine Goes.skip ?_
      refine sh fol (kL l [(5,.i n2),(6,.i 0)]) ?_
      refine Goes.block ?_
      obtain⟨r14,g14,g3⟩:=bnd g3
      refine Goes.imp (Q:=fun x s'=>(x= .exit 2∧(.inl ())=r14∧Sub s' (ofG 71 (kL l (kAb n2)),[]))∨(x= .ret∧ ∃q15,(.inr q15)=r14∧qW Tryz.prog [.tmp 4] (.bool q15) .ret s')) ?_ ?_
      ·refine Goes.loopS (fun M s=> ∃(n13:Int),s=(ofG 71 (kL l ((5,.i n2)::(kBu n13))),[])∧zg l n2 M n13=some r14) ?_ (m:=N) ⟨_,rfl,g14⟩
       rintro M s ⟨n13,rfl,g14⟩
       cases M with
       |zero=>simp only[zg]at g14;cases g14
       |succ M=>
        rw[zg]at g14
        refine sq ?_
        obtain⟨x16,e_x16,g14⟩:=bnd g14
        refine sq (gr fol [3,5] (kL l [(5,.i n2),(6,.i n13),(58,.bool (decide (n13<(x16.Names.length:Int))))]) (ac (iv jo qa e_x16) (ac (lv 2 qgH qa e_x16 rfl) az)) ?_)
        refine ihD g14 (fun c17 g14=>?_) (fun c17 g14=>?_)
        ·refine Goes.skip ?_
         refine sq (Goes.block ?_)
         obtain⟨x18,e_x18,g14⟩:=bnd g14
         refine sq (gr fol [2,4,6,7] (kL l [(5,.i n2),(6,.i n13),(70,.bool (decide ((x18.length:Int)>60)))]) (ac (iv jo qa e_x16) (ac (lv 2 qgH qa e_x16 rfl) (ac (iv zi encS e_x18) (ac (lv 0 ce9 encS e_x18 rfl) az)))) ?_)
         refine ihD g14 (fun c19 g14=>?_) (fun c19 g14=>?_)
         ·refine sh fol kAN ?_
          refine Goes.ret ?_
          obtain rfl:=si g14
          exact Or.inr (⟨rfl,_,rfl,(gw2 [.bool false] (FzW.still tB))⟩)
         ·refine Goes.skip ?_
          refine gh fol (kL l ((5,.i n2)::(kBu (w64 (n13+1))))) ?_
          exact⟨M,(ofG 71 (kL l ((5,.i n2)::(kBu (w64 (n13+1))))),[]),Nat.lt_succ_self _,(Sub.refl _),_,rfl,g14⟩
        ·refine Goes.exit ?_
         obtain rfl:=si g14
         exact Or.inl (⟨rfl,rfl,(Sub.keep [0,5] rfl rfl)⟩)
      rintro x s' (⟨rfl,rfl,hsub⟩|⟨rfl,q20,rfl,hret⟩)
      ·try dsimp only at g3
       refine Goes.sub hsub ?_
       refine gh fol (kL l (kAb (w64 (n2+1)))) ?_
       exact⟨M,(ofG 71 (kL l (kAb (w64 (n2+1)))),[]),Nat.lt_succ_self _,(Sub.refl _),_,rfl,g3⟩
      ·try dsimp only at g3
       obtain rfl:=si g3
       exact Or.inr (⟨rfl,_,rfl,hret⟩)
    ·refine Goes.exit ?_
     obtain rfl:=si g3
     exact Or.inl (⟨rfl,rfl,(Sub.keep [] rfl rfl)⟩)
  rintro x s' (⟨rfl,rfl,hsub⟩|⟨rfl,q21,rfl,hret⟩)
  ·try dsimp only at h
   refine Goes.sub hsub ?_
   refine sh fol kAk ?_
   refine Goes.ret ?_
   obtain rfl:=si h
   exact(gw2 [.bool true] (FzW.still tB))
  ·try dsimp only at h
   obtain rfl:=si h
   exact hret
def jD (n:Int) (low:Int) (high:Int):Option Bool:=
 (if n<low then
 some true
 else
 some (decide (n>high)):Option Bool).bind fun b2=>
 some b2
theorem jf (n:Int) (low:Int) (high:Int) {res:Bool} (h:jD n low high=some res):qg Tryz.prog (.fn 36) [.i n,.i low,.i high] [] (.bool res) []:=by
 unfold jD at h
 refine Goes.fnW Tryz.func36 rfl rfl (m:=15) rfl (rs:=[.tmp 6]) rfl (l:=(kBz n low [(2,.i high)])) rfl ?_
 refine sh fol (kBz n low [(2,.i high)]) ?_
 refine sq ?_
 obtain⟨b2,g_v3,h⟩:=bnd h
 refine Goes.cut (s':=(ofG 15 [(6,.bool b2)],[])) ?_ ?_
 ·rcases wyD g_v3 with⟨c1,g_v3⟩|⟨c1,g_v3⟩
  ·obtain rfl:=si g_v3
   exact tr fol [3] kBh (ac (gw c1) az)
  ·obtain rfl:=si g_v3
   exact tr fol [3] [(6,.bool (decide (n>high)))] (ac (gw c1) az)
 refine Goes.ret ?_
 obtain rfl:=si h
 exact(gw2 [.bool b2] (FzW.still tB))
def yj (s_:Str):Nat→Int→Option (Unit⊕Bool)
 |0,_=>none
 |K+1,n5=>
  if n5<(s_.length:Int)then
  (idx s_ n5).bind fun c9=>
  (if(c9.toNat:Int)≥97 then
  if(c9.toNat:Int)≤122 then
  some true
  else
  if(c9.toNat:Int)≥65 then
  some (decide ((c9.toNat:Int)≤90))
  else
  some false
  else
  if(c9.toNat:Int)≥65 then
  some (decide ((c9.toNat:Int)≤90))
  else
  some false:Option Bool).bind fun b14=>
  (if(!b14)=true then
  if n5=0 then
  some true
  else
  if(c9.toNat:Int)≥48 then
  if(c9.toNat:Int)≤57 then
  some false
  else
  some (!(decide ((c9.toNat:Int)=95)))
  else
  some (!(decide ((c9.toNat:Int)=95)))
  else
  some false:Option Bool).bind fun b20=>
  if b20=true then
  some (.inr false)
  else
  yj s_ K (w64 (n5+1))
  else
  some (.inl ())
def qbk (N:Nat) (s_:Str):Option Bool:=
 (if(s_.length:Int)<1 then
 some true
 else
 some (decide ((s_.length:Int)>24)):Option Bool).bind fun b2=>
 if b2=true then
 some false
 else
 (yj s_ N 0).bind (fun
 |(.inl ())=>
 some true
 |(.inr q23)=>
 some q23)
theorem qg6 (N:Nat) (s_:Str) {res:Bool} (h:qbk N s_=some res):qg Tryz.prog (.fn 47) [.str s_] [] (.bool res) []:=by
 unfold qbk at h
 refine Goes.fnW Tryz.func47 rfl rfl (m:=56) rfl (rs:=[.tmp 2]) rfl (l:=(kAJ s_ [])) rfl ?_
 refine sh fol (kAJ s_ []) ?_
 refine sq ?_
 refine sq ?_
 obtain⟨b2,g_v3,h⟩:=bnd h
 refine Goes.cut (s':=(ofG 56 (kAJ s_ (kB0 b2)),[])) ?_ ?_
 ·rcases wyD g_v3 with⟨c1,g_v3⟩|⟨c1,g_v3⟩
  ·obtain rfl:=si g_v3
   exact tr fol [3] (kAJ s_ [(13,.bool true)]) (ac (gw c1) az)
  ·obtain rfl:=si g_v3
   exact tr fol [3] (kAJ s_ (kB0 (decide ((s_.length:Int)>24)))) (ac (gw c1) az)
 refine ihB h (fun c4 h=>?_) (fun c4 h=>?_)
 ·refine sh fol kB2 ?_
  refine Goes.ret ?_
  obtain rfl:=si h
  exact(gw2 [.bool false] (FzW.still tB))
 ·refine Goes.skip ?_
  refine sq ?_
  refine sh fol (kAJ s_ [(3,.i 0)]) ?_
  refine Goes.block ?_
  obtain⟨r6,g6,h⟩:=bnd h
  refine Goes.imp (Q:=fun x s'=>(x= .exit 0∧(.inl ())=r6∧Sub s' (ofG 56 [],[]))∨(x= .ret∧ ∃q7,(.inr q7)=r6∧qW Tryz.prog [.tmp 2] (.bool q7) .ret s')) ?_ ?_
  ·refine Goes.loopS (fun M s=> ∃(n5:Int),s=(ofG 56 (kAJ s_ [(3,.i n5)]),[])∧yj s_ M n5=some r6) ?_ (m:=N) ⟨_,rfl,g6⟩
   rintro M s ⟨n5,rfl,g6⟩
   cases M with
   |zero=>simp only[yj]at g6;cases g6
   |succ M=>
    rw[yj]at g6
    refine sq ?_
    refine sh fol (kAJ s_ [(3,.i n5),(17,.bool (decide (n5<(s_.length:Int))))]) ?_
    refine ihD g6 (fun c8 g6=>?_) (fun c8 g6=>?_)
    ·refine Goes.skip ?_
     refine sq (Goes.block ?_)
     obtain⟨c9,e_c9,g6⟩:=bnd g6
     refine sq (gr fol [2] (kAJ s_ [(3,.i n5),(4,.int .u8 (c9.toNat:Int))]) (ac (hs (.done (.opt (vQ Tryz.prog 9 (.str s_) (.i n5))) (.int .u8 (c9.toNat:Int))) (xz st9 e_c9)) az) ?_)
     refine sq ?_
     obtain⟨b14,g_v15,g6⟩:=bnd g6
     refine Goes.cut (s':=(ofG 56 (kAJ s_ [(3,.i n5),(4,.int .u8 (c9.toNat:Int)),(5,.bool b14)]),[])) ?_ ?_
     ·rcases wyD g_v15 with⟨c10,g_v15⟩|⟨c10,g_v15⟩
      ·rcases wyD g_v15 with⟨c11,g_v15⟩|⟨c11,g_v15⟩
       ·obtain rfl:=si g_v15
        exact tr fol [2,6] (kAJ s_ [(3,.i n5),(4,.int .u8 (c9.toNat:Int)),(5,.bool true)]) (ac (gw c10) (ac (gw c11) az))
       ·rcases wyD g_v15 with⟨c12,g_v15⟩|⟨c12,g_v15⟩
        ·obtain rfl:=si g_v15
         exact tr fol [2,6,9] (kAJ s_ [(3,.i n5),(4,.int .u8 (c9.toNat:Int)),(5,.bool (decide ((c9.toNat:Int)≤90)))]) (ac (gw c10) (ac (gw c11) (ac (gw c12) az)))
        ·obtain rfl:=si g_v15
         exact tr fol [2,6,9] (kAJ s_ [(3,.i n5),(4,.int .u8 (c9.toNat:Int)),(5,.bool false)]) (ac (gw c10) (ac (gw c11) (ac (gw c12) az)))
      ·rcases wyD g_v15 with⟨c13,g_v15⟩|⟨c13,g_v15⟩
       ·obtain rfl:=si g_v15
        exact tr fol [2,9] (kAJ s_ [(3,.i n5),(4,.int .u8 (c9.toNat:Int)),(5,.bool (decide ((c9.toNat:Int)≤90)))]) (ac (gw c10) (ac (gw c13) az))
       ·obtain rfl:=si g_v15
        exact tr fol [2,9] (kAJ s_ [(3,.i n5),(4,.int .u8 (c9.toNat:Int)),(5,.bool false)]) (ac (gw c10) (ac (gw c13) az))
     refine sq ?_
     obtain⟨b20,g_v21,g6⟩:=bnd g6
     refine Goes.cut (s':=(ofG 56 (kAJ s_ [(3,.i n5),(55,.bool b20)]),[])) ?_ ?_
     ·rcases wyB g_v21 with⟨c16,g_v21⟩|⟨c16,g_v21⟩
      ·rcases wyD g_v21 with⟨c17,g_v21⟩|⟨c17,g_v21⟩
       ·obtain rfl:=si g_v21
        exact tr fol [2,5] (kAJ s_ [(3,.i n5),(55,.bool true)]) (ac (gw c16) (ac (gw c17) az))
       ·rcases wyD g_v21 with⟨c18,g_v21⟩|⟨c18,g_v21⟩
        ·rcases wyD g_v21 with⟨c19,g_v21⟩|⟨c19,g_v21⟩
         ·obtain rfl:=si g_v21
          exact tr fol [2,5,8,12] (kAJ s_ [(3,.i n5),(55,.bool false)]) (ac (gw c16) (ac (gw c17) (ac (gw c18) (ac (gw c19) az))))
         ·obtain rfl:=si g_v21
          exact tr fol [2,5,8,12] (kAJ s_ [(3,.i n5),(55,.bool (!(decide ((c9.toNat:Int)=95))))]) (ac (gw c16) (ac (gw c17) (ac (gw c18) (ac (gw c19) az))))
        ·obtain rfl:=si g_v21
         exact tr fol [2,5,8] (kAJ s_ [(3,.i n5),(55,.bool (!(decide ((c9.toNat:Int)=95))))]) (ac (gw c16) (ac (gw c17) (ac (gw c18) az)))
      ·obtain rfl:=si g_v21
       exact tr fol [2] (kAJ s_ [(3,.i n5),(55,.bool false)]) (ac (gw c16) az)
     refine ihB g6 (fun c22 g6=>?_) (fun c22 g6=>?_)
     ·refine sh fol kB2 ?_
      refine Goes.ret ?_
      obtain rfl:=si g6
      exact Or.inr (⟨rfl,_,rfl,(gw2 [.bool false] (FzW.still tB))⟩)
     ·refine Goes.skip ?_
      refine gh fol (kAJ s_ [(3,.i (w64 (n5+1)))]) ?_
      exact⟨M,(ofG 56 (kAJ s_ [(3,.i (w64 (n5+1)))]),[]),Nat.lt_succ_self _,(Sub.refl _),_,rfl,g6⟩
    ·refine Goes.exit ?_
     obtain rfl:=si g6
     exact Or.inl (⟨rfl,rfl,(Sub.keep [] rfl rfl)⟩)
  rintro x s' (⟨rfl,rfl,hsub⟩|⟨rfl,q23,rfl,hret⟩)
  ·try dsimp only at h
   refine Goes.sub hsub ?_
   refine sh fol [(2,.bool true)] ?_
   refine Goes.ret ?_
   obtain rfl:=si h
   exact(gw2 [.bool true] (FzW.still tB))
  ·try dsimp only at h
   obtain rfl:=si h
   exact hret
def qa3 (kind:Str):Option (Int×Int×Bool):=
 if(kind==[109,97,107,101])=true then
 some (2,3,true)
 else
 ((if(kind==[116,101,115,116])=true then
 some (kind==[116,101,115,116])
 else
 some (kind==[117,115,101]):Option Bool)).bind fun b2=>
 if b2=true then
 some (1,2,true)
 else
 ((if(kind==[102,97,105,108])=true then
 some (kind==[102,97,105,108])
 else
 some (kind==[114,101,99,97,108,108]):Option Bool)).bind fun b6=>
 if b6=true then
 some (1,1,true)
 else
 if(kind==[117,110,100,111])=true then
 some (0,0,true)
 else
 some (0,0,false)
theorem qcV (kind:Str) {res:Int×Int×Bool} (h:qa3 kind=some res):qg Tryz.prog (.fn 90) [.str kind] [] (.tuple [.i res.1,.i res.2.1,.bool res.2.2]) []:=by
 unfold qa3 at h
 refine Goes.fnW Tryz.func90 rfl rfl (m:=16) rfl (rs:=[.tmp 2,.tmp 3,.tmp 4]) rfl (l:=(kAJ kind [])) rfl ?_
 refine sh fol (kAJ kind []) ?_
 refine sq ?_
 refine sh fol [(5,.str kind)] ?_
 refine Goes.block ?_
 refine sh fol [(5,.str kind),(6,.bool (kind==[109,97,107,101]))] ?_
 refine ihB h (fun c1 h=>?_) (fun c1 h=>?_)
 ·refine sh fol ((2,.i 2)::(3,.i 3)::kAk) ?_
  refine Goes.ret ?_
  obtain rfl:=si h
  exact(gw2 (.i 2:: .i 3::kAp) (FzW.tuple (qh.cons (FzW.still tI) (qh.cons (FzW.still tI) (qh.cons (FzW.still tB) qh.nil)))))
 ·refine sq ?_
  refine sh fol ((5,.str kind)::(kBU (kind==[116,101,115,116]))) ?_
  obtain⟨r3,g3,h⟩:=bnd h
  refine Goes.imp (Q:=fun x s'=>(x= .normal∧ ∃b2,b2=r3∧Sub s' (ofG 16 ((5,.str kind)::(kBU b2)),[]))) ?_ ?_
  ·refine ihB g3 (fun c4 g3=>?_) (fun c4 g3=>?_)
   ·refine Goes.skip ?_
    obtain rfl:=si g3
    exact⟨rfl,_,rfl,(Sub.refl _)⟩
   ·refine gh fol ((5,.str kind)::(kBU (kind==[117,115,101]))) ?_
    obtain rfl:=si g3
    exact⟨rfl,_,rfl,(Sub.refl _)⟩
  rintro x s' ⟨rfl,b2,rfl,hsub⟩
  refine Goes.sub hsub ?_
  refine ihB h (fun c5 h=>?_) (fun c5 h=>?_)
  ·refine sh fol ((2,.i 1)::(3,.i 2)::kAk) ?_
   refine Goes.ret ?_
   obtain rfl:=si h
   exact(gw2 (.i 1:: .i 2::kAp) (FzW.tuple (qh.cons (FzW.still tI) (qh.cons (FzW.still tI) (qh.cons (FzW.still tB) qh.nil)))))
  ·refine sq ?_
   refine sh fol [(5,.str kind),(11,.bool (kind==[102,97,105,108]))] ?_
   obtain⟨r7,g7,h⟩:=bnd h
   refine Goes.imp (Q:=fun x s'=>(x= .normal∧ ∃b6,b6=r7∧Sub s' (ofG 16 [(5,.str kind),(11,.bool b6)],[]))) ?_ ?_
   ·refine ihB g7 (fun c8 g7=>?_) (fun c8 g7=>?_)
    ·refine Goes.skip ?_
     obtain rfl:=si g7
     exact⟨rfl,_,rfl,(Sub.refl _)⟩
    ·refine gh fol [(5,.str kind),(11,.bool (kind==[114,101,99,97,108,108]))] ?_
     obtain rfl:=si g7
     exact⟨rfl,_,rfl,(Sub.refl _)⟩
   rintro x s' ⟨rfl,b6,rfl,hsub⟩
   refine Goes.sub hsub ?_
   refine ihB h (fun c9 h=>?_) (fun c9 h=>?_)
   ·refine sh fol ((2,.i 1)::(3,.i 1)::kAk) ?_
    refine Goes.ret ?_
    obtain rfl:=si h
    exact(gw2 (.i 1:: .i 1::kAp) (FzW.tuple (qh.cons (FzW.still tI) (qh.cons (FzW.still tI) (qh.cons (FzW.still tB) qh.nil)))))
   ·refine sh fol [(14,.bool (kind==[117,110,100,111]))] ?_
    refine ihB h (fun c10 h=>?_) (fun c10 h=>?_)
    ·refine sh fol ((2,.i 0)::(3,.i 0)::kAk) ?_
     refine Goes.ret ?_
     obtain rfl:=si h
     exact(gw2 (.i 0:: .i 0::kAp) (FzW.tuple (qh.cons (FzW.still tI) (qh.cons (FzW.still tI) (qh.cons (FzW.still tB) qh.nil)))))
    ·refine Goes.skip ?_
     refine sh fol ((2,.i 0)::(3,.i 0)::kAN) ?_
     refine Goes.ret ?_
     obtain rfl:=si h
     exact(gw2 (.i 0:: .i 0::kBM) (FzW.tuple (qh.cons (FzW.still tI) (qh.cons (FzW.still tI) (qh.cons (FzW.still tB) qh.nil)))))
def jl (N:Nat) (e:qb) (r3:Int×Int×Bool):Nat→Int→Option (Unit⊕Int)
 |0,_=>none
 |K+1,n9=>
  if n9<r3.1 then
  (idx e.Names n9).bind fun x13=>
  (qbk N x13).bind fun r14=>
  if(!r14)=true then
  some (.inr 8)
  else
  jl N e r3 K (w64 (n9+1))
  else
  some (.inl ())
def jk (e:qb) (r3:Int×Int×Bool):Nat→Int→Option (Unit⊕Int)
 |0,_=>none
 |K+1,n16=>
  if n16<r3.2.1 then
  (idx e.Values n16).bind fun x20=>
  (jD x20 0 999999999).bind fun r21=>
  if r21=true then
  some (.inr 3)
  else
  jk e r3 K (w64 (n16+1))
  else
  some (.inl ())
def vw (N:Nat) (e:qb):Option Int:=
 (jD e.Number 1 1000).bind fun r1=>
 if r1=true then
 some 3
 else
 (qa3 e.Kind).bind fun r3=>
 if(!r3.2.2)=true then
 some 13
 else
 (if(!decide ((e.Names.length:Int)=r3.1))=true then
 some true
 else
 some (!decide ((e.Values.length:Int)=r3.2.1)):Option Bool).bind fun b6=>
 if b6=true then
 some 2
 else
 (jl N e r3 N 0).bind (fun
 |(.inl ())=>
 (jk e r3 N 0).bind (fun
 |(.inl ())=>
 if(!(e.Text==[]))=true then
 some 1
 else
 some 0
 |(.inr q24)=>
 some q24)
 |(.inr q25)=>
 some q25)
theorem qaM (N:Nat) (e:qb) {res:Int} (h:vw N e=some res):qg Tryz.prog (.fn 19) [.agg (cE e)] [] (.i res) []:=by
 unfold vw at h
 refine Goes.fnW Tryz.func19 rfl rfl (m:=58) rfl (rs:=[.tmp 2]) rfl (l:=[(0,.agg (cE e))]) rfl ?_
 refine sg fol (kV []) (kQ e []) ?_
 refine sq ?_
 obtain⟨r1,e_r1,h⟩:=bnd h
 refine sq (gr fol [2] (kV (kBg r1)) (ac (cv (jf e.Number 1 1000 e_r1)) az) ?_)
 refine ihB h (fun c2 h=>?_) (fun c2 h=>?_)
 ·refine sh fol [(2,.i 3)] ?_
  refine Goes.ret ?_
  obtain rfl:=si h
  exact(gw2 [.i 3] (FzW.still tI))
 ·refine Goes.skip ?_
  obtain⟨r3,e_r3,h⟩:=bnd h
  refine sq (gr fol [2] (kV (kB6 r3.1 r3.2.1 [(5,.bool r3.2.2)])) (ac (cv (qcV e.Kind e_r3)) az) ?_)
  refine sq ?_
  refine sh fol (kV (kB6 r3.1 r3.2.1 [(19,.bool (!r3.2.2))])) ?_
  refine ihB h (fun c4 h=>?_) (fun c4 h=>?_)
  ·refine sh fol [(2,.i 13)] ?_
   refine Goes.ret ?_
   obtain rfl:=si h
   exact(gw2 [.i 13] (FzW.still tI))
  ·refine Goes.skip ?_
   refine sq ?_
   refine sq ?_
   obtain⟨b6,g_v7,h⟩:=bnd h
   refine Goes.cut (s':=(ofG 58 (kV (kB6 r3.1 r3.2.1 [(31,.bool b6)])),(kQ e []))) ?_ ?_
   ·rcases wyB g_v7 with⟨c5,g_v7⟩|⟨c5,g_v7⟩
    ·obtain rfl:=si g_v7
     exact tr fol [5] (kV (kB6 r3.1 r3.2.1 [(31,.bool true)])) (ac (gw c5) az)
    ·obtain rfl:=si g_v7
     exact tr fol [5] (kV (kB6 r3.1 r3.2.1 [(31,.bool (!decide ((e.Values.length:Int)=r3.2.1)))])) (ac (gw c5) az)
   refine ihB h (fun c8 h=>?_) (fun c8 h=>?_)
   ·refine sh fol [(2,.i 2)] ?_
    refine Goes.ret ?_
    obtain rfl:=si h
    exact(gw2 [.i 2] (FzW.still tI))
   ·refine Goes.skip ?_
    refine sq ?_
    refine sh fol (kV (kB6 r3.1 r3.2.1 [(6,.i 0)])) ?_
    refine Goes.block ?_
    obtain⟨r10,g10,h⟩:=bnd h
    refine Goes.imp (Q:=fun x s'=>(x= .exit 0∧(.inl ())=r10∧Sub s' (ofG 58 (kV (kAv r3.2.1)),(kQ e [])))∨(x= .ret∧ ∃q11,(.inr q11)=r10∧qW Tryz.prog [.tmp 2] (.i q11) .ret s')) ?_ ?_
    ·refine Goes.loopS (fun M s=> ∃(n9:Int),s=(ofG 58 (kV (kB6 r3.1 r3.2.1 (kBu n9))),(kQ e []))∧jl N e r3 M n9=some r10) ?_ (m:=N) ⟨_,rfl,g10⟩
     rintro M s ⟨n9,rfl,g10⟩
     cases M with
     |zero=>simp only[jl]at g10;cases g10
     |succ M=>
      rw[jl]at g10
      refine sq ?_
      refine sh fol (kV (kB6 r3.1 r3.2.1 [(6,.i n9),(34,.bool (decide (n9<r3.1)))])) ?_
      refine ihD g10 (fun c12 g10=>?_) (fun c12 g10=>?_)
      ·refine Goes.skip ?_
       refine sq (Goes.block ?_)
       obtain⟨x13,e_x13,g10⟩:=bnd g10
       obtain⟨r14,e_r14,g10⟩:=bnd g10
       refine sq (gr fol [3,4,5] (kV (kB6 r3.1 r3.2.1 [(6,.i n9),(43,.bool (!r14))])) (ac (iv zi encS e_x13) (ac (lv 0 ce9 encS e_x13 rfl) (ac (cv (qg6 N x13 e_r14)) az))) ?_)
       refine ihB g10 (fun c15 g10=>?_) (fun c15 g10=>?_)
       ·refine sh fol [(2,.i 8)] ?_
        refine Goes.ret ?_
        obtain rfl:=si g10
        exact Or.inr (⟨rfl,_,rfl,(gw2 [.i 8] (FzW.still tI))⟩)
       ·refine Goes.skip ?_
        refine gh fol (kV (kB6 r3.1 r3.2.1 (kBu (w64 (n9+1))))) ?_
        exact⟨M,(ofG 58 (kV (kB6 r3.1 r3.2.1 (kBu (w64 (n9+1))))),(kQ e [])),Nat.lt_succ_self _,(Sub.refl _),_,rfl,g10⟩
      ·refine Goes.exit ?_
       obtain rfl:=si g10
       exact Or.inl (⟨rfl,rfl,(Sub.keep [1,4] rfl rfl)⟩)
    rintro x s' (⟨rfl,rfl,hsub⟩|⟨rfl,q25,rfl,hret⟩)
    ·try dsimp only at h
     refine Goes.sub hsub ?_
     refine sq ?_
     refine sh fol (kV [(4,.i r3.2.1),(7,.i 0)]) ?_
     refine Goes.block ?_
     obtain⟨r17,g17,h⟩:=bnd h
     refine Goes.imp (Q:=fun x s'=>(x= .exit 2∧(.inl ())=r17∧Sub s' (ofG 58 (kV []),(kQ e [])))∨(x= .ret∧ ∃q18,(.inr q18)=r17∧qW Tryz.prog [.tmp 2] (.i q18) .ret s')) ?_ ?_
     ·refine Goes.loopS (fun M s=> ∃(n16:Int),s=(ofG 58 (kV [(4,.i r3.2.1),(7,.i n16)]),(kQ e []))∧jk e r3 M n16=some r17) ?_ (m:=N) ⟨_,rfl,g17⟩
      rintro M s ⟨n16,rfl,g17⟩
      cases M with
      |zero=>simp only[jk]at g17;cases g17
      |succ M=>
       rw[jk]at g17
       refine sq ?_
       refine sh fol (kV [(4,.i r3.2.1),(7,.i n16),(46,.bool (decide (n16<r3.2.1)))]) ?_
       refine ihD g17 (fun c19 g17=>?_) (fun c19 g17=>?_)
       ·refine Goes.skip ?_
        refine sq (Goes.block ?_)
        obtain⟨x20,e_x20,g17⟩:=bnd g17
        obtain⟨r21,e_r21,g17⟩:=bnd g17
        refine sq (gr fol [3,4,5] (kV [(4,.i r3.2.1),(7,.i n16),(54,.bool r21)]) (ac (iv xI encI e_x20) (ac (lv 0 ce3 encI e_x20 rfl) (ac (cv (jf x20 0 999999999 e_r21)) az))) ?_)
        refine ihB g17 (fun c22 g17=>?_) (fun c22 g17=>?_)
        ·refine sh fol [(2,.i 3)] ?_
         refine Goes.ret ?_
         obtain rfl:=si g17
         exact Or.inr (⟨rfl,_,rfl,(gw2 [.i 3] (FzW.still tI))⟩)
        ·refine Goes.skip ?_
         refine gh fol (kV [(4,.i r3.2.1),(7,.i (w64 (n16+1)))]) ?_
         exact⟨M,(ofG 58 (kV [(4,.i r3.2.1),(7,.i (w64 (n16+1)))]),(kQ e [])),Nat.lt_succ_self _,(Sub.refl _),_,rfl,g17⟩
       ·refine Goes.exit ?_
        obtain rfl:=si g17
        exact Or.inl (⟨rfl,rfl,(Sub.keep [1] rfl rfl)⟩)
     rintro x s' (⟨rfl,rfl,hsub⟩|⟨rfl,q24,rfl,hret⟩)
     ·try dsimp only at h
      refine Goes.sub hsub ?_
      refine sq ?_
      refine sh fol [(57,.bool (!(e.Text==[])))] ?_
      refine ihB h (fun c23 h=>?_) (fun c23 h=>?_)
      ·refine sh fol [(2,.i 1)] ?_
       refine Goes.ret ?_
       obtain rfl:=si h
       exact(gw2 [.i 1] (FzW.still tI))
      ·refine Goes.skip ?_
       refine sh fol [(2,.i 0)] ?_
       refine Goes.ret ?_
       obtain rfl:=si h
       exact(gw2 [.i 0] (FzW.still tI))
     ·try dsimp only at h
      obtain rfl:=si h
      exact hret
    ·try dsimp only at h
     obtain rfl:=si h
     exact hret
def jR (l2:List qc) (x4:Str):Nat→Int→Int→Option (Int×Int)
 |0,_,_=>none
 |K+1,n8,n9=>
  (if n9<(l2.length:Int)then
  (idx l2 n9).bind fun x14=>
  some (ltL x14.Name x4)
  else
  some false:Option Bool).bind fun b15=>
  if b15=true then
  jR l2 x4 K n8 (w64 (n9+1))
  else
  some (n8,n9)
def jy (e:qb) (x1:Int):Nat→(List qc)→Int→Option (List qc)
 |0,_,_=>none
 |K+1,l23,n24=>
  if n24<(l23.length:Int)then
  (((idx l23 n24).bind fun x30=>
  (idx e.Names 0).bind fun x31=>
  (if(e.Kind==[116,101,115,116])=true then
  some (x30.Name==x31)
  else
  some false:Option Bool).bind fun b33=>
  if b33=true then
  (idx e.Values 1).bind fun x36=>
  (put l23 n24 (⟨x30.Name,x30.Batch,x30.Born,x30.Last,x30.Uses,x30.Used,w64 (x36.tdiv 2),x30.Until,x30.Gone⟩:qc)).bind fun l37=>
  (idx l37 n24).bind fun x38=>
  (put l37 n24 (⟨x38.Name,x38.Batch,x38.Born,x38.Last,x38.Uses,x38.Used,x38.Limit,(if x38.Last<(w64 (x1+365))then x38.Last else(w64 (x1+365))),x38.Gone⟩:qc)).bind fun l39=>
  some l39
  else
  (if(e.Kind==[117,115,101])=true then
  some (x30.Name==x31)
  else
  some false:Option Bool).bind fun b41=>
  if b41=true then
  (put l23 n24 (⟨x30.Name,x30.Batch,x30.Born,x30.Last,x30.Uses,w64 (x30.Used+1),x30.Limit,x30.Until,x30.Gone⟩:qc)).bind fun l44=>
  some l44
  else
  (if(e.Kind==[102,97,105,108])=true then
  some (x30.Name==x31)
  else
  some false:Option Bool).bind fun b46=>
  ((if b46=true then
  some b46
  else
  (if(e.Kind==[114,101,99,97,108,108])=true then
  some (x30.Batch==x31)
  else
  some false:Option Bool).bind fun b52=>
  some b52:Option Bool)).bind fun b48=>
  if b48=true then
  (put l23 n24 (⟨x30.Name,x30.Batch,x30.Born,x30.Last,x30.Uses,x30.Used,x30.Limit,x30.Until,true⟩:qc)).bind fun l55=>
  some l55
  else
  some l23:Option (List qc))).bind fun l28=>
  jy e x1 K l28 (w64 (n24+1))
  else
  some l23
def jK (N:Nat) (r:qy) (e:qb):Option qy:=
 (idx e.Values 0).bind fun x1=>
 (app 88 ([]:List qc) r.Slings).bind fun l2=>
 if(e.Kind==[109,97,107,101])=true then
 (idx e.Names 0).bind fun x4=>
 (idx e.Names 1).bind fun x5=>
 (idx e.Values 1).bind fun x6=>
 (idx e.Values 2).bind fun x7=>
 (jR l2 x4 N (w64 (x1+x6)) 0).bind fun(n10,n11)=>
 (cut l2 0 n11).bind fun s18=>
 (app 88 ([]:List qc) s18).bind fun l19=>
 (app 88 l19 [(⟨x4,x5,x1,n10,x7,0,0,0,false⟩:qc)]).bind fun l20=>
 (cut l2 n11 (l2.length:Int)).bind fun s21=>
 (app 88 l20 s21).bind fun l22=>
 some (⟨x1,l22⟩:qy)
 else
 (jy e x1 N l2 0).bind fun l25=>
 some (⟨x1,l25⟩:qy)
theorem qhZ (N:Nat) (r:qy) (e:qb) {res:qy} (h:jK N r e=some res):qg Tryz.prog (.fn 140) (kAe r.Day r.Slings [.agg (cE e)]) [] (.agg (kAx res.Day res.Slings)) []:=by
 unfold jK at h
 refine Goes.fnW Tryz.func140 rfl rfl (m:=162) rfl (rs:=[.cell 4 37]) rfl (l:=(kBs r.Day r.Slings [(1,.agg (cE e))])) rfl ?_
 refine sg fol (kK (kAD [])) (kE r.Day r.Slings (kQ e [bZ])) ?_
 obtain⟨x1,e_x1,h⟩:=bnd h
 refine sq (gr fol [2,3] (kK (kAD (kAb x1))) (ac (iv xI encI e_x1) (ac (lv 0 ce3 encI e_x1 rfl) az)) ?_)
 refine sg fol (kK (kAD (kAb x1))) (kE x1 r.Slings (kQ e [bZ])) ?_
 obtain⟨l2,e_l2,h⟩:=bnd h
 refine sq (gq fol [3] (kK (kAD [(5,.i x1),(6,.oslice 4 l2.length 9)])) (kE x1 r.Slings (kQ e [bZ,.dead,bS l2])) (ac (hs (.run [3] (qz Tryz.prog [35,35] (.slice 3 0 0 0 9) (vl qd r.Slings)) (kE x1 r.Slings (kQ e [bZ,.cells []])) (.oslice 4 l2.length 9) (kE x1 r.Slings (kQ e [bZ,.dead,bS l2])) true) (ko qb2 (E:=qd) rfl (qd5 (E:=qd) rfl _) (qf0 (E:=qd) rfl rfl rfl e_l2 rfl))) az) ?_)
 refine sq ?_
 refine sh fol (kK (kAD [(5,.i x1),(6,.oslice 4 l2.length 9),(23,.bool (e.Kind==[109,97,107,101]))])) ?_
 refine ihB h (fun c3 h=>?_) (fun c3 h=>?_)
 ·obtain⟨x4,e_x4,h⟩:=bnd h
  obtain⟨x5,e_x5,h⟩:=bnd h
  obtain⟨x6,e_x6,h⟩:=bnd h
  obtain⟨x7,e_x7,h⟩:=bnd h
  refine sq (gq fol [2,3,6,7,12,13,17,18] (kK [(4,.ptr 2 0),(6,.oslice 4 l2.length 9),(7,.ptr 5 0)]) (kE x1 r.Slings (kQ e (bZ:: .dead::bS l2::(kAB x4 x5 x1 (w64 (x1+x6)) x7 [])))) (ac (iv zi encS e_x4) (ac (lv 0 ce9 encS e_x4 rfl) (ac (iv zi encS e_x5) (ac (lv 0 ce9 encS e_x5 rfl) (ac (iv xI encI e_x6) (ac (lv 0 ce3 encI e_x6 rfl) (ac (iv xI encI e_x7) (ac (lv 0 ce3 encI e_x7 rfl) az)))))))) ?_)
  refine sh fol (kK [(4,.ptr 2 0),(6,.oslice 4 l2.length 9),(7,.ptr 5 0),(8,.i 0)]) ?_
  refine sq (Goes.block ?_)
  obtain⟨r12,g12,h⟩:=bnd h
  refine Goes.imp (Q:=fun x s'=>(x= .exit 0∧ ∃n10 n11,(n10,n11)=r12∧Sub s' (ofG 162 (kK (kAV l2 [(8,.i n11)])),(kE x1 r.Slings (bZ::bS l2::(kAf x4 x5 x1 n10 x7 [])))))) ?_ ?_
  ·refine Goes.sub (s':=(ofG 162 (kK (kAV l2 [(8,.i 0)])),(kE x1 r.Slings (bZ::bS l2::(kAB x4 x5 x1 (w64 (x1+x6)) x7 []))))) (Sub.norm [] [some 0,some 2,some 4,some 5] rfl rfl (.kp (.kp (.keep (.oslice rfl) (.kp (.keep (.same nI) .nil))))) (.kb rfl (.same sn) (.kb rfl (.same sn) (.ks (.kb rfl (.same sn) .nil))))) ?_
   refine Goes.loopS (fun M s=> ∃(n8:Int) (n9:Int),s=(ofG 162 (kK (kAV l2 [(8,.i n9)])),(kE x1 r.Slings (bZ::bS l2::(kAf x4 x5 x1 n8 x7 []))))∧jR l2 x4 M n8 n9=some r12) ?_ (m:=N) ⟨_,_,rfl,g12⟩
   rintro M s ⟨n8,n9,rfl,g12⟩
   cases M with
   |zero=>simp only[jR]at g12;cases g12
   |succ M=>
    rw[jR]at g12
    refine sq ?_
    refine sq ?_
    obtain⟨b15,g_v16,g12⟩:=bnd g12
    refine Goes.cut (s':=(ofG 162 (kK (kAV l2 [(8,.i n9),(57,.bool b15)])),(kE x1 r.Slings (bZ::bS l2::(kAf x4 x5 x1 n8 x7 []))))) ?_ ?_
    ·rcases wyD g_v16 with⟨c13,g_v16⟩|⟨c13,g_v16⟩
     ·obtain⟨x14,e_x14,g_v16⟩:=bnd g_v16
      obtain rfl:=si g_v16
      exact tr fol [4,7,9] (kK (kAV l2 [(8,.i n9),(57,.bool (ltL x14.Name x4))])) (ac (gw c13) (ac (hs (.done (.opt (qE Tryz.prog 35 (.oslice 2 l2.length 9) (.i n9))) (.ptr 2 ((n9:Int).toNat*9+0))) (qfd qb2 e_x14)) (ac (hs (.run [2] (jP Tryz.prog 9 (.ptr 2 ((n9:Int).toNat*9+0))) (kE x1 r.Slings (bZ::bS l2::(kAf x4 x5 x1 n8 x7 []))) (.str x14.Name) (kE x1 r.Slings (bZ::bS l2::(kAf x4 x5 x1 n8 x7 []))) false) (qiw ce9 (E:=qd) (l:=l2) rfl rfl e_x14 (nl rfl) rfl)) az)))
     ·obtain rfl:=si g_v16
      exact tr fol [4] (kK (kAV l2 [(8,.i n9),(57,.bool false)])) (ac (gw c13) az)
    refine ihB g12 (fun c17 g12=>?_) (fun c17 g12=>?_)
    ·refine Goes.skip ?_
     refine Goes.block ?_
     refine gh fol (kK (kAV l2 [(8,.i (w64 (n9+1)))])) ?_
     exact⟨M,(ofG 162 (kK (kAV l2 [(8,.i (w64 (n9+1)))])),(kE x1 r.Slings (bZ::bS l2::(kAf x4 x5 x1 n8 x7 [])))),Nat.lt_succ_self _,(Sub.refl _),_,_,rfl,g12⟩
    ·refine Goes.exit ?_
     obtain rfl:=si g12
     exact⟨rfl,_,_,rfl,(Sub.keep [2,4,6,7,8] rfl rfl)⟩
  rintro x s' ⟨rfl,n10,n11,rfl,hsub⟩
  try dsimp only at h
  refine Goes.sub hsub ?_
  refine sq (Goes.sub (s':=(ofG 162 (kK [(4,.ptr 1 0),(6,vl qd l2),(7,.ptr 2 0),(8,.i n11)]),(kE x1 r.Slings (bZ::(kAf x4 x5 x1 n10 x7 []))))) (Sub.norm [2] [some 0,some 1,some 3] rfl rfl (.kp (.kp (.keep (.frz (Fz.os (E:=qd) rfl rfl (nl rfl)) (qo qd _)) (.kp (.keep (.same nI) .nil))))) (.kb rfl (.same sn) (.kb rfl (.same sn) (.kb rfl (.same sn) .nil)))) ?_)
  obtain⟨s18,e_s18,h⟩:=bnd h
  obtain⟨l19,e_l19,h⟩:=bnd h
  obtain⟨l20,e_l20,h⟩:=bnd h
  obtain⟨s21,e_s21,h⟩:=bnd h
  obtain⟨l22,e_l22,h⟩:=bnd h
  refine gq fol [3,4,7,10,11] (kK [(4,.ptr 1 0)]) (.cells [.i x1,.oslice 7 l22.length 9]::bZ::(kAf x4 x5 x1 n10 x7 (kBZ (kAf x4 x5 x1 n10 x7 [.dead,bS l22])))) (ac (hs (.done (.opt (qG Tryz.prog 35 (vl qd l2) none (some (.i n11)) none)) (vl qd s18)) (qfb qb2 (E:=qd) rfl none (some n11) e_s18)) (ac (hs (.run [3] (qz Tryz.prog [35,35] (.slice 3 0 0 0 9) (vl qd s18)) (kE x1 r.Slings (bZ::(kAf x4 x5 x1 n10 x7 [.cells []]))) (.oslice 4 l19.length 9) (kE x1 r.Slings (bZ::(kAf x4 x5 x1 n10 x7 [.dead,bS l19]))) true) (ko qb2 (E:=qd) rfl (qd5 (E:=qd) rfl _) (qf0 (E:=qd) rfl rfl rfl e_l19 rfl))) (ac (hs (.run [4,5] (qz Tryz.prog [35,35] (.oslice 4 l19.length 9) (.slice 5 0 1 1 9)) (kE x1 r.Slings (bZ::(kAf x4 x5 x1 n10 x7 (.dead::bS l19::(kAf x4 x5 x1 n10 x7 []))))) (.oslice 6 l20.length 9) (kE x1 r.Slings (bZ::(kAf x4 x5 x1 n10 x7 (kBZ (kAf x4 x5 x1 n10 x7 [bS l20]))))) true) (ko qb2 (E:=qd) rfl (xm (E:=qd) (ys:=[(⟨x4,x5,x1,n10,x7,0,0,0,false⟩:qc)]) rfl rfl rfl rfl) (qdv (E:=qd) (l:=l19) rfl rfl rfl e_l20 rfl))) (ac (hs (.done (.opt (qG Tryz.prog 35 (vl qd l2) (some (.i n11)) none none)) (vl qd s21)) (qfb qb2 (E:=qd) rfl (some n11) none e_s21)) (ac (hs (.run [6] (qz Tryz.prog [35,35] (.oslice 6 l20.length 9) (vl qd s21)) (kE x1 r.Slings (bZ::(kAf x4 x5 x1 n10 x7 (kBZ (kAf x4 x5 x1 n10 x7 [bS l20]))))) (.oslice 7 l22.length 9) (kE x1 r.Slings (bZ::(kAf x4 x5 x1 n10 x7 (kBZ (kAf x4 x5 x1 n10 x7 [.dead,bS l22]))))) true) (ko qb2 (E:=qd) rfl (qd5 (E:=qd) rfl _) (qdv (E:=qd) (l:=l20) rfl rfl rfl e_l22 rfl))) az))))) ?_
  refine sg fol [(4,.ptr 1 0)] (.cells [.i x1,.oslice 7 l22.length 9]:: .cells [.i x1,.oslice 7 l22.length 9]::(kAf x4 x5 x1 n10 x7 (kBZ (kAf x4 x5 x1 n10 x7 [.dead,bS l22])))) ?_
  refine Goes.ret ?_
  obtain rfl:=si h
  exact(gw2 [.agg [.i x1,.oslice 7 l22.length 9]] (FzW.agg (qh.cons (FzW.still tI) (qh.cons (FzW.fz (Fz.os (E:=qd) rfl rfl (nl rfl))) qh.nil))))
 ·refine Goes.skip ?_
  refine sq ?_
  refine sh fol (kK (kAD [(5,.i x1),(6,.oslice 4 l2.length 9),(9,.i 0)])) ?_
  refine Goes.block ?_
  obtain⟨r26,g26,h⟩:=bnd h
  refine Goes.imp (Q:=fun x s'=>(x= .exit 2∧ ∃l25,l25=r26∧Sub s' (ofG 162 (kK [(4,.ptr 1 0),(6,.oslice 2 l25.length 9)]),(kE x1 r.Slings (kBO l25))))) ?_ ?_
  ·refine Goes.sub (s':=(ofG 162 (kK (kAD [(5,.i x1),(6,.oslice 3 l2.length 9),(9,.i 0)])),(kE x1 r.Slings (kQ e (kBO l2))))) (Sub.norm [] [some 0,some 1,some 2,some 4] rfl rfl (.kp (.kp (.kp (.keep (.same nI) (.keep (.oslice rfl) (.keep (.same nI) .nil)))))) (.kb rfl (.same sn) (.kb rfl (.same sn) (.kb rfl (.same sn) (.ks .nil))))) ?_
   refine Goes.loopS (fun M s=> ∃(l23:List qc) (n24:Int),s=(ofG 162 (kF x1 l23 n24 []),(kE x1 r.Slings (kQ e (kBO l23))))∧jy e x1 M l23 n24=some r26) ?_ (m:=N) ⟨_,_,rfl,g26⟩
   rintro M s ⟨l23,n24,rfl,g26⟩
   cases M with
   |zero=>simp only[jy]at g26;cases g26
   |succ M=>
    rw[jy]at g26
    refine sq ?_
    refine sh fol (kF x1 l23 n24 [(77,.bool (decide (n24<(l23.length:Int))))]) ?_
    refine ihD g26 (fun c27 g26=>?_) (fun c27 g26=>?_)
    ·refine Goes.skip ?_
     refine sq ?_
     obtain⟨r29,g29,g26⟩:=bnd g26
     refine Goes.imp (Q:=fun x s'=>(x= .normal∧ ∃l28,l28=r29∧Sub s' (ofG 162 (kF x1 l28 n24 []),(kE x1 r.Slings (kQ e (kBO l28)))))) ?_ ?_
     ·refine Goes.block ?_
      obtain⟨x30,e_x30,g29⟩:=bnd g29
      obtain⟨x31,e_x31,g29⟩:=bnd g29
      refine sq (gr fol [2,4,7,8] (kF x1 l23 n24 (kBg (x30.Name==x31))) (ac (hs (.done (.opt (qE Tryz.prog 35 (.oslice 3 l23.length 9) (.i n24))) (.ptr 3 ((n24:Int).toNat*9+0))) (qfd qb2 e_x30)) (ac (hs (.run [3] (jP Tryz.prog 9 (.ptr 3 ((n24:Int).toNat*9+0))) (kE x1 r.Slings (kQ e (kBO l23))) (.str x30.Name) (kE x1 r.Slings (kQ e (kBO l23))) false) (qiw ce9 (E:=qd) (l:=l23) rfl rfl e_x30 (nl rfl) rfl)) (ac (iv zi encS e_x31) (ac (lv 0 ce9 encS e_x31 rfl) az)))) ?_)
      refine Goes.block ?_
      refine sq ?_
      obtain⟨b33,g_v34,g29⟩:=bnd g29
      refine Goes.cut (s':=(ofG 162 (kF x1 l23 n24 [(10,.bool (x30.Name==x31)),(90,.bool b33)]),(kE x1 r.Slings (kQ e (kBO l23))))) ?_ ?_
      ·rcases wyB g_v34 with⟨c32,g_v34⟩|⟨c32,g_v34⟩
       ·obtain rfl:=si g_v34
        exact tr fol [3] (kF x1 l23 n24 [(10,.bool (x30.Name==x31)),(90,.bool (x30.Name==x31))]) (ac (gw c32) az)
       ·obtain rfl:=si g_v34
        exact tr fol [3] (kF x1 l23 n24 [(10,.bool (x30.Name==x31)),(90,.bool false)]) (ac (gw c32) az)
      refine ihB g29 (fun c35 g29=>?_) (fun c35 g29=>?_)
      ·obtain⟨x36,e_x36,g29⟩:=bnd g29
       obtain⟨l37,e_l37,g29⟩:=bnd g29
       refine sq (gq fol [4,5,7,9] (kF x1 l23 n24 []) (kE x1 r.Slings (kQ e (kBO l37))) (ac (iv xI encI e_x36) (ac (lv 0 ce3 encI e_x36 rfl) (ac (hs (.done (.opt (qE Tryz.prog 35 (.oslice 3 l23.length 9) (.i n24))) (.ptr 3 ((n24:Int).toNat*9+0))) (qfd qb2 e_x30)) (ac (hs (.run [3] (qau Tryz.prog 3 (.ptr 3 ((n24:Int).toNat*9+6)) (.i (w64 (x36.tdiv 2)))) (kE x1 r.Slings (kQ e (kBO l23))) .undef (kE x1 r.Slings (kQ e (kBO l37))) true) (qd3 (E:=qd) (l:=l23) (y:=(⟨x30.Name,x30.Batch,x30.Born,x30.Last,x30.Uses,x30.Used,w64 (x36.tdiv 2),x30.Until,x30.Gone⟩:qc)) rfl (show _=some 1 by kernel_rfl) rfl e_x30 rfl rfl rfl rfl rfl e_l37 rfl)) az)))) ?_)
       refine Goes.sub (show Sub (ofG 162 (kF x1 l23 n24 []),(kE x1 r.Slings (kQ e (kBO l37)))) (ofG 162 (kF x1 l37 n24 []),(kE x1 r.Slings (kQ e (kBO l37))))from(Sub.norm [] [some 0,some 1,some 2,some 3] rfl rfl (.kp (.kp (.kp (.keep (.same nI) (.keep (.osliceE rfl (qaY e_l37)) (.keep (.same nI) .nil)))))) (.kb rfl (.same sn) (.kb rfl (.same sn) (.kb rfl (.same sn) (.ks .nil)))))) ?_
       obtain⟨x38,e_x38,g29⟩:=bnd g29
       obtain⟨l39,e_l39,g29⟩:=bnd g29
       refine gq fol [6,8,10,12] (kF x1 l37 n24 []) (kE x1 r.Slings (kQ e (kBO l39))) (ac (hs (.done (.opt (qE Tryz.prog 35 (.oslice 3 l37.length 9) (.i n24))) (.ptr 3 ((n24:Int).toNat*9+0))) (qfd qb2 e_x38)) (ac (hs (.run [3] (jP Tryz.prog 3 (.ptr 3 ((n24:Int).toNat*9+3))) (kE x1 r.Slings (kQ e (kBO l37))) (.i x38.Last) (kE x1 r.Slings (kQ e (kBO l37))) false) (qiw ce3 (E:=qd) (l:=l37) rfl rfl e_x38 (nl rfl) rfl)) (ac (hs (.done (.opt (qE Tryz.prog 35 (.oslice 3 l37.length 9) (.i n24))) (.ptr 3 ((n24:Int).toNat*9+0))) (qfd qb2 e_x38)) (ac (hs (.run [3] (qau Tryz.prog 3 (.ptr 3 ((n24:Int).toNat*9+7)) (.i (if x38.Last<(w64 (x1+365))then x38.Last else(w64 (x1+365))))) (kE x1 r.Slings (kQ e (kBO l37))) .undef (kE x1 r.Slings (kQ e (kBO l39))) true) (qd3 (E:=qd) (l:=l37) (y:=(⟨x38.Name,x38.Batch,x38.Born,x38.Last,x38.Uses,x38.Used,x38.Limit,(if x38.Last<(w64 (x1+365))then x38.Last else(w64 (x1+365))),x38.Gone⟩:qc)) rfl (show _=some 1 by kernel_rfl) rfl e_x38 rfl rfl rfl rfl rfl e_l39 rfl)) az)))) ?_
       obtain rfl:=si g29
       exact⟨rfl,_,rfl,((show Sub (ofG 162 (kF x1 l37 n24 []),(kE x1 r.Slings (kQ e (kBO l39)))) (ofG 162 (kF x1 l39 n24 []),(kE x1 r.Slings (kQ e (kBO l39))))from(Sub.norm [] [some 0,some 1,some 2,some 3] rfl rfl (.kp (.kp (.kp (.keep (.same nI) (.keep (.osliceE rfl (qaY e_l39)) (.keep (.same nI) .nil)))))) (.kb rfl (.same sn) (.kb rfl (.same sn) (.kb rfl (.same sn) (.ks .nil)))))).trans (Sub.refl _))⟩
      ·refine sq ?_
       obtain⟨b41,g_v42,g29⟩:=bnd g29
       refine Goes.cut (s':=(ofG 162 (kF x1 l23 n24 [(10,.bool (x30.Name==x31)),(118,.bool b41)]),(kE x1 r.Slings (kQ e (kBO l23))))) ?_ ?_
       ·rcases wyB g_v42 with⟨c40,g_v42⟩|⟨c40,g_v42⟩
        ·obtain rfl:=si g_v42
         exact tr fol [3] (kF x1 l23 n24 [(10,.bool (x30.Name==x31)),(118,.bool (x30.Name==x31))]) (ac (gw c40) az)
        ·obtain rfl:=si g_v42
         exact tr fol [3] (kF x1 l23 n24 [(10,.bool (x30.Name==x31)),(118,.bool false)]) (ac (gw c40) az)
       refine ihB g29 (fun c43 g29=>?_) (fun c43 g29=>?_)
       ·obtain⟨l44,e_l44,g29⟩:=bnd g29
        refine gq fol [2,4,6,8] (kF x1 l23 n24 []) (kE x1 r.Slings (kQ e (kBO l44))) (ac (hs (.done (.opt (qE Tryz.prog 35 (.oslice 3 l23.length 9) (.i n24))) (.ptr 3 ((n24:Int).toNat*9+0))) (qfd qb2 e_x30)) (ac (hs (.run [3] (jP Tryz.prog 3 (.ptr 3 ((n24:Int).toNat*9+5))) (kE x1 r.Slings (kQ e (kBO l23))) (.i x30.Used) (kE x1 r.Slings (kQ e (kBO l23))) false) (qiw ce3 (E:=qd) (l:=l23) rfl rfl e_x30 (nl rfl) rfl)) (ac (hs (.done (.opt (qE Tryz.prog 35 (.oslice 3 l23.length 9) (.i n24))) (.ptr 3 ((n24:Int).toNat*9+0))) (qfd qb2 e_x30)) (ac (hs (.run [3] (qau Tryz.prog 3 (.ptr 3 ((n24:Int).toNat*9+5)) (.i (w64 (x30.Used+1)))) (kE x1 r.Slings (kQ e (kBO l23))) .undef (kE x1 r.Slings (kQ e (kBO l44))) true) (qd3 (E:=qd) (l:=l23) (y:=(⟨x30.Name,x30.Batch,x30.Born,x30.Last,x30.Uses,w64 (x30.Used+1),x30.Limit,x30.Until,x30.Gone⟩:qc)) rfl (show _=some 1 by kernel_rfl) rfl e_x30 rfl rfl rfl rfl rfl e_l44 rfl)) az)))) ?_
        obtain rfl:=si g29
        exact⟨rfl,_,rfl,((show Sub (ofG 162 (kF x1 l23 n24 []),(kE x1 r.Slings (kQ e (kBO l44)))) (ofG 162 (kF x1 l44 n24 []),(kE x1 r.Slings (kQ e (kBO l44))))from(Sub.norm [] [some 0,some 1,some 2,some 3] rfl rfl (.kp (.kp (.kp (.keep (.same nI) (.keep (.osliceE rfl (qaY e_l44)) (.keep (.same nI) .nil)))))) (.kb rfl (.same sn) (.kb rfl (.same sn) (.kb rfl (.same sn) (.ks .nil)))))).trans (Sub.refl _))⟩
       ·refine sq ?_
        refine sq ?_
        obtain⟨b46,g_v47,g29⟩:=bnd g29
        refine Goes.cut (s':=(ofG 162 (kF x1 l23 n24 [(133,.bool b46)]),(kE x1 r.Slings (kQ e (kBO l23))))) ?_ ?_
        ·rcases wyB g_v47 with⟨c45,g_v47⟩|⟨c45,g_v47⟩
         ·obtain rfl:=si g_v47
          exact tr fol [3] (kF x1 l23 n24 [(133,.bool (x30.Name==x31))]) (ac (gw c45) az)
         ·obtain rfl:=si g_v47
          exact tr fol [3] (kF x1 l23 n24 [(133,.bool false)]) (ac (gw c45) az)
        obtain⟨r49,g49,g29⟩:=bnd g29
        refine Goes.imp (Q:=fun x s'=>(x= .normal∧ ∃b48,b48=r49∧Sub s' (ofG 162 (kF x1 l23 n24 [(133,.bool b48)]),(kE x1 r.Slings (kQ e (kBO l23)))))) ?_ ?_
        ·refine ihB g49 (fun c50 g49=>?_) (fun c50 g49=>?_)
         ·refine Goes.skip ?_
          obtain rfl:=si g49
          exact⟨rfl,_,rfl,(Sub.refl _)⟩
         ·obtain⟨b52,g_v53,g49⟩:=bnd g49
          refine Goes.cut (s':=(ofG 162 (kF x1 l23 n24 [(133,.bool b52)]),(kE x1 r.Slings (kQ e (kBO l23))))) ?_ ?_
          ·rcases wyB g_v53 with⟨c51,g_v53⟩|⟨c51,g_v53⟩
           ·obtain rfl:=si g_v53
            exact tr fol [3,6,8,11,12] (kF x1 l23 n24 [(133,.bool (x30.Batch==x31))]) (ac (gw c51) (ac (hs (.done (.opt (qE Tryz.prog 35 (.oslice 3 l23.length 9) (.i n24))) (.ptr 3 ((n24:Int).toNat*9+0))) (qfd qb2 e_x30)) (ac (hs (.run [3] (jP Tryz.prog 9 (.ptr 3 ((n24:Int).toNat*9+1))) (kE x1 r.Slings (kQ e (kBO l23))) (.str x30.Batch) (kE x1 r.Slings (kQ e (kBO l23))) false) (qiw ce9 (E:=qd) (l:=l23) rfl rfl e_x30 (nl rfl) rfl)) (ac (iv zi encS e_x31) (ac (lv 0 ce9 encS e_x31 rfl) az)))))
           ·obtain rfl:=si g_v53
            exact tr fol [3] (kF x1 l23 n24 [(133,.bool false)]) (ac (gw c51) az)
          obtain rfl:=si g49
          exact⟨rfl,_,rfl,(Sub.refl _)⟩
        rintro x s' ⟨rfl,b48,rfl,hsub⟩
        refine Goes.sub hsub ?_
        refine ihB g29 (fun c54 g29=>?_) (fun c54 g29=>?_)
        ·obtain⟨l55,e_l55,g29⟩:=bnd g29
         refine gq fol [2,4] (kF x1 l23 n24 []) (kE x1 r.Slings (kQ e (kBO l55))) (ac (hs (.done (.opt (qE Tryz.prog 35 (.oslice 3 l23.length 9) (.i n24))) (.ptr 3 ((n24:Int).toNat*9+0))) (qfd qb2 e_x30)) (ac (hs (.run [3] (qau Tryz.prog 4 (.ptr 3 ((n24:Int).toNat*9+8)) (.bool true)) (kE x1 r.Slings (kQ e (kBO l23))) .undef (kE x1 r.Slings (kQ e (kBO l55))) true) (qd3 (E:=qd) (l:=l23) (y:=(⟨x30.Name,x30.Batch,x30.Born,x30.Last,x30.Uses,x30.Used,x30.Limit,x30.Until,true⟩:qc)) rfl (show _=some 1 by kernel_rfl) rfl e_x30 rfl rfl rfl rfl rfl e_l55 rfl)) az)) ?_
         obtain rfl:=si g29
         exact⟨rfl,_,rfl,((show Sub (ofG 162 (kF x1 l23 n24 []),(kE x1 r.Slings (kQ e (kBO l55)))) (ofG 162 (kF x1 l55 n24 []),(kE x1 r.Slings (kQ e (kBO l55))))from(Sub.norm [] [some 0,some 1,some 2,some 3] rfl rfl (.kp (.kp (.kp (.keep (.same nI) (.keep (.osliceE rfl (qaY e_l55)) (.keep (.same nI) .nil)))))) (.kb rfl (.same sn) (.kb rfl (.same sn) (.kb rfl (.same sn) (.ks .nil)))))).trans (Sub.refl _))⟩
        ·refine Goes.skip ?_
         obtain rfl:=si g29
         exact⟨rfl,_,rfl,(Sub.keep [2,3,4,5,6,9] rfl rfl)⟩
     rintro x s' ⟨rfl,l28,rfl,hsub⟩
     refine Goes.sub hsub ?_
     refine gh fol (kF x1 l28 (w64 (n24+1)) []) ?_
     exact⟨M,(ofG 162 (kF x1 l28 (w64 (n24+1)) []),(kE x1 r.Slings (kQ e (kBO l28)))),Nat.lt_succ_self _,(Sub.refl _),_,_,rfl,g26⟩
    ·refine Goes.exit ?_
     obtain rfl:=si g26
     exact⟨rfl,_,rfl,(Sub.norm [] [some 0,some 2,some 3] rfl rfl (.kp (.drop (.kp (.drop (.keep (.oslice rfl) .nil))))) (.kb rfl (.same sn) (.kb rfl (.same sn) (.ks .nil))))⟩
  rintro x s' ⟨rfl,l25,rfl,hsub⟩
  refine Goes.sub hsub ?_
  refine sg fol (kK [(4,.ptr 1 0)]) (.cells [.i x1,.oslice 2 l25.length 9]::(kBO l25)) ?_
  refine sg fol [(4,.ptr 1 0)] [.cells [.i x1,.oslice 2 l25.length 9],.cells [.i x1,.oslice 2 l25.length 9],bS l25] ?_
  refine Goes.ret ?_
  obtain rfl:=si h
  exact(gw2 [.agg [.i x1,.oslice 2 l25.length 9]] (FzW.agg (qh.cons (FzW.still tI) (qh.cons (FzW.fz (Fz.os (E:=qd) rfl rfl (nl rfl))) qh.nil))))
def zM (N:Nat) (l:List qb):Nat→Int→(List qc)→Int→Option (Int×(List qc))
 |0,_,_,_=>none
 |K+1,n1,l2,n3=>
  if n3<(l.length:Int)then
  (idx l n3).bind fun x8=>
  (jK N (⟨n1,l2⟩:qy) x8).bind fun r9=>
  zM N l K r9.Day r9.Slings (w64 (n3+1))
  else
  some (n1,l2)
def z8 (N:Nat) (l:List qb):Option qy:=
 (zM N l N 0 ([]:List qc) 0).bind fun(n4,l5)=>
 some (⟨n4,l5⟩:qy)
theorem qcS (N:Nat) (l:List qb) {res:qy} (h:z8 N l=some res):qg Tryz.prog (.fn 84) [vl qa l] [] (.agg (kAx res.Day res.Slings)) []:=by
 unfold z8 at h
 refine Goes.fnW Tryz.func84 rfl rfl (m:=18) rfl (rs:=[.cell 2 37]) rfl (l:=(kL l [])) rfl ?_
 refine sg fol (kL l (kK [])) [bZ] ?_
 refine sg fol (kL l (kK (kA7 []))) [bZ,bZ] ?_
 refine sq ?_
 refine sh fol (kL l (kK (kA7 kBW))) ?_
 refine Goes.block ?_
 obtain⟨r6,g6,h⟩:=bnd h
 refine Goes.imp (Q:=fun x s'=>(x= .exit 0∧ ∃n4 l5,(n4,l5)=r6∧Sub s' (ofG 18 (kK (kA7 [])),(bZ::(kE n4 l5 []))))) ?_ ?_
 ·refine Goes.sub (s':=(ofG 18 (kL l (kK (kA7 kBW))),[bZ,.cells [.i 0,vl qd ([]:List qc)]])) (Sub.norm [] [some 0,some 1] rfl rfl (.keep (.same (qo qa _)) (.kp (.kp (.keep (.same nI) .nil)))) (.kb rfl (.same sn) (.kb rfl (.cells (rc (.same nI) (rc (.nilv) rn))) .nil))) ?_
  refine Goes.loopS (fun M s=> ∃(n1:Int) (l2:List qc) (n3:Int),s=(ofG 18 (kL l (kK (kA7 (kAv n3)))),(bZ::(kE n1 l2 [])))∧zM N l M n1 l2 n3=some r6) ?_ (m:=N) ⟨_,_,_,rfl,g6⟩
  rintro M s ⟨n1,l2,n3,rfl,g6⟩
  cases M with
  |zero=>simp only[zM]at g6;cases g6
  |succ M=>
   rw[zM]at g6
   refine sq ?_
   refine sh fol (kL l (kK (kA7 ((4,.i n3)::(kBU (decide (n3<(l.length:Int)))))))) ?_
   refine ihD g6 (fun c7 g6=>?_) (fun c7 g6=>?_)
   ·refine Goes.skip ?_
    refine sq (Goes.block ?_)
    obtain⟨x8,e_x8,g6⟩:=bnd g6
    obtain⟨r9,e_r9,g6⟩:=bnd g6
    refine gq fol [3,4,5] (kL l (kK (kA7 (kAv n3)))) (bZ::(kE r9.Day r9.Slings [])) (ac (iv jo qa e_x8) (ac (la qjl qa e_x8) (ac (cv (qhZ N (⟨n1,l2⟩:qy) x8 e_r9)) az))) ?_
    refine gh fol (kL l (kK (kA7 (kAv (w64 (n3+1)))))) ?_
    exact⟨M,(ofG 18 (kL l (kK (kA7 (kAv (w64 (n3+1)))))),(bZ::(kE r9.Day r9.Slings []))),Nat.lt_succ_self _,(Sub.refl _),_,_,_,rfl,g6⟩
   ·refine Goes.exit ?_
    obtain rfl:=si g6
    exact⟨rfl,_,_,rfl,(Sub.keep [2,3] rfl rfl)⟩
 rintro x s' ⟨rfl,n4,l5,rfl,hsub⟩
 try dsimp only at h
 refine Goes.sub hsub ?_
 refine sg fol (kK []) (kE n4 l5 (kE n4 l5 [])) ?_
 refine Goes.ret ?_
 obtain rfl:=si h
 exact(gw2 [.agg (kAx n4 l5)] (FzW.agg (qh.cons (FzW.still tI) (qh.cons (FzW.still (qF qd _ (nl rfl))) qh.nil))))
def qar (r:qy) (name:Str):Nat→Int→Option (Unit⊕Int)
 |0,_=>none
 |K+1,n1=>
  if n1<(r.Slings.length:Int)then
  (idx r.Slings n1).bind fun x5=>
  if(x5.Name==name)=true then
  some (.inr n1)
  else
  qar r name K (w64 (n1+1))
  else
  some (.inl ())
def qdA (N:Nat) (r:qy) (name:Str):Option Int:=
 (qar r name N 0).bind (fun
 |(.inl ())=>
 some (-1)
 |(.inr q7)=>
 some q7)
theorem qgO (N:Nat) (r:qy) (name:Str) {res:Int} (h:qdA N r name=some res):qg Tryz.prog (.fn 27) (kAe r.Day r.Slings [.str name]) [] (.i res) []:=by
 unfold qdA at h
 refine Goes.fnW Tryz.func27 rfl rfl (m:=22) rfl (rs:=[.tmp 4]) rfl (l:=(kBs r.Day r.Slings [(1,.str name)])) rfl ?_
 refine sg fol ((1,.str name)::(kK [])) (kE r.Day r.Slings []) ?_
 refine sq ?_
 refine sh fol ((1,.str name)::(kK kA4)) ?_
 refine Goes.block ?_
 obtain⟨r2,g2,h⟩:=bnd h
 refine Goes.imp (Q:=fun x s'=>(x= .exit 0∧(.inl ())=r2∧Sub s' (ofG 22 [],[]))∨(x= .ret∧ ∃q3,(.inr q3)=r2∧qW Tryz.prog [.tmp 4] (.i q3) .ret s')) ?_ ?_
 ·refine Goes.loopS (fun M s=> ∃(n1:Int),s=(ofG 22 ((1,.str name)::(kK (kAb n1))),(kE r.Day r.Slings []))∧qar r name M n1=some r2) ?_ (m:=N) ⟨_,rfl,g2⟩
  rintro M s ⟨n1,rfl,g2⟩
  cases M with
  |zero=>simp only[qar]at g2;cases g2
  |succ M=>
   rw[qar]at g2
   refine sq ?_
   refine sh fol ((1,.str name)::(kK ((5,.i n1)::(kBg (decide (n1<(r.Slings.length:Int))))))) ?_
   refine ihD g2 (fun c4 g2=>?_) (fun c4 g2=>?_)
   ·refine Goes.skip ?_
    refine sq (Goes.block ?_)
    obtain⟨x5,e_x5,g2⟩:=bnd g2
    refine sq (gr fol [3,5] ((1,.str name)::(kK [(5,.i n1),(20,.bool (x5.Name==name))])) (ac (iv qb2 qd e_x5) (ac (lv 0 ce9 qd e_x5 rfl) az)) ?_)
    refine ihB g2 (fun c6 g2=>?_) (fun c6 g2=>?_)
    ·refine sh fol (kAv n1) ?_
     refine Goes.ret ?_
     obtain rfl:=si g2
     exact Or.inr (⟨rfl,_,rfl,(gw2 [.i n1] (FzW.still tI))⟩)
    ·refine Goes.skip ?_
     refine gh fol ((1,.str name)::(kK (kAb (w64 (n1+1))))) ?_
     exact⟨M,(ofG 22 ((1,.str name)::(kK (kAb (w64 (n1+1))))),(kE r.Day r.Slings [])),Nat.lt_succ_self _,(Sub.refl _),_,rfl,g2⟩
   ·refine Goes.exit ?_
    obtain rfl:=si g2
    exact Or.inl (⟨rfl,rfl,(Sub.norm [] [] rfl rfl .nil .nil)⟩)
 rintro x s' (⟨rfl,rfl,hsub⟩|⟨rfl,q7,rfl,hret⟩)
 ·try dsimp only at h
  refine Goes.sub hsub ?_
  refine sh fol [(4,.i (-1))] ?_
  refine Goes.ret ?_
  obtain rfl:=si h
  exact(gw2 [.i (-1)] (FzW.still tI))
 ·try dsimp only at h
  obtain rfl:=si h
  exact hret
def xe (s_:qc) (day:Int):Option Bool:=
 (if s_.Gone=true then
 some true
 else
 if day>s_.Last then
 some true
 else
 some (decide (s_.Used=s_.Uses)):Option Bool).bind fun b3=>
 some b3
theorem qaE (s_:qc) (day:Int) {res:Bool} (h:xe s_ day=some res):qg Tryz.prog (.fn 33) [.agg (cS s_),.i day] [] (.bool res) []:=by
 unfold xe at h
 refine Goes.fnW Tryz.func33 rfl rfl (m:=20) rfl (rs:=[.tmp 4]) rfl (l:=[(0,.agg (cS s_)),(1,.i day)]) rfl ?_
 refine sg fol ((1,.i day)::(kK [])) (kAw s_ []) ?_
 refine sq ?_
 obtain⟨b3,g_v4,h⟩:=bnd h
 refine Goes.cut (s':=(ofG 20 (kAy b3),(kAw s_ []))) ?_ ?_
 ·rcases wyB g_v4 with⟨c1,g_v4⟩|⟨c1,g_v4⟩
  ·obtain rfl:=si g_v4
   exact tr fol [2] kAk (ac (gw c1) az)
  ·rcases wyD g_v4 with⟨c2,g_v4⟩|⟨c2,g_v4⟩
   ·obtain rfl:=si g_v4
    exact tr fol [2,8] kAk (ac (gw c1) (ac (gw c2) az))
   ·obtain rfl:=si g_v4
    exact tr fol [2,8] (kAy (decide (s_.Used=s_.Uses))) (ac (gw c1) (ac (gw c2) az))
 refine Goes.ret ?_
 obtain rfl:=si h
 exact(gw2 [.bool b3] (FzW.still tB))
def qaA (s_:qc) (day:Int):Option Bool:=
 (if s_.Limit>0 then
 some (decide (day≤s_.Until))
 else
 some false:Option Bool).bind fun b2=>
 some b2
theorem qeD (s_:qc) (day:Int) {res:Bool} (h:qaA s_ day=some res):qg Tryz.prog (.fn 34) [.agg (cS s_),.i day] [] (.bool res) []:=by
 unfold qaA at h
 refine Goes.fnW Tryz.func34 rfl rfl (m:=14) rfl (rs:=[.tmp 4]) rfl (l:=[(0,.agg (cS s_)),(1,.i day)]) rfl ?_
 refine sg fol ((1,.i day)::(kK [])) (kAw s_ []) ?_
 refine sq ?_
 obtain⟨b2,g_v3,h⟩:=bnd h
 refine Goes.cut (s':=(ofG 14 (kAy b2),(kAw s_ []))) ?_ ?_
 ·rcases wyD g_v3 with⟨c1,g_v3⟩|⟨c1,g_v3⟩
  ·obtain rfl:=si g_v3
   exact tr fol [3] (kAy (decide (day≤s_.Until))) (ac (gw c1) az)
  ·obtain rfl:=si g_v3
   exact tr fol [3] kAN (ac (gw c1) az)
 refine Goes.ret ?_
 obtain rfl:=si h
 exact(gw2 [.bool b2] (FzW.still tB))
def jg (r:qy) (e:qb) (x1:Int):Nat→Bool→Bool→Int→Option (Bool×Bool)
 |0,_,_,_=>none
 |K+1,b19,b20,n21=>
  if n21<(r.Slings.length:Int)then
  (((idx r.Slings n21).bind fun x29=>
  (idx e.Names 0).bind fun x30=>
  if(x29.Batch==x30)=true then
  (if b20=true then
  some true
  else
  (xe x29 x1).bind fun r33=>
  some (!r33):Option Bool).bind fun b34=>
  some (true,b34)
  else
  some (b19,b20):Option (Bool×Bool))).bind fun(b26,b27)=>
  jg r e x1 K b26 b27 (w64 (n21+1))
  else
  some (b19,b20)
def jw (N:Nat) (r:qy) (e:qb):Option Int:=
 (idx e.Values 0).bind fun x1=>
 if x1>99999 then
 some 3
 else
 if x1<r.Day then
 some 19
 else
 (idx e.Names 0).bind fun x4=>
 (qdA N r x4).bind fun r5=>
 if(e.Kind==[109,97,107,101])=true then
 if r5≥0 then
 some 9
 else
 ((idx e.Values 1).bind fun x8=>
 (jD x8 1 9999).bind fun r9=>
 if r9=true then
 some true
 else
 (idx e.Values 2).bind fun x11=>
 (jD x11 1 9999).bind fun r12=>
 if r12=true then
 some true
 else
 some (decide ((w64 (x1+x8))>99999)):Option Bool).bind fun b14=>
 if b14=true then
 some 3
 else
 if(r.Slings.length:Int)≥256 then
 some 5
 else
 some 0
 else
 if(e.Kind==[114,101,99,97,108,108])=true then
 (jg r e x1 N false false 0).bind fun(b22,b23)=>
 if(!b22)=true then
 some 10
 else
 if(!b23)=true then
 some 20
 else
 some 0
 else
 if r5<0 then
 some 10
 else
 (idx r.Slings r5).bind fun x39=>
 (xe x39 x1).bind fun r40=>
 if r40=true then
 some 20
 else
 (if(e.Kind==[116,101,115,116])=true then
 (idx e.Values 1).bind fun x43=>
 (jD x43 2 999999999).bind fun r44=>
 some r44
 else
 some false:Option Bool).bind fun b45=>
 if b45=true then
 some 3
 else
 ((if(e.Kind==[117,115,101])=true then
 (qaA x39 x1).bind fun r51=>
 if(!r51)=true then
 some (.inr 24)
 else
 (idx e.Values 1).bind fun x53=>
 if x53>x39.Limit then
 some (.inr 31)
 else
 some (.inl ())
 else
 some (.inl ()):Option (Unit⊕Int))).bind (fun
 |(.inl ())=>
 some 0
 |(.inr q55)=>
 some q55)
theorem qgv (N:Nat) (r:qy) (e:qb) {res:Int} (h:jw N r e=some res):qg Tryz.prog (.fn 139) (kAe r.Day r.Slings [.agg (cE e)]) [] (.i res) []:=by
 unfold jw at h
 refine Goes.fnW Tryz.func139 rfl rfl (m:=127) rfl (rs:=[.tmp 4]) rfl (l:=(kBs r.Day r.Slings [(1,.agg (cE e))])) rfl ?_
 refine sg fol (kK (kA7 [])) (kE r.Day r.Slings (kQ e [])) ?_
 obtain⟨x1,e_x1,h⟩:=bnd h
 refine sq (gr fol [2,3] (kK (kAI x1 [])) (ac (iv xI encI e_x1) (ac (lv 0 ce3 encI e_x1 rfl) az)) ?_)
 refine sq ?_
 refine sh fol (kK (kAI x1 [(16,.bool (decide (x1>99999)))])) ?_
 refine ihD h (fun c2 h=>?_) (fun c2 h=>?_)
 ·refine sh fol [(4,.i 3)] ?_
  refine Goes.ret ?_
  obtain rfl:=si h
  exact(gw2 [.i 3] (FzW.still tI))
 ·refine Goes.skip ?_
  refine sq ?_
  refine sh fol (kK (kAI x1 [(20,.bool (decide (x1<r.Day)))])) ?_
  refine ihD h (fun c3 h=>?_) (fun c3 h=>?_)
  ·refine sh fol [(4,.i 19)] ?_
   refine Goes.ret ?_
   obtain rfl:=si h
   exact(gw2 [.i 19] (FzW.still tI))
  ·refine Goes.skip ?_
   obtain⟨x4,e_x4,h⟩:=bnd h
   obtain⟨r5,e_r5,h⟩:=bnd h
   refine sq (gr fol [3,4,5] (kK (kAI x1 (kBu r5))) (ac (iv zi encS e_x4) (ac (lv 0 ce9 encS e_x4 rfl) (ac (cv (qgO N r x4 e_r5)) az))) ?_)
   refine sq ?_
   refine sh fol (kK (kAI x1 [(6,.i r5),(28,.str e.Kind)])) ?_
   refine Goes.block ?_
   refine sh fol (kK (kAI x1 [(6,.i r5),(28,.str e.Kind),(29,.bool (e.Kind==[109,97,107,101]))])) ?_
   refine ihB h (fun c6 h=>?_) (fun c6 h=>?_)
   ·refine sq ?_
    refine sh fol (kK (kAI x1 [(32,.bool (decide (r5≥0)))])) ?_
    refine ihD h (fun c7 h=>?_) (fun c7 h=>?_)
    ·refine sh fol [(4,.i 9)] ?_
     refine Goes.ret ?_
     obtain rfl:=si h
     exact(gw2 [.i 9] (FzW.still tI))
    ·refine Goes.skip ?_
     refine sq ?_
     refine sq ?_
     obtain⟨b14,g_v15,h⟩:=bnd h
     refine Goes.cut (s':=(ofG 127 (kK [(53,.bool b14)]),(kE r.Day r.Slings (kQ e [])))) ?_ ?_
     ·obtain⟨x8,e_x8,g_v15⟩:=bnd g_v15
      obtain⟨r9,e_r9,g_v15⟩:=bnd g_v15
      rcases wyB g_v15 with⟨c10,g_v15⟩|⟨c10,g_v15⟩
      ·obtain rfl:=si g_v15
       exact tr fol [2,3,4,5] (kK [(53,.bool true)]) (ac (iv xI encI e_x8) (ac (lv 0 ce3 encI e_x8 rfl) (ac (cv (jf x8 1 9999 e_r9)) (ac (gw c10) az))))
      ·obtain⟨x11,e_x11,g_v15⟩:=bnd g_v15
       obtain⟨r12,e_r12,g_v15⟩:=bnd g_v15
       rcases wyB g_v15 with⟨c13,g_v15⟩|⟨c13,g_v15⟩
       ·obtain rfl:=si g_v15
        exact tr fol [2,3,4,5,8,9,10,12] (kK [(53,.bool true)]) (ac (iv xI encI e_x8) (ac (lv 0 ce3 encI e_x8 rfl) (ac (cv (jf x8 1 9999 e_r9)) (ac (gw c10) (ac (iv xI encI e_x11) (ac (lv 0 ce3 encI e_x11 rfl) (ac (cv (jf x11 1 9999 e_r12)) (ac (gw c13) az))))))))
       ·obtain rfl:=si g_v15
        exact tr fol [2,3,4,5,8,9,10,12,16,17] (kK [(53,.bool (decide ((w64 (x1+x8))>99999)))]) (ac (iv xI encI e_x8) (ac (lv 0 ce3 encI e_x8 rfl) (ac (cv (jf x8 1 9999 e_r9)) (ac (gw c10) (ac (iv xI encI e_x11) (ac (lv 0 ce3 encI e_x11 rfl) (ac (cv (jf x11 1 9999 e_r12)) (ac (gw c13) (ac (iv xI encI e_x8) (ac (lv 0 ce3 encI e_x8 rfl) az))))))))))
     refine ihB h (fun c16 h=>?_) (fun c16 h=>?_)
     ·refine sh fol [(4,.i 3)] ?_
      refine Goes.ret ?_
      obtain rfl:=si h
      exact(gw2 [.i 3] (FzW.still tI))
     ·refine Goes.skip ?_
      refine sq ?_
      refine sh fol [(57,.bool (decide ((r.Slings.length:Int)≥256)))] ?_
      refine ihD h (fun c17 h=>?_) (fun c17 h=>?_)
      ·refine sh fol [(4,.i 5)] ?_
       refine Goes.ret ?_
       obtain rfl:=si h
       exact(gw2 [.i 5] (FzW.still tI))
      ·refine Goes.skip ?_
       refine sh fol kBW ?_
       refine Goes.ret ?_
       obtain rfl:=si h
       exact(gw2 [.i 0] (FzW.still tI))
   ·refine sh fol (kK (kAI x1 [(6,.i r5),(58,.bool (e.Kind==[114,101,99,97,108,108]))])) ?_
    refine ihB h (fun c18 h=>?_) (fun c18 h=>?_)
    ·refine sh fol (kK (kAI x1 [(7,.bool false),(8,.bool false)])) ?_
     refine sq ?_
     refine sh fol (kK (kAI x1 [(7,.bool false),(8,.bool false),(9,.i 0)])) ?_
     refine Goes.block ?_
     obtain⟨r24,g24,h⟩:=bnd h
     refine Goes.imp (Q:=fun x s'=>(x= .exit 1∧ ∃b22 b23,(b22,b23)=r24∧Sub s' (ofG 127 ((7,.bool b22)::(kBU b23)),[]))) ?_ ?_
     ·refine Goes.loopS (fun M s=> ∃(b19:Bool) (b20:Bool) (n21:Int),s=(ofG 127 (kK (kAI x1 ((7,.bool b19)::(8,.bool b20)::(kBi n21)))),(kE r.Day r.Slings (kQ e [])))∧jg r e x1 M b19 b20 n21=some r24) ?_ (m:=N) ⟨_,_,_,rfl,g24⟩
      rintro M s ⟨b19,b20,n21,rfl,g24⟩
      cases M with
      |zero=>simp only[jg]at g24;cases g24
      |succ M=>
       rw[jg]at g24
       refine sq ?_
       refine sh fol (kK (kAI x1 [(7,.bool b19),(8,.bool b20),(9,.i n21),(64,.bool (decide (n21<(r.Slings.length:Int))))])) ?_
       refine ihD g24 (fun c25 g24=>?_) (fun c25 g24=>?_)
       ·refine Goes.skip ?_
        refine sq ?_
        obtain⟨r28,g28,g24⟩:=bnd g24
        refine Goes.imp (Q:=fun x s'=>(x= .normal∧ ∃b26 b27,(b26,b27)=r28∧Sub s' (ofG 127 (kK (kAI x1 ((7,.bool b26)::(8,.bool b27)::(kBi n21)))),(kE r.Day r.Slings (kQ e []))))) ?_ ?_
        ·refine Goes.block ?_
         obtain⟨x29,e_x29,g28⟩:=bnd g28
         obtain⟨x30,e_x30,g28⟩:=bnd g28
         refine sq (gr fol [3,5,8,9] (kK (kAI x1 [(7,.bool b19),(8,.bool b20),(9,.i n21),(77,.bool (x29.Batch==x30))])) (ac (iv qb2 qd e_x29) (ac (lv 1 ce9 qd e_x29 rfl) (ac (iv zi encS e_x30) (ac (lv 0 ce9 encS e_x30 rfl) az)))) ?_)
         refine ihB g28 (fun c31 g28=>?_) (fun c31 g28=>?_)
         ·refine sh fol (kK (kAI x1 ((7,.bool true)::(8,.bool b20)::(kBi n21)))) ?_
          obtain⟨b34,g_v35,g28⟩:=bnd g28
          refine Goes.cut (s':=(ofG 127 (kK (kAI x1 ((7,.bool true)::(8,.bool b34)::(kBi n21)))),(kE r.Day r.Slings (kQ e [])))) ?_ ?_
          ·rcases wyB g_v35 with⟨c32,g_v35⟩|⟨c32,g_v35⟩
           ·obtain rfl:=si g_v35
            exact tr fol [1] (kK (kAI x1 ((7,.bool true)::(8,.bool true)::(kBi n21)))) (ac (gw c32) az)
           ·obtain⟨r33,e_r33,g_v35⟩:=bnd g_v35
            obtain rfl:=si g_v35
            exact tr fol [1,5,6,8] (kK (kAI x1 ((7,.bool true)::(8,.bool (!r33))::(kBi n21)))) (ac (gw c32) (ac (iv qb2 qd e_x29) (ac (la qlj qd e_x29) (ac (cv (qaE x29 x1 e_r33)) az))))
          obtain rfl:=si g28
          exact⟨rfl,_,_,rfl,(Sub.refl _)⟩
         ·refine Goes.skip ?_
          obtain rfl:=si g28
          exact⟨rfl,_,_,rfl,(Sub.keep [2,3,5,7,8,9] rfl rfl)⟩
        rintro x s' ⟨rfl,b26,b27,rfl,hsub⟩
        try dsimp only at g24
        refine Goes.sub hsub ?_
        refine gh fol (kK (kAI x1 ((7,.bool b26)::(8,.bool b27)::(kBi (w64 (n21+1)))))) ?_
        exact⟨M,(ofG 127 (kK (kAI x1 ((7,.bool b26)::(8,.bool b27)::(kBi (w64 (n21+1)))))),(kE r.Day r.Slings (kQ e []))),Nat.lt_succ_self _,(Sub.refl _),_,_,_,rfl,g24⟩
       ·refine Goes.exit ?_
        obtain rfl:=si g24
        exact⟨rfl,_,_,rfl,(Sub.norm [] [] rfl rfl (.drop (.drop (.drop (.keep (.same nB) (.keep (.same nB) .nil))))) .nil)⟩
     rintro x s' ⟨rfl,b22,b23,rfl,hsub⟩
     try dsimp only at h
     refine Goes.sub hsub ?_
     refine sq ?_
     refine sh fol [(8,.bool b23),(90,.bool (!b22))] ?_
     refine ihB h (fun c36 h=>?_) (fun c36 h=>?_)
     ·refine sh fol [(4,.i 10)] ?_
      refine Goes.ret ?_
      obtain rfl:=si h
      exact(gw2 [.i 10] (FzW.still tI))
     ·refine Goes.skip ?_
      refine sq ?_
      refine sh fol [(92,.bool (!b23))] ?_
      refine ihB h (fun c37 h=>?_) (fun c37 h=>?_)
      ·refine sh fol [(4,.i 20)] ?_
       refine Goes.ret ?_
       obtain rfl:=si h
       exact(gw2 [.i 20] (FzW.still tI))
      ·refine Goes.skip ?_
       refine sh fol kBW ?_
       refine Goes.ret ?_
       obtain rfl:=si h
       exact(gw2 [.i 0] (FzW.still tI))
    ·refine Goes.skip ?_
     refine sq ?_
     refine sh fol (kK (kAI x1 [(6,.i r5),(94,.bool (decide (r5<0)))])) ?_
     refine ihD h (fun c38 h=>?_) (fun c38 h=>?_)
     ·refine sh fol [(4,.i 10)] ?_
      refine Goes.ret ?_
      obtain rfl:=si h
      exact(gw2 [.i 10] (FzW.still tI))
     ·refine Goes.skip ?_
      obtain⟨x39,e_x39,h⟩:=bnd h
      refine sq (gq fol [3,4] (kAI x1 [(10,.ptr 2 0)]) (kE r.Day r.Slings (kQ e (kAw x39 []))) (ac (iv qb2 qd e_x39) (ac (la qlj qd e_x39) az)) ?_)
      refine sq ?_
      obtain⟨r40,e_r40,h⟩:=bnd h
      refine sq (gr fol [2] (kAI x1 [(10,.ptr 2 0),(102,.bool r40)]) (ac (cv (qaE x39 x1 e_r40)) az) ?_)
      refine ihB h (fun c41 h=>?_) (fun c41 h=>?_)
      ·refine sh fol [(4,.i 20)] ?_
       refine Goes.ret ?_
       obtain rfl:=si h
       exact(gw2 [.i 20] (FzW.still tI))
      ·refine Goes.skip ?_
       refine sq ?_
       refine sq ?_
       obtain⟨b45,g_v46,h⟩:=bnd h
       refine Goes.cut (s':=(ofG 127 (kAI x1 [(10,.ptr 2 0),(112,.bool b45)]),(kE r.Day r.Slings (kQ e (kAw x39 []))))) ?_ ?_
       ·rcases wyB g_v46 with⟨c42,g_v46⟩|⟨c42,g_v46⟩
        ·obtain⟨x43,e_x43,g_v46⟩:=bnd g_v46
         obtain⟨r44,e_r44,g_v46⟩:=bnd g_v46
         obtain rfl:=si g_v46
         exact tr fol [3,6,7,8] (kAI x1 [(10,.ptr 2 0),(112,.bool r44)]) (ac (gw c42) (ac (iv xI encI e_x43) (ac (lv 0 ce3 encI e_x43 rfl) (ac (cv (jf x43 2 999999999 e_r44)) az))))
        ·obtain rfl:=si g_v46
         exact tr fol [3] (kAI x1 [(10,.ptr 2 0),(112,.bool false)]) (ac (gw c42) az)
       refine ihB h (fun c47 h=>?_) (fun c47 h=>?_)
       ·refine sh fol [(4,.i 3)] ?_
        refine Goes.ret ?_
        obtain rfl:=si h
        exact(gw2 [.i 3] (FzW.still tI))
       ·refine Goes.skip ?_
        refine sq ?_
        refine sh fol (kAI x1 [(10,.ptr 2 0),(115,.bool (e.Kind==[117,115,101]))]) ?_
        obtain⟨r48,g48,h⟩:=bnd h
        refine Goes.imp (Q:=fun x s'=>(x= .normal∧(.inl ())=r48∧Sub s' (ofG 127 [],[]))∨(x= .ret∧ ∃q49,(.inr q49)=r48∧qW Tryz.prog [.tmp 4] (.i q49) .ret s')) ?_ ?_
        ·refine ihB g48 (fun c50 g48=>?_) (fun c50 g48=>?_)
         ·refine sq ?_
          obtain⟨r51,e_r51,g48⟩:=bnd g48
          refine sq (gr fol [2] (kA7 [(10,.ptr 2 0),(119,.bool (!r51))]) (ac (cv (qeD x39 x1 e_r51)) az) ?_)
          refine ihB g48 (fun c52 g48=>?_) (fun c52 g48=>?_)
          ·refine sh fol [(4,.i 24)] ?_
           refine Goes.ret ?_
           obtain rfl:=si g48
           exact Or.inr (⟨rfl,_,rfl,(gw2 [.i 24] (FzW.still tI))⟩)
          ·refine Goes.skip ?_
           obtain⟨x53,e_x53,g48⟩:=bnd g48
           refine sq (gr fol [2,3] [(126,.bool (decide (x53>x39.Limit)))] (ac (iv xI encI e_x53) (ac (lv 0 ce3 encI e_x53 rfl) az)) ?_)
           refine ihD g48 (fun c54 g48=>?_) (fun c54 g48=>?_)
           ·refine sh fol [(4,.i 31)] ?_
            refine Goes.ret ?_
            obtain rfl:=si g48
            exact Or.inr (⟨rfl,_,rfl,(gw2 [.i 31] (FzW.still tI))⟩)
           ·refine Goes.skip ?_
            obtain rfl:=si g48
            exact Or.inl (⟨rfl,rfl,(Sub.norm [] [] rfl rfl .nil .nil)⟩)
         ·refine Goes.skip ?_
          obtain rfl:=si g48
          exact Or.inl (⟨rfl,rfl,(Sub.norm [] [] rfl rfl .nil .nil)⟩)
        rintro x s' (⟨rfl,rfl,hsub⟩|⟨rfl,q55,rfl,hret⟩)
        ·try dsimp only at h
         refine Goes.sub hsub ?_
         refine sh fol kBW ?_
         refine Goes.ret ?_
         obtain rfl:=si h
         exact(gw2 [.i 0] (FzW.still tI))
        ·try dsimp only at h
         obtain rfl:=si h
         exact hret
def je (N:Nat) (l:List qb):Nat→(List qb)→Int→Option ((List qb)⊕((List qb)×Int×Int))
 |0,_,_=>none
 |K+1,l1,n2=>
  if n2<(l.length:Int)then
  (((idx l n2).bind fun x10=>
  (vw N x10).bind fun r11=>
  (if r11=0 then
  some (!decide (x10.Number=(w64 (n2+1))))
  else
  some false:Option Bool).bind fun b13=>
  ((if b13=true then
  some 11
  else
  some r11:Option Int)).bind fun n15=>
  (if n15=0 then
  if(x10.Kind==[117,110,100,111])=true then
  some (decide ((l1.length:Int)=0))
  else
  some false
  else
  some false:Option Bool).bind fun b20=>
  ((if b20=true then
  some 12
  else
  some n15:Option Int)).bind fun n22=>
  (if n22=0 then
  some (!(x10.Kind==[117,110,100,111]))
  else
  some false:Option Bool).bind fun b26=>
  ((if b26=true then
  (z8 N l1).bind fun r31=>
  (jw N r31 x10).bind fun r32=>
  some r32
  else
  some n22:Option Int)).bind fun n28=>
  if(!decide (n28=0))=true then
  some (.inr ([],w64 (n2+1),n28))
  else
  if(x10.Kind==[117,110,100,111])=true then
  (cut l1 0 (w64 ((l1.length:Int)-1))).bind fun s35=>
  some (.inl s35)
  else
  (app 88 ([]:List qb) l1).bind fun l36=>
  (app 88 l36 [x10]).bind fun l37=>
  some (.inl l37):Option ((List qb)⊕((List qb)×Int×Int)))).bind (fun
  |(.inl l7)=>
  je N l K l7 (w64 (n2+1))
  |(.inr q38)=>
  some (.inr q38))
  else
  some (.inl l1)
def qad (N:Nat) (l:List qb):Option ((List qb)×Int×Int):=
 (je N l N ([]:List qb) 0).bind (fun
 |(.inl l3)=>
 some (l3,0,0)
 |(.inr q39)=>
 some q39)
theorem qgy (N:Nat) (l:List qb) {res:(List qb)×Int×Int} (h:qad N l=some res):qg Tryz.prog (.fn 83) [vl qa l] [] (.tuple (kA5 res.1 [.i res.2.1,.i res.2.2])) []:=by
 unfold qad at h
 refine Goes.fnW Tryz.func83 rfl rfl (m:=82) rfl (rs:=[.tmp 2,.tmp 3,.tmp 4]) rfl (l:=(kL l [])) rfl ?_
 refine sh fol (kL l []) ?_
 refine sh fol (kL l [(5,.nilslice)]) ?_
 refine sq ?_
 refine sh fol (kL l [(5,.nilslice),(6,.i 0)]) ?_
 refine Goes.block ?_
 obtain⟨r4,g4,h⟩:=bnd h
 refine Goes.imp (Q:=fun x s'=>(x= .exit 0∧ ∃l3,(.inl l3)=r4∧Sub s' (ofG 82 (kW l3 []),[]))∨(x= .ret∧ ∃q5,(.inr q5)=r4∧qW Tryz.prog [.tmp 2,.tmp 3,.tmp 4] (.tuple (kA5 q5.1 [.i q5.2.1,.i q5.2.2])) .ret s')) ?_ ?_
 ·refine Goes.sub (s':=(ofG 82 (kL l [(5,vl qa ([]:List qb)),(6,.i 0)]),[])) (Sub.norm [] [] rfl rfl (.keep (.same (qo qa _)) (.keep .nilv (.keep (.same nI) .nil))) .nil) ?_
  refine Goes.loopS (fun M s=> ∃(l1:List qb) (n2:Int),s=(ofG 82 (kL l (kW l1 (kBu n2))),[])∧je N l M l1 n2=some r4) ?_ (m:=N) ⟨_,_,rfl,g4⟩
  rintro M s ⟨l1,n2,rfl,g4⟩
  cases M with
  |zero=>simp only[je]at g4;cases g4
  |succ M=>
   rw[je]at g4
   refine sq ?_
   refine sh fol (kL l (kW l1 [(6,.i n2),(12,.bool (decide (n2<(l.length:Int))))])) ?_
   refine ihD g4 (fun c6 g4=>?_) (fun c6 g4=>?_)
   ·refine Goes.skip ?_
    refine sq ?_
    obtain⟨r8,g8,g4⟩:=bnd g4
    refine Goes.imp (Q:=fun x s'=>(x= .normal∧ ∃l7,(.inl l7)=r8∧Sub s' (ofG 82 (kL l (kW l7 (kBu n2))),[]))∨(x= .ret∧ ∃q9,(.inr q9)=r8∧qW Tryz.prog [.tmp 2,.tmp 3,.tmp 4] (.tuple (kA5 q9.1 [.i q9.2.1,.i q9.2.2])) .ret s')) ?_ ?_
    ·refine Goes.block ?_
     obtain⟨x10,e_x10,g8⟩:=bnd g8
     obtain⟨r11,e_r11,g8⟩:=bnd g8
     refine sq (gr fol [2,3,4] (kL l (kW l1 (kZ n2 r11 []))) (ac (iv jo qa e_x10) (ac (la qjl qa e_x10) (ac (cv (qaM N x10 e_r11)) az))) ?_)
     refine sq ?_
     refine sq ?_
     obtain⟨b13,g_v14,g8⟩:=bnd g8
     refine Goes.cut (s':=(ofG 82 (kL l (kW l1 (kZ n2 r11 [(31,.bool b13)]))),[])) ?_ ?_
     ·rcases wyD g_v14 with⟨c12,g_v14⟩|⟨c12,g_v14⟩
      ·obtain rfl:=si g_v14
       exact tr fol [2,5,7] (kL l (kW l1 (kZ n2 r11 [(31,.bool (!decide (x10.Number=(w64 (n2+1)))))]))) (ac (gw c12) (ac (iv jo qa e_x10) (ac (lv 0 ce3 qa e_x10 rfl) az)))
      ·obtain rfl:=si g_v14
       exact tr fol [2] (kL l (kW l1 (kZ n2 r11 [(31,.bool false)]))) (ac (gw c12) az)
     obtain⟨r16,g16,g8⟩:=bnd g8
     refine Goes.imp (Q:=fun x s'=>(x= .normal∧ ∃n15,n15=r16∧Sub s' (ofG 82 (kL l (kW l1 (kZ n2 n15 []))),[]))) ?_ ?_
     ·refine ihB g16 (fun c17 g16=>?_) (fun c17 g16=>?_)
      ·refine gh fol (kL l (kW l1 [(6,.i n2),(7,.i 11)])) ?_
       obtain rfl:=si g16
       exact⟨rfl,_,rfl,(Sub.refl _)⟩
      ·refine Goes.skip ?_
       obtain rfl:=si g16
       exact⟨rfl,_,rfl,(Sub.keep [0,5,6,7] rfl rfl)⟩
     rintro x s' ⟨rfl,n15,rfl,hsub⟩
     refine Goes.sub hsub ?_
     refine sq (gr fol [2,4] (kL l (kW l1 (kZ n2 n15 (kBU (x10.Kind==[117,110,100,111]))))) (ac (iv jo qa e_x10) (ac (lv 1 ce9 qa e_x10 rfl) az)) ?_)
     refine sq ?_
     refine sq ?_
     obtain⟨b20,g_v21,g8⟩:=bnd g8
     refine Goes.cut (s':=(ofG 82 (kL l (kW l1 (kZ n2 n15 [(8,.bool (x10.Kind==[117,110,100,111])),(47,.bool b20)]))),[])) ?_ ?_
     ·rcases wyD g_v21 with⟨c18,g_v21⟩|⟨c18,g_v21⟩
      ·rcases wyB g_v21 with⟨c19,g_v21⟩|⟨c19,g_v21⟩
       ·obtain rfl:=si g_v21
        exact tr fol [2,5] (kL l (kW l1 (kZ n2 n15 [(8,.bool (x10.Kind==[117,110,100,111])),(47,.bool (decide ((l1.length:Int)=0)))]))) (ac (gw c18) (ac (gw c19) az))
       ·obtain rfl:=si g_v21
        exact tr fol [2,5] (kL l (kW l1 (kZ n2 n15 [(8,.bool (x10.Kind==[117,110,100,111])),(47,.bool false)]))) (ac (gw c18) (ac (gw c19) az))
      ·obtain rfl:=si g_v21
       exact tr fol [2] (kL l (kW l1 (kZ n2 n15 [(8,.bool (x10.Kind==[117,110,100,111])),(47,.bool false)]))) (ac (gw c18) az)
     obtain⟨r23,g23,g8⟩:=bnd g8
     refine Goes.imp (Q:=fun x s'=>(x= .normal∧ ∃n22,n22=r23∧Sub s' (ofG 82 (kL l (kW l1 (kZ n2 n22 (kBU (x10.Kind==[117,110,100,111]))))),[]))) ?_ ?_
     ·refine ihB g23 (fun c24 g23=>?_) (fun c24 g23=>?_)
      ·refine gh fol (kL l (kW l1 ((6,.i n2)::(7,.i 12)::(kBU (x10.Kind==[117,110,100,111]))))) ?_
       obtain rfl:=si g23
       exact⟨rfl,_,rfl,(Sub.refl _)⟩
      ·refine Goes.skip ?_
       obtain rfl:=si g23
       exact⟨rfl,_,rfl,(Sub.keep [0,5,6,7,8] rfl rfl)⟩
     rintro x s' ⟨rfl,n22,rfl,hsub⟩
     refine Goes.sub hsub ?_
     refine sq ?_
     refine sq ?_
     obtain⟨b26,g_v27,g8⟩:=bnd g8
     refine Goes.cut (s':=(ofG 82 (kL l (kW l1 (kZ n2 n22 [(8,.bool (x10.Kind==[117,110,100,111])),(53,.bool b26)]))),[])) ?_ ?_
     ·rcases wyD g_v27 with⟨c25,g_v27⟩|⟨c25,g_v27⟩
      ·obtain rfl:=si g_v27
       exact tr fol [2] (kL l (kW l1 (kZ n2 n22 [(8,.bool (x10.Kind==[117,110,100,111])),(53,.bool (!(x10.Kind==[117,110,100,111])))]))) (ac (gw c25) az)
      ·obtain rfl:=si g_v27
       exact tr fol [2] (kL l (kW l1 (kZ n2 n22 [(8,.bool (x10.Kind==[117,110,100,111])),(53,.bool false)]))) (ac (gw c25) az)
     obtain⟨r29,g29,g8⟩:=bnd g8
     refine Goes.imp (Q:=fun x s'=>(x= .normal∧ ∃n28,n28=r29∧Sub s' (ofG 82 (kL l (kW l1 (kZ n2 n28 (kBU (x10.Kind==[117,110,100,111]))))),[]))) ?_ ?_
     ·refine ihB g29 (fun c30 g29=>?_) (fun c30 g29=>?_)
      ·obtain⟨r31,e_r31,g29⟩:=bnd g29
       obtain⟨r32,e_r32,g29⟩:=bnd g29
       refine gr fol [1,4,5,6] (kL l (kW l1 (kZ n2 r32 (kBU (x10.Kind==[117,110,100,111]))))) (ac (cv (qcS N l1 e_r31)) (ac (iv jo qa e_x10) (ac (la qjl qa e_x10) (ac (cv (qgv N r31 x10 e_r32)) az)))) ?_
       obtain rfl:=si g29
       exact⟨rfl,_,rfl,(Sub.refl _)⟩
      ·refine Goes.skip ?_
       obtain rfl:=si g29
       exact⟨rfl,_,rfl,(Sub.keep [0,5,6,7,8] rfl rfl)⟩
     rintro x s' ⟨rfl,n28,rfl,hsub⟩
     refine Goes.sub hsub ?_
     refine sq ?_
     refine sh fol (kL l (kW l1 (kZ n2 n28 [(8,.bool (x10.Kind==[117,110,100,111])),(62,.bool (!decide (n28=0)))]))) ?_
     refine ihB g8 (fun c33 g8=>?_) (fun c33 g8=>?_)
     ·refine sh fol ((2,.nilslice)::(3,.i (w64 (n2+1)))::(kAv n28)) ?_
      refine Goes.ret ?_
      obtain rfl:=si g8
      exact Or.inr (⟨rfl,_,rfl,(gw2 [.nilslice,.i (w64 (n2+1)),.i n28] (FzW.tuple (qh.cons (FzW.nilv (E:=qa)) (qh.cons (FzW.still tI) (qh.cons (FzW.still tI) qh.nil)))))⟩)
     ·refine Goes.skip ?_
      refine sh fol (kL l (kW l1 [(6,.i n2),(66,.bool (x10.Kind==[117,110,100,111]))])) ?_
      refine ihB g8 (fun c34 g8=>?_) (fun c34 g8=>?_)
      ·obtain⟨s35,e_s35,g8⟩:=bnd g8
       refine gr fol [4] (kL l (kW s35 (kBu n2))) (ac (hs (.done (.opt (qG Tryz.prog 22 (vl qa l1) none (some (.i (w64 ((l1.length:Int)-1)))) none)) (vl qa s35)) (qfb jo (E:=qa) rfl none (some (w64 ((l1.length:Int)-1))) e_s35)) az) ?_
       obtain rfl:=si g8
       exact Or.inl (⟨rfl,_,rfl,(Sub.refl _)⟩)
      ·obtain⟨l36,e_l36,g8⟩:=bnd g8
       obtain⟨l37,e_l37,g8⟩:=bnd g8
       refine gq fol [2,5,6,8] (kL l ((5,.oslice 3 l37.length 5)::(kBu n2))) (kBZ (kQ x10 (kB l37 []))) (ac (hs (.run [0] (qz Tryz.prog [22,22] (.slice 0 0 0 0 5) (vl qa l1)) [.cells []] (.oslice 1 l36.length 5) (.dead::(kB l36 [])) true) (ko jo (E:=qa) rfl (qd5 (E:=qa) rfl _) (qf0 (E:=qa) rfl rfl rfl e_l36 rfl))) (ac (iv jo qa e_x10) (ac (la qjl qa e_x10) (ac (hs (.run [1,2] (qz Tryz.prog [22,22] (.oslice 1 l36.length 5) (.slice 2 0 1 1 5)) (.dead::(kB l36 (kQ x10 []))) (.oslice 3 l37.length 5) (kBZ (kQ x10 (kB l37 []))) true) (ko jo (E:=qa) rfl (xm (E:=qa) (ys:=[x10]) rfl rfl rfl rfl) (qdv (E:=qa) (l:=l36) rfl rfl rfl e_l37 rfl))) az)))) ?_
       obtain rfl:=si g8
       exact Or.inl (⟨rfl,_,rfl,(Sub.norm [3] [] rfl rfl (.keep (.same (qo qa _)) (.keep (.frz (Fz.os (E:=qa) rfl rfl (nl rfl)) (qo qa _)) (.keep (.same nI) .nil))) .nil)⟩)
    rintro x s' (⟨rfl,l7,rfl,hsub⟩|⟨rfl,q38,rfl,hret⟩)
    ·try dsimp only at g4
     refine Goes.sub hsub ?_
     refine gh fol (kL l (kW l7 (kBu (w64 (n2+1))))) ?_
     exact⟨M,(ofG 82 (kL l (kW l7 (kBu (w64 (n2+1))))),[]),Nat.lt_succ_self _,(Sub.refl _),_,_,rfl,g4⟩
    ·try dsimp only at g4
     obtain rfl:=si g4
     exact Or.inr (⟨rfl,_,rfl,hret⟩)
   ·refine Goes.exit ?_
    obtain rfl:=si g4
    exact Or.inl (⟨rfl,_,rfl,(Sub.keep [5] rfl rfl)⟩)
 rintro x s' (⟨rfl,l3,rfl,hsub⟩|⟨rfl,q39,rfl,hret⟩)
 ·try dsimp only at h
  refine Goes.sub hsub ?_
  refine sh fol ((2,vl qa l3)::(3,.i 0)::kBW) ?_
  refine Goes.ret ?_
  obtain rfl:=si h
  exact(gw2 (kA5 l3 [.i 0,.i 0]) (FzW.tuple (qh.cons (FzW.still (qF qa _ (nl rfl))) (qh.cons (FzW.still tI) (qh.cons (FzW.still tI) qh.nil)))))
 ·try dsimp only at h
  obtain rfl:=si h
  exact hret
def vH (N:Nat) (l:List qb):Option (qy×Int×Int):=
 if(l.length:Int)>1000 then
 some ((⟨0,[]⟩:qy),0,5)
 else
 (qad N l).bind fun r2=>
 if(!decide (r2.2.2=0))=true then
 some ((⟨0,[]⟩:qy),r2.2.1,r2.2.2)
 else
 (z8 N r2.1).bind fun r4=>
 some (r4,0,0)
theorem qaV (N:Nat) (l:List qb) {res:qy×Int×Int} (h:vH N l=some res):qg Tryz.prog (.fn 17) [vl qa l] [] (.tuple (kAe res.1.Day res.1.Slings [.i res.2.1,.i res.2.2])) []:=by
 unfold vH at h
 refine Goes.fnW Tryz.func17 rfl rfl (m:=25) rfl (rs:=[.cell 2 37,.tmp 3,.tmp 4]) rfl (l:=(kL l [])) rfl ?_
 refine sg fol (kL l (kK [])) [bZ] ?_
 refine sq ?_
 refine sh fol (kL l (kK (kBg (decide ((l.length:Int)>1000))))) ?_
 refine ihD h (fun c1 h=>?_) (fun c1 h=>?_)
 ·refine sh fol (kK [(3,.i 0),(4,.i 5)]) ?_
  refine Goes.ret ?_
  obtain rfl:=si h
  exact(gw2 [.agg [.i 0,.nilslice],.i 0,.i 5] (FzW.tuple (qh.cons (FzW.agg (qh.cons (FzW.still tI) (qh.cons (FzW.nilv (E:=qd)) qh.nil))) (qh.cons (FzW.still tI) (qh.cons (FzW.still tI) qh.nil)))))
 ·refine Goes.skip ?_
  obtain⟨r2,e_r2,h⟩:=bnd h
  refine sq (gr fol [1] (kK (kW r2.1 (kZ r2.2.1 r2.2.2 []))) (ac (cv (qgy N l e_r2)) az) ?_)
  refine sq ?_
  refine sh fol (kK (kW r2.1 (kZ r2.2.1 r2.2.2 [(19,.bool (!decide (r2.2.2=0)))]))) ?_
  refine ihB h (fun c3 h=>?_) (fun c3 h=>?_)
  ·refine sh fol (kK ((3,.i r2.2.1)::(kAv r2.2.2))) ?_
   refine Goes.ret ?_
   obtain rfl:=si h
   exact(gw2 [.agg [.i 0,.nilslice],.i r2.2.1,.i r2.2.2] (FzW.tuple (qh.cons (FzW.agg (qh.cons (FzW.still tI) (qh.cons (FzW.nilv (E:=qd)) qh.nil))) (qh.cons (FzW.still tI) (qh.cons (FzW.still tI) qh.nil)))))
  ·refine Goes.skip ?_
   obtain⟨r4,e_r4,h⟩:=bnd h
   refine sq (gq fol [1] (kK ((3,.i 0)::kBW)) (kE r4.Day r4.Slings []) (ac (cv (qcS N r2.1 e_r4)) az) ?_)
   refine Goes.ret ?_
   obtain rfl:=si h
   exact(gw2 (kAe r4.Day r4.Slings [.i 0,.i 0]) (FzW.tuple (qh.cons (FzW.agg (qh.cons (FzW.still tI) (qh.cons (FzW.still (qF qd _ (nl rfl))) qh.nil))) (qh.cons (FzW.still tI) (qh.cons (FzW.still tI) qh.nil)))))
def jA (s_:Str):Nat→(List Str)→Int→Int→Option (List Str)
 |0,_,_,_=>none
 |K+1,l1,n2,n3=>
  if n3≤(s_.length:Int)then
  (((if n3=(s_.length:Int)then
  some true
  else
  (idx s_ n3).bind fun c11=>
  some (decide ((c11.toNat:Int)=32)):Option Bool).bind fun b12=>
  if b12=true then
  (cut s_ n2 n3).bind fun s15=>
  (app 16 l1 [s15]).bind fun l16=>
  some (l16,w64 (n3+1))
  else
  some (l1,n2):Option ((List Str)×Int))).bind fun(l7,n8)=>
  jA s_ K l7 n8 (w64 (n3+1))
  else
  some l1
def qa9 (N:Nat) (s_:Str):Option (List Str):=
 (jA s_ N ([]:List Str) 0 0).bind fun l4=>
 some l4
theorem qei (N:Nat) (s_:Str) {res:List Str} (h:qa9 N s_=some res):qg Tryz.prog (.fn 137) [.str s_] [] (vl encS res) []:=by
 unfold qa9 at h
 refine Goes.fnW Tryz.func137 rfl rfl (m:=32) rfl (rs:=[.tmp 2]) rfl (l:=(kAJ s_ [])) rfl ?_
 refine sh fol (kAJ s_ []) ?_
 refine sh fol (kAJ s_ [(3,.nilslice)]) ?_
 refine sh fol (kAJ s_ ((3,.nilslice)::kBW)) ?_
 refine sq ?_
 refine sh fol (kAJ s_ ((3,.nilslice)::(4,.i 0)::kA4)) ?_
 refine Goes.block ?_
 obtain⟨r5,g5,h⟩:=bnd h
 refine Goes.imp (Q:=fun x s'=>(x= .exit 0∧ ∃l4,l4=r5∧Sub s' (ofG 32 [(3,.gslice 0 l4.length 1)],(kH l4 [])))) ?_ ?_
 ·refine Goes.sub (s':=(ofG 32 (kAJ s_ ((3,.gslice 0 ([]:List Str).length 1)::(4,.i 0)::kA4)),(kAm []))) (Sub.norm [] [none] rfl rfl (.keep (.same nS) (.keep .nil (.keep (.same nI) (.keep (.same nI) .nil)))) (.fresh .nil)) ?_
  refine Goes.loopS (fun M s=> ∃(l1:List Str) (n2:Int) (n3:Int),s=(ofG 32 (kAJ s_ (kBB l1 n2 (kAb n3))),(kH l1 []))∧jA s_ M l1 n2 n3=some r5) ?_ (m:=N) ⟨_,_,_,rfl,g5⟩
  rintro M s ⟨l1,n2,n3,rfl,g5⟩
  cases M with
  |zero=>simp only[jA]at g5;cases g5
  |succ M=>
   rw[jA]at g5
   refine sq ?_
   refine sh fol (kAJ s_ (kBB l1 n2 ((5,.i n3)::(kBt (decide (n3≤(s_.length:Int))))))) ?_
   refine ihD g5 (fun c6 g5=>?_) (fun c6 g5=>?_)
   ·refine Goes.skip ?_
    refine sq ?_
    obtain⟨r9,g9,g5⟩:=bnd g5
    refine Goes.imp (Q:=fun x s'=>(x= .normal∧ ∃l7 n8,(l7,n8)=r9∧Sub s' (ofG 32 (kAJ s_ (kBB l7 n8 (kAb n3))),(kH l7 [])))) ?_ ?_
    ·refine Goes.block ?_
     refine sq ?_
     obtain⟨b12,g_v13,g9⟩:=bnd g9
     refine Goes.cut (s':=(ofG 32 (kAJ s_ (kBB l1 n2 [(5,.i n3),(21,.bool b12)])),(kH l1 []))) ?_ ?_
     ·rcases wyD g_v13 with⟨c10,g_v13⟩|⟨c10,g_v13⟩
      ·obtain rfl:=si g_v13
       exact tr fol [4] (kAJ s_ (kBB l1 n2 [(5,.i n3),(21,.bool true)])) (ac (gw c10) az)
      ·obtain⟨c11,e_c11,g_v13⟩:=bnd g_v13
       obtain rfl:=si g_v13
       exact tr fol [4,7] (kAJ s_ (kBB l1 n2 [(5,.i n3),(21,.bool (decide ((c11.toNat:Int)=32)))])) (ac (gw c10) (ac (hs (.done (.opt (vQ Tryz.prog 9 (.str s_) (.i n3))) (.int .u8 (c11.toNat:Int))) (xz st9 e_c11)) az))
     refine ihB g9 (fun c14 g9=>?_) (fun c14 g9=>?_)
     ·obtain⟨s15,e_s15,g9⟩:=bnd g9
      obtain⟨l16,e_l16,g9⟩:=bnd g9
      refine sq (gq fol [4,6] (kAJ s_ ((3,.gslice 2 l16.length 1)::(kAb n3))) (.dead::(kAM s15 (kH l16 []))) (ac (hs (.done (.opt (qG Tryz.prog 9 (.str s_) (some (.i n2)) (some (.i n3)) none)) (.str s15)) (yR st9 (some n2) (some n3) e_s15)) (ac (hs (.run [0,1] (qz Tryz.prog [23,23] (.gslice 0 l1.length 1) (.slice 1 0 1 1 1)) (kH l1 (kAM s15 [])) (.gslice 2 l16.length 1) (.dead::(kAM s15 (kH l16 []))) true) (ko zi (E:=encS) rfl (xm (E:=encS) (ys:=[s15]) rfl rfl rfl rfl) (qcF (E:=encS) (l:=l1) rfl rfl rfl e_l16 rfl))) az)) ?_)
      refine gh fol (kAJ s_ ((3,.gslice 2 l16.length 1)::(4,.i (w64 (n3+1)))::(kAb n3))) ?_
      obtain rfl:=si g9
      exact⟨rfl,_,_,rfl,(Sub.norm [] [some 2] rfl rfl (.keep (.same nS) (.keep (.gslice rfl) (.keep (.same nI) (.keep (.same nI) .nil)))) (.ks .nil))⟩
     ·refine Goes.skip ?_
      obtain rfl:=si g9
      exact⟨rfl,_,_,rfl,(Sub.keep [0,3,4,5] rfl rfl)⟩
    rintro x s' ⟨rfl,l7,n8,rfl,hsub⟩
    try dsimp only at g5
    refine Goes.sub hsub ?_
    refine gh fol (kAJ s_ (kBB l7 n8 (kAb (w64 (n3+1))))) ?_
    exact⟨M,(ofG 32 (kAJ s_ (kBB l7 n8 (kAb (w64 (n3+1))))),(kH l7 [])),Nat.lt_succ_self _,(Sub.refl _),_,_,_,rfl,g5⟩
   ·refine Goes.exit ?_
    obtain rfl:=si g5
    exact⟨rfl,_,rfl,(Sub.keep [3] rfl rfl)⟩
 rintro x s' ⟨rfl,l4,rfl,hsub⟩
 refine Goes.sub hsub ?_
 refine sh fol [(2,.gslice 0 l4.length 1)] ?_
 refine Goes.ret ?_
 obtain rfl:=si h
 exact(gw2 [.gslice 0 l4.length 1] (FzW.fz (Fz.gs (E:=encS) rfl rfl (nl rfl))))
def jH (s_:Str):Nat→Int→Int→Option (Int⊕(Int×Bool))
 |0,_,_=>none
 |K+1,n8,n9=>
  if n9<(s_.length:Int)then
  ((idx s_ n9).bind fun c14=>
  if(c14.toNat:Int)<48 then
  some true
  else
  some (decide ((c14.toNat:Int)>57)):Option Bool).bind fun b16=>
  if b16=true then
  some (.inr (0,false))
  else
  (idx s_ n9).bind fun c19=>
  jH s_ K (w64 ((w64 (10*n8))+(w64 (IntKind.wrap .u8 ((c19.toNat:Int)-48))))) (w64 (n9+1))
  else
  some (.inl n8)
def xc (N:Nat) (s_:Str):Option (Int×Bool):=
 (if(s_.length:Int)=0 then
 some true
 else
 if(s_.length:Int)>9 then
 some true
 else
 if(s_.length:Int)>1 then
 (idx s_ 0).bind fun c4=>
 some (decide ((c4.toNat:Int)=48))
 else
 some false:Option Bool).bind fun b5=>
 if b5=true then
 some (0,false)
 else
 (jH s_ N 0 0).bind (fun
 |(.inl n10)=>
 some (n10,true)
 |(.inr q20)=>
 some q20)
theorem qbA (N:Nat) (s_:Str) {res:Int×Bool} (h:xc N s_=some res):qg Tryz.prog (.fn 138) [.str s_] [] (.tuple [.i res.1,.bool res.2]) []:=by
 unfold xc at h
 refine Goes.fnW Tryz.func138 rfl rfl (m:=49) rfl (rs:=[.tmp 2,.tmp 3]) rfl (l:=(kAJ s_ [])) rfl ?_
 refine sh fol (kAJ s_ []) ?_
 refine sq ?_
 refine sq ?_
 obtain⟨b5,g_v6,h⟩:=bnd h
 refine Goes.cut (s':=(ofG 49 (kAJ s_ [(23,.bool b5)]),[])) ?_ ?_
 ·rcases wyD g_v6 with⟨c1,g_v6⟩|⟨c1,g_v6⟩
  ·obtain rfl:=si g_v6
   exact tr fol [3] (kAJ s_ [(23,.bool true)]) (ac (gw c1) az)
  ·rcases wyD g_v6 with⟨c2,g_v6⟩|⟨c2,g_v6⟩
   ·obtain rfl:=si g_v6
    exact tr fol [3,8] (kAJ s_ [(23,.bool true)]) (ac (gw c1) (ac (gw c2) az))
   ·rcases wyD g_v6 with⟨c3,g_v6⟩|⟨c3,g_v6⟩
    ·obtain⟨c4,e_c4,g_v6⟩:=bnd g_v6
     obtain rfl:=si g_v6
     exact tr fol [3,8,12,14] (kAJ s_ [(23,.bool (decide ((c4.toNat:Int)=48)))]) (ac (gw c1) (ac (gw c2) (ac (gw c3) (ac (hs (.done (.opt (vQ Tryz.prog 9 (.str s_) (.i 0))) (.int .u8 (c4.toNat:Int))) (xz st9 e_c4)) az))))
    ·obtain rfl:=si g_v6
     exact tr fol [3,8,12] (kAJ s_ [(23,.bool false)]) (ac (gw c1) (ac (gw c2) (ac (gw c3) az)))
 refine ihB h (fun c7 h=>?_) (fun c7 h=>?_)
 ·refine sh fol ((2,.i 0)::kBP) ?_
  refine Goes.ret ?_
  obtain rfl:=si h
  exact(gw2 (.i 0::kBM) (FzW.tuple (qh.cons (FzW.still tI) (qh.cons (FzW.still tB) qh.nil))))
 ·refine Goes.skip ?_
  refine sh fol (kAJ s_ kBW) ?_
  refine sq ?_
  refine sh fol (kAJ s_ ((4,.i 0)::kA4)) ?_
  refine Goes.block ?_
  obtain⟨r11,g11,h⟩:=bnd h
  refine Goes.imp (Q:=fun x s'=>(x= .exit 0∧ ∃n10,(.inl n10)=r11∧Sub s' (ofG 49 (kAv n10),[]))∨(x= .ret∧ ∃q12,(.inr q12)=r11∧qW Tryz.prog [.tmp 2,.tmp 3] (.tuple [.i q12.1,.bool q12.2]) .ret s')) ?_ ?_
  ·refine Goes.loopS (fun M s=> ∃(n8:Int) (n9:Int),s=(ofG 49 (kAJ s_ ((4,.i n8)::(kAb n9))),[])∧jH s_ M n8 n9=some r11) ?_ (m:=N) ⟨_,_,rfl,g11⟩
   rintro M s ⟨n8,n9,rfl,g11⟩
   cases M with
   |zero=>simp only[jH]at g11;cases g11
   |succ M=>
    rw[jH]at g11
    refine sq ?_
    refine sh fol (kAJ s_ [(4,.i n8),(5,.i n9),(27,.bool (decide (n9<(s_.length:Int))))]) ?_
    refine ihD g11 (fun c13 g11=>?_) (fun c13 g11=>?_)
    ·refine Goes.skip ?_
     refine sq (Goes.block ?_)
     refine sq ?_
     refine sq ?_
     obtain⟨b16,g_v17,g11⟩:=bnd g11
     refine Goes.cut (s':=(ofG 49 (kAJ s_ [(4,.i n8),(5,.i n9),(39,.bool b16)]),[])) ?_ ?_
     ·obtain⟨c14,e_c14,g_v17⟩:=bnd g_v17
      rcases wyD g_v17 with⟨c15,g_v17⟩|⟨c15,g_v17⟩
      ·obtain rfl:=si g_v17
       exact tr fol [2,4] (kAJ s_ [(4,.i n8),(5,.i n9),(39,.bool true)]) (ac (hs (.done (.opt (vQ Tryz.prog 9 (.str s_) (.i n9))) (.int .u8 (c14.toNat:Int))) (xz st9 e_c14)) (ac (gw c15) az))
      ·obtain rfl:=si g_v17
       exact tr fol [2,4,7] (kAJ s_ [(4,.i n8),(5,.i n9),(39,.bool (decide ((c14.toNat:Int)>57)))]) (ac (hs (.done (.opt (vQ Tryz.prog 9 (.str s_) (.i n9))) (.int .u8 (c14.toNat:Int))) (xz st9 e_c14)) (ac (gw c15) (ac (hs (.done (.opt (vQ Tryz.prog 9 (.str s_) (.i n9))) (.int .u8 (c14.toNat:Int))) (xz st9 e_c14)) az)))
     refine ihB g11 (fun c18 g11=>?_) (fun c18 g11=>?_)
     ·refine sh fol ((2,.i 0)::kBP) ?_
      refine Goes.ret ?_
      obtain rfl:=si g11
      exact Or.inr (⟨rfl,_,rfl,(gw2 (.i 0::kBM) (FzW.tuple (qh.cons (FzW.still tI) (qh.cons (FzW.still tB) qh.nil))))⟩)
     ·refine Goes.skip ?_
      obtain⟨c19,e_c19,g11⟩:=bnd g11
      refine gr fol [4] (kAJ s_ ((4,.i (w64 ((w64 (10*n8))+(w64 (IntKind.wrap .u8 ((c19.toNat:Int)-48))))))::(kAb n9))) (ac (hs (.done (.opt (vQ Tryz.prog 9 (.str s_) (.i n9))) (.int .u8 (c19.toNat:Int))) (xz st9 e_c19)) az) ?_
      refine gh fol (kAJ s_ ((4,.i (w64 ((w64 (10*n8))+(w64 (IntKind.wrap .u8 ((c19.toNat:Int)-48))))))::(kAb (w64 (n9+1))))) ?_
      exact⟨M,(ofG 49 (kAJ s_ ((4,.i (w64 ((w64 (10*n8))+(w64 (IntKind.wrap .u8 ((c19.toNat:Int)-48))))))::(kAb (w64 (n9+1))))),[]),Nat.lt_succ_self _,(Sub.refl _),_,_,rfl,g11⟩
    ·refine Goes.exit ?_
     obtain rfl:=si g11
     exact Or.inl (⟨rfl,_,rfl,(Sub.keep [4] rfl rfl)⟩)
  rintro x s' (⟨rfl,n10,rfl,hsub⟩|⟨rfl,q20,rfl,hret⟩)
  ·try dsimp only at h
   refine Goes.sub hsub ?_
   refine sh fol [(2,.i n10),(3,.bool true)] ?_
   refine Goes.ret ?_
   obtain rfl:=si h
   exact(gw2 (.i n10::kAp) (FzW.tuple (qh.cons (FzW.still tI) (qh.cons (FzW.still tB) qh.nil))))
  ·try dsimp only at h
   obtain rfl:=si h
   exact hret
def jU (N:Nat) (r1:List Str) (r3:Int×Int×Bool):Nat→(List Str)→(List Int)→Int→Option (((List Str)×(List Int))⊕(qb×Bool))
 |0,_,_,_=>none
 |K+1,l8,l9,n10=>
  if n10<(r1.length:Int)then
  (((idx r1 n10).bind fun x20=>
  if(x20==[])=true then
  some (.inr ((⟨0,[],[],[],[]⟩:qb),false))
  else
  if n10≤r3.1 then
  (app 16 l8 [x20]).bind fun l23=>
  some (.inl (l23,l9))
  else
  (xc N x20).bind fun r24=>
  if(!r24.2)=true then
  some (.inr ((⟨0,[],[],[],[]⟩:qb),false))
  else
  (app 8 l9 [r24.1]).bind fun l26=>
  some (.inl (l8,l26)):Option (((List Str)×(List Int))⊕(qb×Bool)))).bind (fun
  |(.inl (l16,l17))=>
  jU N r1 r3 K l16 l17 (w64 (n10+1))
  |(.inr q27)=>
  some (.inr q27))
  else
  some (.inl (l8,l9))
def qaG (N:Nat) (s_:Str):Option (qb×Bool):=
 (qa9 N s_).bind fun r1=>
 (idx r1 0).bind fun x2=>
 (qa3 x2).bind fun r3=>
 (if(!r3.2.2)=true then
 some true
 else
 some (!decide ((r1.length:Int)=(w64 ((w64 (1+r3.1))+r3.2.1)))):Option Bool).bind fun b5=>
 if b5=true then
 some ((⟨0,[],[],[],[]⟩:qb),false)
 else
 (jU N r1 r3 N ([]:List Str) ([]:List Int) 1).bind (fun
 |(.inl (l11,l12))=>
 some ((⟨0,x2,l11,l12,[]⟩:qb),true)
 |(.inr q28)=>
 some q28)
theorem qd7 (N:Nat) (s_:Str) {res:qb×Bool} (h:qaG N s_=some res):qg Tryz.prog (.fn 76) [.str s_] [] (.tuple [.agg (cE res.1),.bool res.2]) []:=by
 unfold qaG at h
 refine Goes.fnW Tryz.func76 rfl rfl (m:=80) rfl (rs:=[.cell 2 26,.tmp 3]) rfl (l:=(kAJ s_ [])) rfl ?_
 refine sg fol (kAJ s_ (kK [])) (kG []) ?_
 obtain⟨r1,e_r1,h⟩:=bnd h
 refine sq (gr fol [1] (kK [(4,vl encS r1)]) (ac (cv (qei N s_ e_r1)) az) ?_)
 obtain⟨x2,e_x2,h⟩:=bnd h
 obtain⟨r3,e_r3,h⟩:=bnd h
 refine sq (gr fol [1,2,3] (kK [(4,vl encS r1),(5,.i r3.1),(6,.i r3.2.1),(7,.bool r3.2.2)]) (ac (iv zi encS e_x2) (ac (lv 0 ce9 encS e_x2 rfl) (ac (cv (qcV x2 e_r3)) az))) ?_)
 refine sq ?_
 refine sq ?_
 obtain⟨b5,g_v6,h⟩:=bnd h
 refine Goes.cut (s':=(ofG 80 (kK [(4,vl encS r1),(5,.i r3.1),(32,.bool b5)]),(kG []))) ?_ ?_
 ·rcases wyB g_v6 with⟨c4,g_v6⟩|⟨c4,g_v6⟩
  ·obtain rfl:=si g_v6
   exact tr fol [2] (kK [(4,vl encS r1),(5,.i r3.1),(32,.bool true)]) (ac (gw c4) az)
  ·obtain rfl:=si g_v6
   exact tr fol [2] (kK [(4,vl encS r1),(5,.i r3.1),(32,.bool (!decide ((r1.length:Int)=(w64 ((w64 (1+r3.1))+r3.2.1)))))]) (ac (gw c4) az)
 refine ihB h (fun c7 h=>?_) (fun c7 h=>?_)
 ·refine sh fol (kK kBP) ?_
  refine Goes.ret ?_
  obtain rfl:=si h
  exact(gw2 (kAA kBM) (FzW.tuple (qh.cons (FzW.agg (qh.cons (FzW.still tI) (qh.cons (FzW.still tS) (qh.cons (FzW.nilv (E:=encS)) (qh.cons (FzW.nilv (E:=encI)) (qh.cons (FzW.still tS) qh.nil)))))) (qh.cons (FzW.still tB) qh.nil))))
 ·refine Goes.skip ?_
  refine sq (gq fol [1,2] (kK (kAP r1 r3.1 [])) (kG [.cells [.i 0,.str x2,.nilslice,.nilslice,.str []]]) (ac (iv zi encS e_x2) (ac (lv 0 ce9 encS e_x2 rfl) az)) ?_)
  refine sq ?_
  refine sh fol (kK (kAP r1 r3.1 [(9,.i 1)])) ?_
  refine Goes.block ?_
  obtain⟨r13,g13,h⟩:=bnd h
  refine Goes.imp (Q:=fun x s'=>(x= .exit 0∧ ∃l11 l12,(.inl (l11,l12))=r13∧Sub s' (ofG 80 (kK (kBk [])),(kG (kX x2 l11 l12 (kH l11 (kAF l12))))))∨(x= .ret∧ ∃q14,(.inr q14)=r13∧qW Tryz.prog [.cell 2 26,.tmp 3] (.tuple [.agg (cE q14.1),.bool q14.2]) .ret s')) ?_ ?_
  ·refine Goes.sub (s':=(ofG 80 (kK (kAP r1 r3.1 [(9,.i 1)])),(kG (.cells [.i 0,.str x2,.gslice 2 ([]:List Str).length 1,.gslice 3 ([]:List Int).length 1,.str []]::(kAm kB7))))) (Sub.norm [] [some 0,some 1,none,none] rfl rfl (.kp (.keep (.same (qo encS _)) (.keep (.same nI) (.kp (.keep (.same nI) .nil))))) (.kb rfl (.same sn) (.kb rfl (.cells (rc (.same nI) (rc (.same nS) (rc (.nil) (rc (.nil) (rc (.same nS) rn)))))) (.fresh (.fresh .nil))))) ?_
   refine Goes.loopS (fun M s=> ∃(l8:List Str) (l9:List Int) (n10:Int),s=(ofG 80 (kK (kAP r1 r3.1 (kBi n10))),(kG (kX x2 l8 l9 (kH l8 (kAF l9)))))∧jU N r1 r3 M l8 l9 n10=some r13) ?_ (m:=N) ⟨_,_,_,rfl,g13⟩
   rintro M s ⟨l8,l9,n10,rfl,g13⟩
   cases M with
   |zero=>simp only[jU]at g13;cases g13
   |succ M=>
    rw[jU]at g13
    refine sq ?_
    refine sh fol (kK (kAP r1 r3.1 [(9,.i n10),(41,.bool (decide (n10<(r1.length:Int))))])) ?_
    refine ihD g13 (fun c15 g13=>?_) (fun c15 g13=>?_)
    ·refine Goes.skip ?_
     refine sq ?_
     obtain⟨r18,g18,g13⟩:=bnd g13
     refine Goes.imp (Q:=fun x s'=>(x= .normal∧ ∃l16 l17,(.inl (l16,l17))=r18∧Sub s' (ofG 80 (kK (kAP r1 r3.1 (kBi n10))),(kG (kX x2 l16 l17 (kH l16 (kAF l17))))))∨(x= .ret∧ ∃q19,(.inr q19)=r18∧qW Tryz.prog [.cell 2 26,.tmp 3] (.tuple [.agg (cE q19.1),.bool q19.2]) .ret s')) ?_ ?_
     ·refine Goes.block ?_
      refine sq ?_
      obtain⟨x20,e_x20,g18⟩:=bnd g18
      refine sq (gr fol [2,3] (kK (kAP r1 r3.1 [(9,.i n10),(48,.bool (x20==[]))])) (ac (iv zi encS e_x20) (ac (lv 0 ce9 encS e_x20 rfl) az)) ?_)
      refine ihB g18 (fun c21 g18=>?_) (fun c21 g18=>?_)
      ·refine sh fol (kK kBP) ?_
       refine Goes.ret ?_
       obtain rfl:=si g18
       exact Or.inr (⟨rfl,_,rfl,(gw2 (kAA kBM) (FzW.tuple (qh.cons (FzW.agg (qh.cons (FzW.still tI) (qh.cons (FzW.still tS) (qh.cons (FzW.nilv (E:=encS)) (qh.cons (FzW.nilv (E:=encI)) (qh.cons (FzW.still tS) qh.nil)))))) (qh.cons (FzW.still tB) qh.nil))))⟩)
      ·refine Goes.skip ?_
       refine sq ?_
       refine sh fol (kK (kAP r1 r3.1 [(9,.i n10),(52,.bool (decide (n10≤r3.1)))])) ?_
       refine ihD g18 (fun c22 g18=>?_) (fun c22 g18=>?_)
       ·obtain⟨l23,e_l23,g18⟩:=bnd g18
        refine sq (gq fol [4,5,7] (kK (kAP r1 r3.1 (kBi n10))) (kG (.cells [.i 0,.str x2,.gslice 5 l23.length 1,.gslice 3 l9.length 1,.str []]:: .dead:: .cells (l9.flatMap encI.c)::(kAM x20 (kH l23 [])))) (ac (iv zi encS e_x20) (ac (lv 0 ce9 encS e_x20 rfl) (ac (hs (.run [2,4] (qz Tryz.prog [23,23] (.gslice 2 l8.length 1) (.slice 4 0 1 1 1)) (kG (kX x2 l8 l9 (kH l8 (.cells (l9.flatMap encI.c)::(kAM x20 []))))) (.gslice 5 l23.length 1) (kG (kX x2 l8 l9 (.dead:: .cells (l9.flatMap encI.c)::(kAM x20 (kH l23 []))))) true) (ko zi (E:=encS) rfl (xm (E:=encS) (ys:=[x20]) rfl rfl rfl rfl) (qcF (E:=encS) (l:=l8) rfl rfl rfl e_l23 rfl))) az))) ?_)
        refine Goes.exit ?_
        obtain rfl:=si g18
        exact Or.inl (⟨rfl,_,_,rfl,(Sub.norm [] [some 0,some 1,some 5,some 3] rfl rfl (.kp (.keep (.same (qo encS _)) (.keep (.same nI) (.kp (.keep (.same nI) .nil))))) (.kb rfl (.same sn) (.kb rfl (.cells (rc (.same nI) (rc (.same nS) (rc (.gslice rfl) (rc (.gslice rfl) (rc (.same nS) rn)))))) (.ks (.ks .nil)))))⟩)
       ·refine Goes.skip ?_
        obtain⟨r24,e_r24,g18⟩:=bnd g18
        refine sq (gr fol [2,3,4] (kK (kAP r1 r3.1 [(9,.i n10),(10,.i r24.1),(11,.bool r24.2)])) (ac (iv zi encS e_x20) (ac (lv 0 ce9 encS e_x20 rfl) (ac (cv (qbA N x20 e_r24)) az))) ?_)
        refine sq ?_
        refine sh fol (kK (kAP r1 r3.1 [(9,.i n10),(10,.i r24.1),(71,.bool (!r24.2))])) ?_
        refine ihB g18 (fun c25 g18=>?_) (fun c25 g18=>?_)
        ·refine sh fol (kK kBP) ?_
         refine Goes.ret ?_
         obtain rfl:=si g18
         exact Or.inr (⟨rfl,_,rfl,(gw2 (kAA kBM) (FzW.tuple (qh.cons (FzW.agg (qh.cons (FzW.still tI) (qh.cons (FzW.still tS) (qh.cons (FzW.nilv (E:=encS)) (qh.cons (FzW.nilv (E:=encI)) (qh.cons (FzW.still tS) qh.nil)))))) (qh.cons (FzW.still tB) qh.nil))))⟩)
        ·refine Goes.skip ?_
         obtain⟨l26,e_l26,g18⟩:=bnd g18
         refine gq fol [4] (kK (kAP r1 r3.1 (kBi n10))) (kG (.cells [.i 0,.str x2,.gslice 2 l8.length 1,.gslice 5 l26.length 1,.str []]::(kH l8 (.dead::(kAH r24.1 (kAF l26)))))) (ac (hs (.run [3,4] (qz Tryz.prog [24,24] (.gslice 3 l9.length 1) (.slice 4 0 1 1 1)) (kG (kX x2 l8 l9 (kH l8 (.cells (l9.flatMap encI.c)::(kAH r24.1 []))))) (.gslice 5 l26.length 1) (kG (kX x2 l8 l9 (kH l8 (.dead::(kAH r24.1 (kAF l26)))))) true) (ko xI (E:=encI) rfl (xm (E:=encI) (ys:=[r24.1]) rfl rfl rfl rfl) (qcF (E:=encI) (l:=l9) rfl rfl rfl e_l26 rfl))) az) ?_
         obtain rfl:=si g18
         exact Or.inl (⟨rfl,_,_,rfl,(Sub.norm [] [some 0,some 1,some 2,some 5] rfl rfl (.kp (.keep (.same (qo encS _)) (.keep (.same nI) (.kp (.keep (.same nI) .nil))))) (.kb rfl (.same sn) (.kb rfl (.cells (rc (.same nI) (rc (.same nS) (rc (.gslice rfl) (rc (.gslice rfl) (rc (.same nS) rn)))))) (.ks (.ks .nil)))))⟩)
     rintro x s' (⟨rfl,l16,l17,rfl,hsub⟩|⟨rfl,q27,rfl,hret⟩)
     ·try dsimp only at g13
      refine Goes.sub hsub ?_
      refine gh fol (kK (kAP r1 r3.1 (kBi (w64 (n10+1))))) ?_
      exact⟨M,(ofG 80 (kK (kAP r1 r3.1 (kBi (w64 (n10+1))))),(kG (kX x2 l16 l17 (kH l16 (kAF l17))))),Nat.lt_succ_self _,(Sub.refl _),_,_,_,rfl,g13⟩
     ·try dsimp only at g13
      obtain rfl:=si g13
      exact Or.inr (⟨rfl,_,rfl,hret⟩)
    ·refine Goes.exit ?_
     obtain rfl:=si g13
     exact Or.inl (⟨rfl,_,_,rfl,(Sub.keep [2,8] rfl rfl)⟩)
  rintro x s' (⟨rfl,l11,l12,rfl,hsub⟩|⟨rfl,q28,rfl,hret⟩)
  ·try dsimp only at h
   refine Goes.sub hsub ?_
   refine sg fol (kK [(3,.bool true)]) (kX x2 l11 l12 (kX x2 l11 l12 (kH l11 (kAF l12)))) ?_
   refine Goes.ret ?_
   obtain rfl:=si h
   exact(gw2 (.agg [.i 0,.str x2,.gslice 2 l11.length 1,.gslice 3 l12.length 1,.str []]::kAp) (FzW.tuple (qh.cons (FzW.agg (qh.cons (FzW.still tI) (qh.cons (FzW.still tS) (qh.cons (FzW.fz (Fz.gs (E:=encS) rfl rfl (nl rfl))) (qh.cons (FzW.fz (Fz.gs (E:=encI) rfl rfl (nl rfl))) (qh.cons (FzW.still tS) qh.nil)))))) (qh.cons (FzW.still tB) qh.nil))))
  ·try dsimp only at h
   obtain rfl:=si h
   exact hret
def zm (least:Int):Nat→Int→Str→Option Str
 |0,_,_=>none
 |K+1,n1,s2=>
  (if n1>0 then
  some true
  else
  some (decide ((s2.length:Int)<least)):Option Bool).bind fun b6=>
  if b6=true then
  (cut [48,49,50,51,52,53,54,55,56,57] (n1.tmod 10) (w64 ((n1.tmod 10)+1))).bind fun s9=>
  (cat s9 s2).bind fun s10=>
  zm least K (w64 (n1.tdiv 10)) s10
  else
  some s2
def qae (N:Nat) (n:Int) (least:Int):Option Str:=
 (zm least N n []).bind fun s3=>
 some s3
theorem qdl (N:Nat) (n:Int) (least:Int) {res:Str} (h:qae N n least=some res):qg Tryz.prog (.fn 232) [.i n,.i least] [] (.str res) []:=by
 unfold qae at h
 refine Goes.fnW Tryz.func232 rfl rfl (m:=25) rfl (rs:=[.tmp 4]) rfl (l:=(kBz n least [])) rfl ?_
 refine sh fol (kBz n least []) ?_
 refine sh fol (kBz n least [(5,.str [])]) ?_
 refine sq (Goes.block ?_)
 obtain⟨r4,g4,h⟩:=bnd h
 refine Goes.imp (Q:=fun x s'=>(x= .exit 0∧ ∃s3,s3=r4∧Sub s' (ofG 25 [(5,.str s3)],[]))) ?_ ?_
 ·refine Goes.loopS (fun M s=> ∃(n1:Int) (s2:Str),s=(ofG 25 (kBz n1 least [(5,.str s2)]),[])∧zm least M n1 s2=some r4) ?_ (m:=N) ⟨_,_,rfl,g4⟩
  rintro M s ⟨n1,s2,rfl,g4⟩
  cases M with
  |zero=>simp only[zm]at g4;cases g4
  |succ M=>
   rw[zm]at g4
   refine sq ?_
   refine sq ?_
   obtain⟨b6,g_v7,g4⟩:=bnd g4
   refine Goes.cut (s':=(ofG 25 (kBz n1 least ((5,.str s2)::(kB0 b6))),[])) ?_ ?_
   ·rcases wyD g_v7 with⟨c5,g_v7⟩|⟨c5,g_v7⟩
    ·obtain rfl:=si g_v7
     exact tr fol [2] (kBz n1 least [(5,.str s2),(13,.bool true)]) (ac (gw c5) az)
    ·obtain rfl:=si g_v7
     exact tr fol [2] (kBz n1 least ((5,.str s2)::(kB0 (decide ((s2.length:Int)<least))))) (ac (gw c5) az)
   refine ihB g4 (fun c8 g4=>?_) (fun c8 g4=>?_)
   ·refine Goes.skip ?_
    refine Goes.block ?_
    obtain⟨s9,e_s9,g4⟩:=bnd g4
    obtain⟨s10,e_s10,g4⟩:=bnd g4
    refine sq (gr fol [5,7] (kBz n1 least [(5,.str s10)]) (ac (hs (.done (.opt (qG Tryz.prog 9 (.str [48,49,50,51,52,53,54,55,56,57]) (some (.i (n1.tmod 10))) (some (.i (w64 ((n1.tmod 10)+1)))) none)) (.str s9)) (yR st9 (some (n1.tmod 10)) (some (w64 ((n1.tmod 10)+1))) e_s9)) (ac (hs (.done (.opt (qbf Tryz.prog .add 9 (.tmp 19) (.tmp 20) (.str s9) (.str s2))) (.str s10)) (yw e_s10)) az)) ?_)
    refine gh fol (kBz (w64 (n1.tdiv 10)) least [(5,.str s10)]) ?_
    exact⟨M,(ofG 25 (kBz (w64 (n1.tdiv 10)) least [(5,.str s10)]),[]),Nat.lt_succ_self _,(Sub.refl _),_,_,rfl,g4⟩
   ·refine Goes.exit ?_
    obtain rfl:=si g4
    exact⟨rfl,_,rfl,(Sub.keep [5] rfl rfl)⟩
 rintro x s' ⟨rfl,s3,rfl,hsub⟩
 refine Goes.sub hsub ?_
 refine sh fol [(4,.str s3)] ?_
 refine Goes.ret ?_
 obtain rfl:=si h
 exact(gw2 [.str s3] (FzW.still tS))
def xg (N:Nat) (a:qbb):Nat→Str→Int→Option Str
 |0,_,_=>none
 |K+1,s4,n5=>
  if n5≥0 then
  (idx a.w n5).bind fun x9=>
  (qae N x9 9).bind fun r10=>
  (cat s4 r10).bind fun s11=>
  xg N a K s11 (w64 (n5-1))
  else
  some s4
def qcn (N:Nat) (a:qbb):Option Str:=
 if(a.w.length:Int)=0 then
 some [48]
 else
 (idx a.w (w64 ((a.w.length:Int)-1))).bind fun x2=>
 (qae N x2 1).bind fun r3=>
 (xg N a N r3 (w64 ((a.w.length:Int)-2))).bind fun s6=>
 if a.neg=true then
 (cat [45] s6).bind fun s13=>
 some s13
 else
 some s6
theorem qit (N:Nat) (a:qbb) {res:Str} (h:qcn N a=some res):qg Tryz.prog (.fn 193) [.agg [.bool a.neg,vl encI a.w]] [] (.str res) []:=by
 unfold qcn at h
 refine Goes.fnW Tryz.func193 rfl rfl (m:=39) rfl (rs:=[.tmp 2]) rfl (l:=[(0,.agg [.bool a.neg,vl encI a.w])]) rfl ?_
 refine sg fol (kV []) (kBl a.neg a.w []) ?_
 refine sq ?_
 refine sh fol (kV (kBU (decide ((a.w.length:Int)=0)))) ?_
 refine ihD h (fun c1 h=>?_) (fun c1 h=>?_)
 ·refine sh fol [(2,.str [48])] ?_
  refine Goes.ret ?_
  obtain rfl:=si h
  exact(gw2 [.str [48]] (FzW.still tS))
 ·refine Goes.skip ?_
  obtain⟨x2,e_x2,h⟩:=bnd h
  obtain⟨r3,e_r3,h⟩:=bnd h
  refine sq (gr fol [6,7,8] (kV [(3,.str r3)]) (ac (iv xI encI e_x2) (ac (lv 0 ce3 encI e_x2 rfl) (ac (cv (qdl N x2 1 e_r3)) az))) ?_)
  refine sq ?_
  refine sh fol (kV ((3,.str r3)::(kAv (w64 ((a.w.length:Int)-2))))) ?_
  refine Goes.block ?_
  obtain⟨r7,g7,h⟩:=bnd h
  refine Goes.imp (Q:=fun x s'=>(x= .exit 0∧ ∃s6,s6=r7∧Sub s' (ofG 39 (kV [(3,.str s6)]),(kBl a.neg a.w [])))) ?_ ?_
  ·refine Goes.loopS (fun M s=> ∃(s4:Str) (n5:Int),s=(ofG 39 (kV ((3,.str s4)::(kAv n5))),(kBl a.neg a.w []))∧xg N a M s4 n5=some r7) ?_ (m:=N) ⟨_,_,rfl,g7⟩
   rintro M s ⟨s4,n5,rfl,g7⟩
   cases M with
   |zero=>simp only[xg]at g7;cases g7
   |succ M=>
    rw[xg]at g7
    refine sq ?_
    refine sh fol (kV [(3,.str s4),(4,.i n5),(23,.bool (decide (n5≥0)))]) ?_
    refine ihD g7 (fun c8 g7=>?_) (fun c8 g7=>?_)
    ·refine Goes.skip ?_
     refine sq (Goes.block ?_)
     obtain⟨x9,e_x9,g7⟩:=bnd g7
     obtain⟨r10,e_r10,g7⟩:=bnd g7
     obtain⟨s11,e_s11,g7⟩:=bnd g7
     refine gr fol [4,5,6,7] (kV ((3,.str s11)::(kAv n5))) (ac (iv xI encI e_x9) (ac (lv 0 ce3 encI e_x9 rfl) (ac (cv (qdl N x9 9 e_r10)) (ac (hs (.done (.opt (qbf Tryz.prog .add 9 (.tmp 26) (.tmp 32) (.str s4) (.str r10))) (.str s11)) (yw e_s11)) az)))) ?_
     refine gh fol (kV ((3,.str s11)::(kAv (w64 (n5-1))))) ?_
     exact⟨M,(ofG 39 (kV ((3,.str s11)::(kAv (w64 (n5-1))))),(kBl a.neg a.w [])),Nat.lt_succ_self _,(Sub.refl _),_,_,rfl,g7⟩
    ·refine Goes.exit ?_
     obtain rfl:=si g7
     exact⟨rfl,_,rfl,(Sub.keep [1,3] rfl rfl)⟩
  rintro x s' ⟨rfl,s6,rfl,hsub⟩
  refine Goes.sub hsub ?_
  refine sq ?_
  refine sh fol [(3,.str s6),(35,.bool a.neg)] ?_
  refine ihB h (fun c12 h=>?_) (fun c12 h=>?_)
  ·obtain⟨s13,e_s13,h⟩:=bnd h
   refine sq (gr fol [1] [(2,.str s13)] (ac (hs (.done (.opt (qbf Tryz.prog .add 9 (.const (.string ⟨#[45]⟩)) (.tmp 36) (.str [45]) (.str s6))) (.str s13)) (yw e_s13)) az) ?_)
   refine Goes.ret ?_
   obtain rfl:=si h
   exact(gw2 [.str s13] (FzW.still tS))
  ·refine Goes.skip ?_
   refine sh fol [(2,.str s6)] ?_
   refine Goes.ret ?_
   obtain rfl:=si h
   exact(gw2 [.str s6] (FzW.still tS))
def vK:Nat→(List Int)→Option (List Int)
 |0,_=>none
 |K+1,l1=>
  (if(l1.length:Int)>0 then
  (idx l1 (w64 ((l1.length:Int)-1))).bind fun x5=>
  some (decide (x5=0))
  else
  some false:Option Bool).bind fun b6=>
  if b6=true then
  (cut l1 0 (w64 ((l1.length:Int)-1))).bind fun s9=>
  vK K s9
  else
  some l1
def qcv (N:Nat) (w:List Int):Option (List Int):=
 (vK N w).bind fun l2=>
 some l2
theorem qiq (N:Nat) (w:List Int) {res:List Int} (h:qcv N w=some res):qg Tryz.prog (.fn 253) [vl encI w] [] (vl encI res) []:=by
 unfold qcv at h
 refine Goes.fnW Tryz.func253 rfl rfl (m:=21) rfl (rs:=[.tmp 2]) rfl (l:=(kBx w)) rfl ?_
 refine sh fol (kBx w) ?_
 refine sq (Goes.block ?_)
 obtain⟨r3,g3,h⟩:=bnd h
 refine Goes.imp (Q:=fun x s'=>(x= .exit 0∧ ∃l2,l2=r3∧Sub s' (ofG 21 (kBx l2),[]))) ?_ ?_
 ·refine Goes.loopS (fun M s=> ∃(l1:List Int),s=(ofG 21 (kBx l1),[])∧vK M l1=some r3) ?_ (m:=N) ⟨_,rfl,g3⟩
  rintro M s ⟨l1,rfl,g3⟩
  cases M with
  |zero=>simp only[vK]at g3;cases g3
  |succ M=>
   rw[vK]at g3
   refine sq ?_
   refine sq ?_
   obtain⟨b6,g_v7,g3⟩:=bnd g3
   refine Goes.cut (s':=(ofG 21 [(0,vl encI l1),(14,.bool b6)],[])) ?_ ?_
   ·rcases wyD g_v7 with⟨c4,g_v7⟩|⟨c4,g_v7⟩
    ·obtain⟨x5,e_x5,g_v7⟩:=bnd g_v7
     obtain rfl:=si g_v7
     exact tr fol [3,8,9] [(0,vl encI l1),(14,.bool (decide (x5=0)))] (ac (gw c4) (ac (iv xI encI e_x5) (ac (lv 0 ce3 encI e_x5 rfl) az)))
    ·obtain rfl:=si g_v7
     exact tr fol [3] [(0,vl encI l1),(14,.bool false)] (ac (gw c4) az)
   refine ihB g3 (fun c8 g3=>?_) (fun c8 g3=>?_)
   ·refine Goes.skip ?_
    refine Goes.block ?_
    obtain⟨s9,e_s9,g3⟩:=bnd g3
    refine gr fol [4] (kBx s9) (ac (hs (.done (.opt (qG Tryz.prog 24 (vl encI l1) none (some (.i (w64 ((l1.length:Int)-1)))) none)) (vl encI s9)) (qfb xI (E:=encI) rfl none (some (w64 ((l1.length:Int)-1))) e_s9)) az) ?_
    exact⟨M,(ofG 21 (kBx s9),[]),Nat.lt_succ_self _,(Sub.refl _),_,rfl,g3⟩
   ·refine Goes.exit ?_
    obtain rfl:=si g3
    exact⟨rfl,_,rfl,(Sub.keep [0] rfl rfl)⟩
 rintro x s' ⟨rfl,l2,rfl,hsub⟩
 refine Goes.sub hsub ?_
 refine sh fol [(2,vl encI l2)] ?_
 refine Goes.ret ?_
 obtain rfl:=si h
 exact(gw2 [vl encI l2] (FzW.still (qF encI _ (nl rfl))))
def qbe (N:Nat) (neg:Bool) (w:List Int):Option qbb:=
 (qcv N w).bind fun r1=>
 (if neg=true then
 some (decide ((r1.length:Int)>0))
 else
 some false:Option Bool).bind fun b3=>
 some (⟨b3,r1⟩:qbb)
theorem qhb (N:Nat) (neg:Bool) (w:List Int) {res:qbb} (h:qbe N neg w=some res):qg Tryz.prog (.fn 233) [.bool neg,vl encI w] [] (.agg [.bool res.neg,vl encI res.w]) []:=by
 unfold qbe at h
 refine Goes.fnW Tryz.func233 rfl rfl (m:=15) rfl (rs:=[.cell 4 259]) rfl (l:=[(0,.bool neg),(1,vl encI w)]) rfl ?_
 refine sg fol ((0,.bool neg)::(1,vl encI w)::(kA3 [])) (kAg []) ?_
 obtain⟨r1,e_r1,h⟩:=bnd h
 refine sq (gr fol [1] ((0,.bool neg)::(1,vl encI r1)::(kA3 [])) (ac (cv (qiq N w e_r1)) az) ?_)
 refine sq ?_
 obtain⟨b3,g_v4,h⟩:=bnd h
 refine Goes.cut (s':=(ofG 15 (kA3 []),(kBl b3 r1 []))) ?_ ?_
 ·rcases wyB g_v4 with⟨c2,g_v4⟩|⟨c2,g_v4⟩
  ·obtain rfl:=si g_v4
   exact ql.rq fol [1] (kA3 []) (kBl (decide ((r1.length:Int)>0)) r1 []) (ac (gw c2) az)
  ·obtain rfl:=si g_v4
   exact ql.rq fol [1] (kA3 []) [.cells [.bool false,vl encI r1]] (ac (gw c2) az)
 refine Goes.ret ?_
 obtain rfl:=si h
 exact(gw2 [.agg [.bool b3,vl encI r1]] (FzW.agg (qh.cons (FzW.still tB) (qh.cons (FzW.still (qF encI _ (nl rfl))) qh.nil))))
def ja:Nat→(List Int)→Int→Option (List Int)
 |0,_,_=>none
 |K+1,l1,n2=>
  if(!decide (n2=0))=true then
  ((if(n2.tmod 1000000000)<0 then
  some (w64 (0-(n2.tmod 1000000000)))
  else
  some (n2.tmod 1000000000):Option Int)).bind fun n6=>
  (app 8 l1 [n6]).bind fun l9=>
  ja K l9 (w64 (n2.tdiv 1000000000))
  else
  some l1
def qcP (N:Nat) (n:Int):Option qbb:=
 (ja N ([]:List Int) n).bind fun l3=>
 (qbe N (decide (n<0)) l3).bind fun r10=>
 some r10
theorem qhw (N:Nat) (n:Int) {res:qbb} (h:qcP N n=some res):qg Tryz.prog (.fn 194) [.i n] [] (.agg [.bool res.neg,vl encI res.w]) []:=by
 unfold qcP at h
 refine Goes.fnW Tryz.func194 rfl rfl (m:=25) rfl (rs:=[.cell 2 259]) rfl (l:=[(0,.i n)]) rfl ?_
 refine sg fol ((0,.i n)::(kK [])) (kAg []) ?_
 refine sh fol ((0,.i n)::(kK [(3,.nilslice)])) ?_
 refine sh fol ((0,.i n)::(kK ((3,.nilslice)::(kAy (decide (n<0)))))) ?_
 refine sq (Goes.block ?_)
 obtain⟨r4,g4,h⟩:=bnd h
 refine Goes.imp (Q:=fun x s'=>(x= .exit 0∧ ∃l3,l3=r4∧Sub s' (ofG 25 (kK (kBm l3 (kAy (decide (n<0))))),(kAg (kAF l3))))) ?_ ?_
 ·refine Goes.sub (s':=(ofG 25 ((0,.i n)::(kK ((3,.gslice 1 ([]:List Int).length 1)::(kAy (decide (n<0)))))),(kAg kB7))) (Sub.norm [] [some 0,none] rfl rfl (.keep (.same nI) (.kp (.keep .nil (.keep (.same nB) .nil)))) (.kb rfl (.same sn) (.fresh .nil))) ?_
  refine Goes.loopS (fun M s=> ∃(l1:List Int) (n2:Int),s=(ofG 25 ((0,.i n2)::(kK (kBm l1 (kAy (decide (n<0)))))),(kAg (kAF l1)))∧ja M l1 n2=some r4) ?_ (m:=N) ⟨_,_,rfl,g4⟩
  rintro M s ⟨l1,n2,rfl,g4⟩
  cases M with
  |zero=>simp only[ja]at g4;cases g4
  |succ M=>
   rw[ja]at g4
   refine sq ?_
   refine sh fol ((0,.i n2)::(kK (kBm l1 ((4,.bool (decide (n<0)))::(kBt (!decide (n2=0))))))) ?_
   refine ihB g4 (fun c5 g4=>?_) (fun c5 g4=>?_)
   ·refine Goes.skip ?_
    refine Goes.block ?_
    refine sh fol ((0,.i n2)::(kK (kBm l1 ((4,.bool (decide (n<0)))::(kAb (n2.tmod 1000000000)))))) ?_
    refine sq ?_
    refine sh fol ((0,.i n2)::(kK (kBm l1 ((4,.bool (decide (n<0)))::(5,.i (n2.tmod 1000000000))::(kB0 (decide ((n2.tmod 1000000000)<0))))))) ?_
    obtain⟨r7,g7,g4⟩:=bnd g4
    refine Goes.imp (Q:=fun x s'=>(x= .normal∧ ∃n6,n6=r7∧Sub s' (ofG 25 ((0,.i n2)::(kK (kBm l1 ((4,.bool (decide (n<0)))::(kAb n6))))),(kAg (kAF l1))))) ?_ ?_
    ·refine ihD g7 (fun c8 g7=>?_) (fun c8 g7=>?_)
     ·refine gh fol ((0,.i n2)::(kK (kBm l1 ((4,.bool (decide (n<0)))::(kAb (w64 (0-(n2.tmod 1000000000)))))))) ?_
      obtain rfl:=si g7
      exact⟨rfl,_,rfl,(Sub.refl _)⟩
     ·refine Goes.skip ?_
      obtain rfl:=si g7
      exact⟨rfl,_,rfl,(Sub.keep [0,2,3,4,5] rfl rfl)⟩
    rintro x s' ⟨rfl,n6,rfl,hsub⟩
    refine Goes.sub hsub ?_
    obtain⟨l9,e_l9,g4⟩:=bnd g4
    refine sq (gq fol [3] ((0,.i n2)::(kK ((3,.gslice 3 l9.length 1)::(kAy (decide (n<0)))))) (kAg (.dead::(kAH n6 (kAF l9)))) (ac (hs (.run [1,2] (qz Tryz.prog [24,24] (.gslice 1 l1.length 1) (.slice 2 0 1 1 1)) (kAg (.cells (l1.flatMap encI.c)::(kAH n6 []))) (.gslice 3 l9.length 1) (kAg (.dead::(kAH n6 (kAF l9)))) true) (ko xI (E:=encI) rfl (xm (E:=encI) (ys:=[n6]) rfl rfl rfl rfl) (qcF (E:=encI) (l:=l1) rfl rfl rfl e_l9 rfl))) az) ?_)
    refine gh fol ((0,.i (w64 (n2.tdiv 1000000000)))::(kK ((3,.gslice 3 l9.length 1)::(kAy (decide (n<0)))))) ?_
    exact⟨M,(ofG 25 ((0,.i (w64 (n2.tdiv 1000000000)))::(kK (kBm l9 (kAy (decide (n<0)))))),(kAg (kAF l9))),Nat.lt_succ_self _,(Sub.norm [] [some 0,some 3] rfl rfl (.keep (.same nI) (.kp (.keep (.gslice rfl) (.keep (.same nB) .nil)))) (.kb rfl (.same sn) (.ks .nil))),_,_,rfl,g4⟩
   ·refine Goes.exit ?_
    obtain rfl:=si g4
    exact⟨rfl,_,rfl,(Sub.keep [2,3,4] rfl rfl)⟩
 rintro x s' ⟨rfl,l3,rfl,hsub⟩
 refine Goes.sub hsub ?_
 obtain⟨r10,e_r10,h⟩:=bnd h
 refine sq (gq fol [2] (kK []) (kBl r10.neg r10.w [.frozen (l3.flatMap encI.c)]) (ac (hs (.callF 233 [.bool (decide (n<0)),.gslice 1 l3.length 1] (kAg (kAF l3)) [1] [.bool (decide (n<0)),vl encI l3] (.agg [.bool r10.neg,vl encI r10.w])) (qhW (FzL.cons (Fz.still tB) (FzL.cons (Fz.gs (E:=encI) rfl rfl (nl rfl)) FzL.nil)) (qhb N (decide (n<0)) l3 e_r10) (Still.agg (AllST.cons tB (AllST.cons (qF encI _ (nl rfl)) AllST.nil))))) az) ?_)
 refine Goes.sub (show Sub (ofG 25 (kK []),(kBl r10.neg r10.w [.frozen (l3.flatMap encI.c)])) (ofG 25 (kK []),(kBl r10.neg r10.w []))from(Sub.norm [] [some 0] rfl rfl (.kp .nil) (.kb rfl (.same sn) .nil))) ?_
 refine Goes.ret ?_
 obtain rfl:=si h
 exact(gw2 [.agg [.bool r10.neg,vl encI r10.w]] (FzW.agg (qh.cons (FzW.still tB) (qh.cons (FzW.still (qF encI _ (nl rfl))) qh.nil))))
def qbH (N:Nat) (n:Int):Option Str:=
 (qcP N n).bind fun r1=>
 (qcn N r1).bind fun r2=>
 some r2
theorem qgF (N:Nat) (n:Int) {res:Str} (h:qbH N n=some res):qg Tryz.prog (.fn 158) [.i n] [] (.str res) []:=by
 unfold qbH at h
 refine Goes.fnW Tryz.func158 rfl rfl (m:=6) rfl (rs:=[.tmp 2]) rfl (l:=[(0,.i n)]) rfl ?_
 refine sh fol [(0,.i n)] ?_
 obtain⟨r1,e_r1,h⟩:=bnd h
 obtain⟨r2,e_r2,h⟩:=bnd h
 refine sq (gr fol [1,2] [(2,.str r2)] (ac (cv (qhw N n e_r1)) (ac (cv (qit N r1 e_r2)) az)) ?_)
 refine Goes.ret ?_
 obtain rfl:=si h
 exact(gw2 [.str r2] (FzW.still tS))
def xk (N:Nat) (n:Int):Option Str:=
 (qbH N n).bind fun r1=>
 some r1
theorem qaN (N:Nat) (n:Int) {res:Str} (h:xk N n=some res):qg Tryz.prog (.fn 109) [.i n] [] (.str res) []:=by
 unfold xk at h
 refine Goes.fnW Tryz.func109 rfl rfl (m:=5) rfl (rs:=[.tmp 2]) rfl (l:=[(0,.i n)]) rfl ?_
 refine sh fol [(0,.i n)] ?_
 obtain⟨r1,e_r1,h⟩:=bnd h
 refine sq (gr fol [1] [(2,.str r1)] (ac (cv (qgF N n e_r1)) az) ?_)
 refine Goes.ret ?_
 obtain rfl:=si h
 exact(gw2 [.str r1] (FzW.still tS))
def y7 (s_:Str):Nat→Int→Int→Option Int
 |0,_,_=>none
 |K+1,n1,n2=>
  if n2<(s_.length:Int)then
  (idx s_ n2).bind fun c6=>
  y7 s_ K ((w64 ((w64 (31*n1))+(w64 (c6.toNat:Int)))).tmod 9999991) (w64 (n2+1))
  else
  some n1
def xW:Nat→Str→Option Str
 |0,_=>none
 |K+1,s8=>
  if(s8.length:Int)<7 then
  (cat [48] s8).bind fun s12=>
  xW K s12
  else
  some s8
def qch (N:Nat) (s_:Str):Option Str:=
 (y7 s_ N 7 0).bind fun n3=>
 (xk N n3).bind fun r7=>
 (xW N r7).bind fun s9=>
 some s9
theorem qfZ (N:Nat) (s_:Str) {res:Str} (h:qch N s_=some res):qg Tryz.prog (.fn 79) [.str s_] [] (.str res) []:=by
 unfold qch at h
 refine Goes.fnW Tryz.func79 rfl rfl (m:=28) rfl (rs:=[.tmp 2]) rfl (l:=(kAJ s_ [])) rfl ?_
 refine sh fol (kAJ s_ []) ?_
 refine sh fol (kAJ s_ [(3,.i 7)]) ?_
 refine sq ?_
 refine sh fol (kAJ s_ ((3,.i 7)::kBW)) ?_
 refine Goes.block ?_
 obtain⟨r4,g4,h⟩:=bnd h
 refine Goes.imp (Q:=fun x s'=>(x= .exit 0∧ ∃n3,n3=r4∧Sub s' (ofG 28 [(3,.i n3)],[]))) ?_ ?_
 ·refine Goes.loopS (fun M s=> ∃(n1:Int) (n2:Int),s=(ofG 28 (kAJ s_ ((3,.i n1)::(kAv n2))),[])∧y7 s_ M n1 n2=some r4) ?_ (m:=N) ⟨_,_,rfl,g4⟩
  rintro M s ⟨n1,n2,rfl,g4⟩
  cases M with
  |zero=>simp only[y7]at g4;cases g4
  |succ M=>
   rw[y7]at g4
   refine sq ?_
   refine sh fol (kAJ s_ (kB6 n1 n2 (kBt (decide (n2<(s_.length:Int)))))) ?_
   refine ihD g4 (fun c5 g4=>?_) (fun c5 g4=>?_)
   ·refine Goes.skip ?_
    refine sq (Goes.block ?_)
    obtain⟨c6,e_c6,g4⟩:=bnd g4
    refine gr fol [4] (kAJ s_ ((3,.i ((w64 ((w64 (31*n1))+(w64 (c6.toNat:Int)))).tmod 9999991))::(kAv n2))) (ac (hs (.done (.opt (vQ Tryz.prog 9 (.str s_) (.i n2))) (.int .u8 (c6.toNat:Int))) (xz st9 e_c6)) az) ?_
    refine gh fol (kAJ s_ ((3,.i ((w64 ((w64 (31*n1))+(w64 (c6.toNat:Int)))).tmod 9999991))::(kAv (w64 (n2+1))))) ?_
    exact⟨M,(ofG 28 (kAJ s_ ((3,.i ((w64 ((w64 (31*n1))+(w64 (c6.toNat:Int)))).tmod 9999991))::(kAv (w64 (n2+1))))),[]),Nat.lt_succ_self _,(Sub.refl _),_,_,rfl,g4⟩
   ·refine Goes.exit ?_
    obtain rfl:=si g4
    exact⟨rfl,_,rfl,(Sub.keep [3] rfl rfl)⟩
 rintro x s' ⟨rfl,n3,rfl,hsub⟩
 refine Goes.sub hsub ?_
 obtain⟨r7,e_r7,h⟩:=bnd h
 refine sq (gr fol [1] [(5,.str r7)] (ac (cv (qaN N n3 e_r7)) az) ?_)
 refine sq (Goes.block ?_)
 obtain⟨r10,g10,h⟩:=bnd h
 refine Goes.imp (Q:=fun x s'=>(x= .exit 2∧ ∃s9,s9=r10∧Sub s' (ofG 28 [(5,.str s9)],[]))) ?_ ?_
 ·refine Goes.loopS (fun M s=> ∃(s8:Str),s=(ofG 28 [(5,.str s8)],[])∧xW M s8=some r10) ?_ (m:=N) ⟨_,rfl,g10⟩
  rintro M s ⟨s8,rfl,g10⟩
  cases M with
  |zero=>simp only[xW]at g10;cases g10
  |succ M=>
   rw[xW]at g10
   refine sq ?_
   refine sh fol [(5,.str s8),(24,.bool (decide ((s8.length:Int)<7)))] ?_
   refine ihD g10 (fun c11 g10=>?_) (fun c11 g10=>?_)
   ·refine Goes.skip ?_
    refine Goes.block ?_
    obtain⟨s12,e_s12,g10⟩:=bnd g10
    refine gr fol [1] [(5,.str s12)] (ac (hs (.done (.opt (qbf Tryz.prog .add 9 (.const (.string ⟨#[48]⟩)) (.tmp 25) (.str [48]) (.str s8))) (.str s12)) (yw e_s12)) az) ?_
    exact⟨M,(ofG 28 [(5,.str s12)],[]),Nat.lt_succ_self _,(Sub.refl _),_,rfl,g10⟩
   ·refine Goes.exit ?_
    obtain rfl:=si g10
    exact⟨rfl,_,rfl,(Sub.keep [5] rfl rfl)⟩
 rintro x s' ⟨rfl,s9,rfl,hsub⟩
 refine Goes.sub hsub ?_
 refine sh fol [(2,.str s9)] ?_
 refine Goes.ret ?_
 obtain rfl:=si h
 exact(gw2 [.str s9] (FzW.still tS))
end Go.Av
